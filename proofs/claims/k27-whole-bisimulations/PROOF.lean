import PyProof.Rows.All
import Wide.All
import OpenK.AllK
import Wide.FinOn
import PyProof.DictCompW
import HandS.ForMost
import HandS.SetFor
import HandS.Strs
import HandS.TupSets
import HandS.DictComp
import HandS.SetBool
import HandS.SortKw
import KE.DataMinMax
import HandS.Evl
import HandS.WordsExc
import HandS.Exc
import HandS.TryOnly
import HandS.TryElse
import HandS.ExcOwn
import HandS.TupAny
import HandS.Deep
import HandS.IsInst
import HandS.Conv
import PySem.Challenge.RW_elsewhere_k27_whole_bisimulations
set_option Elab.async false
set_option linter.all false
set_option maxRecDepth 100000
set_option maxHeartbeats 4000000
/-! Bisimulation by rounds, in plain Lean: no program in sight. -/
namespace Bi
/-- a model: worlds, pairs, the worlds of each name -/
structure Mo (S : Type) where
  n : Nat
  ps : List (Nat × Nat)
  vs : List (S × List Nat)
section
variable {S : Type}
def seen (M : Mo S) (v : Nat) : List Nat := (M.ps.filter fun p => p.1 == v).map (·.2)
theorem mem_seen {M : Mo S} {v w : Nat} : w ∈ seen M v ↔ (v, w) ∈ M.ps := by
  unfold seen
  simp only [List.mem_map, List.mem_filter, beq_iff_eq]
  constructor
  · rintro ⟨⟨a, b⟩, ⟨h1, h2⟩, h3⟩
    simp only at h2 h3
    subst h2; subst h3; exact h1
  · intro h
    exact ⟨(v, w), ⟨h, rfl⟩, rfl⟩
def val (M : Mo S) (x : S) (w : Nat) : Prop := ∃ l, (x, l) ∈ M.vs ∧ w ∈ l
def diff (M N : Mo S) (v w : Nat) : Prop := ∃ x, ¬ (val M x v ↔ val N x w)
/-- told apart by round k -/
def T (M N : Mo S) : Nat → Nat → Nat → Prop
  | 0, v, w => diff M N v w
  | k + 1, v, w => T M N k v w ∨ (∃ x, x ∈ seen M v ∧ ∀ y, y ∈ seen N w → T M N k x y) ∨ (∃ y, y ∈ seen N w ∧ ∀ x, x ∈ seen M v → T M N k x y)
def R (M N : Mo S) (v w r : Nat) : Prop := T M N r v w ∧ ∀ k, k < r → ¬ T M N k v w
def Told (M N : Mo S) (v w : Nat) : Prop := ∃ k, T M N k v w
variable {M N O : Mo S}
theorem T_succ {k v w : Nat} (h : T M N k v w) : T M N (k + 1) v w := Or.inl h
theorem T_mono {k j v w : Nat} (h : T M N k v w) (l : k ≤ j) : T M N j v w := by
  induction l with
  | refl => exact h
  | step _ ih => exact T_succ ih
theorem told_R {v w : Nat} : ∀ {k : Nat}, T M N k v w → ∃ r, r ≤ k ∧ R M N v w r := by
  intro k
  induction k with
  | zero => intro h; exact ⟨0, Nat.le_refl _, h, fun k hk => absurd hk (Nat.not_lt_zero _)⟩
  | succ k ih =>
    intro h
    by_cases q : T M N k v w
    · obtain ⟨r, hr, z⟩ := ih q
      exact ⟨r, Nat.le_succ_of_le hr, z⟩
    · exact ⟨k + 1, Nat.le_refl _, h, fun j hj z => q (T_mono z (Nat.le_of_lt_succ hj))⟩
theorem R_uniq {v w r s : Nat} (a : R M N v w r) (b : R M N v w s) : r = s := by
  rcases Nat.lt_trichotomy r s with h | h | h
  · exact absurd a.1 (b.2 r h)
  · exact h
  · exact absurd b.1 (a.2 s h)
theorem T_iff {k v w : Nat} : T M N k v w ↔ ∃ r, r ≤ k ∧ R M N v w r :=
  ⟨told_R, fun ⟨_, hr, z⟩ => T_mono z.1 hr⟩
theorem Told_iff {v w : Nat} : Told M N v w ↔ ∃ r, R M N v w r :=
  ⟨fun ⟨_, h⟩ => let ⟨r, _, z⟩ := told_R h; ⟨r, z⟩, fun ⟨r, z⟩ => ⟨r, z.1⟩⟩
theorem T_refl : ∀ (k v : Nat), ¬ T M M k v v
  | 0, v, h => by
    obtain ⟨x, hx⟩ := h
    exact hx Iff.rfl
  | k + 1, v, h => by
    rcases h with h | ⟨x, hx, h⟩ | ⟨y, hy, h⟩
    · exact T_refl k v h
    · exact T_refl k x (h x hx)
    · exact T_refl k y (h y hy)
theorem T_symm : ∀ {k v w : Nat}, T M N k v w → T N M k w v
  | 0, v, w, ⟨x, hx⟩ => ⟨x, fun z => hx z.symm⟩
  | k + 1, v, w, h => by
    rcases h with h | ⟨x, hx, h⟩ | ⟨y, hy, h⟩
    · exact Or.inl (T_symm h)
    · exact Or.inr (Or.inr ⟨x, hx, fun y hy => T_symm (h y hy)⟩)
    · exact Or.inr (Or.inl ⟨y, hy, fun x hx => T_symm (h x hx)⟩)
theorem T_trans : ∀ {k u v w : Nat}, T M O k u w → T M N k u v ∨ T N O k v w
  | 0, u, v, w, ⟨x, hx⟩ => by
    by_cases q : val M x u ↔ val N x v
    · exact Or.inr ⟨x, fun z => hx (q.trans z)⟩
    · exact Or.inl ⟨x, q⟩
  | k + 1, u, v, w, h => by
    by_cases a : T M N (k + 1) u v
    · exact Or.inl a
    · refine Or.inr ?_
      have na : ¬ T M N k u v := fun z => a (Or.inl z)
      have nb : ∀ x, x ∈ seen M u → ∃ y, y ∈ seen N v ∧ ¬ T M N k x y := fun x hx => by
        refine Classical.byContradiction fun c => a (Or.inr (Or.inl ⟨x, hx, fun y hy => Classical.byContradiction fun z => c ⟨y, hy, z⟩⟩))
      have nc : ∀ y, y ∈ seen N v → ∃ x, x ∈ seen M u ∧ ¬ T M N k x y := fun y hy => by
        refine Classical.byContradiction fun c => a (Or.inr (Or.inr ⟨y, hy, fun x hx => Classical.byContradiction fun z => c ⟨x, hx, z⟩⟩))
      rcases h with h | ⟨x, hx, h⟩ | ⟨z, hz, h⟩
      · exact Or.inl ((T_trans h).resolve_left na)
      · obtain ⟨y, hy, ny⟩ := nb x hx
        exact Or.inr (Or.inl ⟨y, hy, fun z hz => (T_trans (h z hz)).resolve_left ny⟩)
      · refine Or.inr (Or.inr ⟨z, hz, fun y hy => ?_⟩)
        obtain ⟨x, hx, nx⟩ := nc y hy
        exact (T_trans (h x hx)).resolve_left nx
theorem Told_refl {v : Nat} : ¬ Told M M v v := fun ⟨k, h⟩ => T_refl k v h
theorem Told_symm {v w : Nat} (h : Told M N v w) : Told N M w v := let ⟨k, z⟩ := h; ⟨k, T_symm z⟩
theorem Told_trans {u v w : Nat} (h : Told M O u w) : Told M N u v ∨ Told N O v w := by
  obtain ⟨k, z⟩ := h
  rcases T_trans (v := v) z with z | z
  · exact Or.inl ⟨k, z⟩
  · exact Or.inr ⟨k, z⟩
/-- one round for all of a list -/
theorem all_by {P : Nat → Nat → Prop} (mono : ∀ k j y, P k y → k ≤ j → P j y) : ∀ l : List Nat, (∀ y, y ∈ l → ∃ k, P k y) → ∃ k, ∀ y, y ∈ l → P k y
  | [], _ => ⟨0, fun y hy => absurd hy (by simp)⟩
  | a :: l, h => by
    obtain ⟨k, hk⟩ := all_by mono l fun y hy => h y (List.mem_cons_of_mem _ hy)
    obtain ⟨j, hj⟩ := h a List.mem_cons_self
    refine ⟨max k j, fun y hy => ?_⟩
    rcases List.mem_cons.mp hy with rfl | hy
    · exact mono j _ _ hj (Nat.le_max_right _ _)
    · exact mono k _ _ (hk y hy) (Nat.le_max_left _ _)
theorem zig {v w x : Nat} (h : ¬ Told M N v w) (hx : x ∈ seen M v) : ∃ y, y ∈ seen N w ∧ ¬ Told M N x y := by
  refine Classical.byContradiction fun c => h ?_
  obtain ⟨k, hk⟩ := all_by (P := fun k y => T M N k x y) (fun _ _ _ a b => T_mono a b) (seen N w) fun y hy => Classical.byContradiction fun z => c ⟨y, hy, z⟩
  exact ⟨k + 1, Or.inr (Or.inl ⟨x, hx, hk⟩)⟩
theorem zag {v w y : Nat} (h : ¬ Told M N v w) (hy : y ∈ seen N w) : ∃ x, x ∈ seen M v ∧ ¬ Told M N x y := by
  obtain ⟨x, hx, z⟩ := zig (M := N) (N := M) (fun q => h (Told_symm q)) hy
  exact ⟨x, hx, fun q => z (Told_symm q)⟩
theorem same_val {v w : Nat} (h : ¬ Told M N v w) (x : S) : val M x v ↔ val N x w :=
  Classical.byContradiction fun c => h ⟨0, x, c⟩
/-! ### what stands within -/
structure In (M : Mo S) : Prop where
  ps : ∀ v w, (v, w) ∈ M.ps → v < M.n ∧ w < M.n
  vs : ∀ x w, val M x w → w < M.n
/-! ### formulas -/
inductive Fm (S : Type) where
  | var (x : S) | fals | imp (a b : Fm S) | and (a b : Fm S) | box (a : Fm S)
def Fm.md : Fm S → Nat
  | .var _ => 0
  | .fals => 0
  | .imp a b => max a.md b.md
  | .and a b => max a.md b.md
  | .box a => 1 + a.md
def Fm.ht : Fm S → Nat
  | .var _ => 1
  | .fals => 1
  | .imp a b => 1 + max a.ht b.ht
  | .and a b => 1 + max a.ht b.ht
  | .box a => 1 + a.ht
def sat (M : Mo S) : Nat → Fm S → Prop
  | v, .var x => val M x v
  | _, .fals => False
  | v, .imp a b => sat M v a → sat M v b
  | v, .and a b => sat M v a ∧ sat M v b
  | v, .box a => ∀ w, w ∈ seen M v → sat M w a
def neg (a : Fm S) : Fm S := .imp a .fals
def verum : Fm S := neg .fals
def dia (a : Fm S) : Fm S := neg (.box (neg a))
def conj : List (Fm S) → Fm S
  | [] => verum
  | [a] => a
  | a :: b :: r => .and a (conj (b :: r))
theorem sat_neg {v : Nat} {a : Fm S} : sat M v (neg a) ↔ ¬ sat M v a := Iff.rfl
theorem sat_dia {v : Nat} {a : Fm S} : sat M v (dia a) ↔ ∃ w, w ∈ seen M v ∧ sat M w a := by
  constructor
  · intro h
    refine Classical.byContradiction fun c => h fun w hw z => c ⟨w, hw, z⟩
  · rintro ⟨w, hw, z⟩ h
    exact h w hw z
theorem sat_conj {v : Nat} : ∀ {fs : List (Fm S)}, sat M v (conj fs) ↔ ∀ f, f ∈ fs → sat M v f
  | [] => ⟨fun _ f hf => absurd hf (by simp), fun _ z => z⟩
  | [a] => ⟨fun h f hf => by rw [List.mem_singleton.mp hf]; exact h, fun h => h a List.mem_cons_self⟩
  | a :: b :: r => by
    have ih := sat_conj (v := v) (fs := b :: r)
    show (sat M v a ∧ sat M v (conj (b :: r))) ↔ _
    rw [ih]
    constructor
    · rintro ⟨h1, h2⟩ f hf
      rcases List.mem_cons.mp hf with rfl | hf
      · exact h1
      · exact h2 f hf
    · intro h
      exact ⟨h a List.mem_cons_self, fun f hf => h f (List.mem_cons_of_mem _ hf)⟩
theorem md_conj_le {d : Nat} : ∀ {fs : List (Fm S)}, (∀ f, f ∈ fs → f.md ≤ d) → (conj fs).md ≤ d
  | [], _ => Nat.zero_le _
  | [a], h => h a List.mem_cons_self
  | a :: b :: r, h => by
    have ih := md_conj_le (fs := b :: r) fun f hf => h f (List.mem_cons_of_mem _ hf)
    have h1 := h a List.mem_cons_self
    show max a.md (conj (b :: r)).md ≤ d
    omega
theorem md_conj_ge : ∀ {fs : List (Fm S)} {f : Fm S}, f ∈ fs → f.md ≤ (conj fs).md
  | [], f, h => absurd h (by simp)
  | [a], f, h => by rw [List.mem_singleton.mp h]; exact Nat.le_refl _
  | a :: b :: r, f, h => by
    show f.md ≤ max a.md (conj (b :: r)).md
    rcases List.mem_cons.mp h with rfl | h
    · exact Nat.le_max_left _ _
    · exact Nat.le_trans (md_conj_ge h) (Nat.le_max_right _ _)
theorem ht_conj {d : Nat} (hd : 2 ≤ d) : ∀ {fs : List (Fm S)}, (∀ f, f ∈ fs → f.ht ≤ d) → (conj fs).ht ≤ d + fs.length
  | [], _ => by show 1 + max 1 1 ≤ d + 0; omega
  | [a], h => by have h1 := h a List.mem_cons_self; show a.ht ≤ d + 1; omega
  | a :: b :: r, h => by
    have ih := ht_conj hd (fs := b :: r) fun f hf => h f (List.mem_cons_of_mem _ hf)
    have h1 := h a List.mem_cons_self
    have e : (b :: r).length = r.length + 1 := rfl
    have e2 : (a :: b :: r).length = r.length + 2 := rfl
    show 1 + max a.ht (conj (b :: r)).ht ≤ d + (a :: b :: r).length
    omega
/-! ### alike worlds force the same -/
theorem sat_alike : ∀ {φ : Fm S} {v w : Nat}, ¬ Told M N v w → (sat M v φ ↔ sat N w φ)
  | .var x, v, w, h => same_val h x
  | .fals, _, _, _ => Iff.rfl
  | .imp a b, v, w, h => by
    have h1 := sat_alike (φ := a) h
    have h2 := sat_alike (φ := b) h
    show (sat M v a → sat M v b) ↔ (sat N w a → sat N w b)
    rw [h1, h2]
  | .and a b, v, w, h => by
    have h1 := sat_alike (φ := a) h
    have h2 := sat_alike (φ := b) h
    show (sat M v a ∧ sat M v b) ↔ (sat N w a ∧ sat N w b)
    rw [h1, h2]
  | .box a, v, w, h => by
    constructor
    · intro k y hy
      obtain ⟨x, hx, z⟩ := zag h hy
      exact (sat_alike (φ := a) z).mp (k x hx)
    · intro k x hx
      obtain ⟨y, hy, z⟩ := zig h hx
      exact (sat_alike (φ := a) z).mpr (k y hy)
/-! ### the sum -/
structure IsSum (M N B : Mo S) : Prop where
  n : B.n = M.n + N.n
  ps : ∀ v w, (v, w) ∈ B.ps ↔ (v, w) ∈ M.ps ∨ ∃ v' w', (v', w') ∈ N.ps ∧ v = v' + M.n ∧ w = w' + M.n
  vs : ∀ x w, val B x w ↔ val M x w ∨ ∃ w', val N x w' ∧ w = w' + M.n
variable {B : Mo S}
theorem IsSum.seenL (s : IsSum M N B) (i : In M) {v x : Nat} (hv : v < M.n) : x ∈ seen B v ↔ x ∈ seen M v := by
  rw [mem_seen, mem_seen, s.ps]
  constructor
  · rintro (h | ⟨v', w', _, h, _⟩)
    · exact h
    · omega
  · exact Or.inl
theorem IsSum.seenR (s : IsSum M N B) (i : In M) {w y : Nat} : y ∈ seen B (w + M.n) ↔ ∃ y', y' ∈ seen N w ∧ y = y' + M.n := by
  rw [mem_seen, s.ps]
  constructor
  · rintro (h | ⟨v', w', h, h1, h2⟩)
    · have := (i.ps _ _ h).1
      omega
    · have e : v' = w := by omega
      subst e
      exact ⟨w', mem_seen.mpr h, h2⟩
  · rintro ⟨y', h, e⟩
    exact Or.inr ⟨w, y', mem_seen.mp h, rfl, e⟩
theorem IsSum.valL (s : IsSum M N B) {x : S} {v : Nat} (hv : v < M.n) : val B x v ↔ val M x v := by
  rw [s.vs]
  constructor
  · rintro (h | ⟨w', _, h⟩)
    · exact h
    · omega
  · exact Or.inl
theorem IsSum.valR (s : IsSum M N B) (i : In M) {x : S} {w : Nat} : val B x (w + M.n) ↔ val N x w := by
  rw [s.vs]
  constructor
  · rintro (h | ⟨w', h, e⟩)
    · have := i.vs _ _ h
      omega
    · have e : w' = w := by omega
      rw [← e]; exact h
  · exact fun h => Or.inr ⟨w, h, rfl⟩
theorem IsSum.T (s : IsSum M N B) (i : In M) (j : In N) : ∀ {k v w : Nat}, v < M.n → w < N.n → (Bi.T B B k v (w + M.n) ↔ Bi.T M N k v w)
  | 0, v, w, hv, hw => by
    show (∃ x, ¬ (val B x v ↔ val B x (w + M.n))) ↔ (∃ x, ¬ (val M x v ↔ val N x w))
    constructor
    · rintro ⟨x, h⟩
      exact ⟨x, fun z => h ((s.valL hv).trans (z.trans (s.valR i).symm))⟩
    · rintro ⟨x, h⟩
      exact ⟨x, fun z => h ((s.valL hv).symm.trans (z.trans (s.valR i)))⟩
  | k + 1, v, w, hv, hw => by
    have sl : ∀ {x}, x ∈ seen M v → x < M.n := fun h => (i.ps _ _ (mem_seen.mp h)).2
    have sr : ∀ {y}, y ∈ seen N w → y < N.n := fun h => (j.ps _ _ (mem_seen.mp h)).2
    constructor
    · rintro (h | ⟨x, hx, h⟩ | ⟨y, hy, h⟩)
      · exact Or.inl ((s.T i j hv hw).mp h)
      · have hx' := (s.seenL i hv).mp hx
        exact Or.inr (Or.inl ⟨x, hx', fun y hy => (s.T i j (sl hx') (sr hy)).mp (h (y + M.n) ((s.seenR i).mpr ⟨y, hy, rfl⟩))⟩)
      · obtain ⟨y', hy', rfl⟩ := (s.seenR i).mp hy
        exact Or.inr (Or.inr ⟨y', hy', fun x hx => (s.T i j (sl hx) (sr hy')).mp (h x ((s.seenL i hv).mpr hx))⟩)
    · rintro (h | ⟨x, hx, h⟩ | ⟨y, hy, h⟩)
      · exact Or.inl ((s.T i j hv hw).mpr h)
      · refine Or.inr (Or.inl ⟨x, (s.seenL i hv).mpr hx, fun y hy => ?_⟩)
        obtain ⟨y', hy', rfl⟩ := (s.seenR i).mp hy
        exact (s.T i j (sl hx) (sr hy')).mpr (h y' hy')
      · refine Or.inr (Or.inr ⟨y + M.n, (s.seenR i).mpr ⟨y, hy, rfl⟩, fun x hx => ?_⟩)
        have hx' := (s.seenL i hv).mp hx
        exact (s.T i j (sl hx') (sr hy)).mpr (h x hx')
theorem IsSum.Told (s : IsSum M N B) (i : In M) (j : In N) {v w : Nat} (hv : v < M.n) (hw : w < N.n) : Bi.Told B B v (w + M.n) ↔ Bi.Told M N v w :=
  ⟨fun ⟨k, h⟩ => ⟨k, (s.T i j hv hw).mp h⟩, fun ⟨k, h⟩ => ⟨k, (s.T i j hv hw).mpr h⟩⟩
theorem IsSum.satL (s : IsSum M N B) (i : In M) : ∀ {φ : Fm S} {v : Nat}, v < M.n → (sat B v φ ↔ sat M v φ)
  | .var x, v, hv => s.valL hv
  | .fals, _, _ => Iff.rfl
  | .imp a b, v, hv => by
    show (sat B v a → sat B v b) ↔ (sat M v a → sat M v b)
    rw [s.satL i (φ := a) hv, s.satL i (φ := b) hv]
  | .and a b, v, hv => by
    show (sat B v a ∧ sat B v b) ↔ (sat M v a ∧ sat M v b)
    rw [s.satL i (φ := a) hv, s.satL i (φ := b) hv]
  | .box a, v, hv => by
    constructor
    · intro h x hx
      exact (s.satL i (φ := a) (i.ps _ _ (mem_seen.mp hx)).2).mp (h x ((s.seenL i hv).mpr hx))
    · intro h x hx
      have hx' := (s.seenL i hv).mp hx
      exact (s.satL i (φ := a) (i.ps _ _ (mem_seen.mp hx')).2).mpr (h x hx')
theorem IsSum.satR (s : IsSum M N B) (i : In M) : ∀ {φ : Fm S} {w : Nat}, (sat B (w + M.n) φ ↔ sat N w φ)
  | .var x, w => s.valR i
  | .fals, _ => Iff.rfl
  | .imp a b, w => by
    show (sat B (w + M.n) a → sat B (w + M.n) b) ↔ (sat N w a → sat N w b)
    rw [s.satR i (φ := a), s.satR i (φ := b)]
  | .and a b, w => by
    show (sat B (w + M.n) a ∧ sat B (w + M.n) b) ↔ (sat N w a ∧ sat N w b)
    rw [s.satR i (φ := a), s.satR i (φ := b)]
  | .box a, w => by
    constructor
    · intro h y hy
      exact (s.satR i (φ := a)).mp (h (y + M.n) ((s.seenR i).mpr ⟨y, hy, rfl⟩))
    · intro h y hy
      obtain ⟨y', hy', rfl⟩ := (s.seenR i).mp hy
      exact (s.satR i (φ := a)).mpr (h y' hy')
/-! ### the smallest model -/
structure IsQuot (B Q : Mo S) (num : Nat → Nat) : Prop where
  cls : ∀ v w, v < B.n → w < B.n → (num v = num w ↔ ¬ Bi.Told B B v w)
  ps : ∀ c d, (c, d) ∈ Q.ps ↔ ∃ v w, (v, w) ∈ B.ps ∧ c = num v ∧ d = num w
  vs : ∀ x c, val Q x c ↔ ∃ v, val B x v ∧ c = num v
theorem IsQuot.sat {Q : Mo S} {num : Nat → Nat} (q : IsQuot B Q num) (i : In B) : ∀ {φ : Fm S} {v : Nat}, v < B.n → (Bi.sat Q (num v) φ ↔ Bi.sat B v φ)
  | .var x, v, hv => by
    show val Q x (num v) ↔ val B x v
    rw [q.vs]
    constructor
    · rintro ⟨u, hu, e⟩
      have a := (q.cls v u hv (i.vs _ _ hu)).mp e
      exact (same_val a x).mpr hu
    · exact fun h => ⟨v, h, rfl⟩
  | .fals, _, _ => Iff.rfl
  | .imp a b, v, hv => by
    show (Bi.sat Q (num v) a → Bi.sat Q (num v) b) ↔ (Bi.sat B v a → Bi.sat B v b)
    rw [q.sat i (φ := a) hv, q.sat i (φ := b) hv]
  | .and a b, v, hv => by
    show (Bi.sat Q (num v) a ∧ Bi.sat Q (num v) b) ↔ (Bi.sat B v a ∧ Bi.sat B v b)
    rw [q.sat i (φ := a) hv, q.sat i (φ := b) hv]
  | .box a, v, hv => by
    constructor
    · intro h w hw
      refine (q.sat i (φ := a) (i.ps _ _ (mem_seen.mp hw)).2).mp (h (num w) (mem_seen.mpr ?_))
      exact (q.ps _ _).mpr ⟨v, w, mem_seen.mp hw, rfl, rfl⟩
    · intro h c hc
      obtain ⟨v', w', hp, e1, rfl⟩ := (q.ps _ _).mp (mem_seen.mp hc)
      have r := i.ps _ _ hp
      have al := (q.cls v v' hv r.1).mp e1
      obtain ⟨x, hx, z⟩ := zag al (mem_seen.mpr hp)
      have hxn := (i.ps _ _ (mem_seen.mp hx)).2
      have e2 := (q.cls x w' hxn r.2).mpr z
      rw [← e2]
      exact (q.sat i (φ := a) hxn).mpr (h x hx)
/-! ### formulas that tell -/
structure Tells (M N : Mo S) (v w r : Nat) (φ : Fm S) : Prop where
  md : φ.md = r
  yes : sat M v φ
  no : ¬ sat N w φ
  ht : φ.ht ≤ 10 * r + 2
theorem tells_var {v w : Nat} {x : S} (h1 : val M x v) (h2 : ¬ val N x w) : Tells M N v w 0 (.var x) := ⟨rfl, h1, h2, by show 1 ≤ 2; omega⟩
theorem tells_nvar {v w : Nat} {x : S} (h1 : ¬ val M x v) (h2 : val N x w) : Tells M N v w 0 (neg (.var x)) := ⟨rfl, h1, fun z => z h2, by show 1 + max 1 1 ≤ 2; omega⟩
theorem md_top {k v w : Nat} {P : Nat → Nat → Prop} {l : List Nat} {fs : List (Fm S)} (hT : R M N v w (k + 1)) (hl : ∀ j, j ≤ k → (∀ y, y ∈ l → P j y) → T M N (j + 1) v w)
    (hk : ∀ y, y ∈ l → P k y) (mono : ∀ k j y, P k y → k ≤ j → P j y) (h1 : ∀ y, y ∈ l → ∃ r f, f ∈ fs ∧ f.md = r ∧ P r y) (h2 : ∀ f, f ∈ fs → ∃ y, y ∈ l ∧ f.md ≤ k) : (conj fs).md = k := by
  have le : (conj fs).md ≤ k := md_conj_le fun f hf => (h2 f hf).elim fun _ z => z.2
  refine Nat.le_antisymm le (Nat.le_of_not_lt fun c => ?_)
  have q := hl (conj fs).md le fun y hy => by
    obtain ⟨r, f, hf, e, p⟩ := h1 y hy
    exact mono r _ y p (by rw [← e]; exact md_conj_ge hf)
  exact hT.2 _ (by omega) q
theorem ht_dia {a : Fm S} : (dia a).ht = a.ht + 3 ∨ (dia a).ht ≤ 4 := by
  show 1 + max (1 + (1 + max a.ht 1)) 1 = a.ht + 3 ∨ 1 + max (1 + (1 + max a.ht 1)) 1 ≤ 4
  omega
theorem ht_neg {a : Fm S} : (neg a).ht ≤ a.ht + 1 ∨ (neg a).ht ≤ 2 := by
  show 1 + max a.ht 1 ≤ a.ht + 1 ∨ 1 + max a.ht 1 ≤ 2
  omega
theorem tells_left {k v w x : Nat} {fs : List (Fm S)} (hs : (seen N w).length ≤ 4) (hT : R M N v w (k + 1)) (hx : x ∈ seen M v) (hk : ∀ y, y ∈ seen N w → T M N k x y)
    (hl : fs.length = (seen N w).length) (hf : ∀ (i : Nat) (y : Nat) (f : Fm S), (seen N w)[i]? = some y → fs[i]? = some f → ∃ r, R M N x y r ∧ Tells M N x y r f) : Tells M N v w (k + 1) (dia (conj fs)) := by
  have toF : ∀ y, y ∈ seen N w → ∃ f r, f ∈ fs ∧ R M N x y r ∧ Tells M N x y r f := fun y hy => by
    obtain ⟨i, hi, e⟩ := List.getElem_of_mem hy
    have hi' : i < fs.length := by rw [hl]; exact hi
    obtain ⟨r, a, b⟩ := hf i y fs[i] (by rw [List.getElem?_eq_getElem hi, e]) (List.getElem?_eq_getElem hi')
    exact ⟨fs[i], r, List.getElem_mem hi', a, b⟩
  have toY : ∀ f, f ∈ fs → ∃ y r, y ∈ seen N w ∧ R M N x y r ∧ Tells M N x y r f := fun f hf' => by
    obtain ⟨i, hi, e⟩ := List.getElem_of_mem hf'
    have hi' : i < (seen N w).length := by rw [← hl]; exact hi
    obtain ⟨r, a, b⟩ := hf i (seen N w)[i] f (List.getElem?_eq_getElem hi') (by rw [List.getElem?_eq_getElem hi, e])
    exact ⟨(seen N w)[i], r, List.getElem_mem hi', a, b⟩
  have rk : ∀ {y r}, y ∈ seen N w → R M N x y r → r ≤ k := fun hy z => Nat.le_of_not_lt fun c => z.2 k c (hk _ hy)
  refine ⟨?_, ?_, ?_, ?_⟩
  · have e := md_top (P := fun j y => T M N j x y) (l := seen N w) (fs := fs) hT (fun j hj h => Or.inr (Or.inl ⟨x, hx, h⟩)) hk (fun _ _ _ a b => T_mono a b)
      (fun y hy => by obtain ⟨f, r, h1, h2, h3⟩ := toF y hy; exact ⟨r, f, h1, h3.md, h2.1⟩)
      (fun f hf' => by obtain ⟨y, r, h1, h2, h3⟩ := toY f hf'; exact ⟨y, h1, by rw [h3.md]; exact rk h1 h2⟩)
    show max (1 + max (conj fs).md 0) 0 = k + 1
    omega
  · refine sat_dia.mpr ⟨x, hx, sat_conj.mpr fun f hf' => ?_⟩
    obtain ⟨y, r, h1, h2, h3⟩ := toY f hf'
    exact h3.yes
  · intro z
    obtain ⟨y, hy, q⟩ := sat_dia.mp z
    obtain ⟨f, r, h1, h2, h3⟩ := toF y hy
    exact h3.no (sat_conj.mp q f h1)
  · have h := ht_conj (d := 10 * k + 2) (by omega) (fs := fs) fun f hf' => by
      obtain ⟨y, r, h1, h2, h3⟩ := toY f hf'
      have a := h3.ht
      have b := rk h1 h2
      omega
    have h2 := ht_dia (a := conj fs)
    omega
theorem tells_right {k v w y : Nat} {fs : List (Fm S)} (hs : (seen M v).length ≤ 4) (hT : R M N v w (k + 1)) (hy : y ∈ seen N w) (hk : ∀ x, x ∈ seen M v → T M N k x y)
    (hl : fs.length = (seen M v).length) (hf : ∀ (i : Nat) (x : Nat) (f : Fm S), (seen M v)[i]? = some x → fs[i]? = some f → ∃ r g, f = neg g ∧ R M N x y r ∧ Tells M N x y r g) : Tells M N v w (k + 1) (neg (dia (conj fs))) := by
  have toF : ∀ x, x ∈ seen M v → ∃ g r, neg g ∈ fs ∧ R M N x y r ∧ Tells M N x y r g := fun x hx => by
    obtain ⟨i, hi, e⟩ := List.getElem_of_mem hx
    have hi' : i < fs.length := by rw [hl]; exact hi
    obtain ⟨r, g, e2, a, b⟩ := hf i x fs[i] (by rw [List.getElem?_eq_getElem hi, e]) (List.getElem?_eq_getElem hi')
    exact ⟨g, r, by rw [← e2]; exact List.getElem_mem hi', a, b⟩
  have toY : ∀ f, f ∈ fs → ∃ x g r, f = neg g ∧ x ∈ seen M v ∧ R M N x y r ∧ Tells M N x y r g := fun f hf' => by
    obtain ⟨i, hi, e⟩ := List.getElem_of_mem hf'
    have hi' : i < (seen M v).length := by rw [← hl]; exact hi
    obtain ⟨r, g, e2, a, b⟩ := hf i (seen M v)[i] f (List.getElem?_eq_getElem hi') (by rw [List.getElem?_eq_getElem hi, e])
    exact ⟨(seen M v)[i], g, r, e2, List.getElem_mem hi', a, b⟩
  have rk : ∀ {x r}, x ∈ seen M v → R M N x y r → r ≤ k := fun hx z => Nat.le_of_not_lt fun c => z.2 k c (hk _ hx)
  have mdn : ∀ g : Fm S, (neg g).md = g.md := fun g => by show max g.md 0 = g.md; omega
  refine ⟨?_, ?_, ?_, ?_⟩
  · have e := md_top (P := fun j x => T M N j x y) (l := seen M v) (fs := fs) hT (fun j hj h => Or.inr (Or.inr ⟨y, hy, h⟩)) hk (fun _ _ _ a b => T_mono a b)
      (fun x hx => by obtain ⟨g, r, h1, h2, h3⟩ := toF x hx; exact ⟨r, neg g, h1, by rw [mdn]; exact h3.md, h2.1⟩)
      (fun f hf' => by obtain ⟨x, g, r, e, h1, h2, h3⟩ := toY f hf'; exact ⟨x, h1, by rw [e, mdn, h3.md]; exact rk h1 h2⟩)
    show max (max (1 + max (conj fs).md 0) 0) 0 = k + 1
    omega
  · refine sat_neg.mpr fun z => ?_
    obtain ⟨x, hx, q⟩ := sat_dia.mp z
    obtain ⟨g, r, h1, h2, h3⟩ := toF x hx
    exact (sat_conj.mp q _ h1) h3.yes
  · intro z
    refine z (sat_dia.mpr ⟨y, hy, sat_conj.mpr fun f hf' => ?_⟩)
    obtain ⟨x, g, r, e, h1, h2, h3⟩ := toY f hf'
    rw [e]
    exact h3.no
  · have h := ht_conj (d := 10 * k + 3) (by omega) (fs := fs) fun f hf' => by
      obtain ⟨x, g, r, e, h1, h2, h3⟩ := toY f hf'
      have a := h3.ht
      have b := rk h1 h2
      have c := ht_neg (a := g)
      rw [e]
      omega
    have h2 := ht_dia (a := conj fs)
    have h3 := ht_neg (a := dia (conj fs))
    omega
end
end Bi
/-! What the rounds object has found, and the numbers of the classes, in plain Lean. -/
namespace Bi
section
variable {S : Type} {M N : Mo S}
/-! ### tables of pairs -/
abbrev Tb := List ((Nat × Nat) × Nat)
theorem lookup_mem : ∀ {F : Tb} {p : Nat × Nat} {r : Nat}, F.lookup p = some r → (p, r) ∈ F
  | [], p, r, h => by simp at h
  | (q, s) :: F, p, r, h => by
    rw [List.lookup_cons] at h
    by_cases e : p = q
    · subst e
      simp at h
      rw [h]
      exact List.mem_cons_self
    · have e' : (p == q) = false := beq_eq_false_iff_ne.mpr e
      rw [e'] at h
      exact List.mem_cons_of_mem _ (lookup_mem h)
theorem lookup_key : ∀ {F : Tb} {p : Nat × Nat}, F.lookup p = none ↔ p ∉ F.map (·.1)
  | [], p => by simp
  | (q, s) :: F, p => by
    rw [List.lookup_cons]
    by_cases e : p = q
    · subst e
      simp
    · have e' : (p == q) = false := beq_eq_false_iff_ne.mpr e
      rw [e']
      simp only [List.map_cons, List.mem_cons, not_or]
      rw [lookup_key (F := F)]
      exact ⟨fun h => ⟨e, h⟩, fun h => h.2⟩
theorem mem_lookup : ∀ {F : Tb} {p : Nat × Nat} {r : Nat}, (F.map (·.1)).Nodup → (p, r) ∈ F → F.lookup p = some r
  | [], p, r, _, h => by simp at h
  | (q, s) :: F, p, r, hn, h => by
    rw [List.map_cons, List.nodup_cons] at hn
    rw [List.lookup_cons]
    rcases List.mem_cons.mp h with e | h
    · injection e with e1 e2
      subst e1; subst e2
      simp
    · have ne : p ≠ q := fun e => hn.1 (by rw [← e]; exact List.mem_map.mpr ⟨(p, r), h, rfl⟩)
      have e' : (p == q) = false := beq_eq_false_iff_ne.mpr ne
      rw [e']
      exact mem_lookup hn.2 h
/-- found ahead of round L: each pair of the two models that is told by then, with its round -/
structure Found (M N : Mo S) (L : Nat) (F : Tb) : Prop where
  nd : (F.map (·.1)).Nodup
  at_ : ∀ v w r, ((v, w), r) ∈ F ↔ v < M.n ∧ w < N.n ∧ R M N v w r ∧ r < L
theorem Found.some {L : Nat} {F : Tb} (f : Found M N L F) {v w r : Nat} : F.lookup (v, w) = some r ↔ v < M.n ∧ w < N.n ∧ R M N v w r ∧ r < L :=
  ⟨fun h => (f.at_ _ _ _).mp (lookup_mem h), fun h => mem_lookup f.nd ((f.at_ _ _ _).mpr h)⟩
theorem Found.none {L : Nat} {F : Tb} (f : Found M N (L + 1) F) {v w : Nat} (hv : v < M.n) (hw : w < N.n) : F.lookup (v, w) = none ↔ ¬ T M N L v w := by
  cases e : F.lookup (v, w) with
  | none =>
    refine ⟨fun _ h => ?_, fun _ => rfl⟩
    obtain ⟨r, hr, z⟩ := told_R h
    rw [f.some.mpr ⟨hv, hw, z, Nat.lt_succ_of_le hr⟩] at e
    cases e
  | some r =>
    obtain ⟨_, _, z, l⟩ := f.some.mp e
    exact ⟨fun h => (nomatch h), fun h => absurd (T_mono z.1 (Nat.le_of_lt_succ l)) h⟩
theorem Found.isSome {L : Nat} {F : Tb} (f : Found M N (L + 1) F) {v w : Nat} (hv : v < M.n) (hw : w < N.n) : (F.lookup (v, w)).isSome = true ↔ T M N L v w := by
  have h := f.none hv hw
  cases e : F.lookup (v, w) with
  | none =>
    rw [e] at h
    exact ⟨fun z => (nomatch z), fun z => absurd z (h.mp rfl)⟩
  | some r =>
    obtain ⟨_, _, z, l⟩ := f.some.mp e
    exact ⟨fun _ => T_mono z.1 (Nat.le_of_lt_succ l), fun _ => rfl⟩
/-- ahead of an earlier round -/
theorem Found.early {L j : Nat} {F : Tb} (f : Found M N L F) (h : j ≤ L) : Found M N j (F.filter fun e => decide (e.2 < j)) where
  nd := (List.Sublist.map _ List.filter_sublist).nodup f.nd
  at_ := fun v w r => by
    rw [List.mem_filter, f.at_]
    simp only [decide_eq_true_eq]
    constructor
    · rintro ⟨⟨a, b, c, _⟩, d⟩
      exact ⟨a, b, c, d⟩
    · rintro ⟨a, b, c, d⟩
      exact ⟨⟨a, b, c, by omega⟩, d⟩
/-! ### the grid -/
def grid (n m : Nat) : List (Nat × Nat) := (List.range n).flatMap fun v => (List.range m).map fun w => (v, w)
theorem mem_grid {n m v w : Nat} : (v, w) ∈ grid n m ↔ v < n ∧ w < m := by
  unfold grid
  simp only [List.mem_flatMap, List.mem_map, List.mem_range, Prod.mk.injEq]
  constructor
  · rintro ⟨a, h1, b, h2, rfl, rfl⟩
    exact ⟨h1, h2⟩
  · rintro ⟨h1, h2⟩
    exact ⟨v, h1, w, h2, rfl, rfl⟩
theorem grid_succ (n m : Nat) : grid (n + 1) m = grid n m ++ (List.range m).map fun w => (n, w) := by
  unfold grid
  rw [List.range_succ, List.flatMap_append]
  simp
theorem grid_len : ∀ n m : Nat, (grid n m).length = n * m
  | 0, m => by simp [grid]
  | n + 1, m => by rw [grid_succ, List.length_append, grid_len n m, List.length_map, List.length_range, Nat.add_mul, Nat.one_mul]
/-- strictly ascending pairs -/
def plt (p q : Nat × Nat) : Prop := p.1 < q.1 ∨ (p.1 = q.1 ∧ p.2 < q.2)
theorem range_asc : ∀ m : Nat, (List.range m).Pairwise (· < ·)
  | 0 => by simp
  | m + 1 => by
    rw [List.range_succ, List.pairwise_append]
    exact ⟨range_asc m, by simp, fun a ha b hb => by rw [List.mem_singleton.mp hb]; exact List.mem_range.mp ha⟩
theorem grid_asc : ∀ n m : Nat, (grid n m).Pairwise plt
  | 0, m => by simp [grid]
  | n + 1, m => by
    rw [grid_succ, List.pairwise_append]
    refine ⟨grid_asc n m, ?_, ?_⟩
    · rw [List.pairwise_map]
      exact (range_asc m).imp fun h => Or.inr ⟨rfl, h⟩
    · rintro ⟨a, b⟩ ha q hb
      obtain ⟨c, hc, rfl⟩ := List.mem_map.mp hb
      exact Or.inl (mem_grid.mp ha).1
theorem plt_ne {p q : Nat × Nat} (h : plt p q) : p ≠ q := by
  rintro rfl
  rcases h with h | ⟨_, h⟩ <;> omega
theorem asc_nodup {l : List (Nat × Nat)} (h : l.Pairwise plt) : l.Nodup := h.imp fun h => plt_ne h
theorem grid_nodup (n m : Nat) : (grid n m).Nodup := asc_nodup (grid_asc n m)
/-! ### one round more -/
theorem Found.start (P : Nat → Nat → Bool) (hP : ∀ v w, v < M.n → w < N.n → (P v w = true ↔ diff M N v w)) :
    Found M N 1 (((grid M.n N.n).filter fun p => P p.1 p.2).map fun p => (p, 0)) where
  nd := by
    rw [List.map_map]
    show ((((grid M.n N.n).filter fun p => P p.1 p.2)).map fun p => p).Nodup
    rw [List.map_id']
    exact List.filter_sublist.nodup (grid_nodup _ _)
  at_ := fun v w r => by
    rw [List.mem_map]
    constructor
    · rintro ⟨⟨a, b⟩, h, e⟩
      obtain ⟨h1, h2⟩ := List.mem_filter.mp h
      obtain ⟨ha, hb⟩ := mem_grid.mp h1
      injection e with e1 e2
      injection e1 with e3 e4
      subst e2; subst e3; subst e4
      exact ⟨ha, hb, ⟨(hP _ _ ha hb).mp h2, fun k hk => absurd hk (Nat.not_lt_zero _)⟩, Nat.one_pos⟩
    · rintro ⟨a, b, z, l⟩
      have e : r = 0 := by omega
      subst e
      exact ⟨(v, w), List.mem_filter.mpr ⟨mem_grid.mpr ⟨a, b⟩, (hP _ _ a b).mpr z.1⟩, rfl⟩
/-- told at the next round: not found, and a witness -/
def newly (M N : Mo S) (k v w : Nat) : Prop := (∃ x, x ∈ seen M v ∧ ∀ y, y ∈ seen N w → T M N k x y) ∨ (∃ y, y ∈ seen N w ∧ ∀ x, x ∈ seen M v → T M N k x y)
theorem Found.next {L : Nat} {F : Tb} (f : Found M N (L + 1) F) {l : List (Nat × Nat)} (hl : l.Nodup) (h : ∀ v w, (v, w) ∈ l ↔ v < M.n ∧ w < N.n ∧ ¬ T M N L v w ∧ newly M N L v w) :
    Found M N (L + 2) (F ++ l.map fun p => (p, L + 1)) where
  nd := by
    rw [List.map_append, List.map_map]
    refine List.nodup_append.mpr ⟨f.nd, ?_, ?_⟩
    · show (l.map fun p => p).Nodup
      rw [List.map_id']
      exact hl
    · rintro ⟨a, b⟩ ha q hb e
      subst e
      have hb : (a, b) ∈ l := by
        obtain ⟨q, hq, e⟩ := List.mem_map.mp hb
        rw [← e]; exact hq
      obtain ⟨h1, h2, h3, _⟩ := (h a b).mp hb
      obtain ⟨⟨p, r⟩, hp, e⟩ := List.mem_map.mp ha
      simp only at e
      subst e
      obtain ⟨_, _, z, c⟩ := (f.at_ _ _ _).mp hp
      exact h3 (T_mono z.1 (Nat.le_of_lt_succ c))
  at_ := fun v w r => by
    rw [List.mem_append, f.at_, List.mem_map]
    constructor
    · rintro (⟨a, b, c, d⟩ | ⟨⟨a, b⟩, hm, e⟩)
      · exact ⟨a, b, c, by omega⟩
      · injection e with e1 e2
        injection e1 with e3 e4
        subst e2; subst e3; subst e4
        obtain ⟨h1, h2, h3, h4⟩ := (h _ _).mp hm
        exact ⟨h1, h2, ⟨Or.inr h4, fun k hk z => h3 (T_mono z (Nat.le_of_lt_succ hk))⟩, Nat.lt_succ_self _⟩
    · rintro ⟨a, b, c, d⟩
      by_cases q : r < L + 1
      · exact Or.inl ⟨a, b, c, q⟩
      · have e : r = L + 1 := by omega
        subst e
        have n1 : ¬ T M N L v w := c.2 L (Nat.lt_succ_self _)
        exact Or.inr ⟨(v, w), (h v w).mpr ⟨a, b, n1, c.1.resolve_left n1⟩, rfl⟩
/-- no more is told: the rounds are over -/
theorem T_stop {L : Nat} (iM : In M) (iN : In N) (h : ∀ v w, v < M.n → w < N.n → T M N L v w ∨ ¬ newly M N L v w) : ∀ (k v w : Nat), v < M.n → w < N.n → T M N k v w → T M N L v w := by
  have key : ∀ (d v w : Nat), v < M.n → w < N.n → T M N (L + d) v w → T M N L v w := by
    intro d
    induction d with
    | zero => exact fun v w _ _ z => z
    | succ d ih =>
      intro v w hv hw z
      rcases z with z | ⟨x, hx, z⟩ | ⟨y, hy, z⟩
      · exact ih v w hv hw z
      · exact (h v w hv hw).resolve_right fun c => c (Or.inl ⟨x, hx, fun y hy => ih x y (iM.ps _ _ (mem_seen.mp hx)).2 (iN.ps _ _ (mem_seen.mp hy)).2 (z y hy)⟩)
      · exact (h v w hv hw).resolve_right fun c => c (Or.inr ⟨y, hy, fun x hx => ih x y (iM.ps _ _ (mem_seen.mp hx)).2 (iN.ps _ _ (mem_seen.mp hy)).2 (z x hx)⟩)
  intro k v w hv hw z
  by_cases q : k ≤ L
  · exact T_mono z q
  · exact key (k - L) v w hv hw (by rw [show L + (k - L) = k by omega]; exact z)
/-- how many of the grid are not found -/
def left (n m : Nat) (F : Tb) : Nat := ((grid n m).filter fun p => (F.lookup p).isNone).length
theorem filter_sub {α : Type} (p q : α → Bool) : ∀ l : List α, (∀ x, x ∈ l → p x = true → q x = true) → (l.filter p).length ≤ (l.filter q).length
  | [], _ => Nat.le_refl _
  | a :: l, h => by
    have ih := filter_sub p q l fun x hx => h x (List.mem_cons_of_mem _ hx)
    rw [List.filter_cons, List.filter_cons]
    cases hp : p a with
    | true =>
      rw [h a List.mem_cons_self hp]
      simp only [if_true, List.length_cons]
      omega
    | false =>
      cases hq : q a with
      | true => simp only [if_true, List.length_cons]; simp; omega
      | false => simpa using ih
theorem filter_less {α : Type} (p q : α → Bool) : ∀ l : List α, (∀ x, x ∈ l → p x = true → q x = true) → (∃ x, x ∈ l ∧ q x = true ∧ p x = false) → (l.filter p).length < (l.filter q).length
  | [], _, ⟨x, hx, _⟩ => absurd hx (by simp)
  | a :: l, h, ⟨x, hx, h1, h2⟩ => by
    have hs := filter_sub p q l fun x hx => h x (List.mem_cons_of_mem _ hx)
    rw [List.filter_cons, List.filter_cons]
    rcases List.mem_cons.mp hx with rfl | hx
    · rw [h1, h2]
      simp
      omega
    · have ih := filter_less p q l (fun x hx => h x (List.mem_cons_of_mem _ hx)) ⟨x, hx, h1, h2⟩
      cases hp : p a with
      | true =>
        rw [h a List.mem_cons_self hp]
        simp only [if_true, List.length_cons]
        omega
      | false =>
        cases hq : q a with
        | true => simp only [if_true, List.length_cons]; simp; omega
        | false => simpa using ih
theorem left_le (n m : Nat) (F : Tb) : left n m F ≤ n * m := by
  unfold left
  rw [← grid_len]
  exact List.length_filter_le _ _
theorem lookup_app {F G : Tb} {p : Nat × Nat} : (F ++ G).lookup p = none ↔ F.lookup p = none ∧ G.lookup p = none := by
  rw [lookup_key, lookup_key, lookup_key, List.map_append, List.mem_append, not_or]
theorem left_less {n m k : Nat} {F : Tb} {l : List (Nat × Nat)} (h : ∀ p, p ∈ l → p ∈ grid n m ∧ F.lookup p = none) (hl : l ≠ []) : left n m (F ++ l.map fun p => (p, k)) < left n m F := by
  refine filter_less _ _ _ (fun p _ hp => ?_) ?_
  · have := lookup_app.mp (Option.isNone_iff_eq_none.mp hp)
    exact Option.isNone_iff_eq_none.mpr this.1
  · obtain ⟨p, hp⟩ := List.exists_mem_of_ne_nil l hl
    refine ⟨p, (h p hp).1, Option.isNone_iff_eq_none.mpr (h p hp).2, ?_⟩
    cases e : (F ++ l.map fun p => (p, k)).lookup p with
    | some r => rfl
    | none =>
      have := (lookup_app.mp e).2
      rw [lookup_key, List.map_map] at this
      exact absurd (List.mem_map.mpr ⟨p, hp, rfl⟩) this
/-- all is found, and the rounds are few -/
structure Done (M N : Mo S) (F : Tb) : Prop where
  nd : (F.map (·.1)).Nodup
  at_ : ∀ v w r, ((v, w), r) ∈ F ↔ v < M.n ∧ w < N.n ∧ R M N v w r
  few : ∀ v w r, ((v, w), r) ∈ F → r ≤ M.n * N.n
theorem Done.found {F : Tb} (d : Done M N F) : Found M N (M.n * N.n + 1) F := ⟨d.nd, fun v w r => by
  rw [d.at_]
  constructor
  · rintro ⟨a, b, c⟩
    exact ⟨a, b, c, Nat.lt_succ_of_le (d.few v w r ((d.at_ _ _ _).mpr ⟨a, b, c⟩))⟩
  · rintro ⟨a, b, c, _⟩
    exact ⟨a, b, c⟩⟩
theorem Done.some {F : Tb} (d : Done M N F) {v w r : Nat} : F.lookup (v, w) = some r ↔ v < M.n ∧ w < N.n ∧ R M N v w r :=
  ⟨fun h => (d.at_ _ _ _).mp (lookup_mem h), fun h => mem_lookup d.nd ((d.at_ _ _ _).mpr h)⟩
theorem Done.none {F : Tb} (d : Done M N F) {v w : Nat} (hv : v < M.n) (hw : w < N.n) : F.lookup (v, w) = none ↔ ¬ Told M N v w := by
  cases e : F.lookup (v, w) with
  | none =>
    refine ⟨fun _ h => ?_, fun _ => rfl⟩
    obtain ⟨r, z⟩ := Told_iff.mp h
    rw [d.some.mpr ⟨hv, hw, z⟩] at e
    cases e
  | some r =>
    obtain ⟨_, _, z⟩ := d.some.mp e
    exact ⟨fun h => (nomatch h), fun h => absurd ⟨r, z.1⟩ h⟩
/-- the loop's end -/
theorem Found.done {L : Nat} {F : Tb} (f : Found M N (L + 1) F) (iM : In M) (iN : In N) (h : ∀ v w, v < M.n → w < N.n → T M N L v w ∨ ¬ newly M N L v w) (hL : L ≤ M.n * N.n) : Done M N F where
  nd := f.nd
  at_ := fun v w r => by
    rw [f.at_]
    constructor
    · rintro ⟨a, b, c, _⟩
      exact ⟨a, b, c⟩
    · rintro ⟨a, b, c⟩
      refine ⟨a, b, c, Nat.lt_succ_of_le (Nat.le_of_not_lt fun q => c.2 L q ?_)⟩
      exact T_stop iM iN h r v w a b c.1
  few := fun v w r hm => by
    have := ((f.at_ _ _ _).mp hm).2.2.2
    omega
end
/-! ### numbers of classes -/
theorem least_iff {n : Nat} {E : Nat → Nat → Prop} (refl : ∀ v, E v v) (symm : ∀ v w, E v w → E w v) (trans : ∀ u v w, E u v → E v w → E u w)
    {ls : List Nat} (hn : ls.length = n) (hl : ∀ (v m : Nat), ls[v]? = some m → m < n ∧ E v m ∧ ∀ w, w < n → E v w → m ≤ w) {v w a b : Nat} (hv : ls[v]? = some a) (hw : ls[w]? = some b) : a = b ↔ E v w := by
  obtain ⟨a1, a2, a3⟩ := hl v a hv
  obtain ⟨b1, b2, b3⟩ := hl w b hw
  constructor
  · rintro rfl
    exact trans _ _ _ a2 (symm _ _ b2)
  · intro h
    have h1 := a3 b b1 (trans _ _ _ h b2)
    have h2 := b3 a a1 (trans _ _ _ (symm _ _ h) a2)
    omega
/-- an index of a list without repetition -/
theorem index_iff {l : List Nat} (hn : l.Nodup) {i j a b : Nat} (hi : l[i]? = some a) (hj : l[j]? = some b) : i = j ↔ a = b := by
  constructor
  · rintro rfl
    rw [hi] at hj
    exact Option.some.inj hj
  · rintro rfl
    obtain ⟨h1, e1⟩ := List.getElem?_eq_some_iff.mp hi
    obtain ⟨h2, e2⟩ := List.getElem?_eq_some_iff.mp hj
    exact (List.getElem_inj hn).mp (e1.trans e2.symm)
/-! ### ascending lists below n are short -/
theorem asc_len : ∀ (n : Nat) (l : List Nat) (k : Nat), l.Pairwise (· < ·) → (∀ x, x ∈ l → k ≤ x ∧ x < n) → l.length ≤ n - k
  | _, [], _, _, _ => Nat.zero_le _
  | n, a :: l, k, h, b => by
    obtain ⟨h1, h2⟩ := List.pairwise_cons.mp h
    have q := b a List.mem_cons_self
    have ih := asc_len n l (a + 1) h2 fun x hx => ⟨h1 x hx, (b x (List.mem_cons_of_mem _ hx)).2⟩
    rw [List.length_cons]
    omega
theorem seen_asc {S : Type} {M : Mo S} (h : M.ps.Pairwise plt) (v : Nat) : (seen M v).Pairwise (· < ·) := by
  unfold seen
  rw [List.pairwise_map, List.pairwise_filter]
  refine h.imp fun {p q} z hp hq => ?_
  simp only [beq_iff_eq] at hp hq
  rcases z with z | ⟨_, z⟩
  · omega
  · exact z
theorem seen_len {S : Type} {M : Mo S} (h : M.ps.Pairwise plt) (i : In M) (v : Nat) : (seen M v).length ≤ M.n :=
  asc_len M.n (seen M v) 0 (seen_asc h v) fun x hx => ⟨Nat.zero_le _, (i.ps _ _ (mem_seen.mp hx)).2⟩
theorem ps_len {l : List (Nat × Nat)} {n : Nat} (h : l.Pairwise plt) (b : ∀ p, p ∈ l → p.1 < n ∧ p.2 < n) : l.length ≤ n * n := by
  have key : (l.map fun p => p.1 * n + p.2).Pairwise (· < ·) := by
    rw [List.pairwise_map]
    refine List.Pairwise.imp_of_mem (fun {p q} hp hq z => ?_) h
    have bp := b p hp
    have bq := b q hq
    rcases z with z | ⟨e, z⟩
    · have : (p.1 + 1) * n ≤ q.1 * n := Nat.mul_le_mul_right _ z
      rw [Nat.add_mul] at this
      omega
    · rw [e]; omega
  have := asc_len (n * n) _ 0 key fun x hx => by
    obtain ⟨p, hp, rfl⟩ := List.mem_map.mp hx
    have bp := b p hp
    refine ⟨Nat.zero_le _, ?_⟩
    have : (p.1 + 1) * n ≤ n * n := Nat.mul_le_mul_right _ bp.1
    rw [Nat.add_mul] at this
    omega
  rw [List.length_map] at this
  omega
end Bi
/-! Rules that the hand layer lacks: comprehensions into any container, set(list of ints), max(xs, default=d). -/
namespace Rl
open PySem PySem.Spec PyProof.Rows L2
/-! ### a comprehension into a container that stands at D -/
abbrev TB := Addr → L2.St → Hp → (Hp → Prop) → Prop
def tCc (o0 : Addr → HO) (wi : TI) (g : TG) (tt : TT) (tb : TB) (vs : List Nat) : TE := fun σ H Q => wi σ H fun J H1 => ∀ D, H1 D = none → ∃ W : Nat → Nat → Hp → Prop, (∃ m, W 0 m (upd H1 D (o0 D))) ∧ ∀ i m H, W i m H →
  (J.stop i H ∧ Q (.ref D) H) ∨ (J.go i H ∧ ∃ Nx : Hp → Prop, (∀ H', Nx H' → ∃ m', m' < m ∧ W (i + 1) m' H') ∧ ∀ x H', J.yld i H x H' → g x (wipe σ vs) H' fun σ2 H2 => wipe σ2 vs = wipe σ vs ∧ tt σ2 H2 fun b H3 =>
    if b = true then tb D σ2 H3 Nx else Nx H3)
/-- what the element's part runs: the block, the container, what is wanted -/
abbrev BW := Env → Addr → (Shared → Prop) → (Value → Shared → Prop) → Shared → Prop
section
variable {X : Cx}
/-- the turn of such a loop -/
def Turned (M : Model) (A : Around) (tg : Expr) (ifs : List Expr) (bw : BW) (it : Value) (D : Addr) (env : Env) (R : Result → Shared → Prop) (I : Nat → Shared → Prop) : Prop :=
  ∀ n s, I n s → wpAny M A (pyNext it) (fun r s₁ => match r with
    | none => R (.ok .next) s₁
    | some v => wpAny M A (letOwnedTupleGo tg it v) (fun _ s₂ => wpAny M A (assign tg env v) (fun _ s₃ =>
        wpAny M A (forIn ifs true fun c r => if r = true then do let ok ← isTrue c env (eval c env); pure (ForInStep.yield ok) else pure (ForInStep.yield r)) (fun ok s₄ =>
          if ok = true then bw env D (fun s' => ∃ m, m < n ∧ I m s') (notedBy M A env fun e s' => R (.error e) s') s₄ else ∃ m, m < n ∧ I m s₄) (notedBy M A env fun e s' => R (.error e) s') s₃) (notedBy M A env fun e s' => R (.error e) s') s₂) (notedBy M A env fun e s' => R (.error e) s') s₁) (notedBy M A env fun e s' => R (.error e) s') s
structure Kind (X : Cx) (CE tg : Expr) (ifs : List Expr) (scope : Scope) (new : Sem Value) (ob : Obj) (o0 : Addr → HO) (bw : BW) : Prop where
  fresh : ∀ (E : Value → Shared → Prop) (s : Shared) (Q : Value → Shared → Prop), Q (.ref s.heap.objs.size) { s with heap := s.heap.push ob } → wpAny (model X.prog X.w) X.A new Q E s
  laid : ∀ (H : Hp) (h : Heap), sysModules < h.objs.size → ObjOk X.prog X.w H (h.push ob) h.objs.size (o0 h.objs.size)
  loop : ∀ (env : Env) (it : Value) (D : Addr) (R : Result → Shared → Prop) (I : Nat → Shared → Prop), Turned (model X.prog X.w) X.A tg ifs bw it D env R I → ∀ n s, I n s → codeAny (model X.prog X.w) X.A (.compLoop CE 0 it (.ref D) env) R s
  start : ∀ (env : Env) (it : Value) (D : Addr) (R : Result → Shared → Prop) (s : Shared), codeAny (model X.prog X.w) X.A (.compLoop CE 0 it (.ref D) env) R s →
    wpAny (model X.prog X.w) X.A (pyIter it) (fun it' s' => codeAny (model X.prog X.w) X.A (.compLoop CE 0 it' (.ref D) env) R s') (notedBy (model X.prog X.w) X.A env fun x s' => R (.error x) s') s → codeAny (model X.prog X.w) X.A (.compStart CE 0 it (.ref D) env) R s
/-- the element's part by its reading -/
def Body (X : Cx) (scope : Scope) (bw : BW) (tb : TB) : Prop := ∀ (s : Shared) (H : Hp) (C : Addr) (cl : List (Str × Addr)) (fp : List Addr) (pins : List (Addr × Obj)) (s' : Shared) (σ : L2.St) (H' : Hp) (D : Addr) (Nx : Hp → Prop) (K : Shared → Prop) (E : Value → Shared → Prop),
  Inv (X.blk s H scope (compEnvC scope cl C X.env) fp) pins σ H' s' → tb D σ H' Nx → (∀ s'' H'', Inv (X.blk s H scope (compEnvC scope cl C X.env) fp) pins σ H'' s'' → Nx H'' → K s'') → bw (compEnvC scope cl C X.env) D K E s'
theorem cc_core {CE : Expr} {new : Sem Value} {ob : Obj} {o0 : Addr → HO} {bw : BW} {tb : TB} {pins : List (Addr × Obj)} {s : Shared} {σ : L2.St} {H : Hp} {Q : VK} {tg iter : Expr} {ifs : List Expr} {scope : Scope} {own : List (Str × Nat)} {pos' : Pos} {wi : TI} {g : TG} {tt : TT}
    {use : Option (Value → Sem Unit)} {Qf : Value → Shared → Prop} (hce : clausesOf CE = [⟨tg, iter, ifs, 0⟩]) (hk : Kind X CE tg ifs scope new ob o0 bw) (hbo : Body X scope bw tb)
    (hc : X.calm = true) (hN : X.N.Nodup) (I : Inv X pins σ H s) (hi : PI X tg iter wi) (ok : BlkOk X.N X.env.scope scope own)
    (hg : ∀ (s : Shared) (H : Hp) (C : Addr) (cl : List (Str × Addr)) (fp : List Addr), PG (X.blk s H scope (compEnvC scope cl C X.env) fp) tg g) (ht : ∀ (s : Shared) (H : Hp) (C : Addr) (cl : List (Str × Addr)) (fp : List Addr), PTs (X.blk s H scope (compEnvC scope cl C X.env) fp) ifs tt)
    (hs : ∀ x, foldedSetIterable iter X.env x = pure x) (h : tCc o0 wi g tt tb (own.map (·.2)) σ H Q)
    (hRR : ∀ D C s' m H', Inv X pins σ H' s' → Q (.ref D) H' → s'.heap.Ns C m → FpOk X pins H' C → compPost (model X.prog X.w) X.A X.xe use Qf (.ref D) C (.ok .next) s') :
    wpAny (model X.prog X.w) X.A (comprehension CE scope X.env pos' new false (eval iter X.env) use) Qf X.xe s := by
  have hfree : ∀ y ∈ scope.names, y.2 = .free → ∃ c, X.env.cells.lookup y.1 = some c := fun y hy e => (ok.free y hy e).elim (fun k => I.ok.has _ (.inl k)) fun k => I.ok.has _ (.inr k)
  refine wpAny_comprehension_free (use := use) hce hs (closure_ok hfree) ok.kind (fun y hy e => by rw [ok.uniq y hy, e]) (thn (hi.run pins s σ H _ I h) fun xv s1 hx => thn hx fun itv s2 h2 => ?_)
  obtain ⟨it, fp, tn, J, H2, rfl, I2, T, st2, f2, q⟩ := h2
  refine hk.fresh _ _ _ (newEnv_comp ?_)
  generalize hD : s2.heap.objs.size = D
  obtain ⟨W, ⟨m0, w0⟩, turn⟩ := q D (I2.hok.fresh (Nat.le_of_eq hD))
  generalize hs3 : ({ s2 with heap := s2.heap.push ob } : Shared) = s3
  have I3 : Inv X pins σ (upd H2 D (o0 D)) s3 := by
    rw [← hs3]
    refine I2.laid (t' := s2.toks) (fun b o e => Heap.get?_push_of_some _ e) (Nat.le_of_eq hD) ?_
    rw [← hD]
    exact hk.laid _ s2.heap I2.big
  have h3 : s3.heap = s2.heap.push ob := by rw [← hs3]
  have f3 : ∀ b ∈ fp, FpOk X pins (upd H2 D (o0 D)) b ∧ b < s3.heap.objs.size := fun b hb => by
    have hlt : b < s2.heap.objs.size := let ⟨_, e, _⟩ := T.obj _ _ st2 b hb; Heap.lt_size e
    refine ⟨⟨?_, (f2 b hb).2⟩, by rw [h3, Heap.size_push]; exact Nat.lt_succ_of_lt hlt⟩
    rw [upd_ne (by rw [← hD]; exact Nat.ne_of_lt hlt)]
    exact (f2 b hb).1
  have st3 : tn 0 s3.heap := T.keep _ _ _ st2 fun b _ o e => by rw [h3]; exact Heap.get?_push_of_some _ e
  have I4 := block_start I3 ok hN f3
  have pg := hg s3 (upd H2 D (o0 D)) s3.heap.objs.size (cellsFrom (s3.heap.objs.size + 1) scope.names (cloFrom X.env.cells scope.names [])) fp
  have pt := ht s3 (upd H2 D (o0 D)) s3.heap.objs.size (cellsFrom (s3.heap.objs.size + 1) scope.names (cloFrom X.env.cells scope.names [])) fp
  have pb := hbo s3 (upd H2 D (o0 D)) s3.heap.objs.size (cellsFrom (s3.heap.objs.size + 1) scope.names (cloFrom X.env.cells scope.names [])) fp
  show codeAny _ _ (.compStart CE 0 (.ref it) (.ref D) (compEnvC scope (cellsFrom (s3.heap.objs.size + 1) scope.names (cloFrom X.env.cells scope.names [])) s3.heap.objs.size X.env)) (compPost (model X.prog X.w) X.A X.xe use Qf (.ref D) s3.heap.objs.size) { s3 with heap := pushCells (s3.heap.push { cls := .type "dict", data := .dict #[] }) scope.names }
  have nfp : ∀ b ∈ fp, (upd H2 D (o0 D)) b = none := fun b hb => (f3 b hb).1.1
  generalize hcv : compEnvC scope (cellsFrom (s3.heap.objs.size + 1) scope.names (cloFrom X.env.cells scope.names [])) s3.heap.objs.size X.env = ce at I4 pg pt pb ⊢
  have cL : ce.locals = s3.heap.objs.size := by subst hcv; rfl
  generalize hH3 : upd H2 D (o0 D) = H3 at I3 I4 pg pt pb w0 nfp f3
  generalize hs4 : ({ s3 with heap := pushCells (s3.heap.push { cls := .type "dict", data := .dict #[] }) scope.names } : Shared) = s4 at I4 ⊢
  have st4 : tn 0 s4.heap := T.keep _ _ _ st3 fun b _ o e => by rw [← hs4]; exact pushCells_keeps _ _ _ _ (Heap.get?_push_of_some _ e)
  have stat : ∀ {σ' : L2.St} {H' : Hp} {s' : Shared}, Inv (X.blk s3 H3 scope ce fp) [] σ' H' s' → (∀ b ∈ fp, H' b = none) → ∀ b ∈ fp, FpOk (X.blk s3 H3 scope ce fp) [] H' b := fun {σ' H' s'} I' hn b hb =>
    ⟨hn b hb, (I'.ok.exf b hb).1, I'.ok.exfs b hb, .inl hb, fun x c e => (I'.ok.exf b hb).2 x c e, fun p hp => absurd (show p ∈ ([] : List (Addr × Obj)) ++ [] from hp) (by simp)⟩
  have loop : codeAny (model X.prog X.w) X.A (.compLoop CE 0 (.ref it) (.ref D) ce) (compPost (model X.prog X.w) X.A X.xe use Qf (.ref D) s3.heap.objs.size) s4 := by
    refine hk.loop ce (.ref it) D _ (fun n s' => ∃ i H', Inv (X.blk s3 H3 scope ce fp) [] (wipe σ (own.map (·.2))) H' s' ∧ tn i s'.heap ∧ (∀ b ∈ fp, H' b = none) ∧ W i n H') ?_ m0 s4 ⟨0, H3, I4, st4, nfp, w0⟩
    rintro n s5 ⟨i, H5, I5, st5, n5, w5⟩
    rcases turn i n H5 w5 with ⟨stop, qq⟩ | ⟨go, Nx, hNx, step⟩
    · refine thnF (T.done (X.blk s3 H3 scope ce fp) rfl rfl rfl hc i [] s5 _ H5 (fun _ _ => False) I5 (stat I5 n5) st5 stop) fun r s6 ⟨hr, I6⟩ => ?_
      subst hr
      have I7 : Inv X pins σ H5 s6 := I3.call' (ch := fp) I6.os I6.base I6.hok I6.bare fun b hb => ⟨(f3 b hb).1.2.2.2.1, (f3 b hb).1.2.1, (f3 b hb).1.2.2.2.2.1, (f3 b hb).1.2.2.2.2.2⟩
      have nC : H5 s3.heap.objs.size = none := by
        have z : H5 ce.locals = none := I6.free
        rw [cL] at z
        exact z
      obtain ⟨m, hn, _⟩ := I6.loc
      have hn : s6.heap.Ns ce.locals m := hn
      rw [cL] at hn
      exact hRR D s3.heap.objs.size s6 m H5 I7 qq hn (I3.fpOk (Nat.le_refl _) nC)
    · refine thnF (T.item (X.blk s3 H3 scope ce fp) rfl rfl rfl hc i [] s5 _ H5 (fun _ _ => False) I5 (stat I5 n5) st5 go) fun r s6 ⟨u, hr, h6⟩ => ?_
      subst hr
      refine thnF h6 fun _ s7 ⟨x, H7, I7, r7, y7, st7, n7⟩ => ?_
      refine thnF (pg.run _ s7 _ H7 x u _ (I7.pinned (stat I7 n7) (T.obj _ _ st7)) r7 (step x H7 y7)) fun _ s8 ⟨σ8, H8, I8, hw8, q8⟩ => ?_
      refine thnF (pt.run _ s8 σ8 H8 _ I8 q8) fun b s9 ⟨H9, I9, q9⟩ => ?_
      have fin : ∀ (s' : Shared) (H' : Hp), Inv (X.blk s3 H3 scope ce fp) ([] ++ pinsAt fp s7.heap) σ8 H' s' → Nx H' → ∃ m, m < n ∧ ∃ i H', Inv (X.blk s3 H3 scope ce fp) [] (wipe σ (own.map (·.2))) H' s' ∧ tn i s'.heap ∧ (∀ b ∈ fp, H' b = none) ∧ W i m H' := fun s' H' I' nx => by
        obtain ⟨m', hm, w'⟩ := hNx H' nx
        have pin' : ∀ b ∈ fp, ∀ o, s7.heap.get? b = some o → s'.heap.get? b = some o ∧ H' b = none := fun b hb o e =>
          let z := I'.pin (b, o) (List.mem_append_right _ (List.mem_append_right _ (mem_pinsAt hb e)))
          ⟨z.1, z.2.1⟩
        refine ⟨m', hm, i + 1, H', (I'.unpinned (pins := [])).weak (by rw [← hw8, wipe_length]) (fun j v e => ?_), T.keep _ _ _ st7 fun b hb o e => (pin' b hb o e).1, fun b hb => ?_, w'⟩
        · rw [← hw8] at e
          exact (wipe_some e).1
        · obtain ⟨o, e, _⟩ := T.obj _ _ st7 b hb
          exact (pin' b hb o e).2
      cases b with
      | false =>
        simp only [Bool.false_eq_true, if_false] at q9 ⊢
        exact fin s9 H9 I9 q9
      | true =>
        simp only [if_true] at q9 ⊢
        exact pb _ s9 σ8 H9 D Nx _ _ I9 q9 fin
  exact hk.start ce (.ref it) D _ s4 loop (T.self X.A 0 _ _ _ st4 loop)
/-- behind it, as a value -/
theorem back_val {pins : List (Addr × Obj)} {σ : L2.St} {Q : VK} : ∀ D C s' m H', Inv X pins σ H' s' → Q (.ref D) H' → s'.heap.Ns C m → FpOk X pins H' C → compPost (model X.prog X.w) X.A X.xe none (EP X pins σ Q) (.ref D) C (.ok .next) s' := fun D C s' m H' I' q hn f => ⟨m, hn, fun h'' sb => by
  obtain ⟨f0, f1, f2, f3, f4, f5⟩ := f
  exact ⟨.ref D, H', I'.turned (t' := s'.toks) (fun b o hb e => (sb.2 b hb).trans e) f0 f1 f3 f4 f5, rfl, q⟩⟩
/-- the same stored at a local name of the same line -/
theorem set_core {CE : Expr} {new : Sem Value} {ob : Obj} {o0 : Addr → HO} {bw : BW} {tb : TB} {i : Nat} {y : Str} {py spos : Pos} {tg iter : Expr} {ifs : List Expr} {scope : Scope} {own : List (Str × Nat)} {cpos : Pos} {wi : TI} {g : TG} {tt : TT}
    (hev : ∀ (use : Option (Value → Sem Unit)), True) (hce : clausesOf CE = [⟨tg, iter, ifs, 0⟩]) (hk : Kind X CE tg ifs scope new ob o0 bw) (hbo : Body X scope bw tb)
    (hex : ∀ (Q : Flow → Shared → Prop) (s : Shared), wpAny (model X.prog X.w) X.A (comprehension CE scope X.env cpos new false (eval iter X.env) (some fun v => assign (.Name y py) X.env v)) (fun _ s' => Q .next s') X.xe s → wpAny (model X.prog X.w) X.A (exec (.Assign [.Name y py] CE spos) X.env) Q X.xe s)
    (hc : X.calm = true) (hN : X.N.Nodup) (hy : X.N[i]? = some y) (hyl : X.env.scope.names.lookup y = some .local) (hi : PI X tg iter wi) (ok : BlkOk X.N X.env.scope scope own)
    (hg : ∀ (s : Shared) (H : Hp) (C : Addr) (cl : List (Str × Addr)) (fp : List Addr), PG (X.blk s H scope (compEnvC scope cl C X.env) fp) tg g) (ht : ∀ (s : Shared) (H : Hp) (C : Addr) (cl : List (Str × Addr)) (fp : List Addr), PTs (X.blk s H scope (compEnvC scope cl C X.env) fp) ifs tt)
    (hs : ∀ x, foldedSetIterable iter X.env x = pure x) : PS X (.Assign [.Name y py] CE spos) (tAsg (tCc o0 wi g tt tb (own.map (·.2))) (gName i)) := by
  refine ⟨fun pins s σ H D I h => ?_⟩
  have h : tCc o0 wi g tt tb (own.map (·.2)) σ H (fun x H1 => gName i x σ H1 D.nx) := h
  refine hex _ s (cc_core (Qf := fun _ s' => SP X pins D .next s') hce hk hbo hc hN I hi ok hg ht hs h fun L C s' m H' I' q hn f => ?_)
  show wpAny _ _ (assign (.Name y py) X.env (.ref L)) _ _ _
  refine wpAny_assign_Name (store_ok2 (v := V.ref L) I' hN hy (.inl hyl) rfl (fun s2 I2 ⟨a, sb, ha⟩ => ?_) (.inr hyl))
  obtain ⟨f0, f1, f2, f3, f4, f5⟩ := f
  have haC : C ≠ a := ha.elim (fun z => by rw [z]; exact f1) fun z e => f4 y a z e.symm
  exact ⟨m, hn.sameBut sb haC, fun h3 sb3 => ⟨_, H', I2.turned (t' := s2.toks) (fun b o hb e => (sb3.2 b hb).trans e) f0 f1 f3 f4 f5, q⟩⟩
end
end Rl
namespace Rl
open PySem PySem.Spec PyProof.Rows L2
section
variable {X : Cx}
/-! ### dict comprehensions -/
def bwD (X : Cx) (kx vx : Expr) : BW := fun env D K E s => wpAny (model X.prog X.w) X.A (eval kx env) (fun u s₁ => wpAny (model X.prog X.w) X.A (eval vx env) (fun v s₂ => wpAny (model X.prog X.w) X.A (dictSet D u v) (fun _ s₃ => K s₃) E s₂) E s₁) E s
/-- keys tuples, keys texts or ints -/
def tbT (tk tv : TE) : TB := fun D σ H N => tk σ H fun y H1 => tv σ H1 fun z H2 => ∃ (kvs : List (List Key × V)) (k : List Key) (b : Addr), y = .ref b ∧ H2 b = some (.tup (k.map kV)) ∧ H2 D = some (.dT kvs) ∧ kvs.length < sizeLine ∧ N (upd H2 D (.dT (putK kvs k z)))
def tbK (tk tv : TE) : TB := fun D σ H N => tk σ H fun y H1 => tv σ H1 fun z H2 => ∃ (kvs : List (Key × V)) (k : Key), y = kV k ∧ H2 D = some (.dK kvs) ∧ kvs.length < sizeLine ∧ N (upd H2 D (.dK (putK kvs k z)))
theorem kindT {kx vx tg iter : Expr} {ifs : List Expr} {scope : Scope} {pos : Pos} : Kind X (.DictComp kx vx [⟨tg, iter, ifs, 0⟩] scope pos) tg ifs scope newDict { cls := .type "dict", data := .dict #[] } (fun _ => .dT []) (bwD X kx vx) where
  fresh := fun E s Q h => wpAny_newObj_type h
  laid := fun H h hb => dt_empty h hb
  loop := fun env it D R I turn n s h => compLoop_anyD I turn n h
  start := fun env it D R s h0 h => codeAny_compStart_dict h0 h
theorem kindK {kx vx tg iter : Expr} {ifs : List Expr} {scope : Scope} {pos : Pos} : Kind X (.DictComp kx vx [⟨tg, iter, ifs, 0⟩] scope pos) tg ifs scope newDict { cls := .type "dict", data := .dict #[] } (fun _ => .dK []) (bwD X kx vx) where
  fresh := fun E s Q h => wpAny_newObj_type h
  laid := fun H h hb => dk_empty h hb
  loop := fun env it D R I turn n s h => compLoop_anyD I turn n h
  start := fun env it D R s h0 h => codeAny_compStart_dict h0 h
theorem dictSetT {pins : List (Addr × Obj)} {σ : L2.St} {H : Hp} {s : Shared} {E : Value → Shared → Prop} {D b : Addr} {kvs : List (List Key × V)} {k : List Key} {v : V} {r : Value} {Q : Unit → Shared → Prop} (hu : X.A.units < cLine) (I : Inv X pins σ H s) (hD : H D = some (.dT kvs)) (hb : H b = some (.tup (k.map kV)))
    (hz : kvs.length < sizeLine) (rv : RelV v r) (h : ∀ s', Inv X pins σ (upd H D (.dT (putK kvs k v))) s' → Q () s') : wpAny (model X.prog X.w) X.A (dictSet D (.ref b) r) Q E s := by
  obtain ⟨z, hd, xs, rel, dd⟩ := dt_of I.hok hD
  have hl : (putK kvs k v).length ≤ sizeLine := by have := length_putK kvs k v; omega
  refine wpAny_dictSet_heap (hsz := by rw [← Paired.length rel]; exact z) hu (key_of I.hok hb) dd fun h' dd' hs => h _ ?_
  obtain ⟨q, es, ep, hq, h2, h3, h4, _, h5⟩ := dd'
  refine d_write I (by rw [hD]; exact True.intro) hs ⟨q, hq⟩ ⟨hl, hd, _, (rel.put k hb rv).keeps fun c ys ec => ?_, q, es, ep, hq, h2, h3, h4, h5⟩
  rw [upd_ne (ne_of ec hD (fun z => nomatch z))]
  exact ec
theorem bodyT {kx vx : Expr} {scope : Scope} {tk tv : TE} (hu : X.A.units < cLine) (hk : ∀ (s : Shared) (H : Hp) (C : Addr) (cl : List (Str × Addr)) (fp : List Addr), PE (X.blk s H scope (compEnvC scope cl C X.env) fp) kx tk)
    (hv : ∀ (s : Shared) (H : Hp) (C : Addr) (cl : List (Str × Addr)) (fp : List Addr), PE (X.blk s H scope (compEnvC scope cl C X.env) fp) vx tv) : Body X scope (bwD X kx vx) (tbT tk tv) := by
  intro s H C cl fp pins s' σ H' D Nx K E I h hK
  refine thnF ((hk s H C cl fp).run pins s' σ H' _ I h) fun u s1 ⟨y, H1, I1, r1, q1⟩ => ?_
  refine thnF ((hv s H C cl fp).run pins s1 σ H1 _ I1 q1) fun v s2 ⟨z, H2, I2, r2, kvs, k, b, ey, hb, hD, hz, nx⟩ => ?_
  subst ey
  cases (show u = Value.ref b from r1)
  exact dictSetT (X := X.blk s H scope (compEnvC scope cl C X.env) fp) hu I2 hD hb hz r2 fun s3 I3 => hK s3 _ I3 nx
theorem bodyK {kx vx : Expr} {scope : Scope} {tk tv : TE} (hk : ∀ (s : Shared) (H : Hp) (C : Addr) (cl : List (Str × Addr)) (fp : List Addr), PE (X.blk s H scope (compEnvC scope cl C X.env) fp) kx tk)
    (hv : ∀ (s : Shared) (H : Hp) (C : Addr) (cl : List (Str × Addr)) (fp : List Addr), PE (X.blk s H scope (compEnvC scope cl C X.env) fp) vx tv) : Body X scope (bwD X kx vx) (tbK tk tv) := by
  intro s H C cl fp pins s' σ H' D Nx K E I h hK
  refine thnF ((hk s H C cl fp).run pins s' σ H' _ I h) fun u s1 ⟨y, H1, I1, r1, q1⟩ => ?_
  refine thnF ((hv s H C cl fp).run pins s1 σ H1 _ I1 q1) fun v s2 ⟨z, H2, I2, r2, kvs, k, ey, hD, hz, nx⟩ => ?_
  subst ey
  exact d_dictSet (X := X.blk s H scope (compEnvC scope cl C X.env) fp) I2 hD hz r1 r2 fun s3 I3 => hK s3 _ I3 nx
section
variable {kx vx tg iter : Expr} {ifs : List Expr} {scope : Scope} {own : List (Str × Nat)} {pos : Pos} {wi : TI} {g : TG} {tt : TT} {tk tv : TE}
/-- {k: v for ..}, keys tuples -/
theorem pe_dcT (hu : X.A.units < cLine) (hc : X.calm = true) (hN : X.N.Nodup) (hi : PI X tg iter wi) (ok : BlkOk X.N X.env.scope scope own)
    (hg : ∀ (s : Shared) (H : Hp) (C : Addr) (cl : List (Str × Addr)) (fp : List Addr), PG (X.blk s H scope (compEnvC scope cl C X.env) fp) tg g) (ht : ∀ (s : Shared) (H : Hp) (C : Addr) (cl : List (Str × Addr)) (fp : List Addr), PTs (X.blk s H scope (compEnvC scope cl C X.env) fp) ifs tt)
    (hk : ∀ (s : Shared) (H : Hp) (C : Addr) (cl : List (Str × Addr)) (fp : List Addr), PE (X.blk s H scope (compEnvC scope cl C X.env) fp) kx tk)
    (hv : ∀ (s : Shared) (H : Hp) (C : Addr) (cl : List (Str × Addr)) (fp : List Addr), PE (X.blk s H scope (compEnvC scope cl C X.env) fp) vx tv) (hs : ∀ x, foldedSetIterable iter X.env x = pure x := by intro _; rfl) :
    PE X (.DictComp kx vx [⟨tg, iter, ifs, 0⟩] scope pos) (tCc (fun _ => .dT []) wi g tt (tbT tk tv) (own.map (·.2))) := by
  refine ⟨fun pins s σ H Q I h => ?_⟩
  rw [arm_eval_DictComp]
  exact cc_core rfl kindT (bodyT hu hk hv) hc hN I hi ok hg ht hs h back_val
/-- keys texts or ints -/
theorem pe_dcK (hc : X.calm = true) (hN : X.N.Nodup) (hi : PI X tg iter wi) (ok : BlkOk X.N X.env.scope scope own)
    (hg : ∀ (s : Shared) (H : Hp) (C : Addr) (cl : List (Str × Addr)) (fp : List Addr), PG (X.blk s H scope (compEnvC scope cl C X.env) fp) tg g) (ht : ∀ (s : Shared) (H : Hp) (C : Addr) (cl : List (Str × Addr)) (fp : List Addr), PTs (X.blk s H scope (compEnvC scope cl C X.env) fp) ifs tt)
    (hk : ∀ (s : Shared) (H : Hp) (C : Addr) (cl : List (Str × Addr)) (fp : List Addr), PE (X.blk s H scope (compEnvC scope cl C X.env) fp) kx tk)
    (hv : ∀ (s : Shared) (H : Hp) (C : Addr) (cl : List (Str × Addr)) (fp : List Addr), PE (X.blk s H scope (compEnvC scope cl C X.env) fp) vx tv) (hs : ∀ x, foldedSetIterable iter X.env x = pure x := by intro _; rfl) :
    PE X (.DictComp kx vx [⟨tg, iter, ifs, 0⟩] scope pos) (tCc (fun _ => .dK []) wi g tt (tbK tk tv) (own.map (·.2))) := by
  refine ⟨fun pins s σ H Q I h => ?_⟩
  rw [arm_eval_DictComp]
  exact cc_core rfl kindK (bodyK hk hv) hc hN I hi ok hg ht hs h back_val
/-- y = {k: v for ..} on one line -/
theorem ps_setDcK {i : Nat} {y : Str} {py spos : Pos} (hc : X.calm = true) (hN : X.N.Nodup) (hy : X.N[i]? = some y) (hyl : X.env.scope.names.lookup y = some .local)
    (hsw : swapsWith (.DictComp kx vx [⟨tg, iter, ifs, 0⟩] scope pos) (some (.Name y py)) spos.line X.env = pure true) (hi : PI X tg iter wi) (ok : BlkOk X.N X.env.scope scope own)
    (hg : ∀ (s : Shared) (H : Hp) (C : Addr) (cl : List (Str × Addr)) (fp : List Addr), PG (X.blk s H scope (compEnvC scope cl C X.env) fp) tg g) (ht : ∀ (s : Shared) (H : Hp) (C : Addr) (cl : List (Str × Addr)) (fp : List Addr), PTs (X.blk s H scope (compEnvC scope cl C X.env) fp) ifs tt)
    (hk : ∀ (s : Shared) (H : Hp) (C : Addr) (cl : List (Str × Addr)) (fp : List Addr), PE (X.blk s H scope (compEnvC scope cl C X.env) fp) kx tk)
    (hv : ∀ (s : Shared) (H : Hp) (C : Addr) (cl : List (Str × Addr)) (fp : List Addr), PE (X.blk s H scope (compEnvC scope cl C X.env) fp) vx tv) (hs : ∀ x, foldedSetIterable iter X.env x = pure x := by intro _; rfl) :
    PS X (.Assign [.Name y py] (.DictComp kx vx [⟨tg, iter, ifs, 0⟩] scope pos) spos) (tAsg (tCc (fun _ => .dK []) wi g tt (tbK tk tv) (own.map (·.2))) (gName i)) := by
  refine set_core (cpos := firstIterPos [⟨tg, iter, ifs, 0⟩] pos) (fun _ => trivial) rfl kindK (bodyK hk hv) (fun Q s h => ?_) hc hN hy hyl hi ok hg ht hs
  rw [exec_Assign_Name_used _ _ _ _ hsw]
  refine wpAny_bind (wpAny_standAt (wpAny_bind ?_))
  show wpAny _ X.A (do let _ ← comprehension (.DictComp kx vx [⟨tg, iter, ifs, 0⟩] scope pos) scope X.env (firstIterPos [⟨tg, iter, ifs, 0⟩] pos) newDict false (eval iter X.env) (some (assign (.Name y py) X.env))) _ _ s
  exact wpAny_bind (thn h fun _ s' hq => wpAny_pure (wpAny_pure hq))
theorem sw_dict {elt vl : Expr} {gs : List Comprehension} {py : Pos} {y : Str} {l : Nat} {env : Env} (hk : env.scope.kind = .function) (hy : env.scope.names.lookup y = some .local) (hl : (py.line == pos.line) = true)
    (ha : (scope.names.any fun (n, k) => n == y && (k == .local || k == .cell)) = false) : swapsWith (.DictComp elt vl gs scope pos) (some (.Name y py)) l env = pure true := by
  have ky : env.kindOf y = some .local := hy
  have hb : env.blockKind = .function := by unfold Env.blockKind; rw [hk]; rfl
  unfold swapsWith
  simp only [hb, ky, ha, Expr.pos, hl]
  rfl
end
/-! ### a set comprehension of tuples of ints -/
def bwS (X : Cx) (elt : Expr) : BW := fun env D K E s => wpAny (model X.prog X.w) X.A (eval elt env) (fun u s₁ => wpAny (model X.prog X.w) X.A (call (.builtin "set.add") [.ref D, u]) (fun _ s₂ => K s₂) E s₁) E s
def tbS (K : PySem.W.Frag) (P : Program) (w : World) (te : TE) : TB := fun D σ H N => te σ H fun y H1 => ∃ (b : Addr) (k : List Int) (L : List (Addr × List Int)), y = .ref b ∧ SqT K H1 b (k.map V.int) ∧ H1 D = some (SetTO P w D L) ∧ (∀ p ∈ L, SqT K H1 p.1 (p.2.map V.int)) ∧ L.length + 1 < 64 ∧
  ∀ L', (k ∈ L.map (·.2) → L' = L) → (k ∉ L.map (·.2) → L'.Perm ((b, k) :: L)) → N (upd H1 D (SetTO P w D L'))
theorem kindS {elt tg iter : Expr} {ifs : List Expr} {scope : Scope} {pos : Pos} : Kind X (.SetComp elt [⟨tg, iter, ifs, 0⟩] scope pos) tg ifs scope (newSet (.type "set")) { cls := .type "set", dict := none, data := .set #[] 0 (.fresh 0 0 (!X.w.params.followText "set-order")) }
    (fun D => SetTO X.prog X.w D []) (bwS X elt) where
  fresh := fun E s Q h => PpSet.newSet_ok h
  laid := fun H h hb => setTO_new (setTR_fresh (Heap.get?_push_size _ rfl)).t0
  loop := fun env it D R I turn n s h => PpSet.compLoopS_any I turn n h
  start := fun env it D R s h0 h => PpSet.codeAny_compStart_set h0 h
theorem setAddT {pins : List (Addr × Obj)} {σ : L2.St} {H : Hp} {s : Shared} {E : Value → Shared → Prop} {D b : Addr} {k : List Int} {L : List (Addr × List Int)} {Q : Value → Shared → Prop} (hu : X.A.units + 64 < cLine) (I : Inv X pins σ H s) (hb : SqT X.K H b (k.map V.int)) (hD : H D = some (SetTO X.prog X.w D L))
    (hL : ∀ p ∈ L, SqT X.K H p.1 (p.2.map V.int)) (hf : L.length + 1 < 64) (h : ∀ L' s', (k ∈ L.map (·.2) → L' = L) → (k ∉ L.map (·.2) → L'.Perm ((b, k) :: L)) → Inv X pins σ (upd H D (SetTO X.prog X.w D L')) s' → Q .none s') :
    wpAny (model X.prog X.w) X.A (call (.builtin "set.add") [.ref D, .ref b]) Q E s := by
  have R0 : SetT0 X.prog X.w s.heap D L := (I.hok D _ hD).1
  obtain ⟨es, ep, t, R⟩ := R0.full fun p hp => I.isT (hL p hp)
  have hx : IsT X.prog X.w s.heap k b := I.isT hb
  obtain ⟨o, ho, hex, hd⟩ := R.ob
  have ht : s.TypeIs (.ref D) "set" := ⟨o, ho, hex.1⟩
  refine wpAny_call_entry F.slot_set_add ht F.entry_set_add ?_ (F.args_set_add_2 _ _)
  unfold Builtin.«set.add» Builtin.Frozenset.oneOther
  simp only [List.isEmpty_nil, bind_assoc]
  unfold Builtin.Frozenset.addrOf setAdd
  refine wpAny_bind (wpAny_pure ?_)
  try dsimp only
  refine wpAny_bind (wpAny_pure ?_)
  try dsimp only
  refine wpAny_bind ?_
  refine wpAny_holding ?_
  refine wpAny_bind (wpAny_pyHash_tuple (by show X.A.units + 1 < cLine; omega) hx ?_)
  refine add_at (s := { s with toks := s.toks + (k.length + 1) }) R hx (by show X.A.units + 1 < cLine; omega) hf fun b' h' L' es' ep' t' hsb R' c1 c2 => ?_
  show wpAny _ _ (ret Value.none) _ _ _
  refine wpAny_pure ⟨_, rfl, h L' _ c1 c2 ?_⟩
  have he : ∃ u, h'.get? D = some u := let ⟨q, hq, _⟩ := R'.ob; ⟨q, hq⟩
  exact I.write (e := D) (by rw [hD]; trivial) (.inl rfl) (fun c u hc hu => (hsb.2 c hc).trans hu) he (setTO_new R'.t0)
theorem bodyS {elt : Expr} {scope : Scope} {te : TE} (hu : X.A.units + 64 < cLine) (he : ∀ (s : Shared) (H : Hp) (C : Addr) (cl : List (Str × Addr)) (fp : List Addr), PE (X.blk s H scope (compEnvC scope cl C X.env) fp) elt te) : Body X scope (bwS X elt) (tbS X.K X.prog X.w te) := by
  intro s H C cl fp pins s' σ H' D Nx K E I h hK
  refine thnF ((he s H C cl fp).run pins s' σ H' _ I h) fun u s1 ⟨y, H1, I1, r1, b, k, L, ey, hb, hD, hL, hf, nx⟩ => ?_
  subst ey
  cases (show u = Value.ref b from r1)
  exact setAddT (X := X.blk s H scope (compEnvC scope cl C X.env) fp) hu I1 hb hD hL hf fun L' s3 c1 c2 I3 => hK s3 _ I3 (nx L' c1 c2)
theorem pe_scT {elt tg iter : Expr} {ifs : List Expr} {scope : Scope} {own : List (Str × Nat)} {pos : Pos} {wi : TI} {g : TG} {tt : TT} {te : TE} (hu : X.A.units + 64 < cLine) (hc : X.calm = true) (hN : X.N.Nodup) (hi : PI X tg iter wi) (ok : BlkOk X.N X.env.scope scope own)
    (hg : ∀ (s : Shared) (H : Hp) (C : Addr) (cl : List (Str × Addr)) (fp : List Addr), PG (X.blk s H scope (compEnvC scope cl C X.env) fp) tg g) (ht : ∀ (s : Shared) (H : Hp) (C : Addr) (cl : List (Str × Addr)) (fp : List Addr), PTs (X.blk s H scope (compEnvC scope cl C X.env) fp) ifs tt)
    (he : ∀ (s : Shared) (H : Hp) (C : Addr) (cl : List (Str × Addr)) (fp : List Addr), PE (X.blk s H scope (compEnvC scope cl C X.env) fp) elt te) (hs : ∀ x, foldedSetIterable iter X.env x = pure x := by intro _; rfl) :
    PE X (.SetComp elt [⟨tg, iter, ifs, 0⟩] scope pos) (tCc (fun D => SetTO X.prog X.w D []) wi g tt (tbS X.K X.prog X.w te) (own.map (·.2))) := by
  refine ⟨fun pins s σ H Q I h => ?_⟩
  rw [PpSet.eval_SetComp]
  exact cc_core rfl kindS (bodyS hu he) hc hN I hi ok hg ht hs h back_val
end
/-! ### set(list of ints) -/
abbrev freshSet (w : World) : Obj := { cls := .type "set", dict := none, data := .set #[] 0 (.fresh 0 0 (!w.params.followText "set-order")) }
section
variable {P : Program} {w : World} {A : Around} {E : Value → Shared → Prop} {s : Shared}
theorem call_set_list {l : Addr} {items : Array Value} (ns : List Int) {Q : Value → Shared → Prop} (hh : A.handled = none) (hl : s.heap.IsList l items) (hit : IntsAre items.toList ns) (hb : ns.length + 1 < scanBound)
    (h : ∀ (h' : Heap) (tk c : Nat), SetR w h' s.heap.objs.size (fun j => decide (j ∈ ns)) c → c ≤ ns.length → (∀ b o, s.heap.get? b = some o → h'.get? b = some o) → Q (.ref s.heap.objs.size) { s with heap := h', toks := tk }) :
    wpAny (model P w) A (call (.type "set") [.ref l]) Q E s := by
  have hisz : items.size = ns.length := by
    have q := IntsAre.length hit
    rwa [Array.length_toList] at q
  obtain ⟨c, tl, hmro⟩ := F.called_set.mro
  have hmade := F.called_set.made
  have hsub := F.called_set.sub
  refine wpAny_call (codeAny_of_tree ?_)
  show wpAny _ _ (callAny (.type "set") _) _ _ _
  refine wpAny_pure ⟨Code.quiet_builtin _ (by decide +kernel), codeAny_builtin F.entry_type_call ?_⟩
  rw [Around.under_plain (weight_type_call_type "set" [.ref l] []) rfl]
  have h1 := F.called_set.notType
  have h2 := F.called_set.canCreate
  have hct := F.typeCall_set_1 (.ref l)
  repeat (any_goals (first | assumption | wp_step))
  refine codeAny_mono (code_set_led1 (.ref l) (E := E) (Q₁ := fun obj s₁ => obj = .ref s.heap.objs.size ∧ s₁ = { s with heap := s.heap.push (freshSet w) }) ⟨rfl, rfl⟩) fun r s₁ hr => ?_
  cases r with
  | error e => exact hr
  | ok fl =>
    cases fl with
    | ret obj =>
      obtain ⟨rfl, rfl⟩ := hr
      have hS : (s.heap.push (freshSet w)).get? s.heap.objs.size = some (freshSet w) := Heap.get?_push_size _ rfl
      have hT : Shared.TypeIs { s with heap := s.heap.push (freshSet w) } (.ref s.heap.objs.size) "set" := ⟨_, hS, rfl⟩
      have hli := F.called_set.init.lookup
      have hbi := F.called_set.init.bind (.ref s.heap.objs.size)
      repeat (any_goals (first | assumption | wp_step))
      refine codeAny_mono (codeAny_call_builtin (R := wants (fun r s₂ => r = .none ∧ ∃ h' tk c, s₂ = { s with heap := h', toks := tk } ∧ SetR w h' s.heap.objs.size (fun j => decide (j ∈ ns)) c ∧ c ≤ ns.length ∧
          (∀ b o, s.heap.get? b = some o → h'.get? b = some o)) E) F.called_set.init.plain F.entry_set_init (check_set_init_1 hT ?_)) fun r₂ s₂ hr₂ => ?_
      · obtain ⟨ol, hol, hcl, nl, hdl⟩ := hl
        obtain ⟨ocls, odict, odata, oslots⟩ := ol
        simp only at hcl hdl
        subst hcl; subst hdl
        have hlS : l < s.heap.objs.size := Heap.lt_size hol
        have hol' : (s.heap.push (freshSet w)).get? l = some { cls := .type "list", dict := odict, data := .seq items nl, slots := oslots } := Heap.get?_push_of_some _ hol
        have hsls := F.sub_list_set
        have hslf := F.sub_list_frozenset
        have hne : (Value.type "list" == Value.type "dict") = false := by decide
        have hl1 : (s.heap.push (freshSet w)).IsList l items := ⟨_, hol', rfl, nl, rfl⟩
        unfold Builtin.«set.__init__» noKeywords Builtin.Frozenset.updateFrom
        generalize hPI : pyIter = PI
        wp_walk
        subst hPI
        refine wpAny_pyIter_list hl1 ?_
        refine wpAny_bind (wpAny_runValue ?_)
        have hh3 : A.in1.in1.in1.handled = none := by simp [hh]
        have hneI : l ≠ (s.heap.push (freshSet w)).objs.size := by
          rw [Heap.size_push]; exact Nat.ne_of_lt (Nat.lt_succ_of_lt hlS)
        have hSf : s.heap.objs.size ∉ [(s.heap.push (freshSet w)).objs.size, l] := by
          rw [Heap.size_push]; simp only [List.mem_cons, List.mem_singleton, List.not_mem_nil, or_false, not_or]
          exact ⟨Nat.ne_of_lt (Nat.lt_succ_self _), Nat.ne_of_gt hlS⟩
        have hval : ∀ (i : Nat) (v : Value), items[i]? = some v → ∃ k t, ns[i]? = some k ∧ v = .int k t := fun i v hv => by
          have hi : i < ns.length := by rw [← hisz]; exact (Array.getElem?_eq_some_iff.mp hv).1
          obtain ⟨t, e⟩ := PyProof.Rows.IntsAre.int_at hit i v (by rw [Array.getElem?_toList]; exact hv)
          refine ⟨ns[i], t, List.getElem?_eq_getElem hi, ?_⟩
          rw [e, List.getD_eq_getElem?_getD, List.getElem?_eq_getElem hi] <;> rfl
        refine set_update_ints ((Walks.list hh3 _ l hneI items).toS) s.heap.objs.size hSf ns hisz hb hval (items.size - 0) 0 _ (by omega) (Nat.zero_le _) ⟨⟨_, Heap.get?_push_size _ rfl, rfl, rfl⟩, (hl1.push _)⟩
          ⟨0, Nat.le_refl 0, setR_new_at (Heap.get?_push_of_some _ hS)⟩ ?hR
        case hR =>
          intro s' c' hm hc' hS'
          obtain ⟨h', g2, d', tk', os'⟩ := s'
          have eg : g2 = s.gens := hm.gens
          have ed : d' = s.drawn := hm.drawn
          have eo : os' = s.os := hm.os
          subst eg; subst ed; subst eo
          show wpAny _ _ _ _ _ _
          refine wpAny_pure ?_
          show wpAny _ _ (ret Value.none) _ _ _
          rw [hisz] at hc'
          refine wpAny_pure ⟨rfl, h', tk', c', rfl, hS', hc', fun b o e => ?_⟩
          have hb0 : b < s.heap.objs.size := Heap.lt_size e
          refine hm.heap b o ?_ (Heap.get?_push_of_some _ (Heap.get?_push_of_some _ e))
          rw [Heap.size_push]
          simp only [List.mem_cons, List.mem_singleton, List.not_mem_nil, or_false, not_or]
          exact ⟨Nat.ne_of_lt hb0, Nat.ne_of_lt (Nat.lt_succ_of_lt hb0)⟩
      · cases r₂ with
        | error e => exact hr₂
        | ok fl₂ =>
          cases fl₂ with
          | ret r =>
            obtain ⟨rfl, h', tk, c', rfl, hS', hc', hk'⟩ := hr₂
            repeat (any_goals (first | assumption | wp_step))
            exact h _ _ _ hS' hc' hk'
          | _ => exact hr₂.elim
    | _ => exact hr.elim
end
def rSetI (K : PySem.W.Frag) (w : World) : List V → Hp → VK → Prop := fun vs H Q => ∃ (a : Addr) (ns : List Int), vs = [V.ref a] ∧ SqL K H a (ns.map V.int) ∧ ns.length ≤ 1000 ∧ ∀ p c, H p = none → c ≤ ns.length → Q (.ref p) (upd H p (SetO w p (fun j => decide (j ∈ ns)) c))
theorem cr_setI {X : Cx} (hc : X.calm = true) : CallR X (.type "set") (rSetI X.K X.w) := by
  intro pins s σ H vs us Q I r h
  obtain ⟨a, ns, rfl, hs, hl, q⟩ := h
  obtain ⟨its, rv, pl, _⟩ := I.list hs
  rw [Vals.ref1 r]
  refine call_set_list ns (I.ok.hd hc) pl.isList (by simpa using rv.ints) (by unfold scanBound; omega) fun h' tk c R hcl hk => ?_
  exact ⟨.ref s.heap.objs.size, _, I.laid (t' := tk) hk (Nat.le_refl _) (setO_new R), rfl, q _ c (I.hok.fresh (Nat.le_refl _)) hcl⟩
end Rl
/-! max(xs, default=d) of a list of ints -/
namespace Rl
open PySem PySem.Spec PyProof.Rows L2
def rMaxD (K : PySem.W.Frag) : List V → List V → Hp → VK → Prop := fun vs zs H Q => ∃ (a : Addr) (ns : List Int) (d : Int), vs = [V.ref a] ∧ zs = [V.int d] ∧ SqL K H a (ns.map V.int) ∧ (ns = [] → Q (.int d) H) ∧ ∀ m, m ∈ ns → (∀ y, y ∈ ns → y ≤ m) → Q (.int m) H
theorem cr_maxD {X : Cx} (hc : X.calm = true) : CallRK X (.builtin "max") [Str.ofString "default"] (rMaxD X.K) := by
  intro pins s σ H vs zs us ws Q I r rz h
  obtain ⟨a, ns, d, rfl, rfl, hs, q0, q⟩ := h
  obtain ⟨its, rv, hl, _⟩ := I.list hs
  rw [Vals.ref1 r]
  obtain ⟨u, rfl, td, rfl⟩ := Vals.one rz
  obtain ⟨xs, e⟩ := rv.ints.allInts.items
  have hn : numsOf (intItems xs).toList = ns := by rw [← e]; exact rv.ints.numsOf
  rw [nums_intItems] at hn
  subst hn
  have hl := hl.isList
  rw [e] at hl
  have hsz : (intItems xs).size = xs.size := by simp [intItems]
  show wpAny _ _ (call (.builtin "max") [.ref a] [(Str.ofString "default", .int d td)]) _ _ s
  refine call_max_walkD (PySem.W.iter_listW (A := X.A.in1) (I.ok.hd hc) hl fun s₂ e W st hfp hw hk => ?_)
  refine ⟨_, _, _, _, _, _, _, s.heap, _, rfl, W, st, hfp, hw, hk, fun hz s' m => ?_, fun hp => ⟨fun i j vi vj s Q E _ hi hj hq => CmpOf.ints_gt (numAt xs) (fun _ _ => intItems_at) i j vi vj s Q E hi hj hq, fun v s' hP m => ?_⟩⟩
  · obtain ⟨h', tk, rfl, hk'⟩ := PySem.W.moved_old e rfl m
    rw [hsz] at hz
    exact ⟨.int d, H, I.kept hk', ⟨td, rfl⟩, q0 (List.eq_nil_of_length_eq_zero (by rw [List.length_map, Array.length_toList]; exact hz))⟩
  · obtain ⟨h', tk, rfl, hk'⟩ := PySem.W.moved_old e rfl m
    rw [hsz] at hP hp
    obtain ⟨t, rfl⟩ := intItems_at hP
    obtain ⟨h1, h2⟩ := argBest_gt (numAt xs) (xs.size - 1)
    refine ⟨.int _, H, I.kept hk', ⟨t, rfl⟩, q _ ?_ fun y hy => ?_⟩
    · rw [numAt_eq]; exact PySem.getD_mem (by rw [List.length_map, Array.length_toList]; omega)
    · obtain ⟨j, hj, rfl⟩ := mem_getD hy
      rw [List.length_map, Array.length_toList] at hj
      rw [← numAt_eq]; exact h2 j (by omega)
end Rl
/-! set(tuple of tuples of ints) -/
namespace Rl
open PySem PySem.Spec PyProof.Rows L2
abbrev freshSetT (w : World) : Obj := { cls := .type "set", dict := none, data := .set #[] 0 (.fresh 0 0 (!w.params.followText "set-order")) }
section
variable {P : Program} {w : World} {A : Around} {E : Value → Shared → Prop} {s : Shared}
theorem call_set_tt {l : Addr} {items : Array Value} (ks : List (Addr × List Int)) {Q : Value → Shared → Prop} (hh : A.handled = none) (hl : s.heap.IsTuple l items) (hit : items.toList = ks.map fun p => Value.ref p.1)
    (hk : ∀ p ∈ ks, IsT P w s.heap p.2 p.1) (hfew : ks.length < 64) (hu : A.units + 3 < cLine)
    (h : ∀ (h' : Heap) (tk : Nat) L es ep t, SetTR P w h' s.heap.objs.size L es ep t → Got ks ks.length L → (∀ b o, s.heap.get? b = some o → h'.get? b = some o) → Q (.ref s.heap.objs.size) { s with heap := h', toks := tk }) :
    wpAny (model P w) A (call (.type "set") [.ref l]) Q E s := by
  have hisz : items.size = ks.length := by
    have q := congrArg List.length hit
    rwa [Array.length_toList, List.length_map] at q
  obtain ⟨c, tl, hmro⟩ := F.called_set.mro
  have hmade := F.called_set.made
  have hsub := F.called_set.sub
  refine wpAny_call (codeAny_of_tree ?_)
  show wpAny _ _ (callAny (.type "set") _) _ _ _
  refine wpAny_pure ⟨Code.quiet_builtin _ (by decide +kernel), codeAny_builtin F.entry_type_call ?_⟩
  rw [Around.under_plain (weight_type_call_type "set" [.ref l] []) rfl]
  have h1 := F.called_set.notType
  have h2 := F.called_set.canCreate
  have hct := F.typeCall_set_1 (.ref l)
  repeat (any_goals (first | assumption | wp_step))
  refine codeAny_mono (code_set_led1 (.ref l) (E := E) (Q₁ := fun obj s₁ => obj = .ref s.heap.objs.size ∧ s₁ = { s with heap := s.heap.push (freshSetT w) }) ⟨rfl, rfl⟩) fun r s₁ hr => ?_
  cases r with
  | error e => exact hr
  | ok fl =>
    cases fl with
    | ret obj =>
      obtain ⟨rfl, rfl⟩ := hr
      have hS : (s.heap.push (freshSetT w)).get? s.heap.objs.size = some (freshSetT w) := Heap.get?_push_size _ rfl
      have hT : Shared.TypeIs { s with heap := s.heap.push (freshSetT w) } (.ref s.heap.objs.size) "set" := ⟨_, hS, rfl⟩
      have hli := F.called_set.init.lookup
      have hbi := F.called_set.init.bind (.ref s.heap.objs.size)
      repeat (any_goals (first | assumption | wp_step))
      refine codeAny_mono (codeAny_call_builtin (R := wants (fun r s₂ => r = .none ∧ ∃ h' tk L es ep t, s₂ = { s with heap := h', toks := tk } ∧ SetTR P w h' s.heap.objs.size L es ep t ∧ Got ks ks.length L ∧
          (∀ b o, s.heap.get? b = some o → h'.get? b = some o)) E) F.called_set.init.plain F.entry_set_init (check_set_init_1 hT ?_)) fun r₂ s₂ hr₂ => ?_
      · obtain ⟨ol, hol, hcl, nl, hdl⟩ := hl
        obtain ⟨ocls, odict, odata, oslots⟩ := ol
        simp only at hcl hdl
        subst hcl; subst hdl
        have hlS : l < s.heap.objs.size := Heap.lt_size hol
        have hol' : (s.heap.push (freshSetT w)).get? l = some { cls := .type "tuple", dict := odict, data := .seq items nl, slots := oslots } := Heap.get?_push_of_some _ hol
        have hsls := F.sub_tuple_set
        have hslf := F.sub_tuple_frozenset
        have hne : (Value.type "tuple" == Value.type "dict") = false := by decide
        have hl1 : (s.heap.push (freshSetT w)).IsTuple l items := ⟨_, hol', rfl, nl, rfl⟩
        unfold Builtin.«set.__init__» noKeywords Builtin.Frozenset.updateFrom
        generalize hPI : pyIter = PI
        wp_walk
        subst hPI
        refine wpAny_pyIter_tuple hl1 ?_
        refine wpAny_bind (wpAny_runValue ?_)
        have hh3 : A.in1.in1.in1.handled = none := by simp [hh]
        have hneI : l ≠ (s.heap.push (freshSetT w)).objs.size := by
          rw [Heap.size_push]; exact Nat.ne_of_lt (Nat.lt_succ_of_lt hlS)
        have hSf : s.heap.objs.size ∉ [(s.heap.push (freshSetT w)).objs.size, l] := by
          rw [Heap.size_push]; simp only [List.mem_cons, List.mem_singleton, List.not_mem_nil, or_false, not_or]
          exact ⟨Nat.ne_of_lt (Nat.lt_succ_self _), Nat.ne_of_gt hlS⟩
        have hval : ∀ (i : Nat) (v : Value), items[i]? = some v → ∃ p, ks[i]? = some p ∧ v = .ref p.1 := fun i v hv => by
          have q : items.toList[i]? = some v := by rw [Array.getElem?_toList]; exact hv
          rw [hit, List.getElem?_map] at q
          cases hq : ks[i]? with
          | none => rw [hq] at q; cases q
          | some p =>
            rw [hq] at q
            exact ⟨p, rfl, (Option.some.inj q).symm⟩
        have none_of : ∀ b, s.heap.objs.size ≤ b → s.heap.get? b = none := fun b hb => by
          cases q : s.heap.get? b with
          | none => rfl
          | some o => exact absurd (Nat.lt_of_lt_of_le (Heap.lt_size q) hb) (Nat.lt_irrefl _)
        refine set_update_tups ((Walks.tuple hh3 _ l hneI items).toS) s.heap.objs.size hSf ks hisz hfew hval s.heap hk (none_of _ (Nat.le_refl _)) (fun b hb => none_of b (by rw [List.mem_singleton.mp hb, Heap.size_push]; exact Nat.le_succ _)) hu (items.size - 0) 0 _ (by omega) (Nat.zero_le _)
          ⟨⟨_, Heap.get?_push_size _ rfl, rfl, rfl⟩, (hl1.push _)⟩ (fun b o e => Heap.get?_push_of_some _ (Heap.get?_push_of_some _ e)) ⟨[], #[], 0, _, setTR_fresh (Heap.get?_push_of_some _ hS), Got.zero ks⟩ ?hR
        case hR =>
          intro s' L es ep t hm hS' g' hkp
          obtain ⟨h', g2, d', tk', os'⟩ := s'
          have eg : g2 = s.gens := hm.gens
          have ed : d' = s.drawn := hm.drawn
          have eo : os' = s.os := hm.os
          subst eg; subst ed; subst eo
          show wpAny _ _ _ _ _ _
          refine wpAny_pure ?_
          show wpAny _ _ (ret Value.none) _ _ _
          rw [hisz] at g'
          exact wpAny_pure ⟨rfl, h', tk', L, es, ep, t, rfl, hS', g', hkp⟩
      · cases r₂ with
        | error e => exact hr₂
        | ok fl₂ =>
          cases fl₂ with
          | ret r =>
            obtain ⟨rfl, h', tk, L, es, ep, t, rfl, hS', g', hk'⟩ := hr₂
            repeat (any_goals (first | assumption | wp_step))
            exact h _ _ _ _ _ _ hS' g' hk'
          | _ => exact hr₂.elim
    | _ => exact hr.elim
end
/-- set(t), t a tuple of tuples of ints -/
def rSetTT (K : PySem.W.Frag) (P : Program) (w : World) : List V → Hp → VK → Prop := fun xs H Q => ∃ (l : Addr) (ks : List (Addr × List Int)), xs = [V.ref l] ∧ SqT K H l (ks.map fun p => V.ref p.1) ∧ (∀ p ∈ ks, SqT K H p.1 (p.2.map V.int)) ∧ ks.length < 64 ∧
  ∀ a L, H a = none → (∀ p ∈ L, p ∈ ks) → (∀ p ∈ ks, p.2 ∈ L.map (·.2)) → Q (.ref a) (upd H a (SetTO P w a L))
theorem cr_setTT {X : Cx} (hc : X.calm = true) (hu : X.A.units + 64 < cLine) : CallR X (.type "set") (rSetTT X.K X.prog X.w) := by
  intro pins s σ H xs us Q I r h
  obtain ⟨l, ks, rfl, hl, hk, hf, q⟩ := h
  rw [Vals.ref1 r]
  obtain ⟨its, rv, pl, hz⟩ := I.tuple hl
  have hn : H s.heap.objs.size = none := I.hok.fresh (Nat.le_refl _)
  refine call_set_tt (P := X.prog) (w := X.w) ks (I.ok.hd hc) pl (by simpa using refs_of_vals rv) (fun p hp => I.isT (hk p hp)) hf (by omega) fun h' tk L es ep t R g k => ?_
  refine ⟨.ref s.heap.objs.size, upd H s.heap.objs.size (SetTO X.prog X.w s.heap.objs.size L), I.laid (t' := tk) k (Nat.le_refl _) (setTO_new R.t0), rfl, q _ L hn (fun p hp => ?_) fun p hp => ?_⟩
  · exact List.mem_of_mem_take (g.sub p hp)
  · exact g.all p (by rw [List.take_length]; exact hp)
end Rl
/-! Words over the layer: pointwise lists, walks, own defs called, comprehensions whose turns make objects. -/
namespace Q
open PySem PySem.Spec PyProof.Rows L2 Evl Rl
/-! ### two lists, place by place -/
def All2 {α β : Type} (F : α → β → Prop) (xs : List α) (ys : List β) : Prop := xs.length = ys.length ∧ ∀ (i : Nat) (x : α) (y : β), xs[i]? = some x → ys[i]? = some y → F x y
section
variable {α β : Type} {F G : α → β → Prop} {xs : List α} {ys : List β} {x : α} {y : β} {i : Nat}
theorem All2.nil : All2 F [] [] := ⟨rfl, fun i x y h => by simp at h⟩
theorem All2.mono (h : All2 F xs ys) (k : ∀ x y, F x y → G x y) : All2 G xs ys := ⟨h.1, fun i x y a b => k x y (h.2 i x y a b)⟩
theorem All2.at (h : All2 F xs ys) (e : xs[i]? = some x) : ∃ y, ys[i]? = some y ∧ F x y := by
  have hi : i < ys.length := by rw [← h.1]; exact (List.getElem?_eq_some_iff.mp e).1
  exact ⟨ys[i], List.getElem?_eq_getElem hi, h.2 i x _ e (List.getElem?_eq_getElem hi)⟩
theorem All2.at' (h : All2 F xs ys) (e : ys[i]? = some y) : ∃ x, xs[i]? = some x ∧ F x y := by
  have hi : i < xs.length := by rw [h.1]; exact (List.getElem?_eq_some_iff.mp e).1
  exact ⟨xs[i], List.getElem?_eq_getElem hi, h.2 i _ y (List.getElem?_eq_getElem hi) e⟩
theorem All2.snoc (h : All2 F xs ys) (k : F x y) : All2 F (xs ++ [x]) (ys ++ [y]) := by
  refine ⟨by rw [List.length_append, List.length_append, h.1]; rfl, fun i a b ha hb => ?_⟩
  by_cases hi : i < xs.length
  · rw [List.getElem?_append_left hi] at ha
    rw [List.getElem?_append_left (by rw [← h.1]; exact hi)] at hb
    exact h.2 i a b ha hb
  · rw [List.getElem?_append_right (Nat.le_of_not_lt hi)] at ha
    rw [List.getElem?_append_right (by rw [← h.1]; exact Nat.le_of_not_lt hi), ← h.1] at hb
    cases e : i - xs.length with
    | zero => rw [e] at ha hb; simp at ha hb; subst ha; subst hb; exact k
    | succ j => rw [e] at ha; simp at ha
theorem All2.take (h : All2 F xs ys) (n : Nat) : All2 F (xs.take n) (ys.take n) := by
  refine ⟨by rw [List.length_take, List.length_take, h.1], fun i a b ha hb => ?_⟩
  rw [List.getElem?_take] at ha hb
  by_cases hi : i < n
  · rw [if_pos hi] at ha hb
    exact h.2 i a b ha hb
  · rw [if_neg hi] at ha
    exact absurd ha (by simp)
theorem All2.of_map {f : β → α} : All2 (fun a b => a = f b) (ys.map f) ys := ⟨by rw [List.length_map], fun i a b ha hb => by
  rw [List.getElem?_map, hb] at ha
  exact (Option.some.inj ha).symm⟩
theorem All2.eq_map {f : β → α} (h : All2 (fun a b => a = f b) xs ys) : xs = ys.map f := by
  refine List.ext_getElem (by rw [List.length_map, h.1]) fun i h1 h2 => ?_
  rw [List.getElem_map]
  exact h.2 i _ _ (List.getElem?_eq_getElem h1) (List.getElem?_eq_getElem (by rw [← h.1]; exact h1))
theorem All2.mem (h : All2 F xs ys) (m : x ∈ xs) : ∃ y, y ∈ ys ∧ F x y := by
  obtain ⟨i, hi, e⟩ := List.getElem_of_mem m
  obtain ⟨y, hy, q⟩ := h.at (i := i) (by rw [List.getElem?_eq_getElem hi, e])
  exact ⟨y, List.mem_of_getElem? hy, q⟩
theorem All2.mem' (h : All2 F xs ys) (m : y ∈ ys) : ∃ x, x ∈ xs ∧ F x y := by
  obtain ⟨i, hi, e⟩ := List.getElem_of_mem m
  obtain ⟨x, hx, q⟩ := h.at' (i := i) (by rw [List.getElem?_eq_getElem hi, e])
  exact ⟨x, List.mem_of_getElem? hx, q⟩
end
theorem take_snoc {α : Type} {l : List α} {i : Nat} {x : α} (h : l[i]? = some x) : l.take (i + 1) = l.take i ++ [x] := take_next h
theorem lt_of_some {α : Type} {l : List α} {i : Nat} {x : α} (h : l[i]? = some x) : i < l.length := (List.getElem?_eq_some_iff.mp h).1
def nV (n : Nat) : V := .int (n : Int)
theorem nV_inj {a b : Nat} (h : nV a = nV b) : a = b := by
  unfold nV at h
  injection h with h
  exact Int.ofNat.inj h
theorem at_nV {l : List Nat} {i : Nat} {x : V} (h : (l.map nV)[i]? = some x) : ∃ n, l[i]? = some n ∧ x = nV n := by
  rw [List.getElem?_map] at h
  cases e : l[i]? with
  | none => rw [e] at h; cases h
  | some n => rw [e] at h; exact ⟨n, rfl, (Option.some.inj h).symm⟩
theorem nV_at {l : List Nat} {i n : Nat} (h : l[i]? = some n) : (l.map nV)[i]? = some (nV n) := by rw [List.getElem?_map, h]; rfl
def toI (l : List Nat) : List Int := l.map fun n : Nat => (n : Int)
theorem nV_map (l : List Nat) : l.map nV = (toI l).map V.int := by unfold toI; rw [List.map_map]; rfl
/-! ### sorted texts stand in one order -/
theorem ltC_irrefl (a : List Nat) : ltCps a a = false := by rw [ltCps_eq]; simp [List.lt_irrefl]
theorem ltC_trans {a b c : List Nat} (h : ltCps a b = true) (k : ltCps b c = true) : ltCps a c = true := by
  rw [ltCps_eq, decide_eq_true_eq] at *
  exact List.lt_trans h k
theorem ltC_tri {a b : List Nat} (h : ltCps b a = false) (ne : a ≠ b) : ltCps a b = true := by
  rw [ltCps_eq, decide_eq_true_eq]
  rw [ltCps_eq, decide_eq_false_iff_not] at h
  exact Classical.byContradiction fun c => ne (List.le_antisymm (by exact h) (by exact c))
def sLt (x y : Str) : Prop := ltCps x.cps.toList y.cps.toList = true
theorem sLt_ne {x y : Str} (h : sLt x y) : x ≠ y := fun e => by
  unfold sLt at h
  rw [e, ltC_irrefl] at h
  cases h
theorem str_ext {x y : Str} (h : x.cps.toList = y.cps.toList) : x = y := by
  obtain ⟨a⟩ := x
  obtain ⟨b⟩ := y
  simp only at h
  congr 1
  exact Array.toList_inj.mp h
theorem rising_lt : ∀ {l : List Str} {p : Str}, risingS p l = true → (p :: l).Nodup → (p :: l).Pairwise sLt
  | [], p, _, _ => by simp
  | x :: r, p, h, hn => by
    have h : (!ltCps x.cps.toList p.cps.toList && risingS x r) = true := h
    rw [Bool.and_eq_true] at h
    obtain ⟨h1, h2⟩ := h
    have h1 : ltCps x.cps.toList p.cps.toList = false := by simpa using h1
    obtain ⟨n1, n2⟩ := List.nodup_cons.mp hn
    have ih := rising_lt h2 n2
    have hpx : sLt p x := ltC_tri h1 fun e => n1 (by rw [str_ext e]; exact List.mem_cons_self)
    refine List.pairwise_cons.mpr ⟨fun y hy => ?_, ih⟩
    rcases List.mem_cons.mp hy with rfl | hy
    · exact hpx
    · exact ltC_trans hpx ((List.pairwise_cons.mp ih).1 y hy)
theorem sorted_lt : ∀ {l : List Str}, sortedS l = true → l.Nodup → l.Pairwise sLt
  | [], _, _ => by simp
  | x :: r, h, hn => rising_lt h hn
theorem asc_uniq {α : Type} {lt : α → α → Prop} (irr : ∀ a, ¬ lt a a) (asy : ∀ a b, lt a b → ¬ lt b a) : ∀ {l m : List α}, l.Pairwise lt → m.Pairwise lt → (∀ x, x ∈ l ↔ x ∈ m) → l = m
  | [], [], _, _, _ => rfl
  | [], b :: m, _, _, h => absurd ((h b).mpr List.mem_cons_self) (by simp)
  | a :: l, [], _, _, h => absurd ((h a).mp List.mem_cons_self) (by simp)
  | a :: l, b :: m, hl, hm, h => by
    obtain ⟨l1, l2⟩ := List.pairwise_cons.mp hl
    obtain ⟨m1, m2⟩ := List.pairwise_cons.mp hm
    have e : a = b := by
      rcases List.mem_cons.mp ((h a).mp List.mem_cons_self) with e | e
      · exact e
      · rcases List.mem_cons.mp ((h b).mpr List.mem_cons_self) with e2 | e2
        · exact e2.symm
        · exact absurd (m1 a e) (asy _ _ (l1 b e2))
    subst e
    congr 1
    refine asc_uniq irr asy l2 m2 fun x => ⟨fun hx => ?_, fun hx => ?_⟩
    · rcases List.mem_cons.mp ((h x).mp (List.mem_cons_of_mem _ hx)) with e | e
      · subst e; exact absurd (l1 x hx) (irr x)
      · exact e
    · rcases List.mem_cons.mp ((h x).mpr (List.mem_cons_of_mem _ hx)) with e | e
      · subst e; exact absurd (m1 x hx) (irr x)
      · exact e
theorem sorted_uniq {l m : List Str} (h1 : sortedS l = true) (h2 : l.Nodup) (h3 : sortedS m = true) (h4 : m.Nodup) (h : ∀ x, x ∈ l ↔ x ∈ m) : l = m :=
  asc_uniq (lt := sLt) (fun a z => by unfold sLt at z; rw [ltC_irrefl] at z; cases z) (fun a b z y => by
    have := ltC_trans z y
    rw [ltC_irrefl] at this
    cases this) (sorted_lt h1 h2) (sorted_lt h3 h4) h
/-! ### what is walked: n turns, each with its item, while base stands -/
structure Wk (J : It) (n : Nat) (base : Hp → Prop) (item : Nat → V → Hp → Prop) : Prop where
  go : ∀ i H, base H → i < n → J.go i H
  stop : ∀ H, base H → J.stop n H
  yld : ∀ i H x H', base H → i < n → J.yld i H x H' → H' = H ∧ item i x H
theorem Wk.list {K : PySem.W.Frag} (a : Addr) (xs : List V) : Wk (Itl K a) xs.length (fun H => SqL K H a xs) (fun i x _ => xs[i]? = some x) where
  go := fun i H b hi => ⟨xs, xs[i], b, List.getElem?_eq_getElem hi⟩
  stop := fun H b => ⟨xs, b, Nat.le_refl _⟩
  yld := fun i H x H' b hi y => ⟨y.1, y.2 xs b⟩
theorem Wk.tup {K : PySem.W.Frag} (a : Addr) (xs : List V) : Wk (Itt K a) xs.length (fun H => SqT K H a xs) (fun i x _ => xs[i]? = some x) where
  go := fun i H b hi => ⟨xs, xs[i], b, List.getElem?_eq_getElem hi⟩
  stop := fun H b => ⟨xs, b, Nat.le_refl _⟩
  yld := fun i H x H' b hi y => ⟨y.1, y.2 xs b⟩
theorem Wk.range (n : Nat) : Wk (Itr 0 n) n (fun _ => True) (fun i x _ => x = nV i) where
  go := fun i H b hi => hi
  stop := fun H b => Nat.le_refl _
  yld := fun i H x H' b hi y => ⟨y.1, by rw [y.2, Int.zero_add] <;> rfl⟩
theorem Wk.rev {K : PySem.W.Frag} (a : Addr) (xs : List V) : Wk (Itv K a xs.length) xs.length (fun H => SqL K H a xs) (fun i x _ => xs[xs.length - 1 - i]? = some x) where
  go := fun i H b hi => ⟨hi, xs, xs[xs.length - 1 - i], b, List.getElem?_eq_getElem (by omega)⟩
  stop := fun H b => Nat.le_refl _
  yld := fun i H x H' b hi y => ⟨y.1, y.2 xs b⟩
theorem Wk.keys (d : Addr) (o : Obj) (kvs : List (Key × V)) : Wk (Itk d o kvs) kvs.length (fun H => H d = some (.frz o (.dK kvs))) (fun i x _ => ∃ k v, kvs[i]? = some (k, v) ∧ x = kV k) where
  go := fun i H b hi => ⟨b, hi⟩
  stop := fun H b => ⟨b, Nat.le_refl _⟩
  yld := fun i H x H' b hi y => y
theorem Wk.keysT (d : Addr) (o : Obj) (kvs : List (List Key × V)) : Wk (Itkt d o kvs) kvs.length (fun H => H d = some (.frz o (.dT kvs))) (fun i x H => ∃ (k : List Key) (v : V) (q : Addr), kvs[i]? = some (k, v) ∧ x = .ref q ∧ H q = some (.tup (k.map kV))) where
  go := fun i H b hi => ⟨b, hi⟩
  stop := fun H b => ⟨b, Nat.le_refl _⟩
  yld := fun i H x H' b hi y => y
section
variable {J : It} {n : Nat} {base : Hp → Prop} {item : Nat → V → Hp → Prop}
/-- a for loop -/
theorem Wk.for_ (w : Wk J n base item) {g : TG} {tb : TS} {D : Ends} {σ : L2.St} {H : Hp} (Pv : Nat → L2.St → Hp → Prop) (h0 : Pv 0 σ H) (hb : ∀ i σ H, i ≤ n → Pv i σ H → base H)
    (hs : ∀ i x σ H, i < n → item i x H → Pv i σ H → g x σ H fun σ2 H2 => tb { D with nx := Pv (i + 1), ct := Pv (i + 1), bk := D.nx } σ2 H2) (hd : ∀ σ H, Pv n σ H → D.nx σ H) :
    ∃ W : Nat → Nat → L2.St → Hp → Prop, (∃ m, W 0 m σ H) ∧ ∀ i m σ H, W i m σ H →
      (J.stop i H ∧ D.nx σ H) ∨ (J.go i H ∧ ∃ N : L2.St → Hp → Prop, (∀ σ' H', N σ' H' → ∃ m', m' < m ∧ W (i + 1) m' σ' H') ∧ ∀ x H', J.yld i H x H' → g x σ H' fun σ2 H2 => tb { D with nx := N, ct := N, bk := D.nx } σ2 H2) := by
  refine ⟨fun i m σ H => m = n - i ∧ i ≤ n ∧ Pv i σ H, ⟨n, rfl, Nat.zero_le _, h0⟩, ?_⟩
  rintro i m σ H ⟨rfl, hi, p⟩
  have b := hb i σ H hi p
  by_cases hlt : i < n
  · refine Or.inr ⟨w.go i H b hlt, Pv (i + 1), fun σ' H' p' => ⟨n - (i + 1), by omega, rfl, hlt, p'⟩, fun x H' y => ?_⟩
    obtain ⟨rfl, it⟩ := w.yld i H x H' b hlt y
    exact hs i x σ _ hlt it p
  · have e : i = n := by omega
    subst e
    exact Or.inl ⟨w.stop H b, hd σ H p⟩
/-- a comprehension, raw: for lists, sets, dicts -/
theorem Wk.comp (w : Wk J n base item) {H0 : Hp} {Qd : Hp → Prop} {step : V → Hp → (Hp → Prop) → Prop} (Pv : Nat → Hp → Prop) (h0 : Pv 0 H0) (hb : ∀ i H, i ≤ n → Pv i H → base H)
    (hs : ∀ i x H, i < n → item i x H → Pv i H → step x H (Pv (i + 1))) (hd : ∀ H, Pv n H → Qd H) :
    ∃ W : Nat → Nat → Hp → Prop, (∃ m, W 0 m H0) ∧ ∀ i m H, W i m H →
      (J.stop i H ∧ Qd H) ∨ (J.go i H ∧ ∃ Nx : Hp → Prop, (∀ H', Nx H' → ∃ m', m' < m ∧ W (i + 1) m' H') ∧ ∀ x H', J.yld i H x H' → step x H' Nx) := by
  refine ⟨fun i m H => m = n - i ∧ i ≤ n ∧ Pv i H, ⟨n, rfl, Nat.zero_le _, h0⟩, ?_⟩
  rintro i m H ⟨rfl, hi, p⟩
  have b := hb i H hi p
  by_cases hlt : i < n
  · refine Or.inr ⟨w.go i H b hlt, Pv (i + 1), fun H' p' => ⟨n - (i + 1), by omega, rfl, hlt, p'⟩, fun x H' y => ?_⟩
    obtain ⟨rfl, it⟩ := w.yld i H x H' b hlt y
    exact hs i x _ hlt it p
  · have e : i = n := by omega
    subst e
    exact Or.inl ⟨w.stop H b, hd H p⟩
/-- what a list comprehension has made of the first n turns -/
def Acc (f : Nat → Bool) (P : Nat → V → Prop) : Nat → List V → Prop
  | 0, ys => ys = []
  | n + 1, ys => if f n = true then ∃ zs y, ys = zs ++ [y] ∧ Acc f P n zs ∧ P n y else Acc f P n ys
theorem Acc.len {f : Nat → Bool} {P : Nat → V → Prop} : ∀ {n : Nat} {ys : List V}, Acc f P n ys → ys.length ≤ n
  | 0, ys, h => by rw [show ys = [] from h]; exact Nat.le_refl _
  | n + 1, ys, h => by
    unfold Acc at h
    split at h
    · obtain ⟨zs, y, rfl, h, _⟩ := h
      have := h.len
      rw [List.length_append]
      show zs.length + 1 ≤ n + 1
      omega
    · exact Nat.le_succ_of_le h.len
theorem Acc.mono {f : Nat → Bool} {P R : Nat → V → Prop} (k : ∀ i y, P i y → R i y) : ∀ {n : Nat} {ys : List V}, Acc f P n ys → Acc f R n ys
  | 0, ys, h => h
  | n + 1, ys, h => by
    unfold Acc at h ⊢
    split at h
    · rename_i e
      rw [if_pos e]
      obtain ⟨zs, y, q, h, p⟩ := h
      exact ⟨zs, y, q, h.mono k, k _ _ p⟩
    · rename_i e
      rw [if_neg e]
      exact h.mono k
/-- nothing is left out -/
theorem Acc.all {f : Nat → Bool} {P : Nat → V → Prop} : ∀ {n : Nat} {ys : List V}, (∀ i, i < n → f i = true) → Acc f P n ys → ys.length = n ∧ ∀ i y, ys[i]? = some y → P i y
  | 0, ys, _, h => by rw [show ys = [] from h]; exact ⟨rfl, fun i y e => by simp at e⟩
  | n + 1, ys, hf, h => by
    unfold Acc at h
    rw [if_pos (hf n (Nat.lt_succ_self n))] at h
    obtain ⟨zs, y, rfl, h, p⟩ := h
    obtain ⟨a, b⟩ := Acc.all (fun i hi => hf i (Nat.lt_succ_of_lt hi)) h
    refine ⟨by rw [List.length_append, a]; rfl, fun i z e => ?_⟩
    by_cases hi : i < zs.length
    · rw [List.getElem?_append_left hi] at e
      exact b i z e
    · rw [List.getElem?_append_right (Nat.le_of_not_lt hi)] at e
      cases q : i - zs.length with
      | zero =>
        rw [q] at e
        have : z = y := by simpa using e.symm
        have : i = n := by omega
        subst this
        rw [‹z = y›]; exact p
      | succ j => rw [q] at e; simp at e
/-- each turn that is kept has a fixed value -/
theorem Acc.given {f : Nat → Bool} {v : Nat → V} : ∀ {n : Nat} {ys : List V}, Acc f (fun i y => y = v i) n ys → ys = given n f v
  | 0, ys, h => h
  | n + 1, ys, h => by
    unfold Acc at h
    split at h
    · rename_i e
      obtain ⟨zs, y, rfl, h, rfl⟩ := h
      rw [given_yes e, h.given]
    · rename_i e
      rw [given_no (by simpa using e)]
      exact h.given
/-- all but what stands at D stands -/
def Sb (D : Addr) (H H' : Hp) : Prop := ∀ b o, b ≠ D → H b = some o → H' b = some o
/-- a list comprehension whose turns make objects: P D i y H, what is true of turn i's item -/
theorem Wk.lc (w : Wk J n base item) {g : TG} {tt : TT} {te : TE} {vs : List Nat} {σ : L2.St} {H1 : Hp} {D : Addr} {Qd : Hp → Prop} (f : Nat → Bool) (P : Nat → V → Hp → Prop) (hD : H1 D = none) (hn : n ≤ 40000)
    (hb0 : base H1) (hb : ∀ H H', Ex H H' → base H → base H') (hst : ∀ i y H H', i < n → P i y H → Sb D H H' → P i y H')
    (hs : ∀ i x H (yes : V → Hp → Prop) (no : Hp → Prop), i < n → Ex H1 H → (∃ acc, H D = some (.lst acc)) → item i x H → (f i = true → ∀ y H4, Ex H H4 → P i y H4 → yes y H4) → (f i = false → ∀ H4, Ex H H4 → no H4) →
      g x (wipe σ vs) H fun σ2 H2 => wipe σ2 vs = wipe σ vs ∧ tt σ2 H2 fun b H3 => if b = true then te σ2 H3 yes else no H3)
    (hd : ∀ ys H', Ex H1 H' → H' D = some (.lst ys) → Acc f (fun i y => P i y H') n ys → Qd H') :
    ∃ W : Nat → Nat → Hp → Prop, (∃ m, W 0 m (upd H1 D (.lst []))) ∧ ∀ i m H, W i m H →
      (J.stop i H ∧ Qd H) ∨ (J.go i H ∧ ∃ Nx : Hp → Prop, (∀ H', Nx H' → ∃ m', m' < m ∧ W (i + 1) m' H') ∧ ∀ x H', J.yld i H x H' → g x (wipe σ vs) H' fun σ2 H2 => wipe σ2 vs = wipe σ vs ∧ tt σ2 H2 fun b H3 =>
        if b = true then te σ2 H3 fun y H4 => ∃ acc, H4 D = some (.lst acc) ∧ acc.length < sizeLine ∧ Nx (upd H4 D (.lst (acc ++ [y]))) else Nx H3) := by
  have accSt : ∀ (k : Nat) ys H H', k ≤ n → Sb D H H' → Acc f (fun i y => P i y H) k ys → Acc f (fun i y => P i y H') k ys := by
    intro k
    induction k with
    | zero => exact fun ys H H' _ _ h => h
    | succ k ih =>
      intro ys H H' hk s h
      unfold Acc at h ⊢
      split at h
      · rename_i e
        rw [if_pos e]
        obtain ⟨zs, y, q, h, p⟩ := h
        exact ⟨zs, y, q, ih zs H H' (by omega) s h, hst k y H H' (by omega) p s⟩
      · rename_i e
        rw [if_neg e]
        exact ih ys H H' (by omega) s h
  refine w.comp (fun i H => Ex H1 H ∧ ∃ ys, H D = some (.lst ys) ∧ Acc f (fun i y => P i y H) i ys) ⟨Ex.new hD, [], upd_same, rfl⟩ (fun i H _ p => hb _ _ p.1 hb0) ?_ (fun H p => ?_)
  · rintro i x H hi it ⟨e1, ys, hy, ha⟩
    have hl := ha.len
    refine hs i x H _ _ hi e1 ⟨ys, hy⟩ it (fun hf y H4 e4 p => ⟨ys, e4 D _ hy, sz_lt (by omega), Ex.mut (e1.trans e4) hD, ys ++ [y], upd_same, ?_⟩) (fun hf H4 e4 => ⟨e1.trans e4, ys, e4 D _ hy, ?_⟩)
    · have s5 : Sb D H4 (upd H4 D (.lst (ys ++ [y]))) := fun b o hne e => by rw [upd_ne hne]; exact e
      unfold Acc
      rw [if_pos hf]
      exact ⟨ys, y, rfl, accSt i _ _ _ (Nat.le_of_lt hi) (fun b o hne e => s5 b o hne (e4 b o e)) ha, hst i y _ _ hi p s5⟩
    · unfold Acc
      rw [if_neg (by rw [hf]; exact Bool.false_ne_true)]
      exact accSt i _ _ _ (Nat.le_of_lt hi) (fun b o _ e => e4 b o e) ha
  · obtain ⟨e1, ys, hy, ha⟩ := p
    exact hd ys H e1 hy ha
end
/-! ### own defs, methods, classes, told without their places -/
section
variable (P : Program) (w : World) (K : PySem.W.Frag) (mg : Str → Option Value) (base : Heap)
structure Cal (CX : CXT) (k : Nat) (x : Str) (ps : List Str) (sp : Sp) : Prop where
  ex : ∃ (f : Addr) (fd : FuncData), FnOk P w K mg base CX k f fd ps sp ∧ mg x = some (.ref f) ∧ PySem.W.keepIn K (.ref f) = true ∧ Binds K fd ps []
structure Mth (C : Addr) (k : Nat) (m : Str) (ps : List Str) (sp : Sp) : Prop where
  ex : ∃ (f : Addr) (fd : FuncData), FnOk P w K mg base CX0 k f fd ps sp ∧ Meth K C m f ∧ Binds K fd ps []
structure Mak (C : Addr) (k : Nat) (x : Str) (ps : List Str) (sp : Sp) : Prop where
  ex : ∃ (f : Addr) (fd : FuncData), FnOk P w K mg base CX0 k f fd ps sp ∧ Mk K C f ∧ Binds K fd ps [] ∧ mg x = some (.ref C)
end
section
variable {X : Cx} {CX : CXT} {k : Nat} {C : Addr} {x m : Str} {ps : List Str} {sp : Sp} {p pos apos : Pos} {e o : Expr} {es : List Expr} {ta : TE} {t : TA}
theorem pe_own (c : Cal X.prog X.w X.K X.mg X.base CX0 k x ps sp) (hr : Room k X.A) (hg : Gl X x) (ha : PA X (e :: es) t) (hdb : (x == ("__debug__" : Str)) = false := by decide)
    (he : starEach (e :: es) X.env = (false, eval e X.env) :: starEach es X.env := by rfl) (hpl : (backTo pos (starEach es X.env)).any (·.1) = false := by rfl) : PE X (.Call (.Name x p) (e :: es) [] pos) (tCall sp [] E0 t) := by
  obtain ⟨f, fd, F, hm, hk, hb⟩ := c.ex
  exact pe_call F hr hg hm hk hb .nil pass0 ha hdb he hpl
theorem pe_own0 (c : Cal X.prog X.w X.K X.mg X.base CX0 k x ps sp) (hr : Room k X.A) (hg : Gl X x) (hdb : (x == ("__debug__" : Str)) = false := by decide) : PE X (.Call (.Name x p) [] [] pos) (tCall sp [] E0 tNil) := by
  obtain ⟨f, fd, F, hm, hk, hb⟩ := c.ex
  exact pe_call0 F hr hg hm hk hb .nil pass0 hdb
theorem pe_mth (c : Mth X.prog X.w X.K X.mg X.base C k m ps sp) (cl : Cls X.K C) (hr : Room k X.A) (he : PE X o ta) (ha : PA X (e :: es) t) {pl : Sem Bool} (hst : starEach (e :: es) X.env = (false, eval e X.env) :: starEach es X.env := by rfl) (hpl : (backTo pos (starEach es X.env)).any (·.1) = false := by rfl)
    (ht : eval (.Call (.Attribute o m apos) (e :: es) [] pos) X.env = (do
      let ov ← eval o X.env
      standAt apos.atName
      let (f, first) ← holding [ov] (getMethod ov m pl)
      callWith pos f first (backTo pos (starEach (e :: es) X.env)) (backToKw pos (keywordEach [] X.env))) := by rfl) :
    PE X (.Call (.Attribute o m apos) (e :: es) [] pos) (tMeth C m sp [] E0 ta t) := by
  obtain ⟨f, fd, F, hm, hb⟩ := c.ex
  exact pe_meth he cl hm F hr hb .nil pass0 ha hst hpl ht
theorem pe_mth0 (c : Mth X.prog X.w X.K X.mg X.base C k m ps sp) (cl : Cls X.K C) (hr : Room k X.A) (he : PE X o ta) {pl : Sem Bool}
    (ht : eval (.Call (.Attribute o m apos) [] [] pos) X.env = (do
      let ov ← eval o X.env
      standAt apos.atName
      let (f, first) ← holding [ov] (getMethod ov m pl)
      callWith pos f first (backTo pos (starEach [] X.env)) (backToKw pos (keywordEach [] X.env))) := by rfl) :
    PE X (.Call (.Attribute o m apos) [] [] pos) (tMeth C m sp [] E0 ta tNil) := by
  obtain ⟨f, fd, F, hm, hb⟩ := c.ex
  exact pe_meth0 he cl hm F hr hb .nil pass0 ht
theorem pe_mak (c : Mak X.prog X.w X.K X.mg X.base C k x ps sp) (hr : Room (k + 1) X.A) (hg : Gl X x) (ha : PA X (e :: es) t) (hdb : (x == ("__debug__" : Str)) = false := by decide)
    (he : starEach (e :: es) X.env = (false, eval e X.env) :: starEach es X.env := by rfl) (hpl : (backTo pos (starEach es X.env)).any (·.1) = false := by rfl) : PE X (.Call (.Name x p) (e :: es) [] pos) (tMake C sp [] E0 t) := by
  obtain ⟨f, fd, F, M, hb, hm⟩ := c.ex
  exact pe_make M F hr hg hm hb .nil pass0 ha hdb he hpl
end
end Q
/-! The text by places, what the top has written, how the data lie in the heap. -/
namespace Q
open PySem PySem.Spec PyProof.Rows L2 Evl Rl Bi
def top (i : Nat) : Stmt := PySem.Challenge.pw_elsewhere_k27_whole_bisimulations.main.body.getD i (.Pass ⟨0, 0, 0, 0⟩)
abbrev s_neg : Stmt := top 6
abbrev s_verum : Stmt := top 7
abbrev s_dia : Stmt := top 8
abbrev s_joined_by : Stmt := top 9
abbrev s_conjunction : Stmt := top 10
abbrev s_parts : Stmt := top 11
abbrev s_modal_depth : Stmt := top 12
abbrev s_is_world : Stmt := top 14
abbrev s_is_frame : Stmt := top 15
abbrev s_minit : Stmt := inClass (top 17) 0
abbrev s_frame : Stmt := inClass (top 17) 1
abbrev s_true_worlds : Stmt := inClass (top 17) 2
abbrev s_seen : Stmt := inClass (top 17) 3
abbrev s_worlds_of : Stmt := top 18
abbrev s_evaluated : Stmt := top 19
abbrev s_truth : Stmt := top 20
abbrev s_disjoint : Stmt := top 21
abbrev s_names_at : Stmt := top 23
abbrev s_rinit : Stmt := inClass (top 24) 0
abbrev s_is_told : Stmt := inClass (top 24) 1
abbrev s_left_witness : Stmt := inClass (top 24) 2
abbrev s_right_witness : Stmt := inClass (top 24) 3
abbrev s_early : Stmt := inClass (top 24) 4
abbrev s_formula : Stmt := inClass (top 24) 5
abbrev s_greatest : Stmt := top 25
abbrev s_class_of : Stmt := top 26
abbrev s_smallest : Stmt := top 27
abbrev s_round_of : Stmt := top 28
abbrev s_telling : Stmt := top 29
abbrev s_pool : Stmt := top 31
abbrev s_spread : Stmt := top 32
abbrev s_draw : Stmt := top 33
abbrev s_closed : Stmt := top 34
abbrev s_model : Stmt := top 35
abbrev s_list : Stmt := top 36
abbrev s_drawn_model : Stmt := top 37
abbrev s_wide_model : Stmt := top 38
abbrev s_program_model : Stmt := top 39
abbrev s_names : Stmt := top 40
abbrev s_any_model : Stmt := top 41
abbrev s_twisted : Stmt := top 42
abbrev s_grid : Stmt := top 43
abbrev s_framed : Stmt := top 44
abbrev s_law : Stmt := top 45
/-- what the top has written: no builtin's name is taken; FALSUM; the classes -/
structure Tx (K : PySem.W.Frag) (mg : Str → Option Value) (CM CR aF : Addr) : Prop where
  cM : Cls K CM
  cR : Cls K CR
  m_frame : NoAttr K CM "_frame"
  m_seen : NoAttr K CM "_seen"
  m_values : NoAttr K CM "_values"
  r_first : NoAttr K CR "first"
  r_second : NoAttr K CR "second"
  r_found : NoAttr K CR "found"
  gF : mg "FALSUM" = some (.ref aF)
  fF : ∀ H, SqT K H aF [.str "falsum"]
  n_len : mg "len" = none
  n_reversed : mg "reversed" = none
  n_int : mg "int" = none
  n_max : mg "max" = none
  n_min : mg "min" = none
  n_isinstance : mg "isinstance" = none
  n_bool : mg "bool" = none
  n_list : mg "list" = none
  n_sorted : mg "sorted" = none
  n_set : mg "set" = none
  n_tuple : mg "tuple" = none
  n_range : mg "range" = none
/-- what is given back: a value of which P holds, all that stood stands -/
def Ret (H : Hp) (P : V → Hp → Prop) (Q : VK) : Prop := ∀ v H', Ex H H' → P v H' → Q v H'
/-! ### formulas in the heap -/
def FmAt (K : PySem.W.Frag) (H : Hp) : Fm Str → V → Prop
  | .var x, v => ∃ a, v = .ref a ∧ SqT K H a [.str "var", .str x]
  | .fals, v => ∃ a, v = .ref a ∧ SqT K H a [.str "falsum"]
  | .imp p q, v => ∃ a x y, v = .ref a ∧ SqT K H a [.str "implies", x, y] ∧ FmAt K H p x ∧ FmAt K H q y
  | .and p q, v => ∃ a x y, v = .ref a ∧ SqT K H a [.str "and", x, y] ∧ FmAt K H p x ∧ FmAt K H q y
  | .box p, v => ∃ a x, v = .ref a ∧ SqT K H a [.str "box", x] ∧ FmAt K H p x
theorem FmAt.mono {K : PySem.W.Frag} {H H' : Hp} (e : Ex H H') : ∀ {φ : Fm Str} {v : V}, FmAt K H φ v → FmAt K H' φ v
  | .var x, v, ⟨a, h1, h2⟩ => ⟨a, h1, ex_t e h2⟩
  | .fals, v, ⟨a, h1, h2⟩ => ⟨a, h1, ex_t e h2⟩
  | .imp p q, v, ⟨a, x, y, h1, h2, h3, h4⟩ => ⟨a, x, y, h1, ex_t e h2, h3.mono e, h4.mono e⟩
  | .and p q, v, ⟨a, x, y, h1, h2, h3, h4⟩ => ⟨a, x, y, h1, ex_t e h2, h3.mono e, h4.mono e⟩
  | .box p, v, ⟨a, x, h1, h2, h3⟩ => ⟨a, x, h1, ex_t e h2, h3.mono e⟩
def partsOf : Fm Str → List (Fm Str)
  | .var _ => []
  | .fals => []
  | .imp p q => [p, q]
  | .and p q => [p, q]
  | .box p => [p]
/-- a list of formulas -/
def FmL (K : PySem.W.Frag) (H : Hp) (l : Addr) (fs : List (Fm Str)) : Prop := ∃ xs, SqL K H l xs ∧ All2 (fun x φ => FmAt K H φ x) xs fs
/-! ### promises -/
def spNeg (K : PySem.W.Frag) : Sp := fun vs H Q _ => ∃ (φ : Fm Str) (v : V), vs = [v] ∧ FmAt K H φ v ∧ Ret H (fun u H' => FmAt K H' (Bi.neg φ) u) Q
def spVerum (K : PySem.W.Frag) : Sp := fun vs H Q _ => vs = [] ∧ Ret H (fun u H' => FmAt K H' Bi.verum u) Q
def spDia (K : PySem.W.Frag) : Sp := fun vs H Q _ => ∃ (φ : Fm Str) (v : V), vs = [v] ∧ FmAt K H φ v ∧ Ret H (fun u H' => FmAt K H' (Bi.dia φ) u) Q
def spJoin (K : PySem.W.Frag) : Sp := fun vs H Q _ => ∃ (l : Addr) (e : V) (fs : List (Fm Str)), vs = [.str "and", .ref l, e] ∧ FmL K H l fs ∧ fs.length ≤ 1000 ∧ FmAt K H Bi.verum e ∧ Ret H (fun u H' => FmAt K H' (Bi.conj fs) u) Q
def spConj (K : PySem.W.Frag) : Sp := fun vs H Q _ => ∃ (l : Addr) (fs : List (Fm Str)), vs = [.ref l] ∧ FmL K H l fs ∧ fs.length ≤ 1000 ∧ Ret H (fun u H' => FmAt K H' (Bi.conj fs) u) Q
def spParts (K : PySem.W.Frag) : Sp := fun vs H Q _ => ∃ (φ : Fm Str) (v : V), vs = [v] ∧ FmAt K H φ v ∧ Ret H (fun u H' => ∃ p xs, u = .ref p ∧ SqT K H' p xs ∧ All2 (fun x ψ => FmAt K H' ψ x) xs (partsOf φ)) Q
def spMd (K : PySem.W.Frag) (h : Nat) : Sp := fun vs H Q _ => ∃ (φ : Fm Str) (v : V), vs = [v] ∧ FmAt K H φ v ∧ φ.ht ≤ h ∧ Ret H (fun u _ => u = nV φ.md) Q
end Q
namespace Q
open PySem PySem.Spec PyProof.Rows L2 Evl Rl Bi
section
variable {P : Program} {w : World} {K : PySem.W.Frag} {mg : Str → Option Value} {base : Heap} {CM CR aF : Addr}
abbrev N_neg : List Str := ["a"]
theorem sc_neg : FnScope N_neg ["a"] (defScope s_neg) := ⟨rfl, rfl, rfl, by decide +kernel, rfl, by decide +kernel, by decide +kernel⟩
theorem ok_neg {f : Addr} {fd : FuncData} (F : Fun K "neg" "neg" s_neg f fd) (T : Tx K mg CM CR aF) : FnOk P w K mg base CX0 1 f fd ["a"] (spNeg K) := by
  refine F.ok sc_neg (fun vs H Q E h => ?_) (fun cdv A outer s H vs Q E hr h => ?_)
  · obtain ⟨_, _, rfl, _⟩ := h
    rfl
  · obtain ⟨φ, v, rfl, hφ, k⟩ := h
    refine ⟨_, (pss_one (ps_ret (pe_tup (pa_cons pe_str (pa_cons (pv 0) (pa_cons (pe_glob (v := .ref aF) rfl T.gF rfl) pa_nil)))))), ?_⟩
    refine ⟨_, rfl, (by show 3 ≤ sizeLine; decide), fun p hp => k _ _ (Ex.new hp) ⟨p, _, _, rfl, st_of upd_same, hφ.mono (Ex.new hp), aF, rfl, T.fF _⟩⟩
abbrev N_verum : List Str := []
theorem sc_verum : FnScope N_verum [] (defScope s_verum) := ⟨rfl, rfl, rfl, by decide +kernel, rfl, by decide +kernel, by decide +kernel⟩
theorem ok_verum {f : Addr} {fd : FuncData} (F : Fun K "verum" "verum" s_verum f fd) (T : Tx K mg CM CR aF) (c_neg : Cal P w K mg base CX0 1 "neg" ["a"] (spNeg K)) : FnOk P w K mg base CX0 2 f fd [] (spVerum K) := by
  refine F.ok sc_verum (fun vs H Q E h => ?_) (fun cdv A outer s H vs Q E hr h => ?_)
  · obtain ⟨rfl, _⟩ := h
    rfl
  · obtain ⟨rfl, k⟩ := h
    refine ⟨_, (pss_one (ps_ret (pe_own c_neg (hr.mono (by omega)) rfl (pa_cons (pe_glob (v := .ref aF) rfl T.gF rfl) pa_nil)))), ?_⟩
    exact ⟨.fals, _, rfl, ⟨aF, rfl, T.fF _⟩, k⟩
abbrev N_dia : List Str := ["a"]
theorem sc_dia : FnScope N_dia ["a"] (defScope s_dia) := ⟨rfl, rfl, rfl, by decide +kernel, rfl, by decide +kernel, by decide +kernel⟩
theorem ok_dia {f : Addr} {fd : FuncData} (F : Fun K "dia" "dia" s_dia f fd) (T : Tx K mg CM CR aF) (c_neg : Cal P w K mg base CX0 1 "neg" ["a"] (spNeg K)) : FnOk P w K mg base CX0 2 f fd ["a"] (spDia K) := by
  refine F.ok sc_dia (fun vs H Q E h => ?_) (fun cdv A outer s H vs Q E hr h => ?_)
  · obtain ⟨_, _, rfl, _⟩ := h
    rfl
  · obtain ⟨φ, v, rfl, hφ, k⟩ := h
    refine ⟨_, (pss_one (ps_ret (pe_own c_neg (hr.mono (by omega)) rfl (pa_cons (pe_tup (pa_cons pe_str (pa_cons (pe_own c_neg (hr.mono (by omega)) rfl (pa_cons (pv 0) pa_nil)) pa_nil))) pa_nil)))), ?_⟩
    refine ⟨_, rfl, φ, v, rfl, hφ, fun u H1 e1 h1 => ⟨(by show 2 ≤ sizeLine; decide), fun p hp => ?_⟩⟩
    refine ⟨.box (Bi.neg φ), _, rfl, ⟨p, u, rfl, st_of upd_same, h1.mono (Ex.new hp)⟩, fun u2 H2 e2 h2 => k u2 H2 ((e1.trans (Ex.new hp)).trans e2) h2⟩
abbrev N_joined_by : List Str := ["tag", "formulas", "empty", "result", "a"]
theorem sc_joined_by : FnScope N_joined_by ["tag", "formulas", "empty"] (defScope s_joined_by) := ⟨rfl, rfl, rfl, by decide +kernel, rfl, by decide +kernel, by decide +kernel⟩
theorem conj_drop {fs : List (Fm Str)} {i : Nat} {φ : Fm Str} (h : fs[i]? = some φ) (hi : i + 1 < fs.length) : Bi.conj (fs.drop i) = .and φ (Bi.conj (fs.drop (i + 1))) := by
  obtain ⟨h1, e⟩ := List.getElem?_eq_some_iff.mp h
  rw [List.drop_eq_getElem_cons h1, e]
  cases q : fs.drop (i + 1) with
  | nil => have := congrArg List.length q; rw [List.length_drop] at this; simp at this; omega
  | cons a r => rfl
theorem conj_last {fs : List (Fm Str)} {i : Nat} {φ : Fm Str} (h : fs[i]? = some φ) (hi : i + 1 = fs.length) : Bi.conj (fs.drop i) = φ := by
  obtain ⟨h1, e⟩ := List.getElem?_eq_some_iff.mp h
  rw [List.drop_eq_getElem_cons h1, e, List.drop_eq_nil_of_le (by omega)]
  rfl
theorem ok_joined_by {f : Addr} {fd : FuncData} (F : Fun K "joined_by" "joined_by" s_joined_by f fd) (T : Tx K mg CM CR aF) : FnOk P w K mg base CX0 1 f fd ["tag", "formulas", "empty"] (spJoin K) := by
  refine F.ok sc_joined_by (fun vs H Q E h => ?_) (fun cdv A outer s H vs Q E hr h => ?_)
  · obtain ⟨_, _, _, rfl, _⟩ := h
    rfl
  · obtain ⟨l, e, fs, rfl, ⟨xs, hl, ha⟩, hz, he, k⟩ := h
    refine ⟨_, (pss_cons (ps_if (pt_cmpR op_eq (pe_callB call_len_seq rfl T.n_len boot_len (pa_cons (pv 1) pa_nil)) pe_int (nomark _))
      (pss_one (ps_ret (pv 2)))
      pss_nil)
      (pss_cons (ps_set (i := 3) sc_joined_by.nd rfl (Or.inl rfl) (pe_ix ix_list (pv 1) (pe_un un_neg pe_int) (fun _ _ => rfl)))
      (pss_cons (ps_for PassesOwn.never rfl (pi_reversed rfl T.n_reversed (pa_cons (pe_slice sl_list (pv 1) po_none (po_some (pe_un un_neg pe_int))) pa_nil)) (pg_name (i := 4) sc_joined_by.nd rfl (Or.inl rfl))
      (pss_one (ps_set (i := 3) sc_joined_by.nd rfl (Or.inl rfl) (pe_tup (pa_cons (pv 0) (pa_cons (pv 4) (pa_cons (pv 3) pa_nil)))))))
      (pss_one (ps_ret (pv 3)))))), ?_⟩
    have hlen : xs.length = fs.length := ha.1
    refine ⟨_, rfl, l, xs, rfl, Or.inl hl, rfl, _, rfl, ?_⟩
    refine ite2 (fun c => ?_) (fun c => ?_)
    · have e0 : xs.length = 0 := by
        have c := of_decide_eq_true c
        injection c with c
        omega
      have ef : fs = [] := List.eq_nil_of_length_eq_zero (by omega)
      refine ⟨_, rfl, ?_⟩
      rw [ef] at k
      exact k _ _ (Ex.refl _) he
    · have n0 : 0 < xs.length := by
        rcases Nat.eq_zero_or_pos xs.length with z | z
        · exact absurd (decide_eq_true (by rw [z]; rfl)) c
        · exact z
      obtain ⟨x, hx⟩ : ∃ x, xs[xs.length - 1]? = some x := ⟨_, List.getElem?_eq_getElem (by omega)⟩
      obtain ⟨φ, hφ, fx⟩ := ha.at hx
      have hat : atI xs (-1) = some x := by
        unfold atI ixN
        rw [if_neg (by omega), if_pos (by omega)]
        show xs[((-1 : Int) + (xs.length : Int)).toNat]? = some x
        rw [show ((-1 : Int) + (xs.length : Int)).toNat = xs.length - 1 by omega]
        exact hx
      refine ⟨_, rfl, _, rfl, l, xs, _, x, rfl, rfl, hl, hat, ?_⟩
      refine ⟨_, rfl, _, rfl, _, rfl, l, xs, rfl, hl, fun p hp => ?_⟩
      have hcut : cutV xs none (some (-1)) = xs.take (xs.length - 1) := by
        unfold cutV HT.sIx
        show (xs.drop 0).take ((if (-1 : Int) < 0 then ((-1 : Int) + (xs.length : Int)).toNat else min (-1 : Int).toNat xs.length) - 0) = _
        rw [if_pos (by omega), List.drop_zero, show ((-1 : Int) + (xs.length : Int)).toNat = xs.length - 1 by omega, Nat.sub_zero]
      have hcl : (cutV xs none (some (-1))).length = xs.length - 1 := by rw [hcut, List.length_take]; omega
      refine ⟨p, cutV xs none (some (-1)), rfl, sq_of upd_same, ?_⟩
      refine Wk.for_ (Wk.rev p (cutV xs none (some (-1)))) (fun i σ H2 => ∃ (r : V) (z : Option V), σ = [some (.str "and"), some (.ref l), some e, some r, z] ∧ Ex (upd H p (.lst (cutV xs none (some (-1))))) H2 ∧ FmAt K H2 (Bi.conj (fs.drop (xs.length - 1 - i))) r)
        ⟨x, none, rfl, Ex.refl _, ?_⟩ (fun i σ H2 _ ⟨_, _, _, e2, _⟩ => sq_of (e2 p _ upd_same)) ?_ ?_
      · rw [conj_last (i := xs.length - 1 - 0) (by rw [Nat.sub_zero]; exact hφ) (by omega)]
        exact fx.mono (Ex.new hp)
      · rintro i y σ H2 hi hy ⟨r, z, rfl, e2, hr2⟩
        rw [hcl] at hi hy
        have hy' : xs[xs.length - 1 - 1 - i]? = some y := by
          rw [hcut, List.getElem?_take, if_pos (by omega)] at hy
          exact hy
        obtain ⟨ψ, hψ, fy⟩ := ha.at hy'
        refine ⟨_, rfl, _, rfl, _, rfl, (by show 3 ≤ sizeLine; decide), fun q hq => ?_⟩
        refine ⟨.ref q, _, rfl, e2.trans (Ex.new hq), ?_⟩
        have e3 : xs.length - 1 - (i + 1) = xs.length - 1 - 1 - i := by omega
        rw [e3, conj_drop hψ (by omega), show xs.length - 1 - 1 - i + 1 = xs.length - 1 - i by omega]
        exact ⟨q, _, _, rfl, st_of upd_same, fy.mono (((Ex.new hp).trans e2).trans (Ex.new hq)), hr2.mono (Ex.new hq)⟩
      · rintro σ H2 ⟨r, z, rfl, e2, hr2⟩
        rw [hcl, show xs.length - 1 - (xs.length - 1) = 0 by omega, List.drop_zero] at hr2
        exact ⟨_, rfl, k _ _ ((Ex.new hp).trans e2) hr2⟩
abbrev N_conjunction : List Str := ["formulas"]
theorem sc_conjunction : FnScope N_conjunction ["formulas"] (defScope s_conjunction) := ⟨rfl, rfl, rfl, by decide +kernel, rfl, by decide +kernel, by decide +kernel⟩
theorem FmL.mono {H H' : Hp} {l : Addr} {fs : List (Fm Str)} (e : Ex H H') (h : FmL K H l fs) : FmL K H' l fs := by
  obtain ⟨xs, h1, h2⟩ := h
  exact ⟨xs, ex_l e h1, h2.mono fun _ _ z => z.mono e⟩
theorem ok_conjunction {f : Addr} {fd : FuncData} (F : Fun K "conjunction" "conjunction" s_conjunction f fd) (c_verum : Cal P w K mg base CX0 2 "verum" [] (spVerum K)) (c_joined_by : Cal P w K mg base CX0 1 "joined_by" ["tag", "formulas", "empty"] (spJoin K)) :
    FnOk P w K mg base CX0 3 f fd ["formulas"] (spConj K) := by
  refine F.ok sc_conjunction (fun vs H Q E h => ?_) (fun cdv A outer s H vs Q E hr h => ?_)
  · obtain ⟨_, _, rfl, _⟩ := h
    rfl
  · obtain ⟨l, fs, rfl, hf, hz, k⟩ := h
    refine ⟨_, (pss_one (ps_ret (pe_own c_joined_by (hr.mono (by omega)) rfl (pa_cons pe_str (pa_cons (pv 0) (pa_cons (pe_own0 c_verum (hr.mono (by omega)) rfl) pa_nil)))))), ?_⟩
    refine ⟨_, rfl, rfl, fun u H1 e1 h1 => ?_⟩
    exact ⟨l, u, fs, rfl, hf.mono e1, hz, h1, fun u2 H2 e2 h2 => k u2 H2 (e1.trans e2) h2⟩
abbrev N_parts : List Str := ["a"]
theorem sc_parts : FnScope N_parts ["a"] (defScope s_parts) := ⟨rfl, rfl, rfl, by decide +kernel, rfl, by decide +kernel, by decide +kernel⟩
/-- a formula's tuple: its tag, then its parts -/
theorem FmAt.open_ {H : Hp} {φ : Fm Str} {v : V} (h : FmAt K H φ v) : ∃ (a : Addr) (t : Str) (xs : List V), v = .ref a ∧ SqT K H a (.str t :: xs) ∧
    ((inV (.str t) [.str "var", .str "falsum"] = true ∧ partsOf φ = []) ∨ (inV (.str t) [.str "var", .str "falsum"] = false ∧ xs ≠ [] ∧ All2 (fun x ψ => FmAt K H ψ x) xs (partsOf φ))) := by
  cases φ with
  | var x => obtain ⟨a, h1, h2⟩ := h; exact ⟨a, _, _, h1, h2, Or.inl ⟨by decide +kernel, rfl⟩⟩
  | fals => obtain ⟨a, h1, h2⟩ := h; exact ⟨a, _, _, h1, h2, Or.inl ⟨by decide +kernel, rfl⟩⟩
  | imp p q =>
    obtain ⟨a, x, y, h1, h2, h3, h4⟩ := h
    exact ⟨a, _, _, h1, h2, Or.inr ⟨by decide +kernel, by simp, (All2.snoc (F := fun x ψ => FmAt K H ψ x) (All2.snoc (F := fun x ψ => FmAt K H ψ x) All2.nil h3) h4)⟩⟩
  | and p q =>
    obtain ⟨a, x, y, h1, h2, h3, h4⟩ := h
    exact ⟨a, _, _, h1, h2, Or.inr ⟨by decide +kernel, by simp, (All2.snoc (F := fun x ψ => FmAt K H ψ x) (All2.snoc (F := fun x ψ => FmAt K H ψ x) All2.nil h3) h4)⟩⟩
  | box p =>
    obtain ⟨a, x, h1, h2, h3⟩ := h
    exact ⟨a, _, _, h1, h2, Or.inr ⟨by decide +kernel, by simp, All2.snoc (F := fun x ψ => FmAt K H ψ x) All2.nil h3⟩⟩
theorem ok_parts {f : Addr} {fd : FuncData} (F : Fun K "parts" "parts" s_parts f fd) : FnOk P w K mg base CX0 1 f fd ["a"] (spParts K) := by
  refine F.ok sc_parts (fun vs H Q E h => ?_) (fun cdv A outer s H vs Q E hr h => ?_)
  · obtain ⟨_, _, rfl, _⟩ := h
    rfl
  · obtain ⟨φ, v, rfl, hφ, k⟩ := h
    refine ⟨_, (pss_one (ps_ret (pe_ifExp (pt_cmpR op_in_seq (pe_ix ix_tup (pv 0) pe_int (fun _ _ => rfl)) (pe_tup (pa_cons pe_str (pa_cons pe_str pa_nil))) (by rfl)) (pe_tup pa_nil) (pe_slice sl_tupA (pv 0) (po_some pe_int) po_none)))), ?_⟩
    obtain ⟨a, t, xs, rfl, ht, hc⟩ := hφ.open_
    refine ⟨_, rfl, a, _, _, .str t, rfl, rfl, ht, atI_nat (j := 0) rfl, (by show 2 ≤ sizeLine; decide), fun p hp => ?_⟩
    refine ⟨p, _, rfl, Or.inr (st_of upd_same), rfl, rfl, _, rfl, ?_⟩
    rcases hc with ⟨c, e⟩ | ⟨c, hx, hp2⟩
    · rw [if_neg Bool.false_ne_true, c]
      refine iteT ⟨(by show 0 ≤ sizeLine; decide), fun q hq => k _ _ ((Ex.new hp).trans (Ex.new hq)) ⟨q, _, rfl, st_of upd_same, ?_⟩⟩
      rw [e]
      exact All2.nil
    · rw [if_neg Bool.false_ne_true, c]
      refine iteF ?_
      have hn : (V.str t :: xs).length = xs.length + 1 := rfl
      have hs1 : HT.sIx (V.str t :: xs).length 0 (some 1) = 1 := by
        show (if (1 : Int) < 0 then ((1 : Int) + ((V.str t :: xs).length : Int)).toNat else min (1 : Int).toNat (V.str t :: xs).length) = 1
        rw [if_neg (by decide), hn]
        show min 1 (xs.length + 1) = 1
        omega
      refine ⟨_, rfl, _, rfl, a, _, rfl, ex_t (Ex.new hp) ht, fun z => ?_, fun _ q hq => ?_⟩
      · rw [hs1] at z
        exact absurd z.1 (by decide)
      · refine k _ _ ((Ex.new hp).trans (Ex.new hq)) ⟨q, _, rfl, st_of upd_same, ?_⟩
        have hcut : cutV (V.str t :: xs) (some 1) none = xs := by
          unfold cutV
          rw [hs1]
          show (xs.take ((V.str t :: xs).length - 1)) = xs
          rw [hn]
          exact List.take_of_length_le (by omega)
        rw [hcut]
        exact hp2.mono fun _ _ z => z.mono ((Ex.new hp).trans (Ex.new hq))
abbrev N_modal_depth : List Str := ["a", "part"]
theorem sc_modal_depth : FnScope N_modal_depth ["a"] (defScope s_modal_depth) := ⟨rfl, rfl, rfl, by decide +kernel, rfl, by decide +kernel, by decide +kernel⟩
def boxN : Fm Str → Nat
  | .box _ => 1
  | _ => 0
theorem md_parts (φ : Fm Str) : (∀ m, m ∈ (partsOf φ).map Fm.md → (∀ y, y ∈ (partsOf φ).map Fm.md → y ≤ m) → φ.md = boxN φ + m) ∧ (partsOf φ = [] → φ.md = 0) := by
  cases φ with
  | var x => exact ⟨fun m h => absurd h (by simp [partsOf]), fun _ => rfl⟩
  | fals => exact ⟨fun m h => absurd h (by simp [partsOf]), fun _ => rfl⟩
  | imp p q =>
    refine ⟨fun m h k => ?_, fun h => absurd h (by simp [partsOf])⟩
    have h : m = p.md ∨ m = q.md := by simpa [partsOf] using h
    have k1 := k p.md (by simp [partsOf])
    have k2 := k q.md (by simp [partsOf])
    show max p.md q.md = 0 + m
    omega
  | and p q =>
    refine ⟨fun m h k => ?_, fun h => absurd h (by simp [partsOf])⟩
    have h : m = p.md ∨ m = q.md := by simpa [partsOf] using h
    have k1 := k p.md (by simp [partsOf])
    have k2 := k q.md (by simp [partsOf])
    show max p.md q.md = 0 + m
    omega
  | box p =>
    refine ⟨fun m h k => ?_, fun h => absurd h (by simp [partsOf])⟩
    have h : m = p.md := by simpa [partsOf] using h
    show 1 + p.md = 1 + m
    omega
theorem parts_len (φ : Fm Str) : (partsOf φ).length ≤ 2 := by cases φ <;> simp [partsOf]
theorem parts_ht {φ ψ : Fm Str} (h : ψ ∈ partsOf φ) : ψ.ht + 1 ≤ φ.ht := by
  cases φ with
  | var x => simp [partsOf] at h
  | fals => simp [partsOf] at h
  | imp p q =>
    have h : ψ = p ∨ ψ = q := by simpa [partsOf] using h
    show ψ.ht + 1 ≤ 1 + max p.ht q.ht
    rcases h with rfl | rfl <;> omega
  | and p q =>
    have h : ψ = p ∨ ψ = q := by simpa [partsOf] using h
    show ψ.ht + 1 ≤ 1 + max p.ht q.ht
    rcases h with rfl | rfl <;> omega
  | box p =>
    have h : ψ = p := by simpa [partsOf] using h
    subst h
    show ψ.ht + 1 ≤ 1 + ψ.ht
    omega
theorem FmAt.tag {H : Hp} {φ : Fm Str} {v : V} (h : FmAt K H φ v) : ∃ (a : Addr) (t : Str) (xs : List V), v = .ref a ∧ SqT K H a (.str t :: xs) ∧ (if decide (V.str t = V.str "box") = true then (1 : Int) else 0) = (boxN φ : Int) := by
  cases φ with
  | var x => obtain ⟨a, h1, h2⟩ := h; exact ⟨a, _, _, h1, h2, by rw [if_neg (by decide +kernel)]; rfl⟩
  | fals => obtain ⟨a, h1, h2⟩ := h; exact ⟨a, _, _, h1, h2, by rw [if_neg (by decide +kernel)]; rfl⟩
  | imp p q => obtain ⟨a, x, y, h1, h2, _⟩ := h; exact ⟨a, _, _, h1, h2, by rw [if_neg (by decide +kernel)]; rfl⟩
  | and p q => obtain ⟨a, x, y, h1, h2, _⟩ := h; exact ⟨a, _, _, h1, h2, by rw [if_neg (by decide +kernel)]; rfl⟩
  | box p => obtain ⟨a, x, h1, h2, _⟩ := h; exact ⟨a, _, _, h1, h2, by rw [if_pos (by decide +kernel)]; rfl⟩
theorem ok_modal_depth {f : Addr} {fd : FuncData} (F : Fun K "modal_depth" "modal_depth" s_modal_depth f fd) (T : Tx K mg CM CR aF) (c_parts : Cal P w K mg base CX0 1 "parts" ["a"] (spParts K)) (h : Nat)
    (c_modal_depth : Cal P w K mg base CX0 (h + 1) "modal_depth" ["a"] (spMd K h)) : FnOk P w K mg base CX0 (h + 2) f fd ["a"] (spMd K (h + 1)) := by
  refine F.ok sc_modal_depth (fun vs H Q E h => ?_) (fun cdv A outer s H vs Q E hr h => ?_)
  · obtain ⟨_, _, rfl, _⟩ := h
    rfl
  · obtain ⟨φ, v, rfl, hφ, hh, k⟩ := h
    refine ⟨_, (pss_one (ps_ret (pe_op op_add (pe_callTy call_int1 rfl T.n_int boot_int (pa_cons (pe_cmpR op_eq (pe_ix ix_tup (pv 0) pe_int (fun _ _ => rfl)) pe_str (nomark _)) pa_nil)) (pe_callBK (cr_maxD rfl) rfl T.n_max (by decide +kernel) (pa_cons (pe_lc (own := [("part", 1)]) (g := gName 1) rfl sc_modal_depth.nd (pi_tup (pe_own c_parts (hr.mono (by omega)) rfl (pa_cons (pv 0) pa_nil))) (blkOk_by (own := [("part", 1)]) (N := N_modal_depth) (sc := defScope s_modal_depth) (by decide +kernel)) (fun _ _ _ _ _ => (pg_name (i := 1) sc_modal_depth.nd rfl (Or.inl rfl))) (fun _ _ _ _ _ => pts_nil) (fun _ _ _ _ _ => (pe_own c_modal_depth (hr.mono (by omega)) rfl (pa_cons (pv 1) pa_nil)))) pa_nil) (pk_cons pe_int pk_nil))))), ?_⟩
    obtain ⟨a, t, xs, rfl, ht, htag⟩ := hφ.tag
    refine ⟨_, rfl, a, _, _, .str t, rfl, rfl, ht, atI_nat (j := 0) rfl, rfl, Or.inr ⟨_, rfl, ?_⟩⟩
    rw [htag]
    refine ⟨_, rfl, φ, _, rfl, hφ, fun u H1 e1 h1 => ?_⟩
    obtain ⟨p, ys, rfl, hp, ha⟩ := h1
    refine ⟨p, rfl, ⟨ys, hp⟩, fun D hD => ?_⟩
    refine Wk.lc (Wk.tup p ys) (fun _ => true) (fun i y _ => ∃ ψ, (partsOf φ)[i]? = some ψ ∧ y = nV ψ.md) hD (by rw [ha.1]; have := parts_len φ; omega) hp (fun _ _ e b => ex_t e b) (fun i y H H' _ z _ => z) ?_ ?_
    · intro i x H2 yes no hi e2 _ hx ky kn
      refine ⟨rfl, iteT (B := no H2) ?_⟩
      obtain ⟨ψ, hψ, fx⟩ := ha.at hx
      refine ⟨_, rfl, ψ, x, rfl, fx.mono e2, ?_, fun u H3 e3 hu => ky rfl u H3 e3 ⟨ψ, hψ, hu⟩⟩
      have := parts_ht (List.mem_of_getElem? hψ)
      omega
    · intro zs H2 e2 hz hacc
      obtain ⟨zl, zp⟩ := Acc.all (fun _ _ => rfl) hacc
      have ez : zs = ((partsOf φ).map Fm.md).map nV := by
        rw [List.map_map]
        refine All2.eq_map (f := nV ∘ Fm.md) ⟨by rw [zl, ha.1], fun i y ψ hy hψ => ?_⟩
        obtain ⟨ψ', h1, h2⟩ := zp i y hy
        rw [hψ] at h1
        rw [h2, ← Option.some.inj h1]
        rfl
      have em := md_parts φ
      refine ⟨D, toI ((partsOf φ).map Fm.md), 0, rfl, rfl, sq_of (by rw [hz, ez, nV_map]), fun e => ?_, fun m hm hle => ?_⟩
      · have e0 : partsOf φ = [] := by
          cases q : partsOf φ with
          | nil => rfl
          | cons a b => rw [q] at e; cases e
        refine ⟨_, _, rfl, rfl, k _ _ (e1.trans e2) ?_⟩
        have m0 : boxN φ = 0 := by
          cases φ <;> first | rfl | (simp [partsOf] at e0)
        show V.int ((boxN φ : Int) + 0) = nV φ.md
        rw [em.2 e0, m0]
        rfl
      · unfold toI at hm hle
        obtain ⟨n, hn, rfl⟩ := List.mem_map.mp hm
        refine ⟨_, _, rfl, rfl, k _ _ (e1.trans e2) ?_⟩
        show V.int ((boxN φ : Int) + (n : Int)) = nV φ.md
        rw [em.1 n hn fun y hy => by have := hle (y : Int) (List.mem_map.mpr ⟨y, hy, rfl⟩); omega]
        unfold nV
        rw [Int.natCast_add]
end
end Q
/-! Models and rounds in the heap -/
namespace Q
open PySem PySem.Spec PyProof.Rows L2 Evl Rl Bi
/-! ### names of fields -/
theorem ne_fs : ¬ (("_frame" : Str) = "_seen") := by decide +kernel
theorem ne_fv : ¬ (("_frame" : Str) = "_values") := by decide +kernel
theorem ne_sv : ¬ (("_seen" : Str) = "_values") := by decide +kernel
theorem ne_12 : ¬ (("first" : Str) = "second") := by decide +kernel
theorem ne_1f : ¬ (("first" : Str) = "found") := by decide +kernel
theorem ne_2f : ¬ (("second" : Str) = "found") := by decide +kernel
def mF (fa sa va : Addr) : List (Str × V) := putF "_values" (.ref va) (putF "_seen" (.ref sa) (putF "_frame" (.ref fa) []))
def rF (a b d : Addr) : List (Str × V) := putF "found" (.ref d) (putF "second" (.ref b) (putF "first" (.ref a) []))
section
variable {fa sa va a b d : Addr}
theorem mF_frame : (mF fa sa va).lookup ("_frame" : Str) = some (.ref fa) := by
  unfold mF
  rw [lookup_putF, if_neg ne_fv, lookup_putF, if_neg ne_fs, lookup_putF, if_pos rfl]
theorem mF_seen : (mF fa sa va).lookup ("_seen" : Str) = some (.ref sa) := by
  unfold mF
  rw [lookup_putF, if_neg ne_sv, lookup_putF, if_pos rfl]
theorem mF_values : (mF fa sa va).lookup ("_values" : Str) = some (.ref va) := by
  unfold mF
  rw [lookup_putF, if_pos rfl]
theorem mF_no {m : Str} (h1 : ¬ m = "_frame") (h2 : ¬ m = "_seen") (h3 : ¬ m = "_values") : (mF fa sa va).lookup m = none := by
  unfold mF
  rw [lookup_putF, if_neg h3, lookup_putF, if_neg h2, lookup_putF, if_neg h1]
  rfl
theorem rF_first : (rF a b d).lookup ("first" : Str) = some (.ref a) := by
  unfold rF
  rw [lookup_putF, if_neg ne_1f, lookup_putF, if_neg ne_12, lookup_putF, if_pos rfl]
theorem rF_second : (rF a b d).lookup ("second" : Str) = some (.ref b) := by
  unfold rF
  rw [lookup_putF, if_neg ne_2f, lookup_putF, if_pos rfl]
theorem rF_found : (rF a b d).lookup ("found" : Str) = some (.ref d) := by
  unfold rF
  rw [lookup_putF, if_pos rfl]
theorem rF_no {m : Str} (h1 : ¬ m = "first") (h2 : ¬ m = "second") (h3 : ¬ m = "found") : (rF a b d).lookup m = none := by
  unfold rF
  rw [lookup_putF, if_neg h3, lookup_putF, if_neg h2, lookup_putF, if_neg h1]
  rfl
theorem rF_eq : rF a b d = ([("first", V.ref a), ("second", V.ref b), ("found", V.ref d)] : List (Str × V)) := by
  show putF "found" (.ref d) (if ("first" : Str) = "second" then _ else (("first" : Str), V.ref a) :: putF "second" (.ref b) []) = _
  rw [if_neg ne_12]
  show (if ("first" : Str) = "found" then _ else (("first" : Str), V.ref a) :: (if ("second" : Str) = "found" then _ else (("second" : Str), V.ref b) :: putF "found" (.ref d) [])) = _
  rw [if_neg ne_1f, if_neg ne_2f]
  rfl
theorem rF_put1 {z : Addr} : putF "first" (.ref z) (rF a b d) = rF z b d := by
  rw [rF_eq, rF_eq]
  show (if ("first" : Str) = "first" then _ else _) = _
  rw [if_pos rfl]
theorem rF_put2 {z : Addr} : putF "second" (.ref z) (rF a b d) = rF a z d := by
  rw [rF_eq, rF_eq]
  show (if ("first" : Str) = "second" then _ else (("first" : Str), V.ref a) :: (if ("second" : Str) = "second" then _ else _)) = _
  rw [if_neg ne_12, if_pos rfl]
theorem rF_put3 {z : Addr} : putF "found" (.ref z) (rF a b d) = rF a b z := by
  rw [rF_eq, rF_eq]
  show (if ("first" : Str) = "found" then _ else (("first" : Str), V.ref a) :: (if ("second" : Str) = "found" then _ else (("second" : Str), V.ref b) :: (if ("found" : Str) = "found" then _ else _))) = _
  rw [if_neg ne_1f, if_neg ne_2f, if_pos rfl]
theorem mF_len : (mF fa sa va).length = 3 := by
  show (putF "_values" (.ref va) (if ("_frame" : Str) = "_seen" then _ else (("_frame" : Str), V.ref fa) :: putF "_seen" (.ref sa) [])).length = 3
  rw [if_neg ne_fs]
  show (if ("_frame" : Str) = "_values" then _ else (("_frame" : Str), V.ref fa) :: (if ("_seen" : Str) = "_values" then _ else (("_seen" : Str), V.ref sa) :: putF "_values" (.ref va) [])).length = 3
  rw [if_neg ne_fv, if_neg ne_sv]
  rfl
end
/-! ### data in the heap -/
/-- a tuple of two numbers; a list of numbers; an entry of a dict from names to lists of numbers -/
def PrAt (K : PySem.W.Frag) (H : Hp) (x : V) (p : Nat × Nat) : Prop := ∃ t, x = .ref t ∧ SqT K H t [nV p.1, nV p.2]
def LsAt (K : PySem.W.Frag) (H : Hp) (x : V) (l : List Nat) : Prop := ∃ a, x = .ref a ∧ SqL K H a (l.map nV)
def KvAt (K : PySem.W.Frag) (H : Hp) (kv : Key × V) (e : Str × List Nat) : Prop := kv.1 = .inr e.1 ∧ LsAt K H kv.2 e.2
def FrAt (K : PySem.W.Frag) (H : Hp) (fa : Addr) (n : Nat) (ps : List (Nat × Nat)) : Prop := ∃ pa ts, SqT K H fa [nV n, .ref pa] ∧ SqT K H pa ts ∧ All2 (PrAt K H) ts ps
section
variable {K : PySem.W.Frag} {H H' : Hp}
theorem PrAt.mono {x : V} {p : Nat × Nat} (e : Ex H H') (h : PrAt K H x p) : PrAt K H' x p := let ⟨t, h1, h2⟩ := h; ⟨t, h1, ex_t e h2⟩
theorem LsAt.mono {x : V} {l : List Nat} (e : Ex H H') (h : LsAt K H x l) : LsAt K H' x l := let ⟨t, h1, h2⟩ := h; ⟨t, h1, ex_l e h2⟩
theorem KvAt.mono {kv : Key × V} {x : Str × List Nat} (e : Ex H H') (h : KvAt K H kv x) : KvAt K H' kv x := ⟨h.1, h.2.mono e⟩
theorem FrAt.mono {fa : Addr} {n : Nat} {ps : List (Nat × Nat)} (e : Ex H H') (h : FrAt K H fa n ps) : FrAt K H' fa n ps := by
  obtain ⟨pa, ts, h1, h2, h3⟩ := h
  exact ⟨pa, ts, ex_t e h1, ex_t e h2, h3.mono fun _ _ z => z.mono e⟩
end
/-- what is asked of a model -/
structure WfM (M : Mo Str) : Prop where
  n1 : 1 ≤ M.n
  n7 : M.n ≤ 7
  asc : M.ps.Pairwise plt
  rng : ∀ p, p ∈ M.ps → p.1 < M.n ∧ p.2 < M.n
  nd : (M.vs.map (·.1)).Nodup
  few : M.vs.length ≤ 6
  sok : ∀ e, e ∈ M.vs → PyData.strOk e.1 = true
  ls : ∀ e, e ∈ M.vs → e.2 ≠ [] ∧ e.2.Pairwise (· < ·) ∧ ∀ w, w ∈ e.2 → w < M.n
theorem WfM.inn {M : Mo Str} (h : WfM M) : In M := ⟨fun v w hm => h.rng (v, w) hm, fun x w ⟨l, h1, h2⟩ => (h.ls _ h1).2.2 w h2⟩
theorem WfM.ps49 {M : Mo Str} (h : WfM M) : M.ps.length < 64 := by
  have a := ps_len h.asc h.rng
  have b : M.n * M.n ≤ 7 * 7 := Nat.mul_le_mul h.n7 h.n7
  omega
theorem WfM.len {M : Mo Str} (h : WfM M) {e : Str × List Nat} (he : e ∈ M.vs) : e.2.length ≤ 7 := by
  have a := asc_len M.n e.2 0 (h.ls e he).2.1 fun x hx => ⟨Nat.zero_le _, (h.ls e he).2.2 x hx⟩
  have := h.n7
  omega
theorem WfM.seen7 {M : Mo Str} (h : WfM M) (v : Nat) : (seen M v).length ≤ 7 := Nat.le_trans (seen_len h.asc h.inn v) h.n7
theorem WfM.seenlt {M : Mo Str} (h : WfM M) {v x : Nat} (hx : x ∈ seen M v) : x < M.n := (h.rng (v, x) (mem_seen.mp hx)).2
/-- a Model stands at p -/
structure MdAt (K : PySem.W.Frag) (C : Addr) (H : Hp) (p : Addr) (M : Mo Str) : Prop where
  ex : ∃ (dx fa sa va : Addr) (rs : List V) (kvs : List (Key × V)), H p = some (.ins C dx (mF fa sa va)) ∧ FrAt K H fa M.n M.ps ∧ SqL K H sa rs ∧ All2 (fun r v => LsAt K H r (seen M v)) rs (List.range M.n) ∧ H va = some (.dK kvs) ∧ All2 (KvAt K H) kvs M.vs
  ok : WfM M
theorem MdAt.mono {K : PySem.W.Frag} {C p : Addr} {H H' : Hp} {M : Mo Str} (e : Ex H H') (h : MdAt K C H p M) : MdAt K C H' p M := by
  obtain ⟨⟨dx, fa, sa, va, rs, kvs, h1, h2, h3, h4, h5, h6⟩, ok⟩ := h
  exact ⟨⟨dx, fa, sa, va, rs, kvs, e _ _ h1, h2.mono e, ex_l e h3, h4.mono fun _ _ z => z.mono e, e _ _ h5, h6.mono fun _ _ z => z.mono e⟩, ok⟩
/-! ### dicts of names -/
section
variable {K : PySem.W.Frag} {H : Hp} {kvs : List (Key × V)} {es : List (Str × List Nat)}
theorem kv_keys (h : All2 (KvAt K H) kvs es) : kvs.map (·.1) = es.map fun e => (Sum.inr e.1 : Key) := by
  refine List.ext_getElem (by rw [List.length_map, List.length_map, h.1]) fun i h1 h2 => ?_
  rw [List.getElem_map, List.getElem_map]
  rw [List.length_map] at h1 h2
  exact (h.2 i _ _ (List.getElem?_eq_getElem h1) (List.getElem?_eq_getElem h2)).1
theorem valV_mem {κ : Type} [DecidableEq κ] : ∀ {kvs : List (κ × V)} {k : κ} {v : V}, (kvs.map (·.1)).Nodup → (k, v) ∈ kvs → valV kvs k = some v
  | [], k, v, _, h => absurd h (by simp)
  | (a, b) :: r, k, v, hn, h => by
    rw [List.map_cons, List.nodup_cons] at hn
    rcases List.mem_cons.mp h with e | h
    · injection e with e1 e2
      subst e1; subst e2
      exact valV_pos (p := (k, v)) rfl
    · have ne : ¬ a = k := fun e => hn.1 (by rw [e]; exact List.mem_map.mpr ⟨(k, v), h, rfl⟩)
      rw [valV_neg (p := (a, b)) ne]
      exact valV_mem hn.2 h
theorem valV_out {κ : Type} [DecidableEq κ] : ∀ {kvs : List (κ × V)} {k : κ}, k ∉ kvs.map (·.1) → valV kvs k = none
  | [], k, _ => valV_nil
  | (a, b) :: r, k, h => by
    rw [List.map_cons, List.mem_cons, not_or] at h
    rw [valV_neg (p := (a, b)) fun e => h.1 e.symm]
    exact valV_out h.2
theorem inr_nodup (hn : (es.map (·.1)).Nodup) : (es.map fun e => (Sum.inr e.1 : Key)).Nodup := by
  have e : (es.map fun e => (Sum.inr e.1 : Key)) = (es.map (·.1)).map Sum.inr := by rw [List.map_map]; rfl
  rw [e]
  refine List.Pairwise.map _ (fun a b h z => h ?_) hn
  injection z
theorem kv_nodup (h : All2 (KvAt K H) kvs es) (hn : (es.map (·.1)).Nodup) : (kvs.map (·.1)).Nodup := by
  rw [kv_keys h]
  exact inr_nodup hn
/-- what the dict holds at a name -/
theorem kv_at (h : All2 (KvAt K H) kvs es) (hn : (es.map (·.1)).Nodup) {x : Str} {l : List Nat} (hm : (x, l) ∈ es) : ∃ v, valV kvs (.inr x : Key) = some v ∧ LsAt K H v l := by
  obtain ⟨kv, hk, e, q⟩ := h.mem' hm
  exact ⟨kv.2, valV_mem (kv_nodup h hn) (by rw [← show kv.1 = .inr x from e]; exact hk), q⟩
theorem kv_none (h : All2 (KvAt K H) kvs es) {x : Str} (hx : x ∉ es.map (·.1)) : valV kvs (.inr x : Key) = none := by
  refine valV_out fun m => hx ?_
  rw [kv_keys h] at m
  obtain ⟨e, he, q⟩ := List.mem_map.mp m
  injection q with q
  exact List.mem_map.mpr ⟨e, he, q⟩
end
/-! ### what stands while one thing is locked or grows -/
section
variable {K : PySem.W.Frag} {H H' : Hp} {D : Addr}
/-- D holds no list, no tuple -/
def NoSq (o : HO) : Prop := (∀ xs, o ≠ .lst xs) ∧ (∀ xs, o ≠ .tup xs) ∧ (∀ q xs, o ≠ .frz q (.lst xs)) ∧ ∀ q xs, o ≠ .frz q (.tup xs)
theorem noSq_dK {kvs : List (Key × V)} : NoSq (.dK kvs) := ⟨fun _ h => (nomatch h), fun _ h => (nomatch h), fun _ _ h => (nomatch h), fun _ _ h => (nomatch h)⟩
theorem noSq_dT {kvs : List (List Key × V)} : NoSq (.dT kvs) := ⟨fun _ h => (nomatch h), fun _ h => (nomatch h), fun _ _ h => (nomatch h), fun _ _ h => (nomatch h)⟩
theorem noSq_ins {C dx : Addr} {fs : List (Str × V)} : NoSq (.ins C dx fs) := ⟨fun _ h => (nomatch h), fun _ h => (nomatch h), fun _ _ h => (nomatch h), fun _ _ h => (nomatch h)⟩
theorem noSq_fK {o : Obj} {kvs : List (Key × V)} : NoSq (.frz o (.dK kvs)) := ⟨fun _ h => (nomatch h), fun _ h => (nomatch h), fun _ _ h => (by injection h with _ h; cases h), fun _ _ h => (by injection h with _ h; cases h)⟩
theorem noSq_fT {o : Obj} {kvs : List (List Key × V)} : NoSq (.frz o (.dT kvs)) := ⟨fun _ h => (nomatch h), fun _ h => (nomatch h), fun _ _ h => (by injection h with _ h; cases h), fun _ _ h => (by injection h with _ h; cases h)⟩
theorem sql_sb {a : Addr} {xs : List V} {o : HO} (hD : H D = some o) (n : NoSq o) (e : Sb D H H') (h : SqL K H a xs) : SqL K H' a xs := by
  rcases h with (h | ⟨q, h⟩) | h
  · exact Or.inl (Or.inl (e _ _ (fun z => by rw [z, hD] at h; exact n.1 _ (Option.some.inj h)) h))
  · exact Or.inl (Or.inr ⟨q, e _ _ (fun z => by rw [z, hD] at h; exact n.2.2.1 _ _ (Option.some.inj h)) h⟩)
  · exact Or.inr h
theorem sqt_sb {a : Addr} {xs : List V} {o : HO} (hD : H D = some o) (n : NoSq o) (e : Sb D H H') (h : SqT K H a xs) : SqT K H' a xs := by
  rcases h with (h | ⟨q, h⟩) | h
  · exact Or.inl (Or.inl (e _ _ (fun z => by rw [z, hD] at h; exact n.2.1 _ (Option.some.inj h)) h))
  · exact Or.inl (Or.inr ⟨q, e _ _ (fun z => by rw [z, hD] at h; exact n.2.2.2 _ _ (Option.some.inj h)) h⟩)
  · exact Or.inr h
theorem LsAt.sb {x : V} {l : List Nat} {o : HO} (hD : H D = some o) (n : NoSq o) (e : Sb D H H') (h : LsAt K H x l) : LsAt K H' x l := let ⟨a, h1, h2⟩ := h; ⟨a, h1, sql_sb hD n e h2⟩
theorem KvAt.sb {kv : Key × V} {x : Str × List Nat} {o : HO} (hD : H D = some o) (n : NoSq o) (e : Sb D H H') (h : KvAt K H kv x) : KvAt K H' kv x := ⟨h.1, h.2.sb hD n e⟩
theorem PrAt.sb {x : V} {p : Nat × Nat} {o : HO} (hD : H D = some o) (n : NoSq o) (e : Sb D H H') (h : PrAt K H x p) : PrAt K H' x p := let ⟨a, h1, h2⟩ := h; ⟨a, h1, sqt_sb hD n e h2⟩
theorem FrAt.sb {fa : Addr} {m : Nat} {ps : List (Nat × Nat)} {o : HO} (hD : H D = some o) (n : NoSq o) (e : Sb D H H') (h : FrAt K H fa m ps) : FrAt K H' fa m ps := by
  obtain ⟨pa, ts, h1, h2, h3⟩ := h
  exact ⟨pa, ts, sqt_sb hD n e h1, sqt_sb hD n e h2, h3.mono fun _ _ z => z.sb hD n e⟩
theorem Sb.upd {o : HO} : Sb D H (upd H D o) := fun b q hb e => by rw [upd_ne hb]; exact e
theorem Sb.ex {H1 H2 : Hp} (a : Sb D H H1) (b : Ex H1 H2) : Sb D H H2 := fun c o hc e => b c o (a c o hc e)
theorem Sb.pre {H1 H2 : Hp} (a : Ex H H1) (b : Sb D H1 H2) : Sb D H H2 := fun c o hc e => b c o hc (a c o e)
theorem Sb.trans {H1 H2 : Hp} (a : Sb D H H1) (b : Sb D H1 H2) : Sb D H H2 := fun c o hc e => b c o hc (a c o hc e)
theorem Sb.refl : Sb D H H := fun _ _ _ e => e
end
theorem nodup_take {α : Type} {l : List α} (hn : l.Nodup) {i : Nat} {x : α} (h : l[i]? = some x) : x ∉ l.take i := fun m => by
  obtain ⟨j, hj, e⟩ := List.getElem_of_mem m
  rw [List.length_take] at hj
  have e1 : l[j]? = some x := by
    have : (l.take i)[j]? = some x := by rw [List.getElem?_eq_getElem (by rw [List.length_take]; exact hj), e]
    rw [List.getElem?_take, if_pos (by omega)] at this
    exact this
  have := nd_ix hn e1 h
  omega
theorem names_take {es : List (Str × List Nat)} (hn : (es.map (·.1)).Nodup) {i : Nat} {e : Str × List Nat} (h : es[i]? = some e) : e.1 ∉ (es.take i).map (·.1) := by
  rw [List.map_take]
  exact nodup_take hn (by rw [List.getElem?_map, h]; rfl)
theorem dget_frz {H : Hp} {d : Addr} {od : Obj} {kvs : List (Key × V)} {k : Key} {v : V} (h : H d = some (.frz od (.dK kvs))) (e : valV kvs k = some v) : DGet H d (kV k) (some v) := Or.inl ⟨kvs, k, Or.inr ⟨od, h⟩, rfl, e.symm⟩
theorem dget_in {H : Hp} {d : Addr} {kvs : List (Key × V)} {k : Key} {v : V} (h : H d = some (.dK kvs)) (e : valV kvs k = some v) : DGet H d (kV k) (some v) := Or.inl ⟨kvs, k, Or.inl h, rfl, e.symm⟩
end Q
/-! Data as a whole: what == and in say of them -/
namespace Q
open PySem PySem.Spec PyProof.Rows L2 Evl Rl Bi
def prP (p : Nat × Nat) : PyData := .tuple [.int p.1, .int p.2]
theorem prP_lay (p : Nat × Nat) : (prP p).canLay0 = true := by simp [prP, PyData.canLay0, PyData.canLayAll0]
theorem prP_depth (p : Nat × Nat) : (prP p).depth = 1 := by simp [prP, PyData.depth, PyData.depthAll]
theorem prPs_lay : ∀ l : List (Nat × Nat), PyData.canLayAll0 (l.map prP) = true
  | [] => by simp [PyData.canLayAll0]
  | p :: l => by simp [PyData.canLayAll0, prP_lay p, prPs_lay l]
theorem prPs_depth : ∀ l : List (Nat × Nat), PyData.depthAll (l.map prP) ≤ 1
  | [] => by simp [PyData.depthAll]
  | p :: l => by
    have h1 := prPs_depth l
    have h2 := prP_depth p
    simp only [List.map_cons, PyData.depthAll]
    omega
theorem shaped_of {d : PyData} (h : d.canLay0 = true) (k : d.depth ≤ 64) : SeqAt.shaped d = true := by
  show (d.canLay0 && decide (d.depth ≤ 64)) = true
  rw [Bool.and_eq_true]
  exact ⟨h, decide_eq_true k⟩
theorem shaped_list {ds : List PyData} (h : PyData.canLayAll0 ds = true) (k : PyData.depthAll ds ≤ 60) : SeqAt.shaped (.list ds) = true :=
  shaped_of (by simp only [PyData.canLay0]; exact h) (by simp only [PyData.depth]; omega)
theorem prP_shaped (p : Nat × Nat) : SeqAt.shaped (prP p) = true := shaped_of (prP_lay p) (by rw [prP_depth]; decide)
theorem prPs_shaped (l : List (Nat × Nat)) : SeqAt.shaped (.list (l.map prP)) = true := shaped_list (prPs_lay l) (Nat.le_trans (prPs_depth l) (by decide))
theorem ints_lay : ∀ l : List Int, PyData.canLayAll0 (l.map PyData.int) = true
  | [] => by simp [PyData.canLayAll0]
  | p :: l => by simp [PyData.canLayAll0, PyData.canLay0, ints_lay l]
theorem ints_depth : ∀ l : List Int, PyData.depthAll (l.map PyData.int) = 0
  | [] => by simp [PyData.depthAll]
  | p :: l => by simp [PyData.depthAll, PyData.depth, ints_depth l]
theorem ints_shaped (l : List Int) : SeqAt.shaped (.list (l.map PyData.int)) = true := shaped_list (ints_lay l) (by rw [ints_depth]; decide)
theorem strs_lay : ∀ l : List Str, (∀ x, x ∈ l → PyData.strOk x = true) → PyData.canLayAll0 (l.map PyData.str) = true
  | [], _ => by simp [PyData.canLayAll0]
  | p :: l, h => by simp [PyData.canLayAll0, PyData.canLay0, strs_lay l (fun x hx => h x (List.mem_cons_of_mem _ hx)), h p List.mem_cons_self]
theorem strs_depth : ∀ l : List Str, PyData.depthAll (l.map PyData.str) = 0
  | [] => by simp [PyData.depthAll]
  | p :: l => by simp [PyData.depthAll, PyData.depth, strs_depth l]
theorem strs_shaped (l : List Str) (h : ∀ x, x ∈ l → PyData.strOk x = true) : SeqAt.shaped (.list (l.map PyData.str)) = true := shaped_list (strs_lay l h) (by rw [strs_depth]; decide)
theorem prP_eqv (p q : Nat × Nat) : PyData.eqv (prP p) (prP q) = decide (p = q) := by
  obtain ⟨a, b⟩ := p
  obtain ⟨c, d⟩ := q
  have e : PyData.eqv (prP (a, b)) (prP (c, d)) = (((a : Int) == (c : Int)) && (((b : Int) == (d : Int)) && true)) := by simp only [prP, PyData.eqv, PyData.eqvAll]
  rw [e]
  by_cases h1 : a = c
  · by_cases h2 : b = d
    · subst h1; subst h2; simp
    · have q : ((b : Int) == (d : Int)) = false := beq_eq_false_iff_ne.mpr (by omega)
      rw [q, decide_eq_false (fun z => h2 (by injection z))]
      simp
  · have q : ((a : Int) == (c : Int)) = false := beq_eq_false_iff_ne.mpr (by omega)
    rw [q, decide_eq_false (fun z => h1 (by injection z))]
    simp
theorem nil_eqv (l : List Int) : PyData.eqv (.list (l.map PyData.int)) (.list []) = l.isEmpty := by
  cases l <;> simp [PyData.eqv, PyData.eqvAll]
theorem strs_eqv : ∀ l m : List Str, PyData.eqvAll (l.map PyData.str) (m.map PyData.str) = decide (l = m)
  | [], [] => by simp [PyData.eqvAll]
  | [], b :: m => by simp [PyData.eqvAll]
  | a :: l, [] => by simp [PyData.eqvAll]
  | a :: l, b :: m => by
    have ih := strs_eqv l m
    simp only [List.map_cons, PyData.eqvAll, PyData.eqv, ih]
    by_cases h1 : a = b
    · subst h1
      by_cases h2 : l = m
      · subst h2; simp
      · rw [decide_eq_false h2, decide_eq_false (fun z => h2 (List.cons.inj z).2)]
        simp
    · have q : (a == b) = false := beq_eq_false_iff_ne.mpr h1
      rw [q, decide_eq_false (fun z => h1 (List.cons.inj z).1)]
      rfl
theorem strsL_eqv (l m : List Str) : PyData.eqv (.list (l.map PyData.str)) (.list (m.map PyData.str)) = decide (l = m) := by
  simp only [PyData.eqv]
  exact strs_eqv l m
section
variable {K : PySem.W.Frag} {H : Hp}
theorem dp_ints : ∀ l : List Int, DpAll K H (l.map V.int) (l.map PyData.int)
  | [] => .nil
  | a :: l => .cons (.int a) (dp_ints l)
theorem dp_strs : ∀ l : List Str, DpAll K H (l.map V.str) (l.map PyData.str)
  | [] => .nil
  | a :: l => .cons (.str a) (dp_strs l)
theorem dp_pr {x : V} {p : Nat × Nat} (h : PrAt K H x p) : Dp K H x (prP p) := by
  obtain ⟨t, rfl, h⟩ := h
  exact .tup h (.cons (.int _) (.cons (.int _) .nil))
theorem dp_prs : ∀ {xs : List V} {ps : List (Nat × Nat)}, All2 (PrAt K H) xs ps → DpAll K H xs (ps.map prP)
  | [], [], _ => .nil
  | [], p :: ps, h => absurd h.1 (by simp)
  | x :: xs, [], h => absurd h.1 (by simp)
  | x :: xs, p :: ps, h => .cons (dp_pr (h.2 0 x p rfl rfl)) (dp_prs ⟨by have := h.1; simpa using this, fun i a b ha hb => h.2 (i + 1) a b ha hb⟩)
end
/-! ### pairs as lists of two ints -/
def pl (p : Nat × Nat) : List Int := [(p.1 : Int), (p.2 : Int)]
theorem pl_inj {p q : Nat × Nat} (h : pl p = pl q) : p = q := by
  obtain ⟨a, b⟩ := p
  obtain ⟨c, d⟩ := q
  unfold pl at h
  injection h with h1 h2
  injection h2 with h2 _
  simp only at h1 h2
  rw [show a = c by omega, show b = d by omega]
theorem pl_code {p q : Nat × Nat} (hp : p.1 < 64 ∧ p.2 < 64) (hq : q.1 < 64 ∧ q.2 < 64) : TS.code 64 (pl p) < TS.code 64 (pl q) ↔ plt p q := by
  unfold pl plt
  rw [code_pair, code_pair]
  omega
theorem pl_bd {p : Nat × Nat} (hp : p.1 < 64 ∧ p.2 < 64) : (pl p).length = 2 ∧ TS.Bd 64 (pl p) := by
  refine ⟨rfl, fun m hm => ?_⟩
  unfold pl at hm
  simp only [List.mem_cons, List.not_mem_nil, or_false] at hm
  rcases hm with rfl | rfl <;> omega
/-- what stands sorted by code is the ascending list of the same pairs -/
theorem sorted_prs {ps : List (Nat × Nat)} {ls : List (List Int)} (hs : ps.Pairwise plt) (hb : ∀ p, p ∈ ps → p.1 < 64 ∧ p.2 < 64) (hn : ls.Nodup) (hp : ls.Pairwise fun u v => TS.code 64 u ≤ TS.code 64 v)
    (hm : ∀ u, u ∈ ls ↔ ∃ p, p ∈ ps ∧ u = pl p) : ls = ps.map pl := by
  refine asc_uniq (lt := fun u v => TS.code 64 u < TS.code 64 v) (fun a => Int.lt_irrefl _) (fun a b h k => by omega) ?_ ?_ fun u => by rw [hm, List.mem_map]; exact ⟨fun ⟨p, h, e⟩ => ⟨p, h, e.symm⟩, fun ⟨p, h, e⟩ => ⟨p, h, e.symm⟩⟩
  · refine List.Pairwise.imp_of_mem (fun {u v} hu hv h => ?_) (hn.and hp)
    obtain ⟨p, h1, rfl⟩ := (hm u).mp hu
    obtain ⟨q, h2, rfl⟩ := (hm v).mp hv
    have b1 := hb p h1
    have b2 := hb q h2
    have h1 := h.1
    have h2 := h.2
    refine Classical.byContradiction fun c => h1 ?_
    unfold pl at h2 c ⊢
    rw [code_pair, code_pair] at h2 c
    rw [show p.1 = q.1 by omega, show p.2 = q.2 by omega]
  · rw [List.pairwise_map]
    exact List.Pairwise.imp_of_mem (fun {p q} h1 h2 h => (pl_code (hb p h1) (hb q h2)).mpr h) hs
end Q
/-! The layer's rules that speak of the written part, told with it as a letter: they go under the binders of a comprehension's block -/
namespace Q
open PySem PySem.Spec PyProof.Rows L2 Evl Rl Bi
section
variable {X : Cx} {K : PySem.W.Frag} {e o : Expr} {ta te to : TE} {tg : Expr} {pos apos cpos : Pos} {f : Str}
theorem k_fld (hK : X.K = K) (he : PE X e ta) (hb : attributeBase e f X.env (eval e X.env) = eval e X.env) : PE X (.Attribute e f pos) (tFld K ta f) := by
  subst hK; exact pe_fld he hb
theorem k_pil (hK : X.K = K) (he : PE X e ta) : PI X tg e (iList K ta) := by subst hK; exact pi_list he
theorem k_pit (hK : X.K = K) (he : PE X e ta) : PI X tg e (iTup K ta) := by subst hK; exact pi_tup he
theorem k_ixl (hK : X.K = K) : IxR X (rIxL K) := by subst hK; exact ix_list
theorem k_ixt (hK : X.K = K) : IxR X (rIxT K) := by subst hK; exact ix_tup
theorem k_in (hK : X.K = K) : OpR X (compareOp .In) (rIn K false) := by subst hK; exact op_in_seq
theorem k_notin (hK : X.K = K) : OpR X (compareOp .NotIn) (rIn K true) := by subst hK; exact op_notIn_seq
theorem k_len (hK : X.K = K) : CallR X (.builtin "len") (rLenS K) := by subst hK; exact call_len_seq
theorem k_list (hK : X.K = K) : CallR X (.type "list") (rListS K) := by subst hK; exact call_list_of
theorem k_eqD (hK : X.K = K) (hu : X.A.units + 64 < cLine) : OpR X (compareOp .Eq) (rEqD K) := by subst hK; exact op_eqD hu
theorem k_neD (hK : X.K = K) (hu : X.A.units + 64 < cLine) : OpR X (compareOp .NotEq) (rNeD K) := by subst hK; exact op_neD hu
theorem k_sll (hK : X.K = K) : SlR X (rSlL K) := by subst hK; exact sl_list
theorem k_slt (hK : X.K = K) : SlR X (rSlA K) := by subst hK; exact sl_tupA
theorem k_min (hK : X.K = K) (hc : X.calm = true) : CallR X (.builtin "min") (rMin K) := by subst hK; exact cr_min hc
theorem k_catA (hK : X.K = K) : OpR X (binaryOp .Add) (rCatA K) := by subst hK; exact op_catA
theorem k_pgt (hK : X.K = K) {es : List Expr} {k : Nat} {t : TGs} {n : Nat} (hc : X.calm = true) (h : PGs X es t)
    (hn : (assignEach es X.env).length = n := by rfl) (hst : (assignEach es X.env).findIdx? (·.1) = none := by rfl) : PG X (.Tuple es k pos) (gTup K n t) := by
  subst hK; exact pg_tup hc h hn hst
theorem k_bm (hK : X.K = K) {es : List Expr} {name : Str} {T id : String} {r : V → List V → Hp → VK → Prop} {t : TA} (pa : PlainAttrs T) (slot : Slot T name id) (hty : typeOf (.builtin id) = pure (.type "method_descriptor")) (hm : MtR X id r) (ho : PE X o to) (ha : PA X (e :: es) t)
    (hbase : attributeBase o name X.env (eval o X.env) = eval o X.env := by rfl)
    (hfew : ((backTo cpos (starEach (e :: es) X.env)).all (fun x => !x.1) && (backToKw cpos (keywordEach [] X.env)).all (fun x => x.1.isSome)
      && decide ((e :: es).length + ([] : List Keyword).length + (if ([] : List Keyword).isEmpty then 0 else 1) < 30)) = true := by rfl)
    (hline : (apos.endLine == cpos.line) = true := by rfl) (hs : starEach (e :: es) X.env = (false, eval e X.env) :: starEach es X.env := by rfl) (hplain : (backTo cpos (starEach es X.env)).any (·.1) = false := by rfl) :
    PE X (.Call (.Attribute o name apos) (e :: es) [] cpos) (tBM K T r to t) := by
  subst hK; exact pe_bm pa slot hty hm ho ha hbase hfew hline hs hplain
theorem k_index (hK : X.K = K) : MtR X "list.index" (rIndex K) := by subst hK; exact mt_index
end
end Q
/-! frame.py, and the methods of Model that only read -/
namespace Q
open PySem PySem.Spec PyProof.Rows L2 Evl Rl Bi
/-- a new list of numbers, an entry with such a list -/
def LfAt (H : Hp) (x : V) (l : List Nat) : Prop := ∃ a, x = .ref a ∧ H a = some (.lst (l.map nV))
def KfAt (H : Hp) (kv : Key × V) (e : Str × List Nat) : Prop := kv.1 = .inr e.1 ∧ LfAt H kv.2 e.2
theorem LfAt.ls {K : PySem.W.Frag} {H : Hp} {x : V} {l : List Nat} (h : LfAt H x l) : LsAt K H x l := let ⟨a, h1, h2⟩ := h; ⟨a, h1, sq_of h2⟩
theorem KfAt.kv {K : PySem.W.Frag} {H : Hp} {kv : Key × V} {e : Str × List Nat} (h : KfAt H kv e) : KvAt K H kv e := ⟨h.1, h.2.ls⟩
theorem KfAt.kvs {K : PySem.W.Frag} {H : Hp} {kvs : List (Key × V)} {es : List (Str × List Nat)} (h : All2 (KfAt H) kvs es) : All2 (KvAt K H) kvs es := h.mono fun _ _ z => z.kv
theorem LfAt.mono {H H' : Hp} {x : V} {l : List Nat} (e : Ex H H') (h : LfAt H x l) : LfAt H' x l := let ⟨a, h1, h2⟩ := h; ⟨a, h1, e _ _ h2⟩
theorem KfAt.mono {H H' : Hp} {kv : Key × V} {x : Str × List Nat} (e : Ex H H') (h : KfAt H kv x) : KfAt H' kv x := ⟨h.1, h.2.mono e⟩
theorem LfAt.sb {H H' : Hp} {D : Addr} {o : HO} {x : V} {l : List Nat} (hD : H D = some o) (n : NoSq o) (e : Sb D H H') (h : LfAt H x l) : LfAt H' x l :=
  let ⟨a, h1, h2⟩ := h; ⟨a, h1, e _ _ (fun z => by rw [z, hD] at h2; exact n.1 _ (Option.some.inj h2)) h2⟩
theorem KfAt.sb {H H' : Hp} {D : Addr} {o : HO} {kv : Key × V} {x : Str × List Nat} (hD : H D = some o) (n : NoSq o) (e : Sb D H H') (h : KfAt H kv x) : KfAt H' kv x := ⟨h.1, h.2.sb hD n e⟩
def spIsWorld : Sp := fun vs H Q _ => ∃ v n : Nat, vs = [nV v, nV n] ∧ Ret H (fun u _ => u = .bl (decide (v < n))) Q
def spIsFrame (K : PySem.W.Frag) : Sp := fun vs H Q _ => ∃ (fa : Addr) (n : Nat) (ps : List (Nat × Nat)), vs = [.ref fa] ∧ FrAt K H fa n ps ∧ 1 ≤ n ∧ n ≤ 7 ∧ ps.Pairwise plt ∧ (∀ p, p ∈ ps → p.1 < n ∧ p.2 < n) ∧ ps.length < 64 ∧ Ret H (fun u _ => u = .bl true) Q
def spFrame (K : PySem.W.Frag) (C : Addr) : Sp := fun vs H Q _ => ∃ (p : Addr) (M : Mo Str), vs = [.ref p] ∧ MdAt K C H p M ∧ Ret H (fun u H' => ∃ fa, u = .ref fa ∧ FrAt K H' fa M.n M.ps) Q
def spTw (K : PySem.W.Frag) (C : Addr) : Sp := fun vs H Q _ => ∃ (p : Addr) (M : Mo Str), vs = [.ref p] ∧ MdAt K C H p M ∧ ∀ d H' kvs, Ex H H' → H d = none → H' d = some (.dK kvs) → All2 (KfAt H') kvs M.vs → Q (.ref d) H'
def spSeen (K : PySem.W.Frag) (C : Addr) : Sp := fun vs H Q _ => ∃ (p : Addr) (M : Mo Str) (v : Nat), vs = [.ref p, nV v] ∧ MdAt K C H p M ∧ v < M.n ∧ Ret H (fun u H' => LsAt K H' u (seen M v)) Q
def spWorldsOf (K : PySem.W.Frag) (C : Addr) : Sp := fun vs H Q _ => ∃ (p : Addr) (M : Mo Str), vs = [.ref p] ∧ MdAt K C H p M ∧ Ret H (fun u H' => LsAt K H' u (List.range M.n)) Q
/-- a list of pairs, as addresses and lists of ints -/
theorem prs_split {K : PySem.W.Frag} {H : Hp} : ∀ {ts : List V} {ps : List (Nat × Nat)}, All2 (PrAt K H) ts ps → ∃ ks : List (Addr × List Int), ts = ks.map (fun p => V.ref p.1) ∧ ks.map (·.2) = ps.map pl ∧ ∀ p, p ∈ ks → SqT K H p.1 (p.2.map V.int)
  | [], [], _ => ⟨[], rfl, rfl, fun p h => absurd h (by simp)⟩
  | [], p :: ps, h => absurd h.1 (by simp)
  | x :: xs, [], h => absurd h.1 (by simp)
  | x :: xs, p :: ps, h => by
    obtain ⟨ks, e1, e2, e3⟩ := prs_split (ts := xs) (ps := ps) ⟨by have := h.1; simpa using this, fun i a b ha hb => h.2 (i + 1) a b ha hb⟩
    obtain ⟨t, rfl, ht⟩ := h.2 0 x p rfl rfl
    refine ⟨(t, pl p) :: ks, by rw [e1]; rfl, by rw [List.map_cons, List.map_cons, e2], fun q hq => ?_⟩
    rcases List.mem_cons.mp hq with rfl | hq
    · exact ht
    · exact e3 q hq
theorem prs_join {K : PySem.W.Frag} {H : Hp} {ks : List (Addr × List Int)} {ps : List (Nat × Nat)} (e : ks.map (·.2) = ps.map pl) (h : ∀ p, p ∈ ks → SqT K H p.1 (p.2.map V.int)) : All2 (PrAt K H) (ks.map fun p => V.ref p.1) ps := by
  have hl : ks.length = ps.length := by rw [← List.length_map (f := (·.2)) (as := ks), e, List.length_map]
  refine ⟨by rw [List.length_map, hl], fun i x p hx hp => ?_⟩
  rw [List.getElem?_map] at hx
  cases q : ks[i]? with
  | none => rw [q] at hx; cases hx
  | some k =>
    rw [q] at hx
    have e1 : (ks.map (·.2))[i]? = some k.2 := by rw [List.getElem?_map, q]; rfl
    rw [e, List.getElem?_map, hp] at e1
    have e2 : pl p = k.2 := Option.some.inj e1
    refine ⟨k.1, (Option.some.inj hx).symm, ?_⟩
    have := h k (List.mem_of_getElem? q)
    rw [← e2] at this
    exact this
section
variable {P : Program} {w : World} {K : PySem.W.Frag} {mg : Str → Option Value} {base : Heap} {CM CR aF : Addr}
abbrev N_is_world : List Str := ["value", "worlds"]
theorem sc_is_world : FnScope N_is_world ["value", "worlds"] (defScope s_is_world) := ⟨rfl, rfl, rfl, by decide +kernel, rfl, by decide +kernel, by decide +kernel⟩
theorem ok_is_world {f : Addr} {fd : FuncData} (F : Fun K "is_world" "is_world" s_is_world f fd) (T : Tx K mg CM CR aF) : FnOk P w K mg base CX0 1 f fd ["value", "worlds"] spIsWorld := by
  refine F.ok sc_is_world (fun vs H Q E h => ?_) (fun cdv A outer s H vs Q E hr h => ?_)
  · obtain ⟨_, _, rfl, _⟩ := h
    rfl
  · obtain ⟨v, n, rfl, k⟩ := h
    refine ⟨_, (pss_one (ps_ret (pe_and (pe_callB call_isi rfl T.n_isinstance (by decide +kernel) (pa_cons (pv 0) (pa_cons (pe_bltn (v := .ty "int") rfl T.n_int boot_int rfl) pa_nil))) (pe_and (pe_not (pe_callB call_isi rfl T.n_isinstance (by decide +kernel) (pa_cons (pv 0) (pa_cons (pe_bltn (v := .ty "bool") rfl T.n_bool boot_bool rfl) pa_nil)))) (pe_one (pe_chain op_le op_lt pe_int (pv 0) (pv 1))))))), ?_⟩
    refine ⟨_, rfl, nV v, .ty "int", .type "int", _, true, rfl, .ty "int", .base (.int _), kit_ty (by decide +kernel), true, rfl, iteT ?_⟩
    refine ⟨_, rfl, nV v, .ty "bool", .type "int", _, false, rfl, .ty "bool", .base (.int _), kit_ty (by decide +kernel), false, rfl, true, rfl, iteT ?_⟩
    refine ⟨_, rfl, 0, _, rfl, rfl, true, ?_, iteT ⟨_, rfl, _, _, rfl, rfl, ?_⟩⟩
    · exact congrArg V.bl (decide_eq_true (Int.natCast_nonneg v))
    · refine k _ _ (Ex.refl _) (congrArg V.bl ?_)
      exact decide_eq_decide.mpr (by omega)
abbrev N_is_frame : List Str := ["frame", "worlds", "pairs", "pair"]
theorem sc_is_frame : FnScope N_is_frame ["frame"] (defScope s_is_frame) := ⟨rfl, rfl, rfl, by decide +kernel, rfl, by decide +kernel, by decide +kernel⟩
theorem ok_is_frame {f : Addr} {fd : FuncData} (F : Fun K "is_frame" "is_frame" s_is_frame f fd) (T : Tx K mg CM CR aF) (c_is_world : Cal P w K mg base CX0 1 "is_world" ["value", "worlds"] spIsWorld) : FnOk P w K mg base CX0 2 f fd ["frame"] (spIsFrame K) := by
  refine F.ok sc_is_frame (fun vs H Q E h => ?_) (fun cdv A outer s H vs Q E hr h => ?_)
  · obtain ⟨_, _, _, rfl, _⟩ := h
    rfl
  · obtain ⟨fa, n, ps, rfl, ⟨pa, ts, h1, h2, h3⟩, n1, n7, hs, hb, hl, k⟩ := h
    refine ⟨_, (pss_cons (ps_asg (pv 0) (pg_tup rfl (pgs_cons (pg_name (i := 1) sc_is_frame.nd rfl (Or.inl rfl)) (pgs_cons (pg_name (i := 2) sc_is_frame.nd rfl (Or.inl rfl)) pgs_nil))))
      (pss_cons (ps_if (PW.pt (pw_or (pt_val (pe_callB call_isi rfl T.n_isinstance (by decide +kernel) (pa_cons (pv 1) (pa_cons (pe_bltn (v := .ty "bool") rfl T.n_bool boot_bool rfl) pa_nil)))) (pw_or1 (pt_cmpR op_lt (pv 1) pe_int (nomark _)))))
      (pss_one (ps_ret pe_bl))
      pss_nil)
      (pss_cons (ps_for PassesOwn.never rfl (pi_tup (pv 2)) (pg_name (i := 3) sc_is_frame.nd rfl (Or.inl rfl))
      (pss_one (ps_if (PW.pt (pw_or (pt_cmpR op_ne (pe_callB call_len_seq rfl T.n_len boot_len (pa_cons (pv 3) pa_nil)) pe_int (nomark _)) (pw_or (pt_not (pt_val (pe_own c_is_world (hr.mono (by omega)) rfl (pa_cons (pe_ix ix_tup (pv 3) pe_int (fun _ _ => rfl)) (pa_cons (pv 1) pa_nil))))) (pw_or1 (pt_not (pt_val (pe_own c_is_world (hr.mono (by omega)) rfl (pa_cons (pe_ix ix_tup (pv 3) pe_int (fun _ _ => rfl)) (pa_cons (pv 1) pa_nil)))))))))
      (pss_one (ps_ret pe_bl))
      pss_nil)))
      (pss_one (ps_ret (pe_cmpR (op_eqD hr.units) (pe_callTy call_list_of rfl T.n_list boot_list (pa_cons (pv 2) pa_nil)) (pe_callB (cr_sortedT rfl) rfl T.n_sorted (by decide +kernel) (pa_cons (pe_callTy (cr_setTT rfl hr.units) rfl T.n_set (by decide +kernel) (pa_cons (pv 2) pa_nil)) pa_nil)) (nomark _))))))), ?_⟩
    refine ⟨_, rfl, fa, _, rfl, h1, rfl, _, _, rfl, _, _, rfl, rfl, ?_⟩
    refine ⟨_, rfl, nV n, .ty "bool", .type "int", _, false, rfl, .ty "bool", .base (.int _), kit_ty (by decide +kernel), false, rfl, iteF ?_⟩
    refine ⟨_, rfl, _, _, rfl, rfl, _, rfl, ?_⟩
    rw [decide_eq_false (show ¬ ((n : Int) < 1) by omega)]
    refine iteF ?_
    refine ⟨_, rfl, pa, rfl, ⟨_, h2⟩, ?_⟩
    have len2 : ∀ {i x}, ts[i]? = some x → ∃ p, ps[i]? = some p ∧ PrAt K H x p := fun e => h3.at e
    refine Wk.for_ (Wk.tup pa ts) (fun i σ H2 => ∃ z, σ = [some (.ref fa), some (nV n), some (.ref pa), z] ∧ Ex H H2) ⟨none, rfl, Ex.refl _⟩ (fun i σ H2 _ ⟨_, _, e⟩ => ex_t e h2) ?_ ?_
    · rintro i x σ H2 hi hx ⟨z, rfl, e2⟩
      obtain ⟨⟨a, b⟩, hp, t, rfl, ht⟩ := h3.at hx
      have hab := hb _ (List.mem_of_getElem? hp)
      refine ⟨_, rfl, t, _, rfl, Or.inr (ex_t e2 ht), rfl, _, rfl, iteNS rfl ?_⟩
      refine ⟨_, rfl, t, _, 0, _, rfl, rfl, ex_t e2 ht, rfl, _, rfl, a, n, rfl, fun u H3 e3 hu => ⟨true, by rw [hu, decide_eq_true hab.1], iteF ?_⟩⟩
      refine ⟨_, rfl, t, _, 1, _, rfl, rfl, ex_t (e2.trans e3) ht, rfl, _, rfl, b, n, rfl, fun u H4 e4 hu => ⟨true, by rw [hu, decide_eq_true hab.2], iteF ?_⟩⟩
      exact ⟨_, rfl, (e2.trans e3).trans e4⟩
    · rintro σ H2 ⟨z, rfl, e2⟩
      have h2' := ex_t e2 h2
      have h3' : All2 (PrAt K H2) ts ps := h3.mono fun _ _ z => z.mono e2
      refine ⟨_, rfl, pa, ts, rfl, Or.inr h2', fun q hq => ?_⟩
      have e3 : Ex H2 (upd H2 q (.lst ts)) := Ex.new hq
      obtain ⟨ks, ek, es, hk⟩ := prs_split h3'
      have kl : ks.length = ps.length := by rw [← List.length_map (f := (·.2)) (as := ks), es, List.length_map]
      have hm : ∀ u, u ∈ ks.map (·.2) ↔ ∃ p, p ∈ ps ∧ u = pl p := fun u => by rw [es, List.mem_map]; exact ⟨fun ⟨p, h, e⟩ => ⟨p, h, e.symm⟩, fun ⟨p, h, e⟩ => ⟨p, h, e.symm⟩⟩
      have b64 : ∀ p, p ∈ ps → p.1 < 64 ∧ p.2 < 64 := fun p hp => by have := hb p hp; omega
      refine ⟨_, rfl, pa, ks, rfl, by rw [← ek]; exact ex_t e3 h2', fun p hp => ex_t e3 (hk p hp), by omega, fun a L ha hL1 hL2 => ?_⟩
      have e4 := e3.trans (Ex.new (o := SetTO P w a L) ha)
      refine ⟨a, L, 2, 64, rfl, upd_same, fun p hp => ex_t e4 (hk p (hL1 p hp)), by decide, fun p hp => ?_, fun L' q2 pm nd _ pw hq2 => ?_⟩
      · obtain ⟨x, hx, e⟩ := (hm p.2).mp (List.mem_map.mpr ⟨p, hL1 p hp, rfl⟩)
        rw [e]
        exact pl_bd (b64 x hx)
      have e5 := e4.trans (Ex.new (o := HO.lst (L'.map fun q => V.ref q.1)) hq2)
      have es' : L'.map (·.2) = ps.map pl := by
        refine sorted_prs hs b64 nd (List.pairwise_map.mpr pw) fun u => ?_
        rw [← hm]
        constructor
        · intro h
          obtain ⟨p, hp, e⟩ := List.mem_map.mp h
          exact List.mem_map.mpr ⟨p, hL1 p (pm.mem_iff.mp hp), e⟩
        · intro h
          obtain ⟨p, hp, e⟩ := List.mem_map.mp h
          obtain ⟨p', hp', e'⟩ := List.mem_map.mp (hL2 p hp)
          exact List.mem_map.mpr ⟨p', pm.mem_iff.mpr hp', e'.trans e⟩
      refine ⟨.list (ps.map prP), .list (ps.map prP), .lst (ex_l ((Ex.new ha).trans (Ex.new hq2)) (sq_of upd_same)) (dp_prs (h3'.mono fun _ _ z => z.mono e5)), .lst (sq_of upd_same) (dp_prs (prs_join es' fun p hp => ?_)), prPs_shaped ps, prPs_shaped ps, ?_⟩
      · exact ex_t e5 (hk p (hL1 p (pm.mem_iff.mp hp)))
      · refine k _ _ (e2.trans e5) (congrArg V.bl (SeqAt.eqv_refl _ ?_))
        simp only [PyData.canLay0]
        exact prPs_lay ps
/-! ### methods that read -/
abbrev N_frame : List Str := ["self"]
theorem sc_frame : FnScope N_frame ["self"] (defScope s_frame) := ⟨rfl, rfl, rfl, by decide +kernel, rfl, by decide +kernel, by decide +kernel⟩
theorem ok_frame {f : Addr} {fd : FuncData} (F : Fun K "frame" "Model.frame" s_frame f fd) (T : Tx K mg CM CR aF) : FnOk P w K mg base CX0 1 f fd ["self"] (spFrame K CM) := by
  refine F.ok sc_frame (fun vs H Q E h => ?_) (fun cdv A outer s H vs Q E hr h => ?_)
  · obtain ⟨_, _, rfl, _⟩ := h
    rfl
  · obtain ⟨p, M, rfl, ⟨⟨dx, fa, sa, va, rs, kvs, h1, h2, h3, h4, h5, h6⟩, ok⟩, k⟩ := h
    refine ⟨_, (pss_one (ps_ret (pe_fld (pv 0) rfl))), ?_⟩
    exact ⟨_, rfl, p, CM, dx, _, _, rfl, h1, T.cM, T.m_frame, mF_frame, k _ _ (Ex.refl _) ⟨fa, rfl, h2⟩⟩
abbrev N_seen : List Str := ["self", "v"]
theorem sc_seen : FnScope N_seen ["self", "v"] (defScope s_seen) := ⟨rfl, rfl, rfl, by decide +kernel, rfl, by decide +kernel, by decide +kernel⟩
theorem ok_seen {f : Addr} {fd : FuncData} (F : Fun K "seen" "Model.seen" s_seen f fd) (T : Tx K mg CM CR aF) : FnOk P w K mg base CX0 1 f fd ["self", "v"] (spSeen K CM) := by
  refine F.ok sc_seen (fun vs H Q E h => ?_) (fun cdv A outer s H vs Q E hr h => ?_)
  · obtain ⟨_, _, _, rfl, _⟩ := h
    rfl
  · obtain ⟨p, M, v, rfl, ⟨⟨dx, fa, sa, va, rs, kvs, h1, h2, h3, h4, h5, h6⟩, ok⟩, hv, k⟩ := h
    refine ⟨_, (pss_one (ps_ret (pe_callTy call_list_of rfl T.n_list boot_list (pa_cons (pe_ix ix_list (pe_fld (pv 0) rfl) (pv 1) (fun _ _ => rfl)) pa_nil)))), ?_⟩
    obtain ⟨r, hr', a, rfl, ha⟩ := h4.at' (List.getElem?_range hv)
    refine ⟨_, rfl, p, CM, dx, _, _, rfl, h1, T.cM, T.m_seen, mF_seen, _, rfl, sa, rs, _, .ref a, rfl, rfl, h3, atI_nat hr', a, _, rfl, Or.inl ha, fun l hl => ?_⟩
    exact k _ _ (Ex.new hl) ⟨l, rfl, sq_of upd_same⟩
abbrev N_worlds_of : List Str := ["model"]
theorem sc_worlds_of : FnScope N_worlds_of ["model"] (defScope s_worlds_of) := ⟨rfl, rfl, rfl, by decide +kernel, rfl, by decide +kernel, by decide +kernel⟩
theorem ok_worlds_of {f : Addr} {fd : FuncData} (F : Fun K "worlds_of" "worlds_of" s_worlds_of f fd) (T : Tx K mg CM CR aF) (c_frame : Mth P w K mg base CM 1 "frame" ["self"] (spFrame K CM)) : FnOk P w K mg base CX0 2 f fd ["model"] (spWorldsOf K CM) := by
  refine F.ok sc_worlds_of (fun vs H Q E h => ?_) (fun cdv A outer s H vs Q E hr h => ?_)
  · obtain ⟨_, _, rfl, _⟩ := h
    rfl
  · obtain ⟨p, M, rfl, hM, k⟩ := h
    obtain ⟨⟨dx, fa, sa, va, rs, kvs, h1, _⟩, ok⟩ := id hM
    refine ⟨_, (pss_one (ps_ret (pe_listRg rfl rfl T.n_list (prg_1 rfl T.n_range (pe_ix ix_tup (pe_mth0 c_frame T.cM (hr.mono (by omega)) (pv 0)) pe_int (fun _ _ => rfl)))))), ?_⟩
    refine ⟨_, rfl, p, dx, _, rfl, h1, mF_no (by decide +kernel) (by decide +kernel) (by decide +kernel), p, M, rfl, hM, fun u H1 e1 ⟨fa, hu, pa, ts, hf, _⟩ => ?_⟩
    subst hu
    refine ⟨fa, _, 0, _, rfl, rfl, hf, rfl, M.n, rfl, RgOk.of_le (by omega) (by have := ok.n7; omega) (by omega) (by omega), fun q hq => ?_⟩
    refine k _ _ (e1.trans (Ex.new hq)) ⟨q, rfl, sq_of ?_⟩
    rw [upd_same]
    congr 2
    unfold rgV
    rw [show ((M.n : Int) - 0).toNat = M.n by omega]
    refine List.map_congr_left fun i _ => ?_
    show V.int (0 + (i : Int)) = nV i
    rw [Int.zero_add]
    rfl
abbrev N_true_worlds : List Str := ["self", "name"]
theorem sc_true_worlds : FnScope N_true_worlds ["self"] (defScope s_true_worlds) := ⟨rfl, rfl, rfl, by decide +kernel, rfl, by decide +kernel, by decide +kernel⟩
theorem ok_true_worlds {f : Addr} {fd : FuncData} (F : Fun K "true_worlds" "Model.true_worlds" s_true_worlds f fd) (T : Tx K mg CM CR aF) : FnOk P w K mg base CX0 1 f fd ["self"] (spTw K CM) := by
  refine F.ok sc_true_worlds (fun vs H Q E h => ?_) (fun cdv A outer s H vs Q E hr h => ?_)
  · obtain ⟨_, _, rfl, _⟩ := h
    rfl
  · obtain ⟨p, M, rfl, ⟨⟨dx, fa, sa, va, rs, kvs, h1, h2, h3, h4, h5, h6⟩, ok⟩, k⟩ := h
    have hu := hu_of hr
    refine ⟨_, (pss_one (ps_ret (pe_lock (pe_dcK (own := [("name", 1)]) (g := gName 1) rfl sc_true_worlds.nd (pi_keys (pe_fld (pv 0) rfl)) (blkOk_by (own := [("name", 1)]) (N := N_true_worlds) (sc := defScope s_true_worlds) (by decide +kernel)) (fun _ _ _ _ _ => (pg_name (i := 1) sc_true_worlds.nd rfl (Or.inl rfl))) (fun _ _ _ _ _ => pts_nil) (fun _ _ _ _ _ => (pv 1)) (fun _ _ _ _ _ => (pe_callTy (k_list (K := K) rfl) rfl T.n_list boot_list (pa_cons (pe_dget hu (k_fld (K := K) rfl (pv 0) rfl) (pv 1) (fun _ _ => rfl)) pa_nil))))))), ?_⟩
    refine ⟨va, _, h5, trivial, fun od => ?_⟩
    have npv : p ≠ va := ne_of h1 h5 (by intro z; cases z)
    -- the heap while the dict is locked
    have hkeep : Sb va H (upd H va (.frz od (.dK kvs))) := Sb.upd
    refine ⟨_, rfl, p, CM, dx, _, _, rfl, hkeep _ _ npv h1, T.cM, T.m_values, mF_values, va, od, rfl, Or.inl ⟨kvs, upd_same, fun D hD => ?_⟩⟩
    have hDv : D ≠ va := fun z => by rw [z, upd_same] at hD; cases hD
    have hD0 : H D = none := by rw [upd_ne hDv] at hD; exact hD
    have nd := kv_nodup h6 ok.nd
    refine Wk.comp (Wk.keys va od kvs) (fun i H1 => H1 va = some (.frz od (.dK kvs)) ∧ Sb va H H1 ∧ ∃ es, H1 D = some (.dK es) ∧ All2 (KfAt H1) es (M.vs.take i)) ⟨by rw [upd_ne hDv.symm, upd_same], fun b o hb e => ?_, [], upd_same, All2.nil⟩ (fun i H1 _ z => z.1) ?_ ?_
    · rw [upd_ne (ne_of_none e hD0), upd_ne hb]
      exact e
    · rintro i x H1 hi ⟨key, v, hkv, rfl⟩ ⟨g1, g2, es, g3, g4⟩
      obtain ⟨e, he, ek, a, ea, hl⟩ := h6.at hkv
      simp only at ek ea
      subst ek; subst ea
      have hv : valV kvs (.inr e.1) = some (.ref a) := valV_mem nd (List.mem_of_getElem? hkv)
      refine ⟨rfl, ⟨_, rfl, _, rfl, p, CM, dx, _, _, rfl, g2 _ _ npv h1, T.cM, T.m_values, mF_values, _, rfl, va, _, rfl, dget_frz g1 hv, a, _, rfl, Or.inl (sql_sb h5 noSq_dK g2 hl), fun q hq => ?_⟩⟩
      have e1 : Ex H1 (upd H1 q (.lst (e.2.map nV))) := Ex.new hq
      have nkey : valV es (.inr e.1 : Key) = none := kv_none (K := K) (KfAt.kvs g4) (names_take ok.nd he)
      have g3' := e1 _ _ g3
      refine ⟨es, .inr e.1, rfl, g3', ?_, ?_⟩
      · have := g4.1
        rw [List.length_take] at this
        have := ok.few
        exact small1000 (by omega)
      · rw [putK_new _ nkey]
        have s2 : Sb D (upd H1 q (.lst (e.2.map nV))) (upd (upd H1 q (.lst (e.2.map nV))) D (.dK (es ++ [(.inr e.1, .ref q)]))) := Sb.upd
        refine ⟨s2 _ _ hDv.symm (e1 _ _ g1), fun b o hb z => s2 _ _ (ne_of_none z hD0) (e1 _ _ (g2 _ _ hb z)), _, upd_same, ?_⟩
        rw [take_snoc he]
        refine All2.snoc (g4.mono fun _ _ z => (z.mono e1).sb g3' noSq_dK s2) ⟨rfl, q, rfl, s2 _ _ (ne_of g3' upd_same (by intro z; cases z)).symm upd_same⟩
    · rintro H1 ⟨g1, g2, es, g3, g4⟩
      refine ⟨g1, k D _ es (fun b o z => ?_) hD0 (by rw [upd_ne hDv]; exact g3) ?_⟩
      · by_cases hb : b = va
        · subst hb
          rw [h5] at z
          rw [upd_same]
          exact z
        · rw [upd_ne hb]
          exact g2 _ _ hb z
      · have hlen : kvs.length = M.vs.length := h6.1
        rw [hlen, List.take_length] at g4
        exact g4.mono fun _ _ z => z.sb g1 noSq_fK Sb.upd
end
end Q
/-! Model.__init__ -/
namespace Q
open PySem PySem.Spec PyProof.Rows L2 Evl Rl Bi
def spMinit (K : PySem.W.Frag) (C : Addr) : Sp := fun vs H Q _ => ∃ (p dx fa va : Addr) (n : Nat) (ps : List (Nat × Nat)) (kvs : List (Key × V)) (raw : List (Str × List Nat)), vs = [.ref p, .ref fa, .ref va] ∧ H p = some (.ins C dx []) ∧
  FrAt K H fa n ps ∧ (1 ≤ n ∧ n ≤ 7 ∧ ps.Pairwise plt ∧ (∀ p, p ∈ ps → p.1 < n ∧ p.2 < n) ∧ ps.length < 64) ∧ H va = some (.dK kvs) ∧ All2 (KvAt K H) kvs raw ∧ (raw.map (·.1)).Nodup ∧ raw.length ≤ 6 ∧
  (∀ e, e ∈ raw → PyData.strOk e.1 = true ∧ e.2.length ≤ 20 ∧ ∀ w, w ∈ e.2 → w < n) ∧
  ∀ H' M, Sb p H H' → M.n = n → M.ps = ps → (∀ x w, val M x w ↔ ∃ l, (x, l) ∈ raw ∧ w ∈ l) → MdAt K C H' p M → Q .non H'
theorem fresh_sb {p a : Addr} {H H' : Hp} {o : HO} (e : Sb p H H') (hp : H' p = some o) (h : H' a = none) : H a = none := by
  cases q : H a with
  | none => rfl
  | some z =>
    have ne : a ≠ p := fun c => by rw [c, hp] at h; cases h
    rw [e a z ne q] at h
    cases h
theorem nodup_snoc {α : Type} {l : List α} {a : α} (h : l.Nodup) (k : a ∉ l) : (l ++ [a]).Nodup := List.nodup_append.mpr ⟨h, by simp, fun x hx y hy e => by rw [List.mem_singleton.mp hy] at e; exact k (e ▸ hx)⟩
/-- the values that the model keeps -/
structure VOk (n : Nat) (raw vs : List (Str × List Nat)) : Prop where
  nd : (vs.map (·.1)).Nodup
  sub : ∀ e, e ∈ vs → ∃ l, (e.1, l) ∈ raw
  same : ∀ x w, (∃ l, (x, l) ∈ vs ∧ w ∈ l) ↔ ∃ l, (x, l) ∈ raw ∧ w ∈ l
  ls : ∀ e, e ∈ vs → e.2 ≠ [] ∧ e.2.Pairwise (· < ·) ∧ ∀ w, w ∈ e.2 → w < n
  len : vs.length ≤ raw.length
theorem VOk.skip {n : Nat} {raw vs : List (Str × List Nat)} {x : Str} (h : VOk n raw vs) : VOk n (raw ++ [(x, [])]) vs := by
  refine ⟨h.nd, fun e he => ?_, fun y w => ?_, h.ls, by rw [List.length_append]; have := h.len; omega⟩
  · obtain ⟨l, hl⟩ := h.sub e he
    exact ⟨l, List.mem_append_left _ hl⟩
  · rw [h.same]
    constructor
    · rintro ⟨l, a, b⟩
      exact ⟨l, List.mem_append_left _ a, b⟩
    · rintro ⟨l, a, b⟩
      rcases List.mem_append.mp a with a | a
      · exact ⟨l, a, b⟩
      · have a := List.mem_singleton.mp a
        injection a with a1 a2
        rw [a2] at b
        cases b
theorem VOk.more {n : Nat} {raw vs : List (Str × List Nat)} {x : Str} {l l' : List Nat} (h : VOk n raw vs) (hx : x ∉ raw.map (·.1)) (h0 : l ≠ []) (ha : l'.Pairwise (· < ·)) (hm : ∀ w, w ∈ l' ↔ w ∈ l) (hn : ∀ w, w ∈ l → w < n) : VOk n (raw ++ [(x, l)]) (vs ++ [(x, l')]) := by
  have hxv : x ∉ vs.map (·.1) := fun m => by
    obtain ⟨e, he, rfl⟩ := List.mem_map.mp m
    obtain ⟨l2, h2⟩ := h.sub e he
    exact hx (List.mem_map.mpr ⟨_, h2, rfl⟩)
  refine ⟨by rw [List.map_append]; exact nodup_snoc h.nd hxv, fun e he => ?_, fun y w => ?_, fun e he => ?_, by rw [List.length_append, List.length_append]; have := h.len; simp; omega⟩
  · rcases List.mem_append.mp he with he | he
    · obtain ⟨l2, h2⟩ := h.sub e he
      exact ⟨l2, List.mem_append_left _ h2⟩
    · rw [List.mem_singleton.mp he]
      exact ⟨l, List.mem_append_right _ List.mem_cons_self⟩
  · constructor
    · rintro ⟨l2, a, b⟩
      rcases List.mem_append.mp a with a | a
      · obtain ⟨l3, c, d⟩ := (h.same y w).mp ⟨l2, a, b⟩
        exact ⟨l3, List.mem_append_left _ c, d⟩
      · have a := List.mem_singleton.mp a
        injection a with a1 a2
        subst a1; subst a2
        exact ⟨l, List.mem_append_right _ List.mem_cons_self, (hm w).mp b⟩
    · rintro ⟨l2, a, b⟩
      rcases List.mem_append.mp a with a | a
      · obtain ⟨l3, c, d⟩ := (h.same y w).mpr ⟨l2, a, b⟩
        exact ⟨l3, List.mem_append_left _ c, d⟩
      · have a := List.mem_singleton.mp a
        injection a with a1 a2
        subst a1; subst a2
        exact ⟨l', List.mem_append_right _ List.mem_cons_self, (hm w).mpr b⟩
  · rcases List.mem_append.mp he with he | he
    · exact h.ls e he
    · rw [List.mem_singleton.mp he]
      refine ⟨fun z => ?_, ha, fun w hw => hn w ((hm w).mp hw)⟩
      obtain ⟨w, hw⟩ := List.exists_mem_of_ne_nil l h0
      have hw' := (hm w).mpr hw
      rw [show l' = [] from z] at hw'
      cases hw'
theorem toNats {ns : List Int} (h : ∀ x, x ∈ ns → 0 ≤ x) : ns = toI (ns.map Int.toNat) := by
  unfold toI
  rw [List.map_map]
  have e : ns.map ((fun n : Nat => (n : Int)) ∘ Int.toNat) = ns.map id := List.map_congr_left fun x hx => by
    show ((x.toNat : Nat) : Int) = x
    have := h x hx
    omega
  rw [e, List.map_id]
theorem sql_sb2 {K : PySem.W.Frag} {H H' : Hp} {c d a : Addr} {xs : List V} {o u : HO} (hc : H c = some o) (nc : NoSq o) (hd : H d = some u) (nd : NoSq u) (e : ∀ b o, b ≠ c → b ≠ d → H b = some o → H' b = some o) (h : SqL K H a xs) : SqL K H' a xs := by
  rcases h with (h | ⟨q, h⟩) | h
  · exact Or.inl (Or.inl (e _ _ (fun z => by rw [z, hc] at h; exact nc.1 _ (Option.some.inj h)) (fun z => by rw [z, hd] at h; exact nd.1 _ (Option.some.inj h)) h))
  · exact Or.inl (Or.inr ⟨q, e _ _ (fun z => by rw [z, hc] at h; exact nc.2.2.1 _ _ (Option.some.inj h)) (fun z => by rw [z, hd] at h; exact nd.2.2.1 _ _ (Option.some.inj h)) h⟩)
  · exact Or.inr h
theorem sqt_sb2 {K : PySem.W.Frag} {H H' : Hp} {c d a : Addr} {xs : List V} {o u : HO} (hc : H c = some o) (nc : NoSq o) (hd : H d = some u) (nd : NoSq u) (e : ∀ b o, b ≠ c → b ≠ d → H b = some o → H' b = some o) (h : SqT K H a xs) : SqT K H' a xs := by
  rcases h with (h | ⟨q, h⟩) | h
  · exact Or.inl (Or.inl (e _ _ (fun z => by rw [z, hc] at h; exact nc.2.1 _ (Option.some.inj h)) (fun z => by rw [z, hd] at h; exact nd.2.1 _ (Option.some.inj h)) h))
  · exact Or.inl (Or.inr ⟨q, e _ _ (fun z => by rw [z, hc] at h; exact nc.2.2.2 _ _ (Option.some.inj h)) (fun z => by rw [z, hd] at h; exact nd.2.2.2 _ _ (Option.some.inj h)) h⟩)
  · exact Or.inr h
def fs1 (q : Addr) : List (Str × V) := putF "_frame" (.ref q) []
def fs2 (q D : Addr) : List (Str × V) := putF "_seen" (.ref D) (fs1 q)
theorem fs2_seen {q D : Addr} : (fs2 q D).lookup ("_seen" : Str) = some (.ref D) := by
  unfold fs2
  rw [lookup_putF, if_pos rfl]
theorem fs1_len {q : Addr} : (fs1 q).length ≤ 1 := by
  have := length_putF "_frame" (.ref q) []
  unfold fs1
  simpa using this
theorem fs2_len {q D : Addr} : (fs2 q D).length ≤ 2 := by
  have := length_putF "_seen" (.ref D) (fs1 q)
  have := @fs1_len q
  unfold fs2
  omega
def rowOf (ps : List (Nat × Nat)) (v : Nat) : List Nat := (ps.filter fun p => p.1 == v).map (·.2)
theorem rowOf_snoc {ps : List (Nat × Nat)} {a b v : Nat} : rowOf (ps ++ [(a, b)]) v = if a = v then rowOf ps v ++ [b] else rowOf ps v := by
  unfold rowOf
  rw [List.filter_append, List.map_append]
  by_cases h : a = v
  · rw [if_pos h]
    subst h
    simp
  · rw [if_neg h]
    have : (a == v) = false := beq_eq_false_iff_ne.mpr h
    simp [this]
section
variable {P : Program} {w : World} {K : PySem.W.Frag} {mg : Str → Option Value} {base : Heap} {CM CR aF : Addr}
abbrev N_minit : List Str := ["self", "frame", "values", "_", "v", "w", "name"]
theorem sc_minit : FnScope N_minit ["self", "frame", "values"] (defScope s_minit) := ⟨rfl, rfl, rfl, by decide +kernel, rfl, by decide +kernel, by decide +kernel⟩
theorem ok_minit {f : Addr} {fd : FuncData} (F : Fun K "__init__" "Model.__init__" s_minit f fd) (T : Tx K mg CM CR aF) (c_is_frame : Cal P w K mg base CX0 2 "is_frame" ["frame"] (spIsFrame K))
    (c_is_world : Cal P w K mg base CX0 1 "is_world" ["value", "worlds"] spIsWorld) : FnOk P w K mg base CX0 3 f fd ["self", "frame", "values"] (spMinit K CM) := by
  refine F.ok sc_minit (fun vs H Q E h => ?_) (fun cdv A outer s H vs Q E hr h => ?_)
  · obtain ⟨_, _, _, _, _, _, _, _, rfl, _⟩ := h
    rfl
  · obtain ⟨p, dx, fa, va, n, ps, kvs, raw, rfl, hp, hfr, ⟨n1, n7, hasc, hrng, hlen⟩, hva, hkv, hnd, hraw, hok, k⟩ := h
    have hu := hu_of hr
    refine ⟨_, (pss_cons (ps_if (pt_not (pt_val (pe_own c_is_frame (hr.mono (by omega)) rfl (pa_cons (pv 1) pa_nil))))
      (pss_one ps_never)
      pss_nil)
      (pss_cons (ps_fld (pv 0) (pe_tup (pa_cons (pe_ix ix_tup (pv 1) pe_int (fun _ _ => rfl)) (pa_cons (pe_callTy call_tuple_of rfl T.n_tuple boot_tuple (pa_cons (pe_ix ix_tup (pv 1) pe_int (fun _ _ => rfl)) pa_nil)) pa_nil))) rfl)
      (pss_cons (ps_fld (pv 0) (pe_lc (own := [("_", 3)]) (g := gName 3) rfl sc_minit.nd (pi_range1 rfl T.n_range (pa_cons (pe_ix ix_tup (pv 1) pe_int (fun _ _ => rfl)) pa_nil)) (blkOk_by (own := [("_", 3)]) (N := N_minit) (sc := defScope s_minit) (by decide +kernel)) (fun _ _ _ _ _ => (pg_name (i := 3) sc_minit.nd rfl (Or.inl rfl))) (fun _ _ _ _ _ => pts_nil) (fun _ _ _ _ _ => (pe_lst pa_nil))) rfl)
      (pss_cons (ps_for PassesOwn.never rfl (pi_tup (pe_ix ix_tup (pv 1) pe_int (fun _ _ => rfl))) (pg_tup rfl (pgs_cons (pg_name (i := 4) sc_minit.nd rfl (Or.inl rfl)) (pgs_cons (pg_name (i := 5) sc_minit.nd rfl (Or.inl rfl)) pgs_nil)))
      (pss_one (ps_expr (pe_bm PySem.F.plainAttrs_list PySem.F.slot_list_append PySem.F.type_list_append mt_append (pe_ix ix_list (pe_fld (pv 0) rfl) (pv 4) (fun _ _ => rfl)) (pa_cons (pv 5) pa_nil)))))
      (pss_cons (ps_fld (pv 0) pe_dnewK rfl)
      (pss_one (ps_lock (ps_for PassesOwn.never rfl (pi_keys (pv 2)) (pg_name (i := 6) sc_minit.nd rfl (Or.inl rfl))
      (pss_cons (ps_for PassesOwn.never rfl (pi_list (pe_dget hu (pv 2) (pv 6) (fun _ _ => rfl))) (pg_name (i := 5) sc_minit.nd rfl (Or.inl rfl))
      (pss_one (ps_if (pt_not (pt_val (pe_own c_is_world (hr.mono (by omega)) rfl (pa_cons (pv 5) (pa_cons (pe_ix ix_tup (pv 1) pe_int (fun _ _ => rfl)) pa_nil)))))
      (pss_one ps_never)
      pss_nil)))
      (pss_one (ps_if (pt_cmpR op_gt (pe_callB call_len_seq rfl T.n_len boot_len (pa_cons (pe_dget hu (pv 2) (pv 6) (fun _ _ => rfl)) pa_nil)) pe_int (nomark _))
      (pss_one (ps_dput hu (pe_fld (pv 0) rfl) (pv 6) (pe_callB (cr_sortedSet rfl) rfl T.n_sorted (by decide +kernel) (pa_cons (pe_callTy (cr_setI rfl) rfl T.n_set (by decide +kernel) (pa_cons (pe_dget hu (pv 2) (pv 6) (fun _ _ => rfl)) pa_nil)) pa_nil)) rfl))
      pss_nil))))))))))), ?_⟩
    -- the test
    refine ⟨_, rfl, fa, n, ps, rfl, hfr, n1, n7, hasc, hrng, hlen, fun u H1 e1 hu1 => ⟨true, hu1, iteF ?_⟩⟩
    obtain ⟨pa, ts, f1, f2, f3⟩ := hfr
    have hp1 := e1 _ _ hp
    have g1 := ex_t e1 f1
    have g2 := ex_t e1 f2
    -- self._frame
    refine ⟨_, rfl, fa, _, 0, _, rfl, rfl, g1, rfl, _, rfl, fa, _, 1, _, rfl, rfl, g1, rfl, pa, ts, rfl, Or.inr ⟨g2, (by show 2 ≤ sizeLine; decide), fun q hq => ?_⟩⟩
    have hpq : p ≠ q := ne_of_none hp1 hq
    refine ⟨_, rfl, p, CM, dx, [], rfl, by rw [upd_ne hpq]; exact hp1, T.cM, T.m_frame, (by decide), ?_⟩
    generalize hA : upd (upd H1 q (.tup [nV n, .ref pa])) p (.ins CM dx (putF "_frame" (.ref q) [])) = HA
    have sA : Sb p H HA := by
      rw [← hA]
      exact (Sb.pre (e1.trans (Ex.new hq)) Sb.upd)
    have pA : HA p = some (.ins CM dx (fs1 q)) := by rw [← hA]; exact upd_same
    have qA : HA q = some (.tup [nV n, .ref pa]) := by rw [← hA, upd_ne hpq.symm]; exact upd_same
    have tq : ∀ {a xs H'}, Sb p H H' → SqT K H a xs → SqT K H' a xs := fun e h => sqt_sb hp noSq_ins e h
    have gA := tq sA f1
    have g2A := tq sA f2
    -- self._seen
    refine ⟨_, rfl, fa, _, 0, _, rfl, rfl, gA, rfl, n, rfl, by omega, by omega, fun D hD => ?_⟩
    have hpD : p ≠ D := ne_of_none pA hD
    have hqD : q ≠ D := ne_of_none qA hD
    refine Wk.comp (Wk.range n) (fun i H2 => Sb p H H2 ∧ H2 p = some (.ins CM dx (fs1 q)) ∧ H2 q = some (.tup [nV n, .ref pa]) ∧ ∃ as : List Addr, H2 D = some (.lst (as.map V.ref)) ∧ as.length = i ∧ as.Nodup ∧ ∀ a, a ∈ as → H2 a = some (.lst []) ∧ a ≠ D ∧ H a = none)
      ⟨sA.trans fun b o hb e => by rw [upd_ne (ne_of_none e hD)]; exact e, by rw [upd_ne hpD]; exact pA, by rw [upd_ne hqD]; exact qA, [], upd_same, rfl, List.nodup_nil, fun a h => absurd h (by simp)⟩ (fun _ _ _ _ => trivial) ?_ ?_
    · rintro i x H2 hi hx ⟨b1, b2, b3, as, b4, b5, b6, b7⟩
      refine ⟨rfl, ⟨(by show 0 ≤ sizeLine; decide), fun a ha => ⟨_, by rw [upd_ne (ne_of_none b4 ha)]; exact b4, by rw [List.length_map, b5]; exact small1000 (by omega), ?_⟩⟩⟩
      have haD : a ≠ D := fun z => by rw [z, b4] at ha; cases ha
      have hn0 := fresh_sb b1 b2 ha
      have st : ∀ b o, b ≠ D → H2 b = some o → upd (upd H2 a (.lst [])) D (.lst (as.map V.ref ++ [.ref a])) b = some o := fun b o hb e => by rw [upd_ne hb, upd_ne (ne_of_none e ha)]; exact e
      have hDn : H D = none := by
        cases z : H D with
        | none => rfl
        | some o => exact absurd (sA _ _ hpD.symm z) (by rw [hD]; intro c; cases c)
      refine ⟨fun b o hb e => st _ _ (ne_of_none e hDn) (b1 _ _ hb e), st _ _ hpD b2, st _ _ hqD b3, as ++ [a], by rw [upd_same, List.map_append]; rfl, by rw [List.length_append, b5]; rfl, nodup_snoc b6 fun m => ?_, fun c hc => ?_⟩
      · have := (b7 a m).1
        rw [ha] at this
        cases this
      · rcases List.mem_append.mp hc with hc | hc
        · exact ⟨st _ _ (b7 c hc).2.1 (b7 c hc).1, (b7 c hc).2⟩
        · rw [List.mem_singleton.mp hc]
          exact ⟨by rw [upd_ne haD]; exact upd_same, haD, hn0⟩
    rintro HB ⟨b1, b2, b3, as, b4, b5, b6, b7⟩
    have asl := b5
    refine ⟨_, rfl, p, CM, dx, fs1 q, rfl, b2, T.cM, T.m_seen, by have := @fs1_len q; omega, ?_⟩
    -- the loop over the pairs
    have hDn : H D = none := by
      cases z : H D with
      | none => rfl
      | some o => exact absurd (sA _ _ hpD.symm z) (by rw [hD]; intro c; cases c)
    have hnp : ∀ a, a ∈ as → a ≠ p := fun a ha z => by have := (b7 a ha).1; rw [z, b2] at this; cases this
    have hnq : ∀ a, a ∈ as → a ≠ q := fun a ha z => by have := (b7 a ha).1; rw [z, b3] at this; cases this
    have stB : Sb p HB (upd HB p (.ins CM dx (fs2 q D))) := Sb.upd
    refine ⟨_, rfl, fa, _, 1, _, rfl, rfl, tq (b1.trans stB) f1, rfl, pa, rfl, ⟨ts, tq (b1.trans stB) f2⟩, ?_⟩
    refine Wk.for_ (Wk.tup pa ts) (fun i σ H2 => ∃ z1 z2, σ = [some (.ref p), some (.ref fa), some (.ref va), none, z1, z2, none] ∧ Sb p H H2 ∧ H2 p = some (.ins CM dx (fs2 q D)) ∧ H2 q = some (.tup [nV n, .ref pa]) ∧ H2 D = some (.lst (as.map V.ref)) ∧
        ∀ v a, as[v]? = some a → H2 a = some (.lst ((rowOf (ps.take i) v).map nV)))
      ⟨none, none, rfl, b1.trans stB, upd_same, by rw [upd_ne hpq.symm]; exact b3, by rw [upd_ne hpD.symm]; exact b4, fun v a hv => by rw [upd_ne (hnp a (List.mem_of_getElem? hv))]; exact (b7 a (List.mem_of_getElem? hv)).1⟩
      (fun i σ H2 _ ⟨_, _, _, e, _⟩ => tq e f2) ?_ ?_
    · rintro i x σ H2 hi hx ⟨z1, z2, rfl, c1, c2, c3, c4, c5⟩
      obtain ⟨⟨a, b⟩, hab, t, rfl, ht⟩ := f3.at hx
      have rab := hrng _ (List.mem_of_getElem? hab)
      simp only at rab
      obtain ⟨r, hr2⟩ : ∃ r, as[a]? = some r := ⟨_, List.getElem?_eq_getElem (by rw [b5]; exact rab.1)⟩
      have hrm := List.mem_of_getElem? hr2
      refine ⟨t, _, rfl, tq c1 ht, rfl, _, _, rfl, _, _, rfl, rfl, ?_⟩
      refine ⟨_, rfl, p, CM, dx, _, _, rfl, c2, T.cM, T.m_seen, fs2_seen, _, rfl, D, _, _, .ref r, rfl, rfl, sq_of c4, atI_nat (by rw [List.getElem?_map, hr2]; rfl), Or.inl ⟨rfl, _, sq_of (c5 a r hr2)⟩, _, rfl, r, _, _, rfl, rfl, c5 a r hr2, ?_, ?_⟩
      · rw [List.length_map]
        unfold rowOf
        rw [List.length_map]
        have := List.length_filter_le (fun p : Nat × Nat => p.1 == a) (ps.take i)
        rw [List.length_take] at this
        exact small1000 (by omega)
      · have st : ∀ b' o, b' ≠ r → H2 b' = some o → upd H2 r (.lst ((rowOf (ps.take i) a).map nV ++ [nV b])) b' = some o := fun b' o hb e => by rw [upd_ne hb]; exact e
        refine ⟨_, _, rfl, fun b' o hb e => st _ _ (ne_of_none e (b7 r hrm).2.2) (c1 _ _ hb e), st _ _ (hnp r hrm).symm c2, st _ _ (hnq r hrm).symm c3, st _ _ (b7 r hrm).2.1.symm c4, fun v a' hv => ?_⟩
        rw [take_snoc hab, rowOf_snoc]
        by_cases e : a = v
        · subst e
          rw [hr2] at hv
          rw [← Option.some.inj hv, if_pos rfl, upd_same, List.map_append]
          rfl
        · rw [if_neg e]
          exact st _ _ (fun z => e (nd_ix b6 hr2 (by rw [← z]; exact hv))) (c5 v a' hv)
    rintro σ HC ⟨z1, z2, rfl, c1, c2, c3, c4, c5⟩
    have tl : ts.length = ps.length := f3.1
    rw [tl, List.take_length] at c5
    -- self._values
    intro d hd
    have hdp : p ≠ d := ne_of_none c2 hd
    refine ⟨_, rfl, p, CM, dx, fs2 q D, rfl, by rw [upd_ne hdp]; exact c2, T.cM, T.m_values, by have := @fs2_len q D; omega, ?_⟩
    have hdn : H d = none := fresh_sb c1 c2 hd
    generalize hHD : upd (upd HC d (.dK [])) p (.ins CM dx (putF "_values" (.ref d) (fs2 q D))) = HD
    have st : ∀ b o, b ≠ p → HC b = some o → HD b = some o := fun b o hb e => by rw [← hHD, upd_ne hb, upd_ne (ne_of_none e hd)]; exact e
    have sD : Sb p H HD := fun b o hb e => st _ _ hb (c1 _ _ hb e)
    have pD : HD p = some (.ins CM dx (mF q D d)) := by rw [← hHD]; exact upd_same
    have qD := st _ _ hpq.symm c3
    have DD := st _ _ hpD.symm c4
    have dD : HD d = some (.dK []) := by rw [← hHD, upd_ne hdp.symm]; exact upd_same
    have rowD : ∀ v a, as[v]? = some a → HD a = some (.lst ((rowOf ps v).map nV)) := fun v a hv => st _ _ (hnp a (List.mem_of_getElem? hv)) (c5 v a hv)
    have hvp : va ≠ p := ne_of hva hp (by intro z; cases z)
    have vD := sD _ _ hvp hva
    have hvd : va ≠ d := fun z => by rw [← z, hva] at hdn; cases hdn
    have fD := tq sD f1
    -- the loop over the names
    refine ⟨va, _, vD, trivial, fun od => ?_⟩
    refine ⟨_, rfl, va, od, rfl, Or.inl ⟨kvs, upd_same, ?_⟩⟩
    refine Wk.for_ (Wk.keys va od kvs) (fun i σ H2 => ∃ z4 z5 z6, σ = [some (.ref p), some (.ref fa), some (.ref va), none, z4, z5, z6] ∧ H2 va = some (.frz od (.dK kvs)) ∧ (∀ b o, b ≠ va → b ≠ d → HD b = some o → H2 b = some o) ∧
        ∃ es vs, H2 d = some (.dK es) ∧ All2 (KvAt K H2) es vs ∧ VOk n (raw.take i) vs)
      ⟨_, _, _, rfl, upd_same, fun b o hb _ e => by rw [upd_ne hb]; exact e, [], [], by rw [upd_ne hvd.symm]; exact dD, All2.nil, ⟨List.nodup_nil, fun e h => absurd h (by simp), fun x w => ⟨fun ⟨l, h, _⟩ => absurd h (by simp), fun ⟨l, h, _⟩ => absurd h (by simp)⟩, fun e h => absurd h (by simp), Nat.le_refl _⟩⟩
      (fun i σ H2 _ ⟨_, _, _, _, e, _⟩ => e) ?_ ?_
    · rintro i x σ H2 hi ⟨key, v, hkv1, rfl⟩ ⟨z4, z5, z6, rfl, b1, b2, es, vs, b3, b4, b5⟩
      obtain ⟨e, he, ek, a, ea, hl⟩ := hkv.at hkv1
      simp only at ek ea
      subst ek; subst ea
      have hem := List.mem_of_getElem? he
      obtain ⟨ok1, ok2, ok3⟩ := hok e hem
      have hv : valV kvs (.inr e.1) = some (.ref a) := valV_mem (kv_nodup hkv hnd) (List.mem_of_getElem? hkv1)
      have fl2 : SqL K H2 a (e.2.map nV) := sql_sb2 vD noSq_dK dD noSq_dK b2 (sql_sb hp noSq_ins sD hl)
      have ff2 : SqT K H2 fa [nV n, .ref pa] := sqt_sb2 vD noSq_dK dD noSq_dK b2 fD
      refine ⟨_, rfl, _, rfl, va, _, rfl, dget_frz b1 hv, a, rfl, ⟨_, fl2⟩, ?_⟩
      refine Wk.for_ (Wk.list a (e.2.map nV)) (fun j σ H3 => ∃ z5, σ = [some (.ref p), some (.ref fa), some (.ref va), none, z4, z5, some (.str e.1)] ∧ Ex H2 H3) ⟨_, rfl, Ex.refl _⟩ (fun j σ H3 _ ⟨_, _, ee⟩ => ex_l ee fl2) ?_ ?_
      · rintro j y σ H3 hj hy ⟨z5', rfl, e3⟩
        obtain ⟨m, hm, rfl⟩ := at_nV hy
        refine ⟨_, rfl, _, rfl, fa, _, 0, _, rfl, rfl, ex_t e3 ff2, rfl, m, n, rfl, fun u H4 e4 hu4 => ⟨true, by rw [hu4, decide_eq_true (ok3 m (List.mem_of_getElem? hm))], iteF ?_⟩⟩
        exact ⟨_, rfl, e3.trans e4⟩
      rintro σ H3 ⟨z5', rfl, e3⟩
      have b1' := e3 _ _ b1
      have fl3 := ex_l e3 fl2
      have b2' : ∀ b o, b ≠ va → b ≠ d → HD b = some o → H3 b = some o := fun b o h1 h2 h3 => e3 _ _ (b2 b o h1 h2 h3)
      have b3' := e3 _ _ b3
      have b4' : All2 (KvAt K H3) es vs := b4.mono fun _ _ z => z.mono e3
      have hlenm : (e.2.map nV).length = e.2.length := List.length_map _
      refine ⟨_, rfl, _, rfl, va, _, rfl, dget_frz b1' hv, a, _, rfl, Or.inl fl3, _, _, rfl, rfl, _, rfl, ?_⟩
      have xs : e.1 ∉ (raw.take i).map (·.1) := names_take hnd he
      refine ite2 (fun c => ?_) (fun c => ?_)
      · have l0 : e.2 ≠ [] := fun z => by
          have c := of_decide_eq_true c
          rw [hlenm, z] at c
          exact absurd c (by decide)
        refine ⟨_, rfl, _, rfl, va, _, rfl, dget_frz b1' hv, a, toI e.2, rfl, by rw [← nV_map]; exact fl3, by unfold toI; rw [List.length_map]; omega, fun r cc hr1 hcc => ?_⟩
        have lt : (toI e.2).length = e.2.length := List.length_map _
        refine ⟨r, _, cc, rfl, upd_same, by omega, fun ns r2 hasc hmem hlen2 hr2 => ?_⟩
        have e4 : Ex H3 (upd (upd H3 r (SetO w r (fun j => decide (j ∈ toI e.2)) cc)) r2 (.lst (ns.map V.int))) := (Ex.new hr1).trans (Ex.new hr2)
        have nn : ns = toI (ns.map Int.toNat) := toNats fun x hx => by
          have := of_decide_eq_true ((hmem x).mp hx)
          obtain ⟨y, _, rfl⟩ := List.mem_map.mp this
          exact Int.natCast_nonneg y
        have mm : ∀ y, y ∈ ns.map Int.toNat ↔ y ∈ e.2 := fun y => by
          rw [List.mem_map]
          constructor
          · rintro ⟨x, hx, rfl⟩
            obtain ⟨y, hy, rfl⟩ := List.mem_map.mp (of_decide_eq_true ((hmem x).mp hx))
            exact hy
          · intro hy
            exact ⟨(y : Int), (hmem _).mpr (decide_eq_true (List.mem_map.mpr ⟨y, hy, rfl⟩)), rfl⟩
        have pw : (ns.map Int.toNat).Pairwise (· < ·) := by
          rw [nn] at hasc
          exact (List.pairwise_map.mp hasc).imp fun h => by omega
        have hnv : es.length = vs.length := b4'.1
        have nkey : valV es (.inr e.1 : Key) = none := kv_none b4' fun m => by
          obtain ⟨e', he', q'⟩ := List.mem_map.mp m
          obtain ⟨l2, h2⟩ := b5.sub e' he'
          rw [q'] at h2
          exact xs (List.mem_map.mpr ⟨_, h2, rfl⟩)
        have lle : es.length < sizeLine := small1000 (by
          have h1 := b5.len
          have h2 := List.length_take (i := i) (l := raw)
          omega)
        have npva : p ≠ va := hvp.symm
        refine ⟨_, rfl, p, CM, dx, _, _, rfl, e4 _ _ (b2' _ _ npva hdp pD), T.cM, T.m_values, mF_values, _, rfl, d, _, rfl, DPut.k (k := Sum.inr e.1) (e4 _ _ b3') lle, ?_⟩
        rw [putK_new _ nkey]
        have s5 : Sb d (upd (upd H3 r (SetO w r (fun j => decide (j ∈ toI e.2)) cc)) r2 (.lst (ns.map V.int))) (upd (upd (upd H3 r (SetO w r (fun j => decide (j ∈ toI e.2)) cc)) r2 (.lst (ns.map V.int))) d (.dK (es ++ [(.inr e.1, .ref r2)]))) := Sb.upd
        have g3 := e4 _ _ b3'
        refine ⟨_, _, _, rfl, s5 _ _ hvd (e4 _ _ b1'), fun b o h1 h2 h3 => s5 _ _ h2 (e4 _ _ (b2' b o h1 h2 h3)), _, vs ++ [(e.1, ns.map Int.toNat)], upd_same, ?_, ?_⟩
        · refine All2.snoc (b4'.mono fun _ _ z => (z.mono e4).sb g3 noSq_dK s5) ⟨rfl, r2, rfl, sql_sb g3 noSq_dK s5 (sq_of ?_)⟩
          rw [upd_same, nV_map, ← nn]
        · rw [take_snoc he]
          exact b5.more xs l0 pw mm ok3
      · have l0 : e.2 = [] := by
          rcases Nat.eq_zero_or_pos e.2.length with z | z
          · exact List.eq_nil_of_length_eq_zero z
          · refine absurd (decide_eq_true ?_) c
            rw [hlenm]
            omega
        refine ⟨_, _, _, rfl, b1', b2', es, vs, b3', b4', ?_⟩
        rw [take_snoc he, show e = (e.1, []) by rw [← l0]]
        exact b5.skip
    · rintro σ H2 ⟨z4, z5, z6, rfl, b1, b2, es, vs, b3, b4, b5⟩
      refine ⟨b1, ?_⟩
      rw [hkv.1, List.take_length] at b5
      have sF : Sb d HD (upd H2 va (.dK kvs)) := fun b o hb e => by
        by_cases hbv : b = va
        · subst hbv
          rw [vD] at e
          rw [upd_same]
          exact e
        · rw [upd_ne hbv]
          exact b2 _ _ hbv hb e
      refine k _ ⟨n, ps, vs⟩ (fun b o hb e => sF _ _ (fun z => by rw [z, hdn] at e; cases e) (sD _ _ hb e)) rfl rfl (fun x w => b5.same x w) ⟨⟨dx, q, D, d, as.map V.ref, es, sF _ _ hdp pD, ⟨pa, ts, st_of (sF _ _ (fun z => by rw [z] at qD; rw [qD] at dD; cases dD) qD), sqt_sb dD noSq_dK sF (tq sD f2), f3.mono fun _ _ z => (z.sb hp noSq_ins sD).sb dD noSq_dK sF⟩, sq_of (sF _ _ (fun z => by rw [z] at DD; rw [DD] at dD; cases dD) DD), ⟨by rw [List.length_map, List.length_range, asl], fun i x y hx hy => ?_⟩, by rw [upd_ne hvd.symm]; exact b3, b4.mono fun _ _ z => z.sb b1 noSq_fK Sb.upd⟩, ⟨n1, n7, hasc, hrng, b5.nd, Nat.le_trans b5.len hraw, fun e he => ?_, b5.ls⟩⟩
      · rw [List.getElem?_map] at hx
        cases qa : as[i]? with
        | none => rw [qa] at hx; cases hx
        | some a =>
          rw [qa] at hx
          have hyi : i = y := by
            have hlt : i < n := by rw [← asl]; exact lt_of_some qa
            rw [List.getElem?_range hlt] at hy
            exact Option.some.inj hy
          subst hyi
          refine ⟨a, (Option.some.inj hx).symm, sq_of (sF _ _ (fun z => ?_) (rowD i a qa))⟩
          have := rowD i a qa
          rw [z, dD] at this
          cases this
      · obtain ⟨l, hl⟩ := b5.sub e he
        exact (hok _ hl).1
end
end Q
/-! Lists of numbers and of names: membership, comprehensions that keep and change -/
namespace Q
open PySem PySem.Spec PyProof.Rows L2 Evl Rl Bi
theorem flat_nats : ∀ l : List Nat, (l.map nV).all flatV = true
  | [] => rfl
  | a :: l => by rw [List.map_cons, List.all_cons, flat_nats l]; rfl
theorem nV_eqV {a b : Nat} : eqV (nV a) (nV b) = decide (a = b) := by
  show ((a : Int) == (b : Int)) = decide (a = b)
  by_cases h : a = b
  · subst h; simp
  · rw [decide_eq_false h]
    exact beq_eq_false_iff_ne.mpr (by omega)
theorem inV_nats {c : Nat} : ∀ {l : List Nat}, inV (nV c) (l.map nV) = decide (c ∈ l)
  | [] => by simp [inV]
  | a :: l => by
    have ih := @inV_nats c l
    unfold inV at ih ⊢
    rw [List.map_cons, List.any_cons, ih, nV_eqV]
    by_cases h : c = a
    · subst h; simp
    · have h' : ¬ a = c := fun z => h z.symm
      simp [h, h']
theorem given_take {α : Type} (l : List α) (p : α → Bool) (fv : α → V) (d : α) : ∀ n, n ≤ l.length → given n (fun i => p (l.getD i d)) (fun i => fv (l.getD i d)) = ((l.take n).filter p).map fv
  | 0, _ => rfl
  | n + 1, h => by
    have ih := given_take l p fv d n (by omega)
    have e : l[n]? = some (l.getD n d) := by rw [List.getD_eq_getElem?_getD, List.getElem?_eq_getElem (show n < l.length by omega)]; rfl
    rw [take_snoc e, List.filter_append, List.map_append, ← ih]
    cases q : p (l.getD n d) with
    | true => rw [given_yes q, List.filter_cons, q]; rfl
    | false => rw [given_no q, List.filter_cons, q]; simp
/-- a comprehension that keeps some items and changes them -/
theorem Wk.fl {α : Type} {J : It} {n : Nat} {base : Hp → Prop} {item : Nat → V → Hp → Prop} {g : TG} {tt : TT} {te : TE} {vs : List Nat} {σ : L2.St} {H1 : Hp} {D : Addr} {Qd : Hp → Prop} (w : Wk J n base item) (l : List α) (hl : l.length = n) (p : α → Bool) (fv : α → V) (hD : H1 D = none) (hn : n ≤ 40000)
    (hb0 : base H1) (hb : ∀ H H', Ex H H' → base H → base H')
    (hs : ∀ i c x H (yes : V → Hp → Prop) (no : Hp → Prop), l[i]? = some c → Ex H1 H → item i x H → (p c = true → ∀ H4, Ex H H4 → yes (fv c) H4) → (p c = false → ∀ H4, Ex H H4 → no H4) →
      g x (wipe σ vs) H fun σ2 H2 => wipe σ2 vs = wipe σ vs ∧ tt σ2 H2 fun b H3 => if b = true then te σ2 H3 yes else no H3)
    (hd : ∀ H', Ex H1 H' → H' D = some (.lst ((l.filter p).map fv)) → Qd H') :
    ∃ W : Nat → Nat → Hp → Prop, (∃ m, W 0 m (upd H1 D (.lst []))) ∧ ∀ i m H, W i m H →
      (J.stop i H ∧ Qd H) ∨ (J.go i H ∧ ∃ Nx : Hp → Prop, (∀ H', Nx H' → ∃ m', m' < m ∧ W (i + 1) m' H') ∧ ∀ x H', J.yld i H x H' → g x (wipe σ vs) H' fun σ2 H2 => wipe σ2 vs = wipe σ vs ∧ tt σ2 H2 fun b H3 =>
        if b = true then te σ2 H3 fun y H4 => ∃ acc, H4 D = some (.lst acc) ∧ acc.length < sizeLine ∧ Nx (upd H4 D (.lst (acc ++ [y]))) else Nx H3) := by
  cases hln : l with
  | nil =>
    rw [hln] at hl
    have n0 : n = 0 := hl.symm
    refine w.lc (fun _ => true) (fun _ _ _ => True) hD hn hb0 hb (fun _ _ _ _ _ z _ => z) (fun i x H yes no hi _ _ _ _ _ => by omega) fun ys H' e hy ha => hd H' e ?_
    rw [hln, hy]
    subst n0
    rw [show ys = [] from ha]
    rfl
  | cons d r =>
    refine w.lc (fun i => p (l.getD i d)) (fun i y _ => y = fv (l.getD i d)) hD hn hb0 hb (fun _ _ _ _ _ z _ => z) (fun i x H yes no hi e _ it ky kn => ?_) fun ys H' e hy ha => hd H' e ?_
    · have e1 : l[i]? = some (l.getD i d) := by rw [List.getD_eq_getElem?_getD, List.getElem?_eq_getElem (show i < l.length by omega)]; rfl
      exact hs i _ x H yes no e1 e it (fun q H4 e4 => ky q _ H4 e4 rfl) kn
    · rw [hy, ha.given, given_take l p fv d n (by omega), ← hl, List.take_length]
theorem getD_nV {l : List Nat} {i : Nat} {x : V} (h : (l.map nV)[i]? = some x) : ∃ c, l[i]? = some c ∧ x = nV c := by
  rw [List.getElem?_map] at h
  cases q : l[i]? with
  | none => rw [q] at h; cases h
  | some c => rw [q] at h; exact ⟨c, rfl, (Option.some.inj h).symm⟩
theorem filter_id {α : Type} (l : List α) : l.filter (fun _ => true) = l := List.filter_eq_self.mpr fun _ _ => rfl
end Q
/-! names_at -/
namespace Q
open PySem PySem.Spec PyProof.Rows L2 Evl Rl Bi
/-- a new list of the names at v, sorted -/
structure IsNames (M : Mo Str) (v : Nat) (ys : List Str) : Prop where
  sorted : sortedS ys = true
  nd : ys.Nodup
  mem : ∀ x, x ∈ ys ↔ val M x v
  len : ys.length ≤ 6
  sok : ∀ x, x ∈ ys → PyData.strOk x = true
def NmAt (H : Hp) (u : V) (M : Mo Str) (v : Nat) : Prop := ∃ a ys, u = .ref a ∧ H a = some (.lst (ys.map V.str)) ∧ IsNames M v ys
def spNames (K : PySem.W.Frag) (C : Addr) : Sp := fun vs H Q _ => ∃ (p : Addr) (M : Mo Str) (v : Nat), vs = [.ref p, nV v] ∧ MdAt K C H p M ∧ Ret H (fun u H' => NmAt H' u M v) Q
theorem IsNames.same {M N : Mo Str} {v w : Nat} {xs ys : List Str} (a : IsNames M v xs) (b : IsNames N w ys) : xs = ys ↔ ¬ diff M N v w := by
  constructor
  · rintro rfl ⟨x, h⟩
    exact h ((a.mem x).symm.trans (b.mem x))
  · intro h
    refine sorted_uniq a.sorted a.nd b.sorted b.nd fun x => ?_
    rw [a.mem, b.mem]
    exact Classical.byContradiction fun c => h ⟨x, c⟩
/-- what the model keeps at v -/
theorem names_of {M : Mo Str} (ok : WfM M) (v : Nat) {ys : List Str} (hp : ys.Perm ((M.vs.filter fun e => decide (v ∈ e.2)).map (·.1))) (hs : sortedS ys = true) : IsNames M v ys := by
  have nd : ((M.vs.filter fun e => decide (v ∈ e.2)).map (·.1)).Nodup := (List.Sublist.map _ List.filter_sublist).nodup ok.nd
  have mem : ∀ x, x ∈ ys ↔ val M x v := fun x => by
    rw [hp.mem_iff, List.mem_map]
    constructor
    · rintro ⟨e, he, rfl⟩
      obtain ⟨h1, h2⟩ := List.mem_filter.mp he
      exact ⟨e.2, h1, of_decide_eq_true h2⟩
    · rintro ⟨l, h1, h2⟩
      exact ⟨(x, l), List.mem_filter.mpr ⟨h1, decide_eq_true h2⟩, rfl⟩
  refine ⟨hs, hp.nodup_iff.mpr nd, mem, ?_, fun x hx => ?_⟩
  · have h1 := List.length_filter_le (fun e : Str × List Nat => decide (v ∈ e.2)) M.vs
    have h2 := ok.few
    rw [hp.length_eq, List.length_map]
    omega
  · obtain ⟨l, h1, _⟩ := (mem x).mp hx
    exact ok.sok _ h1
section
variable {P : Program} {w : World} {K : PySem.W.Frag} {mg : Str → Option Value} {base : Heap} {CM CR aF : Addr}
abbrev N_names_at : List Str := ["model", "v", "values", "name"]
theorem sc_names_at : FnScope N_names_at ["model", "v"] (defScope s_names_at) := ⟨rfl, rfl, rfl, by decide +kernel, rfl, by decide +kernel, by decide +kernel⟩
theorem ok_names_at {f : Addr} {fd : FuncData} (F : Fun K "names_at" "names_at" s_names_at f fd) (T : Tx K mg CM CR aF) (c_true_worlds : Mth P w K mg base CM 1 "true_worlds" ["self"] (spTw K CM)) : FnOk P w K mg base CX0 2 f fd ["model", "v"] (spNames K CM) := by
  refine F.ok sc_names_at (fun vs H Q E h => ?_) (fun cdv A outer s H vs Q E hr h => ?_)
  · obtain ⟨_, _, _, rfl, _⟩ := h
    rfl
  · obtain ⟨p, M, v, rfl, hM, k⟩ := h
    obtain ⟨⟨dx, fa, sa, va, rs, kvs0, h1, _⟩, ok⟩ := id hM
    have hu := hu_of hr
    refine ⟨_, (pss_cons (ps_set (i := 2) sc_names_at.nd rfl (Or.inr rfl) (pe_mth0 c_true_worlds T.cM (hr.mono (by omega)) (pv 0)))
      (pss_one (ps_ret (pe_callB cr_sortedS rfl T.n_sorted (by decide +kernel) (pa_cons (pe_lock (pe_lc (own := [("name", 3)]) (g := gName 3) rfl sc_names_at.nd (pi_keys (pv 2)) (blkOk_by (own := [("name", 3)]) (N := N_names_at) (sc := defScope s_names_at) (by decide +kernel)) (fun _ _ _ _ _ => (pg_name (i := 3) sc_names_at.nd rfl (Or.inl rfl))) (fun _ _ _ _ _ => (pts_one (pt_cmpR (k_in (K := K) rfl) (pv 1) (pe_dget hu (pv 2) (pv 3) (fun _ _ => rfl)) (by rfl)))) (fun _ _ _ _ _ => (pv 3)))) pa_nil))))), ?_⟩
    refine ⟨_, rfl, p, dx, _, rfl, h1, mF_no (by decide +kernel) (by decide +kernel) (by decide +kernel), p, M, rfl, hM, fun d H1 kvs e1 hd hd1 hkv => ?_⟩
    refine ⟨d, _, hd1, trivial, fun od => ?_⟩
    refine ⟨_, rfl, d, od, rfl, Or.inl ⟨kvs, upd_same, fun D hD => ?_⟩⟩
    have hDd : D ≠ d := fun z => by rw [z, upd_same] at hD; cases hD
    have nd := kv_nodup (K := K) (KfAt.kvs hkv) ok.nd
    refine (Wk.keys d od kvs).fl M.vs hkv.1.symm (fun e => decide (v ∈ e.2)) (fun e => .str e.1) hD (by have := hkv.1; have := ok.few; omega) upd_same (fun _ _ e b => e _ _ b) ?_ ?_
    · rintro i e x H2 yes no he e2 ⟨key, y, hk, rfl⟩ ky kn
      obtain ⟨q1, a, q2, q3⟩ := hkv.2 i _ _ hk he
      simp only at q1 q2
      subst q1; subst q2
      have hv : valV kvs (.inr e.1) = some (.ref a) := valV_mem nd (List.mem_of_getElem? hk)
      have q3' : H2 a = some (.lst (e.2.map nV)) := e2 _ _ (by rw [upd_ne (ne_of q3 hd1 (by intro z; cases z))]; exact q3)
      refine ⟨rfl, ⟨_, rfl, _, rfl, _, rfl, d, _, rfl, dget_frz (e2 _ _ upd_same) hv, a, _, rfl, Or.inl (sq_of q3'), rfl, flat_nats _, decide (v ∈ e.2), ?_, ?_⟩⟩
      · rw [if_neg Bool.false_ne_true, inV_nats]
      · exact ite2 (fun c => ⟨_, rfl, ky c _ (Ex.refl _)⟩) (fun c => kn (by simpa using c) _ (Ex.refl _))
    · intro H2 e2 hz
      have e3 : Ex H (upd H2 d (.dK kvs)) := fun b o z => by
        by_cases hb : b = d
        · rw [hb, hd] at z
          cases z
        · rw [upd_ne hb]
          exact e2 _ _ (by rw [upd_ne hb]; exact e1 _ _ z)
      refine ⟨e2 _ _ upd_same, ?_⟩
      refine ⟨D, (M.vs.filter fun e => decide (v ∈ e.2)).map (·.1), rfl, sq_of (by rw [upd_ne hDd, hz, List.map_map]; rfl), ?_, fun ys q hp hs hq => ?_⟩
      · have h1 := List.length_filter_le (fun e : Str × List Nat => decide (v ∈ e.2)) M.vs
        have h2 := ok.few
        rw [List.length_map]
        omega
      · exact k _ _ (e3.trans (Ex.new hq)) ⟨q, ys, rfl, upd_same, names_of ok v hp hs⟩
end
end Q
/-! disjoint -/
namespace Q
open PySem PySem.Spec PyProof.Rows L2 Evl Rl Bi
def spDisj (K : PySem.W.Frag) (C : Addr) : Sp := fun vs H Q _ => ∃ (p q : Addr) (M N : Mo Str) (L : List Str), vs = [.ref p, .ref q] ∧ MdAt K C H p M ∧ MdAt K C H q N ∧ M.n + N.n ≤ 7 ∧ L.length ≤ 6 ∧ (∀ e, e ∈ M.vs → e.1 ∈ L) ∧ (∀ e, e ∈ N.vs → e.1 ∈ L) ∧
  Ret H (fun u H' => ∃ b B, u = .ref b ∧ MdAt K C H' b B ∧ IsSum M N B) Q
theorem nodup_sub_len {α : Type} [DecidableEq α] : ∀ {l L : List α}, l.Nodup → (∀ x, x ∈ l → x ∈ L) → l.length ≤ L.length
  | [], _, _, _ => Nat.zero_le _
  | a :: l, L, hn, h => by
    obtain ⟨h1, h2⟩ := List.nodup_cons.mp hn
    have ha := h a List.mem_cons_self
    have ih := nodup_sub_len (L := L.erase a) h2 fun x hx => (List.mem_erase_of_ne (fun e => h1 (by rw [← e]; exact hx))).mpr (h x (List.mem_cons_of_mem _ hx))
    rw [List.length_erase_of_mem ha] at ih
    have : 0 < L.length := List.length_pos_of_mem ha
    rw [List.length_cons]
    omega
/-! ### a name's list put anew -/
def putN (vs : List (Str × List Nat)) (x : Str) (l : List Nat) : List (Str × List Nat) := if x ∈ vs.map (·.1) then vs.map (fun e => if e.1 = x then (x, l) else e) else vs ++ [(x, l)]
section
variable {vs : List (Str × List Nat)} {x : Str} {l : List Nat}
theorem mem_putN {y : Str} {m : List Nat} : (y, m) ∈ putN vs x l ↔ (y = x ∧ m = l) ∨ (y ≠ x ∧ (y, m) ∈ vs) := by
  unfold putN
  by_cases h : x ∈ vs.map (·.1)
  · rw [if_pos h, List.mem_map]
    constructor
    · rintro ⟨e, he, q⟩
      by_cases c : e.1 = x
      · rw [if_pos c] at q
        injection q with q1 q2
        exact Or.inl ⟨q1.symm, q2.symm⟩
      · rw [if_neg c] at q
        subst q
        exact Or.inr ⟨c, he⟩
    · rintro (⟨rfl, rfl⟩ | ⟨c, he⟩)
      · obtain ⟨e, he, q⟩ := List.mem_map.mp h
        exact ⟨e, he, by rw [if_pos q]⟩
      · exact ⟨_, he, by rw [if_neg c]⟩
  · rw [if_neg h, List.mem_append, List.mem_singleton]
    constructor
    · rintro (q | q)
      · exact Or.inr ⟨fun c => h (List.mem_map.mpr ⟨_, q, c⟩), q⟩
      · injection q with q1 q2
        exact Or.inl ⟨q1, q2⟩
    · rintro (⟨rfl, rfl⟩ | ⟨_, q⟩)
      · exact Or.inr rfl
      · exact Or.inl q
theorem nd_putN (hn : (vs.map (·.1)).Nodup) : ((putN vs x l).map (·.1)).Nodup := by
  unfold putN
  by_cases h : x ∈ vs.map (·.1)
  · rw [if_pos h, List.map_map]
    have : ((fun e : Str × List Nat => e.1) ∘ fun e => if e.1 = x then (x, l) else e) = (·.1) := by
      funext e
      show (if e.1 = x then (x, l) else e).1 = e.1
      by_cases c : e.1 = x
      · rw [if_pos c, c]
      · rw [if_neg c]
    rw [this]
    exact hn
  · rw [if_neg h, List.map_append]
    exact nodup_snoc hn h
theorem putN_at {H : Hp} {es : List (Key × V)} {v : V} (h : All2 (KfAt H) es vs) (hv : LfAt H v l) : All2 (KfAt H) (putK es (.inr x) v) (putN vs x l) := by
  have key : ∀ {kv e}, KfAt H kv e → (kv.1 = (Sum.inr x : Key) ↔ e.1 = x) := fun z => by
    rw [z.1]
    exact ⟨fun q => by injection q, fun q => by rw [q]⟩
  have ha : (es.any fun kv => decide (kv.1 = (Sum.inr x : Key))) = true ↔ x ∈ vs.map (·.1) := by
    rw [List.any_eq_true, List.mem_map]
    constructor
    · rintro ⟨kv, hk, q⟩
      obtain ⟨i, hi⟩ := List.getElem?_of_mem hk
      obtain ⟨e, he, z⟩ := h.at hi
      exact ⟨e, List.mem_of_getElem? he, (key z).mp (of_decide_eq_true q)⟩
    · rintro ⟨e, he, q⟩
      obtain ⟨kv, hk, z⟩ := h.mem' he
      exact ⟨kv, hk, decide_eq_true ((key z).mpr q)⟩
  unfold putK putN
  by_cases c : x ∈ vs.map (·.1)
  · rw [if_pos (ha.mpr c), if_pos c]
    refine ⟨by rw [List.length_map, List.length_map, h.1], fun i kv e h1 h2 => ?_⟩
    rw [List.getElem?_map] at h1 h2
    cases q1 : es[i]? with
    | none => rw [q1] at h1; cases h1
    | some kv0 =>
      obtain ⟨e0, q2, z⟩ := h.at q1
      rw [q1] at h1
      rw [q2] at h2
      have h1 := Option.some.inj h1
      have h2 := Option.some.inj h2
      simp only at h1 h2
      by_cases c1 : e0.1 = x
      · rw [if_pos ((key z).mpr c1)] at h1
        rw [if_pos c1] at h2
        subst h1; subst h2
        exact ⟨(key z).mpr c1, hv⟩
      · rw [if_neg (fun q => c1 ((key z).mp q))] at h1
        rw [if_neg c1] at h2
        subst h1; subst h2
        exact z
  · rw [if_neg (fun q => c (ha.mp q)), if_neg c]
    exact h.snoc ⟨rfl, hv⟩
end
/-- the two models' lists joined, for the second model's first names -/
structure Mg (M N : Mo Str) (k vs : List (Str × List Nat)) : Prop where
  nd : (vs.map (·.1)).Nodup
  old : ∀ x l, (x, l) ∈ vs → x ∉ k.map (·.1) → (x, l) ∈ M.vs
  sub : ∀ x l, (x, l) ∈ vs → (∃ l, (x, l) ∈ M.vs) ∨ ∃ l, (x, l) ∈ N.vs
  ln : ∀ x l, (x, l) ∈ vs → l.length ≤ 14
  mem : ∀ x w, (∃ l, (x, l) ∈ vs ∧ w ∈ l) ↔ val M x w ∨ ∃ w' l, (x, l) ∈ k ∧ w' ∈ l ∧ w = w' + M.n
theorem Mg.start {M N : Mo Str} (ok : WfM M) : Mg M N [] M.vs := ⟨ok.nd, fun _ _ h _ => h, fun _ _ h => Or.inl ⟨_, h⟩, fun _ _ h => Nat.le_trans (ok.len h) (by omega), fun x w => ⟨fun h => Or.inl h, fun h => h.elim id fun ⟨_, _, z, _⟩ => absurd z (by simp)⟩⟩
theorem pair_uniq {vs : List (Str × List Nat)} (hn : (vs.map (·.1)).Nodup) {x : Str} {l m : List Nat} (h1 : (x, l) ∈ vs) (h2 : (x, m) ∈ vs) : l = m := by
  obtain ⟨i, hi⟩ := List.getElem?_of_mem h1
  obtain ⟨j, hj⟩ := List.getElem?_of_mem h2
  have e : i = j := nd_ix hn (show (vs.map (·.1))[i]? = some x by rw [List.getElem?_map, hi]; rfl) (show (vs.map (·.1))[j]? = some x by rw [List.getElem?_map, hj]; rfl)
  subst e
  rw [hi] at hj
  injection hj with hj
  injection hj
theorem Mg.step {M N : Mo Str} {k vs : List (Str × List Nat)} {x : Str} {l l2 : List Nat} (h : Mg M N k vs) (ok : WfM M) (hN : (x, l2) ∈ N.vs) (h7 : l2.length ≤ 7) (hx : x ∉ k.map (·.1)) (hl : (x, l) ∈ vs ∨ (x ∉ vs.map (·.1) ∧ l = [])) :
    Mg M N (k ++ [(x, l2)]) (putN vs x (l ++ l2.map (· + M.n))) := by
  have here : ∀ w, w ∈ l ↔ val M x w := fun w => by
    have m := h.mem x w
    have nk : ¬ ∃ w' l, (x, l) ∈ k ∧ w' ∈ l ∧ w = w' + M.n := fun ⟨_, _, z, _⟩ => hx (List.mem_map.mpr ⟨_, z, rfl⟩)
    rcases hl with hl | ⟨hl, rfl⟩
    · constructor
      · intro hw
        exact (m.mp ⟨l, hl, hw⟩).resolve_right nk
      · intro hv
        obtain ⟨l', h1, h2⟩ := m.mpr (Or.inl hv)
        rw [pair_uniq h.nd hl h1]
        exact h2
    · constructor
      · intro hw
        cases hw
      · intro hv
        obtain ⟨l', h1, h2⟩ := m.mpr (Or.inl hv)
        exact absurd (List.mem_map.mpr ⟨_, h1, rfl⟩) hl
  refine ⟨nd_putN h.nd, fun y m hy hk => ?_, fun y m hy => ?_, fun y m hy => ?_, fun y u => ?_⟩
  · rw [List.map_append, List.mem_append, not_or] at hk
    rcases mem_putN.mp hy with ⟨rfl, _⟩ | ⟨_, hy⟩
    · exact absurd List.mem_cons_self hk.2
    · exact h.old y m hy hk.1
  · rcases mem_putN.mp hy with ⟨rfl, _⟩ | ⟨_, hy⟩
    · exact Or.inr ⟨_, hN⟩
    · exact h.sub y m hy
  · rcases mem_putN.mp hy with ⟨rfl, rfl⟩ | ⟨_, hy⟩
    · have : l.length ≤ 7 := by
        rcases hl with hl | ⟨_, rfl⟩
        · exact ok.len (h.old _ _ hl hx)
        · exact Nat.zero_le _
      rw [List.length_append, List.length_map]
      omega
    · exact h.ln y m hy
  · by_cases c : y = x
    · subst c
      constructor
      · rintro ⟨m, h1, h2⟩
        rcases mem_putN.mp h1 with ⟨_, rfl⟩ | ⟨c, _⟩
        · rcases List.mem_append.mp h2 with h2 | h2
          · exact Or.inl ((here u).mp h2)
          · obtain ⟨w', h3, e⟩ := List.mem_map.mp h2
            exact Or.inr ⟨w', l2, List.mem_append_right _ List.mem_cons_self, h3, e.symm⟩
        · exact absurd rfl c
      · intro q
        refine ⟨_, mem_putN.mpr (Or.inl ⟨rfl, rfl⟩), ?_⟩
        rcases q with q | ⟨w', l', h1, h2, e⟩
        · exact List.mem_append_left _ ((here u).mpr q)
        · rcases List.mem_append.mp h1 with h1 | h1
          · exact absurd (List.mem_map.mpr ⟨_, h1, rfl⟩) hx
          · have h1 := List.mem_singleton.mp h1
            injection h1 with _ h1
            subst h1
            exact List.mem_append_right _ (List.mem_map.mpr ⟨w', h2, e.symm⟩)
    · have m := h.mem y u
      constructor
      · rintro ⟨m', h1, h2⟩
        rcases mem_putN.mp h1 with ⟨z, _⟩ | ⟨_, h1⟩
        · exact absurd z c
        · rcases m.mp ⟨m', h1, h2⟩ with q | ⟨w', l', a, b⟩
          · exact Or.inl q
          · exact Or.inr ⟨w', l', List.mem_append_left _ a, b⟩
      · intro q
        have q' : val M y u ∨ ∃ w' l, (y, l) ∈ k ∧ w' ∈ l ∧ u = w' + M.n := by
          rcases q with q | ⟨w', l', a, b⟩
          · exact Or.inl q
          · rcases List.mem_append.mp a with a | a
            · exact Or.inr ⟨w', l', a, b⟩
            · have a := List.mem_singleton.mp a
              injection a with a _
              exact absurd a c
        obtain ⟨m', h1, h2⟩ := m.mpr q'
        exact ⟨m', mem_putN.mpr (Or.inr ⟨c, h1⟩), h2⟩
theorem catA_any {K : PySem.W.Frag} {H : Hp} {Q : VK} {a b : Addr} {xs ys : List V} (ha : SqT K H a xs) (hb : SqT K H b ys) (hl : xs.length + ys.length ≤ sizeLine) (k : ∀ p H', Ex H H' → SqT K H' p (xs ++ ys) → Q (.ref p) H') : rCatA K (.ref a) (.ref b) H Q := by
  refine ⟨a, b, xs, ys, rfl, rfl, ha, hb, hl, fun e => ?_, fun _ e => ?_, fun _ _ p hp => k p _ (Ex.new hp) (st_of upd_same)⟩
  · subst e
    exact k b H (Ex.refl _) hb
  · subst e
    exact k a H (Ex.refl _) (by rw [List.append_nil]; exact ha)
section
variable {P : Program} {w : World} {K : PySem.W.Frag} {mg : Str → Option Value} {base : Heap} {CM CR aF : Addr}
abbrev N_disjoint : List Str := ["first", "second", "by", "pairs", "v", "w", "values", "others", "name"]
theorem sc_disjoint : FnScope N_disjoint ["first", "second"] (defScope s_disjoint) := ⟨rfl, rfl, rfl, by decide +kernel, rfl, by decide +kernel, by decide +kernel⟩
theorem ok_disjoint {f : Addr} {fd : FuncData} (F : Fun K "disjoint" "disjoint" s_disjoint f fd) (T : Tx K mg CM CR aF) (c_frame : Mth P w K mg base CM 1 "frame" ["self"] (spFrame K CM)) (c_true_worlds : Mth P w K mg base CM 1 "true_worlds" ["self"] (spTw K CM))
    (c_minit : Mak P w K mg base CM 3 "Model" ["self", "frame", "values"] (spMinit K CM)) : FnOk P w K mg base CX0 5 f fd ["first", "second"] (spDisj K CM) := by
  refine F.ok sc_disjoint (fun vs H Q E h => ?_) (fun cdv A outer s H vs Q E hr h => ?_)
  · obtain ⟨_, _, _, _, _, rfl, _⟩ := h
    rfl
  · obtain ⟨p, q, M, N, L, rfl, hM, hN, h7, hL, LM, LN, k⟩ := h
    have hu := hu_of hr
    refine ⟨_, (pss_cons (ps_set (i := 2) sc_disjoint.nd rfl (Or.inr rfl) (pe_ix ix_tup (pe_mth0 c_frame T.cM (hr.mono (by omega)) (pv 0)) pe_int (fun _ _ => rfl)))
      (pss_cons (ps_set (i := 3) sc_disjoint.nd rfl (Or.inl rfl) (pe_op op_catA (pe_ix ix_tup (pe_mth0 c_frame T.cM (hr.mono (by omega)) (pv 0)) pe_int (fun _ _ => rfl)) (pe_callTy call_tuple_of rfl T.n_tuple boot_tuple (pa_cons (pe_lc (own := [("v", 4), ("w", 5)]) (g := gTup K 2 (gCons (gName 4) (gCons (gName 5) (gNil)))) rfl sc_disjoint.nd (pi_tup (pe_ix ix_tup (pe_mth0 c_frame T.cM (hr.mono (by omega)) (pv 1)) pe_int (fun _ _ => rfl))) (blkOk_by (own := [("v", 4), ("w", 5)]) (N := N_disjoint) (sc := defScope s_disjoint) (by decide +kernel)) (fun _ _ _ _ _ => (k_pgt (K := K) rfl rfl (pgs_cons (pg_name (i := 4) sc_disjoint.nd rfl (Or.inl rfl)) (pgs_cons (pg_name (i := 5) sc_disjoint.nd rfl (Or.inl rfl)) pgs_nil)))) (fun _ _ _ _ _ => pts_nil) (fun _ _ _ _ _ => (pe_tup (pa_cons (pe_op op_add (pv 4) (pv 2)) (pa_cons (pe_op op_add (pv 5) (pv 2)) pa_nil))))) pa_nil))))
      (pss_cons (ps_set (i := 6) sc_disjoint.nd rfl (Or.inl rfl) (pe_mth0 c_true_worlds T.cM (hr.mono (by omega)) (pv 0)))
      (pss_cons (ps_set (i := 7) sc_disjoint.nd rfl (Or.inl rfl) (pe_mth0 c_true_worlds T.cM (hr.mono (by omega)) (pv 1)))
      (pss_cons (ps_lock (ps_for PassesOwn.never rfl (pi_keys (pv 7)) (pg_name (i := 8) sc_disjoint.nd rfl (Or.inl rfl))
      (pss_one (ps_dput hu (pv 6) (pv 8) (pe_op op_cat (pe_dget2 hu (pv 6) (pv 8) (pe_lst pa_nil) ⟨rfl, rfl, rfl, rfl⟩) (pe_lc (own := [("w", 5)]) (g := gName 5) rfl sc_disjoint.nd (pi_list (pe_dget hu (pv 7) (pv 8) (fun _ _ => rfl))) (blkOk_by (own := [("w", 5)]) (N := N_disjoint) (sc := defScope s_disjoint) (by decide +kernel)) (fun _ _ _ _ _ => (pg_name (i := 5) sc_disjoint.nd rfl (Or.inl rfl))) (fun _ _ _ _ _ => pts_nil) (fun _ _ _ _ _ => (pe_op op_add (pv 5) (pv 2))))) rfl))))
      (pss_one (ps_ret (pe_mak c_minit (hr.mono (by omega)) rfl (pa_cons (pe_tup (pa_cons (pe_op op_add (pv 2) (pe_ix ix_tup (pe_mth0 c_frame T.cM (hr.mono (by omega)) (pv 1)) pe_int (fun _ _ => rfl))) (pa_cons (pv 3) pa_nil))) (pa_cons (pv 6) pa_nil)))))))))), ?_⟩
    have mno : ∀ {fa sa va : Addr}, (mF fa sa va).lookup ("frame" : Str) = none ∧ (mF fa sa va).lookup ("true_worlds" : Str) = none := fun {_ _ _} => ⟨mF_no (by decide +kernel) (by decide +kernel) (by decide +kernel), mF_no (by decide +kernel) (by decide +kernel) (by decide +kernel)⟩
    obtain ⟨⟨dx, fa0, sa, va, rs, kvs0, p1, _⟩, okM⟩ := id hM
    obtain ⟨⟨dy, fb0, sb, vb, rs2, kvs9, q1, _⟩, okN⟩ := id hN
    -- by
    refine ⟨_, rfl, p, dx, _, rfl, p1, mno.1, p, M, rfl, hM, fun u H1 e1 ⟨fa, hu1, pa, ts, f1, f2, f3⟩ => ?_⟩
    subst hu1
    refine ⟨fa, _, 0, _, rfl, rfl, f1, rfl, ?_⟩
    -- pairs
    refine ⟨_, rfl, p, dx, _, rfl, e1 _ _ p1, mno.1, p, M, rfl, hM.mono e1, fun u H2 e2 ⟨fb, hu2, pb, us, g1, g2, g3⟩ => ?_⟩
    subst hu2
    refine ⟨fb, _, 1, _, rfl, rfl, g1, rfl, ?_⟩
    have e12 := e1.trans e2
    refine ⟨_, rfl, q, dy, _, rfl, e12 _ _ q1, mno.1, q, N, rfl, hN.mono e12, fun u H3 e3 ⟨fc, hu3, pc, ws, m1, m2, m3⟩ => ?_⟩
    subst hu3
    refine ⟨fc, _, 1, _, rfl, rfl, m1, rfl, pc, rfl, ⟨_, m2⟩, fun D hD => ?_⟩
    have wl : ws.length < 64 := by rw [m3.1]; exact okN.ps49
    have ul : us.length < 64 := by rw [g3.1]; exact okM.ps49
    refine (Wk.tup pc ws).lc (fun _ => true) (fun i y H' => ∃ pr a, N.ps[i]? = some pr ∧ y = .ref a ∧ a ≠ D ∧ H' a = some (.tup [nV (pr.1 + M.n), nV (pr.2 + M.n)])) hD (by omega) m2 (fun _ _ e b => ex_t e b)
      (fun i y _ _ _ ⟨pr, a, z1, z2, z3, z4⟩ s => ⟨pr, a, z1, z2, z3, s _ _ z3 z4⟩) ?_ ?_
    · rintro i x H4 yes no hi e4 ⟨acc, hacc⟩ hx ky kn
      obtain ⟨⟨a, b⟩, hab, t, rfl, ht⟩ := m3.at hx
      refine ⟨t, _, rfl, ex_t e4 ht, rfl, _, _, rfl, _, _, rfl, rfl, rfl, iteT (B := no H4) ?_⟩
      refine ⟨_, rfl, _, rfl, _, _, rfl, rfl, _, rfl, _, rfl, _, _, rfl, rfl, (by show 2 ≤ sizeLine; decide), fun r hr1 => ?_⟩
      refine ky rfl _ _ (Ex.new hr1) ⟨(a, b), r, hab, rfl, (fun z => by rw [z, hacc] at hr1; cases hr1), ?_⟩
      rw [upd_same]
      unfold nV
      rw [Int.natCast_add, Int.natCast_add]
    intro ys H4 e4 hz hacc
    obtain ⟨zl, zp⟩ := Acc.all (fun _ _ => rfl) hacc
    refine ⟨D, ys, rfl, Or.inl ⟨sq_of hz, fun r hr1 => ?_⟩⟩
    have e5 : Ex H3 (upd H4 r (.tup ys)) := e4.trans (Ex.new hr1)
    have hp2 : All2 (PrAt K (upd H4 r (.tup ys))) ys (N.ps.map fun p => (p.1 + M.n, p.2 + M.n)) := by
      refine ⟨by rw [zl, List.length_map, m3.1], fun i y pr hy hpr => ?_⟩
      obtain ⟨pr0, a, z1, rfl, _, z4⟩ := zp i y hy
      rw [List.getElem?_map, z1] at hpr
      have hpr := Option.some.inj hpr
      subst hpr
      exact ⟨a, rfl, st_of (Ex.new hr1 _ _ z4)⟩
    refine catA_any (ex_t (e3.trans e5) g2) (st_of upd_same) (Nat.le_of_lt (small1000 (by omega))) fun pr H5 e6 hpr => ?_
    have eA : Ex H H5 := (e12.trans (e3.trans e5)).trans e6
    have hps : All2 (PrAt K H5) (us ++ ys) (M.ps ++ N.ps.map fun p => (p.1 + M.n, p.2 + M.n)) := by
      have a1 : All2 (PrAt K H5) us M.ps := g3.mono fun _ _ z => z.mono ((e3.trans e5).trans e6)
      have a2 := hp2.mono fun _ _ z => z.mono e6
      refine ⟨by rw [List.length_append, List.length_append, a1.1, a2.1], fun i x y hx hy => ?_⟩
      by_cases c : i < us.length
      · rw [List.getElem?_append_left c] at hx
        rw [List.getElem?_append_left (by rw [← a1.1]; exact c)] at hy
        exact a1.2 i x y hx hy
      · rw [List.getElem?_append_right (by omega)] at hx
        rw [List.getElem?_append_right (by rw [← a1.1]; omega), ← a1.1] at hy
        exact a2.2 _ x y hx hy
    clear hp2 hacc zp hz
    -- values, others
    refine ⟨_, rfl, p, dx, _, rfl, eA _ _ p1, mno.2, p, M, rfl, hM.mono eA, fun d1 H6 es e7 hd1 hes hkv => ?_⟩
    have eB := eA.trans e7
    refine ⟨_, rfl, q, dy, _, rfl, eB _ _ q1, mno.2, q, N, rfl, hN.mono eB, fun d2 H7 fs e8 hd2 hfs hkw => ?_⟩
    have eC := eB.trans e8
    have d12 : d1 ≠ d2 := ne_of_none hes hd2
    have nd2 := kv_nodup (K := K) (KfAt.kvs hkw) okN.nd
    refine ⟨d2, _, hfs, trivial, fun od => ?_⟩
    refine ⟨_, rfl, d2, od, rfl, Or.inl ⟨fs, upd_same, ?_⟩⟩
    refine Wk.for_ (Wk.keys d2 od fs) (fun i σ H2 => ∃ z, σ = [some (.ref p), some (.ref q), some (nV M.n), some (.ref pr), none, none, some (.ref d1), some (.ref d2), z] ∧ H2 d2 = some (.frz od (.dK fs)) ∧ (∀ b o, b ≠ d1 → b ≠ d2 → H7 b = some o → H2 b = some o) ∧
        ∃ es' vs, H2 d1 = some (.dK es') ∧ All2 (KfAt H2) es' vs ∧ Mg M N (N.vs.take i) vs)
      ⟨none, rfl, upd_same, fun b o _ h2 e => by rw [upd_ne h2]; exact e, es, M.vs, by rw [upd_ne d12]; exact e8 _ _ hes, (hkv.mono fun _ _ z => z.mono e8).mono fun _ _ z => z.sb hfs noSq_dK Sb.upd, Mg.start okM⟩
      (fun i σ H2 _ ⟨_, _, h, _⟩ => h) ?_ ?_
    · rintro i x σ HB hi ⟨key, v, hk, rfl⟩ ⟨z, rfl, b1, b2, es', vs, b3, b4, b5⟩
      obtain ⟨e, he, hq1, a2, hq2, hq3⟩ := hkw.at hk
      simp only at hq1 hq2
      subst hq1; subst hq2
      have hem := List.mem_of_getElem? he
      have hv2 : valV fs (.inr e.1) = some (.ref a2) := valV_mem nd2 (List.mem_of_getElem? hk)
      have xk : e.1 ∉ (N.vs.take i).map (·.1) := names_take okN.nd he
      have e7l := okN.len hem
      have ha2 : HB a2 = some (.lst (e.2.map nV)) := b2 _ _ (ne_of hq3 (e8 _ _ hes) (by intro z; cases z)) (ne_of hq3 hfs (by intro z; cases z)) hq3
      have vsl : vs.length ≤ 6 := by
        have := nodup_sub_len (L := L) b5.nd fun x hx => by
          obtain ⟨e', he', rfl⟩ := List.mem_map.mp hx
          rcases b5.sub e'.1 e'.2 he' with ⟨l, h⟩ | ⟨l, h⟩
          · exact LM (_, l) h
          · exact LN (_, l) h
        rw [List.length_map] at this
        omega
      refine ⟨_, rfl, d1, rfl, Or.inl ⟨_, Or.inl b3⟩, _, rfl, (by show 0 ≤ sizeLine; decide), fun a0 ha0 => ?_⟩
      have ec : Ex HB (upd HB a0 (.lst [])) := Ex.new ha0
      have nd1 := kv_nodup (K := K) (KfAt.kvs b4) b5.nd
      have hget : ∃ l a, DGet (upd HB a0 (.lst [])) d1 (kV (.inr e.1)) (valV es' (.inr e.1)) ∧ (valV es' (.inr e.1)).getD (.ref a0) = .ref a ∧ upd HB a0 (.lst []) a = some (.lst (l.map nV)) ∧ l.length ≤ 14 ∧ ((e.1, l) ∈ vs ∨ (e.1 ∉ vs.map (·.1) ∧ l = [])) := by
        by_cases c : e.1 ∈ vs.map (·.1)
        · obtain ⟨⟨x, l⟩, hm, hx⟩ := List.mem_map.mp c
          simp only at hx
          subst hx
          obtain ⟨kv, hk2, r1, a, r2, r3⟩ := b4.mem' hm
          have hv : valV es' (.inr e.1 : Key) = some (.ref a) := valV_mem nd1 (by rw [← show kv.1 = .inr e.1 from r1, ← show kv.2 = .ref a from r2]; exact hk2)
          refine ⟨l, a, DGet.k (ec _ _ b3), ?_, ec _ _ r3, b5.ln _ _ hm, Or.inl hm⟩
          rw [hv]
          rfl
        · refine ⟨[], a0, DGet.k (ec _ _ b3), ?_, upd_same, Nat.zero_le _, Or.inr ⟨c, rfl⟩⟩
          rw [kv_none (K := K) (KfAt.kvs b4) c]
          rfl
      obtain ⟨l, a, g1, g2, g3, g4, g5⟩ := hget
      refine ⟨_, g1, ?_⟩
      rw [g2]
      refine ⟨_, rfl, _, rfl, d2, _, rfl, dget_frz (ec _ _ b1) hv2, a2, rfl, ⟨_, sq_of (ec _ _ ha2)⟩, fun D hD => ?_⟩
      refine (Wk.list a2 (e.2.map nV)).fl e.2 (by rw [List.length_map]) (fun _ => true) (fun c => V.int ((c : Int) + (M.n : Int))) hD (by rw [List.length_map]; omega) (sq_of (ec _ _ ha2)) (fun _ _ e b => ex_l e b) ?_ ?_
      · rintro j c y HC yes no hc _ hy ky kn
        obtain ⟨c', hc', rfl⟩ := getD_nV hy
        rw [hc] at hc'
        have hc' := Option.some.inj hc'
        subst hc'
        exact ⟨rfl, iteT (B := no HC) ⟨_, rfl, _, rfl, _, _, rfl, rfl, ky rfl _ (Ex.refl _)⟩⟩
      intro HC ed hz
      rw [filter_id] at hz
      refine ⟨a, D, _, _, rfl, rfl, ed _ _ g3, hz, ?_, fun pn hpn => ?_⟩
      · rw [List.length_map, List.length_map]
        exact Nat.le_of_lt (small1000 (by omega))
      have ee := (ec.trans ed).trans (Ex.new (o := HO.lst (l.map nV ++ e.2.map fun c : Nat => V.int ((c : Int) + (M.n : Int)))) hpn)
      have el : l.map nV ++ (e.2.map fun c : Nat => V.int ((c : Int) + (M.n : Int))) = (l ++ e.2.map (· + M.n)).map nV := by
        rw [List.map_append, List.map_map]
        congr 1
      refine ⟨_, rfl, _, rfl, d1, _, rfl, DPut.k (ee _ _ b3) (small1000 (n := es'.length) (by have := b4.1; omega)), ?_⟩
      have g3' := ee _ _ b3
      generalize hHD : upd HC pn (.lst (l.map nV ++ e.2.map fun c : Nat => V.int ((c : Int) + (M.n : Int)))) = HD at ee g3' ⊢
      have pD : HD pn = some (.lst ((l ++ e.2.map (· + M.n)).map nV)) := by rw [← hHD, upd_same, el]
      have s5 : Sb d1 HD (upd HD d1 (.dK (putK es' (.inr e.1) (.ref pn)))) := Sb.upd
      refine ⟨_, rfl, s5 _ _ d12.symm (ee _ _ b1), fun b o h1 h2 h3 => s5 _ _ h1 (ee _ _ (b2 b o h1 h2 h3)), _, putN vs e.1 (l ++ e.2.map (· + M.n)), upd_same, ?_, ?_⟩
      · exact (putN_at (x := e.1) (b4.mono fun _ _ z => z.mono ee) ⟨pn, rfl, pD⟩).mono fun _ _ z => z.sb g3' noSq_dK s5
      · rw [take_snoc he]
        exact b5.step okM hem e7l xk g5
    · rintro σ HB ⟨z, rfl, b1, b2, es', vs, b3, b4, b5⟩
      refine ⟨b1, ?_⟩
      have fl : fs.length = N.vs.length := hkw.1
      rw [fl, List.take_length] at b5
      have vnm : ∀ x l, (x, l) ∈ vs → x ∈ L := fun x l hm => by
        rcases b5.sub x l hm with ⟨l, h⟩ | ⟨l, h⟩
        · exact LM (_, l) h
        · exact LN (_, l) h
      have vsl : vs.length ≤ 6 := by
        have := nodup_sub_len (L := L) b5.nd fun x hx => by
          obtain ⟨e', he', rfl⟩ := List.mem_map.mp hx
          exact vnm _ _ he'
        rw [List.length_map] at this
        omega
      have hd15 : H5 d1 = none := hd1
      have hd25 : H5 d2 = none := by
        cases z : H5 d2 with
        | none => rfl
        | some o => have := e7 _ _ z; rw [hd2] at this; cases this
      have sF : Sb d2 HB (upd HB d2 (.dK fs)) := Sb.upd
      have eF : Ex H5 (upd HB d2 (.dK fs)) := fun b o z => by
        have n1 : b ≠ d1 := ne_of_none z hd15
        have n2 : b ≠ d2 := ne_of_none z hd25
        exact sF _ _ n2 (b2 _ _ n1 n2 (e8 _ _ (e7 _ _ z)))
      have f3 : upd HB d2 (.dK fs) d1 = some (.dK es') := by rw [upd_ne d12]; exact b3
      have f4 : All2 (KfAt (upd HB d2 (.dK fs))) es' vs := b4.mono fun _ _ z => z.sb b1 noSq_fK sF
      generalize hHF : upd HB d2 (.dK fs) = HF at sF eF f3 f4 ⊢
      clear b2 b4 b1 b3 hHF
      have eAF := eA.trans eF
      refine ⟨_, rfl, _, rfl, q, dy, _, rfl, eAF _ _ q1, mno.1, q, N, rfl, hN.mono eAF, fun u HG eg ⟨fc2, hu4, pc2, ws2, n1, n2, n3⟩ => ?_⟩
      subst hu4
      refine ⟨fc2, _, 0, _, rfl, rfl, n1, rfl, _, _, rfl, rfl, _, rfl, (by show 2 ≤ sizeLine; decide), fun ft hft => ⟨_, rfl, fun m dm hm hdm hne => ?_⟩⟩
      have eg2 : Ex HF (upd HG ft (.tup [V.int ((M.n : Int) + (N.n : Int)), .ref pr])) := eg.trans (Ex.new hft)
      generalize hHH : upd HG ft (.tup [V.int ((M.n : Int) + (N.n : Int)), .ref pr]) = HH at eg2 hm hdm ⊢
      have ftH : HH ft = some (.tup [V.int ((M.n : Int) + (N.n : Int)), .ref pr]) := by rw [← hHH, upd_same]
      have eI : Ex HH (upd (upd HH dm (.own m)) m (.ins CM dm [])) := fun b o z => by
        rw [upd_ne (ne_of_none z hm), upd_ne (ne_of_none z hdm)]
        exact z
      have eJ := eF.trans (eg2.trans eI)
      refine ⟨m, dm, ft, d1, M.n + N.n, M.ps ++ N.ps.map (fun p => (p.1 + M.n, p.2 + M.n)), es', vs, rfl, upd_same, ⟨pr, us ++ ys, ?_, ex_t eJ hpr, hps.mono fun _ _ z => z.mono eJ⟩, ⟨by have := okM.n1; omega, h7, ?_, ?_, ?_⟩, (eg2.trans eI) _ _ f3,
        (KfAt.kvs f4).mono fun _ _ z => z.mono (eg2.trans eI), b5.nd, vsl, fun e he => ⟨?_, Nat.le_trans (b5.ln e.1 e.2 he) (by omega), fun x hx => ?_⟩, fun H' B sb hn hp hval hB => ⟨rfl, k _ _ ?_ ⟨m, B, rfl, hB, ⟨hn, fun v x => ?_, fun x u => ?_⟩⟩⟩⟩
      · refine st_of (eI _ _ ?_)
        rw [ftH]
        unfold nV
        rw [Int.natCast_add]
      · rw [List.pairwise_append, List.pairwise_map]
        refine ⟨okM.asc, okN.asc.imp fun h => ?_, fun a ha b hb => ?_⟩
        · rcases h with h | ⟨h1, h2⟩
          · exact Or.inl (by show _ + _ < _ + _; omega)
          · exact Or.inr ⟨by show _ + _ = _ + _; omega, by show _ + _ < _ + _; omega⟩
        · obtain ⟨b', hb', rfl⟩ := List.mem_map.mp hb
          have := okM.rng a ha
          exact Or.inl (by show _ < _ + _; omega)
      · intro a ha
        rcases List.mem_append.mp ha with ha | ha
        · have := okM.rng a ha
          omega
        · obtain ⟨b', hb', rfl⟩ := List.mem_map.mp ha
          have := okN.rng b' hb'
          show _ + _ < _ ∧ _ + _ < _
          omega
      · have h1 := hps.1
        have h2 := m3.1
        have h3 : M.ps.length ≤ M.n * M.n := ps_len okM.asc okM.rng
        have h4 : N.ps.length ≤ N.n * N.n := ps_len okN.asc okN.rng
        have h5 : (M.n + N.n) * (M.n + N.n) ≤ 7 * 7 := Nat.mul_le_mul h7 h7
        have h6 : (M.n + N.n) * (M.n + N.n) = M.n * M.n + M.n * N.n + (N.n * M.n + N.n * N.n) := by rw [Nat.add_mul, Nat.mul_add, Nat.mul_add]
        rw [List.length_append, List.length_map]
        omega
      · rcases b5.sub e.1 e.2 he with ⟨l, h⟩ | ⟨l, h⟩
        · exact okM.sok (_, l) h
        · exact okN.sok (_, l) h
      · rcases (b5.mem e.1 x).mp ⟨e.2, he, hx⟩ with h | ⟨w', l, h1, h2, rfl⟩
        · have := okM.inn.vs _ _ h
          omega
        · have := okN.inn.vs e.1 w' ⟨l, h1, h2⟩
          omega
      · intro b o z
        have z1 := (eAF.trans eg2) _ _ z
        exact sb _ _ (ne_of_none z1 hm) (eI _ _ z1)
      · rw [hp, List.mem_append, List.mem_map]
        constructor
        · rintro (h | ⟨⟨a, b⟩, h, e⟩)
          · exact Or.inl h
          · injection e with e1 e2
            exact Or.inr ⟨a, b, h, e1.symm, e2.symm⟩
        · rintro (h | ⟨a, b, h, rfl, rfl⟩)
          · exact Or.inl h
          · exact Or.inr ⟨(a, b), h, rfl⟩
      · rw [hval, b5.mem]
        constructor
        · rintro (h | ⟨w', l, h1, h2, e⟩)
          · exact Or.inl h
          · exact Or.inr ⟨w', ⟨l, h1, h2⟩, e⟩
        · rintro (h | ⟨w', ⟨l, h1, h2⟩, e⟩)
          · exact Or.inl h
          · exact Or.inr ⟨w', l, h1, h2, e⟩
end
end Q
/-! evaluated, truth -/
namespace Q
open PySem PySem.Spec PyProof.Rows L2 Evl Rl Bi
/-! ### places in a text -/
def compS : Expr → Scope
  | .ListComp _ _ s _ => s
  | .SetComp _ _ s _ => s
  | .DictComp _ _ _ s _ => s
  | _ => defScope (.Pass ⟨0, 0, 0, 0⟩)
def inIf : Stmt → List Stmt
  | .If _ b _ _ => b
  | _ => []
def inFor : Stmt → List Stmt
  | .For _ _ b _ _ => b
  | _ => []
def valS : Stmt → Expr
  | .Return (some e) _ => e
  | .Assign _ e _ => e
  | .Expr e _ => e
  | _ => .Name "" ⟨0, 0, 0, 0⟩
def stAt (b : List Stmt) (i : Nat) : Stmt := b.getD i (.Pass ⟨0, 0, 0, 0⟩)
/-- a list of the worlds of which φ holds -/
def SatAt (K : PySem.W.Frag) (H : Hp) (u : V) (M : Mo Str) (φ : Fm Str) : Prop := ∃ l : List Nat, LsAt K H u l ∧ l.length ≤ 7 ∧ ∀ c, c ∈ l ↔ c < M.n ∧ sat M c φ
def spEval (K : PySem.W.Frag) (C : Addr) (h : Nat) : Sp := fun vs H Q _ => ∃ (p : Addr) (M : Mo Str) (φ : Fm Str) (v : V), vs = [.ref p, v, .bl false] ∧ MdAt K C H p M ∧ FmAt K H φ v ∧ φ.ht ≤ h ∧ Ret H (fun u H' => SatAt K H' u M φ) Q
def spTruth (K : PySem.W.Frag) (C : Addr) (h : Nat) : Sp := fun vs H Q _ => ∃ (p : Addr) (M : Mo Str) (φ : Fm Str) (v : V), vs = [.ref p, v] ∧ MdAt K C H p M ∧ FmAt K H φ v ∧ φ.ht ≤ h ∧ Ret H (fun u H' => SatAt K H' u M φ) Q
theorem eqNil {K : PySem.W.Frag} {H : Hp} {Q : VK} {a b : Addr} {l : List Nat} (ha : SqL K H a (l.map nV)) (hb : SqL K H b []) (k : Q (.bl l.isEmpty) H) : rEqD K (.ref a) (.ref b) H Q := by
  refine ⟨.list ((toI l).map PyData.int), .list [], .lst ha ?_, .lst hb .nil, ints_shaped _, by decide +kernel, ?_⟩
  · rw [nV_map]
    exact dp_ints _
  · rw [nil_eqv]
    have e : (toI l).isEmpty = l.isEmpty := by cases l <;> rfl
    rw [e]
    exact k
section
variable {P : Program} {w : World} {K : PySem.W.Frag} {mg : Str → Option Value} {base : Heap} {CM CR aF : Addr}
abbrev N_evaluated : List Str := ["model", "a", "forced", "first", "v", "w", "second", "good"]
theorem sc_evaluated : FnScope N_evaluated ["model", "a", "forced"] (defScope s_evaluated) := ⟨rfl, rfl, rfl, by decide +kernel, rfl, by decide +kernel, by decide +kernel⟩
abbrev sv1 : Scope := relS (compS (valS (stAt (inIf (stAt (defBody s_evaluated) 3)) 0))) (defScope s_evaluated)
abbrev sv2 : Scope := relS (compS (valS (stAt (defBody s_evaluated) 9))) (defScope s_evaluated)
theorem ok_evaluated {f : Addr} {fd : FuncData} (F : Fun K "evaluated" "evaluated" s_evaluated f fd) (T : Tx K mg CM CR aF) (h : Nat) (c_true_worlds : Mth P w K mg base CM 1 "true_worlds" ["self"] (spTw K CM)) (c_seen : Mth P w K mg base CM 1 "seen" ["self", "v"] (spSeen K CM))
    (c_worlds_of : Cal P w K mg base CX0 2 "worlds_of" ["model"] (spWorldsOf K CM)) (c_evaluated : Cal P w K mg base CX0 (h + 2) "evaluated" ["model", "a", "forced"] (spEval K CM h)) : FnOk P w K mg base CX0 (h + 3) f fd ["model", "a", "forced"] (spEval K CM (h + 1)) := by
  refine F.ok sc_evaluated (fun vs H Q E h => ?_) (fun cdv A outer s H vs Q E hr hh => ?_)
  · obtain ⟨_, _, _, _, rfl, _⟩ := h
    rfl
  · obtain ⟨p, M, φ, v, rfl, hM, hφ, hht, k⟩ := hh
    have hu := hu_of hr
    refine ⟨_, (pss_cons (ps_if (pt_cmpR op_eq (pe_ix ix_tup (pv 1) pe_int (fun _ _ => rfl)) pe_str (nomark _))
      (pss_one (ps_ret (pe_dget2 hu (pe_mth0 c_true_worlds T.cM (hr.mono (by omega)) (pv 0)) (pe_ix ix_tup (pv 1) pe_int (fun _ _ => rfl)) (pe_lst pa_nil) ⟨rfl, rfl, rfl, rfl⟩)))
      pss_nil)
      (pss_cons (ps_if (pt_cmpR op_eq (pe_ix ix_tup (pv 1) pe_int (fun _ _ => rfl)) pe_str (nomark _))
      (pss_one (ps_ret (pe_lst pa_nil)))
      pss_nil)
      (pss_cons (ps_set (i := 3) sc_evaluated.nd rfl (Or.inr rfl) (pe_own c_evaluated (hr.mono (by omega)) rfl (pa_cons (pv 0) (pa_cons (pe_ix ix_tup (pv 1) pe_int (fun _ _ => rfl)) (pa_cons (pv 2) pa_nil)))))
      (pss_cons (ps_if (pt_cmpR op_eq (pe_ix ix_tup (pv 1) pe_int (fun _ _ => rfl)) pe_str (nomark _))
      (pss_one (ps_ret (pe_lc (own := [("v", 4)]) (g := gName 4) rfl sc_evaluated.nd (pi_list (pe_own c_worlds_of (hr.mono (by omega)) rfl (pa_cons (pv 0) pa_nil))) (blkOk_by (own := [("v", 4)]) (N := N_evaluated) (sc := defScope s_evaluated) (by decide +kernel)) (fun _ _ _ _ _ => (pg_name (i := 4) sc_evaluated.nd rfl (Or.inl rfl))) (fun _ _ _ _ _ => (pts_one (pt_cmpR (k_eqD (K := K) rfl hr.units) (pe_lc (own := [("w", 5)]) (g := gName 5) rfl sc_evaluated.nd (k_pil (K := K) rfl (pe_mth c_seen T.cM (hr.mono (by omega)) (pv 0) (pa_cons (pv 4) pa_nil))) (blkOk_by (own := [("w", 5)]) (N := N_evaluated) (sc := sv1) (by decide +kernel)) (fun _ _ _ _ _ => (pg_name (i := 5) sc_evaluated.nd rfl (Or.inl rfl))) (fun _ _ _ _ _ => (pts_one (pt_cmpR (k_notin (K := K) rfl) (pv 5) (pv 3) (by rfl)))) (fun _ _ _ _ _ => (pv 5))) (pe_lst pa_nil) (nomark _)))) (fun _ _ _ _ _ => (pv 4)))))
      pss_nil)
      (pss_cons (ps_set (i := 6) sc_evaluated.nd rfl (Or.inr rfl) (pe_own c_evaluated (hr.mono (by omega)) rfl (pa_cons (pv 0) (pa_cons (pe_ix ix_tup (pv 1) pe_int (fun _ _ => rfl)) (pa_cons (pv 2) pa_nil)))))
      (pss_cons (ps_if (pt_cmpR op_eq (pe_ix ix_tup (pv 1) pe_int (fun _ _ => rfl)) pe_str (nomark _))
      (pss_one (ps_ret (pe_lc (own := [("v", 4)]) (g := gName 4) rfl sc_evaluated.nd (pi_list (pv 3)) (blkOk_by (own := [("v", 4)]) (N := N_evaluated) (sc := defScope s_evaluated) (by decide +kernel)) (fun _ _ _ _ _ => (pg_name (i := 4) sc_evaluated.nd rfl (Or.inl rfl))) (fun _ _ _ _ _ => (pts_one (pt_cmpR (k_in (K := K) rfl) (pv 4) (pv 6) (by rfl)))) (fun _ _ _ _ _ => (pv 4)))))
      pss_nil)
      (pss_cons (ps_if (pt_cmpR op_eq (pe_ix ix_tup (pv 1) pe_int (fun _ _ => rfl)) pe_str (nomark _))
      (pss_one (ps_ret (pe_lc (own := [("v", 4)]) (g := gName 4) rfl sc_evaluated.nd (pi_list (pe_own c_worlds_of (hr.mono (by omega)) rfl (pa_cons (pv 0) pa_nil))) (blkOk_by (own := [("v", 4)]) (N := N_evaluated) (sc := defScope s_evaluated) (by decide +kernel)) (fun _ _ _ _ _ => (pg_name (i := 4) sc_evaluated.nd rfl (Or.inl rfl))) (fun _ _ _ _ _ => (pts_one (PW.pt (pw_or (pt_cmpR (k_in (K := K) rfl) (pv 4) (pv 3) (by rfl)) (pw_or1 (pt_cmpR (k_in (K := K) rfl) (pv 4) (pv 6) (by rfl))))))) (fun _ _ _ _ _ => (pv 4)))))
      pss_nil)
      (pss_cons (ps_set (i := 7) sc_evaluated.nd rfl (Or.inr rfl) (pe_lc (own := [("v", 4)]) (g := gName 4) rfl sc_evaluated.nd (pi_list (pe_own c_worlds_of (hr.mono (by omega)) rfl (pa_cons (pv 0) pa_nil))) (blkOk_by (own := [("v", 4)]) (N := N_evaluated) (sc := defScope s_evaluated) (by decide +kernel)) (fun _ _ _ _ _ => (pg_name (i := 4) sc_evaluated.nd rfl (Or.inl rfl))) (fun _ _ _ _ _ => (pts_one (PW.pt (pw_or (pt_cmpR (k_notin (K := K) rfl) (pv 4) (pv 3) (by rfl)) (pw_or1 (pt_cmpR (k_in (K := K) rfl) (pv 4) (pv 6) (by rfl))))))) (fun _ _ _ _ _ => (pv 4))))
      (pss_cons (ps_if (pt_not (pt_val (pv 2)))
      (pss_one (ps_ret (pv 7)))
      pss_nil)
      (pss_one (ps_ret (pe_lc (own := [("v", 4)]) (g := gName 4) rfl sc_evaluated.nd (pi_list (pe_own c_worlds_of (hr.mono (by omega)) rfl (pa_cons (pv 0) pa_nil))) (blkOk_by (own := [("v", 4)]) (N := N_evaluated) (sc := defScope s_evaluated) (by decide +kernel)) (fun _ _ _ _ _ => (pg_name (i := 4) sc_evaluated.nd rfl (Or.inl rfl))) (fun _ _ _ _ _ => (pts_one (pt_cmpR (k_eqD (K := K) rfl hr.units) (pe_lc (own := [("w", 5)]) (g := gName 5) rfl sc_evaluated.nd (k_pil (K := K) rfl (pe_mth c_seen T.cM (hr.mono (by omega)) (pv 0) (pa_cons (pv 4) pa_nil))) (blkOk_by (own := [("w", 5)]) (N := N_evaluated) (sc := sv2) (by decide +kernel)) (fun _ _ _ _ _ => (pg_name (i := 5) sc_evaluated.nd rfl (Or.inl rfl))) (fun _ _ _ _ _ => (pts_one (pt_cmpR (k_notin (K := K) rfl) (pv 5) (pv 7) (by rfl)))) (fun _ _ _ _ _ => (pv 5))) (pe_lst pa_nil) (nomark _)))) (fun _ _ _ _ _ => (pv 4)))))))))))))), ?_⟩
    obtain ⟨⟨dx, fa0, sa, va, rs, kvs0, p1, _⟩, okM⟩ := id hM
    have mtw : (mF fa0 sa va).lookup ("true_worlds" : Str) = none := mF_no (by decide +kernel) (by decide +kernel) (by decide +kernel)
    have msn : (mF fa0 sa va).lookup ("seen" : Str) = none := mF_no (by decide +kernel) (by decide +kernel) (by decide +kernel)
    cases φ with
    | var x =>
      obtain ⟨a, rfl, ha⟩ := hφ
      refine ⟨_, rfl, a, _, 0, _, rfl, rfl, ha, rfl, rfl, _, rfl, ite2 (fun _ => ?_) (fun c => absurd (by decide +kernel) c)⟩
      refine ⟨_, rfl, p, dx, _, rfl, p1, mtw, p, M, rfl, hM, fun d H1 es e1 hd hes hkv => ?_⟩
      refine ⟨d, rfl, Or.inl ⟨_, Or.inl hes⟩, _, rfl, a, _, 1, _, rfl, rfl, ex_t e1 ha, rfl, (by show 0 ≤ sizeLine; decide), fun a0 ha0 => ?_⟩
      have ec : Ex H1 (upd H1 a0 (.lst [])) := Ex.new ha0
      have nd1 := kv_nodup (K := K) (KfAt.kvs hkv) okM.nd
      refine ⟨_, DGet.k (k := Sum.inr x) (ec _ _ hes), ?_⟩
      by_cases c : x ∈ M.vs.map (·.1)
      · obtain ⟨⟨y, l⟩, hm, hx⟩ := List.mem_map.mp c
        simp only at hx
        subst hx
        obtain ⟨kv, hk2, r1, b, r2, r3⟩ := hkv.mem' hm
        have hv : valV es (.inr y : Key) = some (.ref b) := valV_mem nd1 (by rw [← show kv.1 = .inr y from r1, ← show kv.2 = .ref b from r2]; exact hk2)
        rw [hv]
        refine k _ _ (e1.trans ec) ⟨l, ⟨b, rfl, sq_of (ec _ _ r3)⟩, okM.len hm, fun u => ⟨fun hu => ⟨(okM.ls _ hm).2.2 u hu, l, hm, hu⟩, fun ⟨_, l', h1, h2⟩ => ?_⟩⟩
        rw [pair_uniq okM.nd hm h1]
        exact h2
      · rw [kv_none (K := K) (KfAt.kvs hkv) c]
        refine k _ _ (e1.trans ec) ⟨[], ⟨a0, rfl, sq_of upd_same⟩, Nat.zero_le _, fun u => ⟨fun hu => (nomatch hu), fun ⟨_, l', h1, h2⟩ => ?_⟩⟩
        exact absurd (List.mem_map.mpr ⟨_, h1, rfl⟩) c
    | fals =>
      obtain ⟨a, rfl, ha⟩ := hφ
      refine ⟨_, rfl, a, _, 0, _, rfl, rfl, ha, rfl, rfl, _, rfl, ite2 (fun c => absurd c (by decide +kernel)) (fun _ => ?_)⟩
      refine ⟨_, rfl, a, _, 0, _, rfl, rfl, ha, rfl, rfl, _, rfl, ite2 (fun _ => ?_) (fun c => absurd (by decide +kernel) c)⟩
      exact ⟨(by show 0 ≤ sizeLine; decide), fun a0 ha0 => k _ _ (Ex.new ha0) ⟨[], ⟨a0, rfl, sq_of upd_same⟩, Nat.zero_le _, fun u => ⟨fun hu => (nomatch hu), fun h => h.2.elim⟩⟩⟩
    | box ψ =>
      obtain ⟨a, x, rfl, ha, hx⟩ := hφ
      refine ⟨_, rfl, a, _, 0, _, rfl, rfl, ha, rfl, rfl, _, rfl, ite2 (fun c => absurd c (by decide +kernel)) (fun _ => ?_)⟩
      refine ⟨_, rfl, a, _, 0, _, rfl, rfl, ha, rfl, rfl, _, rfl, ite2 (fun c => absurd c (by decide +kernel)) (fun _ => ?_)⟩
      refine ⟨_, rfl, _, rfl, a, _, 1, _, rfl, rfl, ha, rfl, _, rfl, p, M, ψ, x, rfl, hM, hx, by have : 1 + ψ.ht ≤ h + 1 := hht; omega, fun u H1 e1 ⟨l1, ⟨a1, hu1, hl1⟩, n1, c1⟩ => ?_⟩
      subst hu1
      refine ⟨_, rfl, a, _, 0, _, rfl, rfl, ex_t e1 ha, rfl, rfl, _, rfl, ite2 (fun _ => ?_) (fun c => absurd (by decide +kernel) c)⟩
      refine ⟨_, rfl, p, M, rfl, hM.mono e1, fun u H2 e2 ⟨a2, hu2, hl2⟩ => ?_⟩
      subst hu2
      have e12 := e1.trans e2
      refine ⟨a2, rfl, ⟨_, hl2⟩, fun D hD => ?_⟩
      refine (Wk.list a2 ((List.range M.n).map nV)).fl (List.range M.n) (by rw [List.length_map]) (fun c => ((Bi.seen M c).filter fun w => !decide (w ∈ l1)).isEmpty) nV hD (by rw [List.length_map, List.length_range]; have := okM.n7; omega) hl2 (fun _ _ e b => ex_l e b) ?_ ?_
      · rintro i c y H3 yes no hc e3 hy ky kn
        obtain ⟨c', hc', rfl⟩ := getD_nV hy
        rw [hc] at hc'
        have hc' := Option.some.inj hc'
        subst hc'
        have hcn : c < M.n := List.mem_range.mp (List.mem_of_getElem? hc)
        have e13 := e12.trans e3
        refine ⟨rfl, _, rfl, p, dx, _, rfl, e13 _ _ p1, msn, _, rfl, p, M, c, rfl, hM.mono e13, hcn, fun u H4 e4 ⟨a4, hu4, hl4⟩ => ?_⟩
        subst hu4
        refine ⟨a4, rfl, ⟨_, hl4⟩, fun D2 hD2 => ?_⟩
        refine (Wk.list a4 ((Bi.seen M c).map nV)).fl (Bi.seen M c) (by rw [List.length_map]) (fun w => !decide (w ∈ l1)) nV hD2 (by rw [List.length_map]; have := okM.seen7 c; omega) hl4 (fun _ _ e b => ex_l e b) ?_ ?_
        · rintro j w z H5 yes2 no2 hw e5 hz ky2 kn2
          obtain ⟨w', hw', rfl⟩ := getD_nV hz
          rw [hw] at hw'
          have hw' := Option.some.inj hw'
          subst hw'
          refine ⟨rfl, _, rfl, _, rfl, a1, _, rfl, Or.inl (ex_l ((e2.trans e3).trans (e4.trans e5)) hl1), rfl, flat_nats _, _, rfl, ?_⟩
          rw [if_pos rfl, inV_nats]
          exact ite2 (fun q => ⟨_, rfl, ky2 q _ (Ex.refl _)⟩) (fun q => kn2 (by simpa using q) _ (Ex.refl _))
        · intro H5 e5 hz
          refine ⟨(by show 0 ≤ sizeLine; decide), fun a6 ha6 => ?_⟩
          refine eqNil (sq_of (Ex.new ha6 _ _ hz)) (sq_of upd_same) ⟨_, rfl, ?_⟩
          exact ite2 (fun q => ⟨_, rfl, ky q _ ((e4.trans e5).trans (Ex.new ha6))⟩) (fun q => kn (by simpa using q) _ ((e4.trans e5).trans (Ex.new ha6)))
      · intro H3 e3 hz
        refine k _ _ (e12.trans e3) ⟨_, ⟨D, rfl, sq_of hz⟩, ?_, fun c => ?_⟩
        · have h1 := List.length_filter_le (fun c => ((Bi.seen M c).filter fun w => !decide (w ∈ l1)).isEmpty) (List.range M.n)
          have h2 := okM.n7
          rw [List.length_range] at h1
          omega
        · rw [List.mem_filter, List.mem_range, List.isEmpty_iff, List.filter_eq_nil_iff]
          refine and_congr_right fun hc => ?_
          show _ ↔ ∀ w, w ∈ Bi.seen M c → sat M w ψ
          refine forall_congr' fun w => ⟨fun z hw => ?_, fun z hw => ?_⟩
          · exact ((c1 w).mp (by simpa using z hw)).2
          · simpa using (c1 w).mpr ⟨okM.seenlt hw, z hw⟩
    | and ψ χ =>
      obtain ⟨a, x, y, rfl, ha, hx, hy⟩ := hφ
      have hh1 : 1 + max ψ.ht χ.ht ≤ h + 1 := hht
      refine ⟨_, rfl, a, _, 0, _, rfl, rfl, ha, rfl, rfl, _, rfl, ite2 (fun c => absurd c (by decide +kernel)) (fun _ => ?_)⟩
      refine ⟨_, rfl, a, _, 0, _, rfl, rfl, ha, rfl, rfl, _, rfl, ite2 (fun c => absurd c (by decide +kernel)) (fun _ => ?_)⟩
      refine ⟨_, rfl, _, rfl, a, _, 1, _, rfl, rfl, ha, rfl, _, rfl, p, M, ψ, x, rfl, hM, hx, by omega, fun u H1 e1 ⟨l1, ⟨a1, hu1, hl1⟩, n1, c1⟩ => ?_⟩
      subst hu1
      refine ⟨_, rfl, a, _, 0, _, rfl, rfl, ex_t e1 ha, rfl, rfl, _, rfl, ite2 (fun c => absurd c (by decide +kernel)) (fun _ => ?_)⟩
      refine ⟨_, rfl, _, rfl, a, _, 2, _, rfl, rfl, ex_t e1 ha, rfl, _, rfl, p, M, χ, y, rfl, hM.mono e1, hy.mono e1, by omega, fun u H2 e2 ⟨l2, ⟨a2, hu2, hl2⟩, n2, c2⟩ => ?_⟩
      subst hu2
      have e12 := e1.trans e2
      refine ⟨_, rfl, a, _, 0, _, rfl, rfl, ex_t e12 ha, rfl, rfl, _, rfl, ite2 (fun _ => ?_) (fun c => absurd (by decide +kernel) c)⟩
      have hl1' := ex_l e2 hl1
      refine ⟨_, rfl, a1, rfl, ⟨_, hl1'⟩, fun D hD => ?_⟩
      refine (Wk.list a1 (l1.map nV)).fl l1 (by rw [List.length_map]) (fun c => decide (c ∈ l2)) nV hD (by rw [List.length_map]; omega) hl1' (fun _ _ e b => ex_l e b) ?_ ?_
      · rintro i c z H3 yes no hc e3 hz ky kn
        obtain ⟨c', hc', rfl⟩ := getD_nV hz
        rw [hc] at hc'
        have hc' := Option.some.inj hc'
        subst hc'
        refine ⟨rfl, _, rfl, _, rfl, a2, _, rfl, Or.inl (ex_l e3 hl2), rfl, flat_nats _, _, rfl, ?_⟩
        rw [if_neg Bool.false_ne_true, inV_nats]
        exact ite2 (fun q => ⟨_, rfl, ky q _ (Ex.refl _)⟩) (fun q => kn (by simpa using q) _ (Ex.refl _))
      · intro H3 e3 hz
        refine k _ _ (e12.trans e3) ⟨_, ⟨D, rfl, sq_of hz⟩, ?_, fun c => ?_⟩
        · exact Nat.le_trans (List.length_filter_le _ _) n1
        · rw [List.mem_filter, c1]
          show _ ↔ c < M.n ∧ sat M c ψ ∧ sat M c χ
          constructor
          · rintro ⟨⟨z1, z2⟩, z3⟩
            exact ⟨z1, z2, ((c2 c).mp (of_decide_eq_true z3)).2⟩
          · rintro ⟨z1, z2, z3⟩
            exact ⟨⟨z1, z2⟩, decide_eq_true ((c2 c).mpr ⟨z1, z3⟩)⟩
    | imp ψ χ =>
      obtain ⟨a, x, y, rfl, ha, hx, hy⟩ := hφ
      have hh1 : 1 + max ψ.ht χ.ht ≤ h + 1 := hht
      refine ⟨_, rfl, a, _, 0, _, rfl, rfl, ha, rfl, rfl, _, rfl, ite2 (fun c => absurd c (by decide +kernel)) (fun _ => ?_)⟩
      refine ⟨_, rfl, a, _, 0, _, rfl, rfl, ha, rfl, rfl, _, rfl, ite2 (fun c => absurd c (by decide +kernel)) (fun _ => ?_)⟩
      refine ⟨_, rfl, _, rfl, a, _, 1, _, rfl, rfl, ha, rfl, _, rfl, p, M, ψ, x, rfl, hM, hx, by omega, fun u H1 e1 ⟨l1, ⟨a1, hu1, hl1⟩, n1, c1⟩ => ?_⟩
      subst hu1
      refine ⟨_, rfl, a, _, 0, _, rfl, rfl, ex_t e1 ha, rfl, rfl, _, rfl, ite2 (fun c => absurd c (by decide +kernel)) (fun _ => ?_)⟩
      refine ⟨_, rfl, _, rfl, a, _, 2, _, rfl, rfl, ex_t e1 ha, rfl, _, rfl, p, M, χ, y, rfl, hM.mono e1, hy.mono e1, by omega, fun u H2 e2 ⟨l2, ⟨a2, hu2, hl2⟩, n2, c2⟩ => ?_⟩
      subst hu2
      have e12 := e1.trans e2
      refine ⟨_, rfl, a, _, 0, _, rfl, rfl, ex_t e12 ha, rfl, rfl, _, rfl, ite2 (fun c => absurd c (by decide +kernel)) (fun _ => ?_)⟩
      refine ⟨_, rfl, a, _, 0, _, rfl, rfl, ex_t e12 ha, rfl, rfl, _, rfl, ite2 (fun c => absurd c (by decide +kernel)) (fun _ => ?_)⟩
      refine ⟨_, rfl, p, M, rfl, hM.mono e12, fun u H3 e3 ⟨a3, hu3, hl3⟩ => ?_⟩
      subst hu3
      have e13 := e12.trans e3
      refine ⟨a3, rfl, ⟨_, hl3⟩, fun D hD => ?_⟩
      refine (Wk.list a3 ((List.range M.n).map nV)).fl (List.range M.n) (by rw [List.length_map]) (fun c => !decide (c ∈ l1) || decide (c ∈ l2)) nV hD (by rw [List.length_map, List.length_range]; have := okM.n7; omega) hl3 (fun _ _ e b => ex_l e b) ?_ ?_
      · rintro i c z H4 yes no hc e4 hz ky kn
        obtain ⟨c', hc', rfl⟩ := getD_nV hz
        rw [hc] at hc'
        have hc' := Option.some.inj hc'
        subst hc'
        refine ⟨rfl, _, rfl, _, rfl, a1, _, rfl, Or.inl (ex_l ((e2.trans e3).trans e4) hl1), rfl, flat_nats _, _, rfl, ?_⟩
        rw [if_pos rfl, inV_nats]
        refine ite2 (fun q => iteT ⟨_, rfl, ky (by rw [q]; rfl) _ (Ex.refl _)⟩) (fun q => ?_)
        refine ⟨_, rfl, _, rfl, a2, _, rfl, Or.inl (ex_l (e3.trans e4) hl2), rfl, flat_nats _, _, rfl, ?_⟩
        rw [if_neg Bool.false_ne_true, inV_nats]
        have q' : (!decide (c ∈ l1)) = false := by simpa using q
        exact ite2 (fun r => ⟨_, rfl, ky (by rw [r, q']; rfl) _ (Ex.refl _)⟩) (fun r => kn (by rw [q']; simpa using r) _ (Ex.refl _))
      · intro H4 e4 hz
        refine ⟨_, rfl, _, rfl, iteT ⟨_, rfl, k _ _ (e13.trans e4) ⟨_, ⟨D, rfl, sq_of hz⟩, ?_, fun c => ?_⟩⟩⟩
        · have h1 := List.length_filter_le (fun c => !decide (c ∈ l1) || decide (c ∈ l2)) (List.range M.n)
          have h2 := okM.n7
          rw [List.length_range] at h1
          omega
        · rw [List.mem_filter, List.mem_range]
          refine and_congr_right fun hc => ?_
          show _ ↔ (sat M c ψ → sat M c χ)
          rw [Bool.or_eq_true, Bool.not_eq_true', decide_eq_false_iff_not, decide_eq_true_eq, c1, c2]
          constructor
          · rintro (z | z) g
            · exact absurd ⟨hc, g⟩ z
            · exact z.2
          · intro z
            by_cases g : sat M c ψ
            · exact Or.inr ⟨hc, z g⟩
            · exact Or.inl fun q => g q.2
abbrev N_truth : List Str := ["model", "a"]
theorem sc_truth : FnScope N_truth ["model", "a"] (defScope s_truth) := ⟨rfl, rfl, rfl, by decide +kernel, rfl, by decide +kernel, by decide +kernel⟩
theorem ok_truth {f : Addr} {fd : FuncData} (F : Fun K "truth" "truth" s_truth f fd) (h : Nat) (c_evaluated : Cal P w K mg base CX0 (h + 2) "evaluated" ["model", "a", "forced"] (spEval K CM h)) : FnOk P w K mg base CX0 (h + 3) f fd ["model", "a"] (spTruth K CM h) := by
  refine F.ok sc_truth (fun vs H Q E h => ?_) (fun cdv A outer s H vs Q E hr hh => ?_)
  · obtain ⟨_, _, _, _, rfl, _⟩ := h
    rfl
  · obtain ⟨p, M, φ, v, rfl, hM, hφ, hht, k⟩ := hh
    refine ⟨_, (pss_one (ps_ret (pe_own c_evaluated (hr.mono (by omega)) rfl (pa_cons (pv 0) (pa_cons (pv 1) (pa_cons pe_bl pa_nil)))))), ?_⟩
    exact ⟨_, rfl, _, rfl, p, M, φ, v, rfl, hM, hφ, hht, k⟩
/-- at height 0 nothing is asked -/
theorem ok_evaluated0 {f : Addr} {fd : FuncData} (F : Fun K "evaluated" "evaluated" s_evaluated f fd) : FnOk P w K mg base CX0 2 f fd ["model", "a", "forced"] (spEval K CM 0) := by
  have no : ∀ {vs H Q E}, ¬ spEval K CM 0 vs H Q E := fun {vs H Q E} ⟨_, _, φ, _, _, _, _, h, _⟩ => by cases φ <;> simp [Fm.ht] at h
  refine F.ok sc_evaluated (fun vs H Q E h => absurd h no) (fun cdv A outer s H vs Q E hr hh => absurd hh no)
theorem ok_modal_depth0 {f : Addr} {fd : FuncData} (F : Fun K "modal_depth" "modal_depth" s_modal_depth f fd) : FnOk P w K mg base CX0 1 f fd ["a"] (spMd K 0) := by
  have no : ∀ {vs H Q E}, ¬ spMd K 0 vs H Q E := fun {vs H Q E} ⟨φ, _, _, _, h, _⟩ => by cases φ <;> simp [Fm.ht] at h
  refine F.ok sc_modal_depth (fun vs H Q E h => absurd h no) (fun cdv A outer s H vs Q E hr hh => absurd hh no)
end
end Q
/-! Rounds in the heap; the witnesses, is_told -/
namespace Q
open PySem PySem.Spec PyProof.Rows L2 Evl Rl Bi
/-! ### the table -/
def kP (p : Nat × Nat) : List Key := [Sum.inl (p.1 : Int), Sum.inl (p.2 : Int)]
def tb (F : Tb) : List (List Key × V) := F.map fun e => (kP e.1, nV e.2)
theorem kP_inj {p q : Nat × Nat} : kP p = kP q ↔ p = q := by
  constructor
  · intro h
    unfold kP at h
    injection h with h1 h2
    injection h2 with h2 _
    injection h1 with h1
    injection h2 with h2
    obtain ⟨a, b⟩ := p
    obtain ⟨c, d⟩ := q
    simp only at h1 h2
    rw [show a = c by omega, show b = d by omega]
  · rintro rfl
    rfl
theorem valV_tb {p : Nat × Nat} : ∀ {F : Tb}, valV (tb F) (kP p) = (F.lookup p).map nV
  | [] => rfl
  | (q, r) :: F => by
    have ih := @valV_tb p F
    show valV ((kP q, nV r) :: tb F) (kP p) = _
    rw [List.lookup_cons]
    by_cases e : p = q
    · subst e
      rw [valV_pos (p := (kP p, nV r)) rfl]
      simp
    · rw [valV_neg (p := (kP q, nV r)) (fun z => e (kP_inj.mp z).symm), ih]
      rw [show (p == q) = false from beq_eq_false_iff_ne.mpr e]
theorem isSome_tb {p : Nat × Nat} {F : Tb} : (valV (tb F) (kP p)).isSome = (F.lookup p).isSome := by rw [valV_tb, Option.isSome_map]
/-- a tuple of two numbers that is not written -/
def PfAt (H : Hp) (x : V) (p : Nat × Nat) : Prop := ∃ t, x = .ref t ∧ H t = some (.tup [nV p.1, nV p.2])
theorem PfAt.mono {H H' : Hp} {x : V} {p : Nat × Nat} (e : Ex H H') (h : PfAt H x p) : PfAt H' x p := let ⟨t, h1, h2⟩ := h; ⟨t, h1, e _ _ h2⟩
theorem PfAt.sb {H H' : Hp} {D : Addr} {o : HO} {x : V} {p : Nat × Nat} (hD : H D = some o) (n : NoSq o) (e : Sb D H H') (h : PfAt H x p) : PfAt H' x p :=
  let ⟨t, h1, h2⟩ := h; ⟨t, h1, e _ _ (fun z => by rw [z, hD] at h2; exact n.2.1 _ (Option.some.inj h2)) h2⟩
/-- a Rounds stands at p, with the table F -/
structure RdAt (K : PySem.W.Frag) (CM CR : Addr) (H : Hp) (p : Addr) (M N : Mo Str) (F : Tb) : Prop where
  ex : ∃ dx a b d : Addr, H p = some (.ins CR dx (rF a b d)) ∧ MdAt K CM H a M ∧ MdAt K CM H b N ∧ H d = some (.dT (tb F))
theorem RdAt.mono {K : PySem.W.Frag} {CM CR : Addr} {H H' : Hp} {p : Addr} {M N : Mo Str} {F : Tb} (e : Ex H H') (h : RdAt K CM CR H p M N F) : RdAt K CM CR H' p M N F := by
  obtain ⟨dx, a, b, d, h1, h2, h3, h4⟩ := h.ex
  exact ⟨dx, a, b, d, e _ _ h1, h2.mono e, h3.mono e, e _ _ h4⟩
def WitL (M N : Mo Str) (k v w : Nat) (u : V) : Prop := (∃ x : Nat, u = nV x ∧ x ∈ Bi.seen M v ∧ ∀ y, y ∈ Bi.seen N w → T M N k x y) ∨ (u = .non ∧ ¬ ∃ x, x ∈ Bi.seen M v ∧ ∀ y, y ∈ Bi.seen N w → T M N k x y)
def WitR (M N : Mo Str) (k v w : Nat) (u : V) : Prop := (∃ y : Nat, u = nV y ∧ y ∈ Bi.seen N w ∧ ∀ x, x ∈ Bi.seen M v → T M N k x y) ∨ (u = .non ∧ ¬ ∃ y, y ∈ Bi.seen N w ∧ ∀ x, x ∈ Bi.seen M v → T M N k x y)
def spWit (K : PySem.W.Frag) (CM CR : Addr) (R : Mo Str → Mo Str → Nat → Nat → Nat → V → Prop) : Sp := fun vs H Q _ => ∃ (p : Addr) (x : V) (M N : Mo Str) (F : Tb) (k v w : Nat), vs = [.ref p, x] ∧ RdAt K CM CR H p M N F ∧ Found M N (k + 1) F ∧ PfAt H x (v, w) ∧ v < M.n ∧ w < N.n ∧
  Ret H (fun u _ => R M N k v w u) Q
def spTold (K : PySem.W.Frag) (CM CR : Addr) : Sp := spWit K CM CR fun M N k v w u => ∃ b, u = .bl b ∧ (b = true ↔ newly M N k v w)
section
variable {P : Program} {w : World} {K : PySem.W.Frag} {mg : Str → Option Value} {base : Heap} {CM CR aF : Addr}
abbrev N_left_witness : List Str := ["self", "pair", "x", "y"]
theorem sc_left_witness : FnScope N_left_witness ["self", "pair"] (defScope s_left_witness) := ⟨rfl, rfl, rfl, by decide +kernel, rfl, by decide +kernel, by decide +kernel⟩
theorem ok_left_witness {f : Addr} {fd : FuncData} (F : Fun K "left_witness" "Rounds.left_witness" s_left_witness f fd) (T : Tx K mg CM CR aF) (c_seen : Mth P w K mg base CM 1 "seen" ["self", "v"] (spSeen K CM)) :
    FnOk P w K mg base CX0 2 f fd ["self", "pair"] (spWit K CM CR WitL) := by
  refine F.ok sc_left_witness (fun vs H Q E h => ?_) (fun cdv A outer s H vs Q E hr h => ?_)
  · obtain ⟨_, _, _, _, _, _, _, _, rfl, _⟩ := h
    rfl
  · obtain ⟨p, x, M, N, F, k, v, w, rfl, hR, hF, ⟨t, rfl, ht⟩, hv, hw, kk⟩ := h
    have hu := hu_of hr
    refine ⟨_, (pss_cons (ps_for PassesOwn.never rfl (pi_list (pe_mth c_seen T.cM (hr.mono (by omega)) (pe_fld (pv 0) rfl) (pa_cons (pe_ix ix_tup (pv 1) pe_int (fun _ _ => rfl)) pa_nil))) (pg_name (i := 2) sc_left_witness.nd rfl (Or.inr rfl))
      (pss_one (ps_if (pt_cmpR (op_eqD hr.units) (pe_lc (own := [("y", 3)]) (g := gName 3) rfl sc_left_witness.nd (pi_list (pe_mth c_seen T.cM (hr.mono (by omega)) (pe_fld (pv 0) rfl) (pa_cons (pe_ix ix_tup (pv 1) pe_int (fun _ _ => rfl)) pa_nil))) (blkOk_by (own := [("y", 3)]) (N := N_left_witness) (sc := defScope s_left_witness) (by decide +kernel)) (fun _ _ _ _ _ => (pg_name (i := 3) sc_left_witness.nd rfl (Or.inl rfl))) (fun _ _ _ _ _ => (pts_one (pt_cmp (pc_dnotin hu (pe_tup (pa_cons (pv 2) (pa_cons (pv 3) pa_nil))) (k_fld (K := K) rfl (pv 0) rfl))))) (fun _ _ _ _ _ => (pv 3))) (pe_lst pa_nil) (nomark _))
      (pss_one (ps_ret (pv 2)))
      pss_nil)))
      (pss_one (ps_ret pe_non))), ?_⟩
    obtain ⟨dx, a, b, d, h1, hM, hN, hd⟩ := hR.ex
    obtain ⟨⟨dxa, fa, sa, va, rs, kvs, ha, _⟩, okM⟩ := id hM
    obtain ⟨⟨dxb, fb, sb, vb, rs2, kvs2, hb, _⟩, okN⟩ := id hN
    have msn : ∀ {fa sa va : Addr}, (mF fa sa va).lookup ("seen" : Str) = none := fun {_ _ _} => mF_no (by decide +kernel) (by decide +kernel) (by decide +kernel)
    refine ⟨_, rfl, p, CR, dx, _, _, rfl, h1, T.cR, T.r_first, rF_first, a, dxa, _, rfl, ha, msn, _, rfl, t, _, 0, _, rfl, rfl, st_of ht, rfl, a, M, v, rfl, hM, hv, fun u H1 e1 ⟨la, hu1, hla⟩ => ?_⟩
    subst hu1
    refine ⟨la, rfl, ⟨_, hla⟩, ?_⟩
    refine Wk.for_ (Wk.list la ((Bi.seen M v).map nV)) (fun i σ H2 => ∃ z, σ = [some (.ref p), some (.ref t), z, none] ∧ Ex H1 H2 ∧ ∀ x, x ∈ (Bi.seen M v).take i → ¬ ∀ y, y ∈ Bi.seen N w → Bi.T M N k x y)
      ⟨none, rfl, Ex.refl _, fun x hx => by simp at hx⟩ (fun i σ H2 _ ⟨_, _, e, _⟩ => ex_l e hla) ?_ ?_
    · rintro i y σ H2 hi hy ⟨z, rfl, e2, hz⟩
      obtain ⟨x, hx, rfl⟩ := getD_nV hy
      have hxs := List.mem_of_getElem? hx
      have hxn := okM.seenlt hxs
      have e12 := e1.trans e2
      refine ⟨_, rfl, p, CR, dx, _, _, rfl, e12 _ _ h1, T.cR, T.r_second, rF_second, b, dxb, _, rfl, e12 _ _ hb, msn, _, rfl, t, _, 1, _, rfl, rfl, st_of (e12 _ _ ht), rfl, b, N, w, rfl, hN.mono e12, hw, fun u H3 e3 ⟨lb, hu2, hlb⟩ => ?_⟩
      subst hu2
      have e13 := e12.trans e3
      refine ⟨lb, rfl, ⟨_, hlb⟩, fun D hD => ?_⟩
      refine (Wk.list lb ((Bi.seen N w).map nV)).fl (Bi.seen N w) (by rw [List.length_map]) (fun y => !(F.lookup (x, y)).isSome) nV hD (by rw [List.length_map]; have := okN.seen7 w; omega) hlb (fun _ _ e b => ex_l e b) ?_ ?_
      · rintro j y u H4 yes no hy2 e4 hu3 ky kn
        obtain ⟨y', hy', rfl⟩ := getD_nV hu3
        rw [hy2] at hy'
        have hy' := Option.some.inj hy'
        subst hy'
        have e14 := e13.trans e4
        refine ⟨rfl, _, rfl, _, rfl, (by show 2 ≤ sizeLine; decide), fun r hr1 => ?_⟩
        have e15 := e14.trans (Ex.new (o := HO.tup [nV x, nV y]) hr1)
        refine ⟨_, rfl, p, CR, dx, _, _, rfl, e15 _ _ h1, T.cR, T.r_found, rF_found, d, _, rfl, DGet.t (k := kP (x, y)) (e15 _ _ hd) upd_same, _, rfl, ?_⟩
        rw [isSome_tb]
        exact ite2 (fun q => ⟨_, rfl, ky q _ (Ex.new hr1)⟩) (fun q => kn (by simpa using q) _ (Ex.new hr1))
      · intro H4 e4 hz4
        refine ⟨(by show 0 ≤ sizeLine; decide), fun a6 ha6 => ?_⟩
        refine eqNil (sq_of (Ex.new ha6 _ _ hz4)) (sq_of upd_same) ⟨_, rfl, ?_⟩
        have e16 := (e13.trans e4).trans (Ex.new (o := HO.lst []) ha6)
        have iff : ((Bi.seen N w).filter fun y => !(F.lookup (x, y)).isSome).isEmpty = true ↔ ∀ y, y ∈ Bi.seen N w → Bi.T M N k x y := by
          rw [List.isEmpty_iff, List.filter_eq_nil_iff]
          refine forall_congr' fun y => imp_congr_right fun hy => ?_
          rw [← hF.isSome hxn (okN.seenlt hy)]
          cases (F.lookup (x, y)).isSome <;> simp
        refine ite2 (fun q => ⟨_, rfl, kk _ _ e16 (Or.inl ⟨x, rfl, hxs, iff.mp q⟩)⟩) (fun q => ⟨_, rfl, (e2.trans (e3.trans e4)).trans (Ex.new ha6), fun x' hx' => ?_⟩)
        rw [take_snoc hx] at hx'
        rcases List.mem_append.mp hx' with hx' | hx'
        · exact hz x' hx'
        · rw [List.mem_singleton.mp hx']
          exact fun g => q (iff.mpr g)
    · rintro σ H2 ⟨z, rfl, e2, hz⟩
      rw [List.length_map, List.take_length] at hz
      exact kk _ _ (e1.trans e2) (Or.inr ⟨rfl, fun ⟨x, h1, h2⟩ => hz x h1 h2⟩)
abbrev N_right_witness : List Str := ["self", "pair", "y", "x"]
theorem sc_right_witness : FnScope N_right_witness ["self", "pair"] (defScope s_right_witness) := ⟨rfl, rfl, rfl, by decide +kernel, rfl, by decide +kernel, by decide +kernel⟩
theorem ok_right_witness {f : Addr} {fd : FuncData} (F : Fun K "right_witness" "Rounds.right_witness" s_right_witness f fd) (T : Tx K mg CM CR aF) (c_seen : Mth P w K mg base CM 1 "seen" ["self", "v"] (spSeen K CM)) :
    FnOk P w K mg base CX0 2 f fd ["self", "pair"] (spWit K CM CR WitR) := by
  refine F.ok sc_right_witness (fun vs H Q E h => ?_) (fun cdv A outer s H vs Q E hr h => ?_)
  · obtain ⟨_, _, _, _, _, _, _, _, rfl, _⟩ := h
    rfl
  · obtain ⟨p, x, M, N, F, k, v, w, rfl, hR, hF, ⟨t, rfl, ht⟩, hv, hw, kk⟩ := h
    have hu := hu_of hr
    refine ⟨_, (pss_cons (ps_for PassesOwn.never rfl (pi_list (pe_mth c_seen T.cM (hr.mono (by omega)) (pe_fld (pv 0) rfl) (pa_cons (pe_ix ix_tup (pv 1) pe_int (fun _ _ => rfl)) pa_nil))) (pg_name (i := 2) sc_right_witness.nd rfl (Or.inr rfl))
      (pss_one (ps_if (pt_cmpR (op_eqD hr.units) (pe_lc (own := [("x", 3)]) (g := gName 3) rfl sc_right_witness.nd (pi_list (pe_mth c_seen T.cM (hr.mono (by omega)) (pe_fld (pv 0) rfl) (pa_cons (pe_ix ix_tup (pv 1) pe_int (fun _ _ => rfl)) pa_nil))) (blkOk_by (own := [("x", 3)]) (N := N_right_witness) (sc := defScope s_right_witness) (by decide +kernel)) (fun _ _ _ _ _ => (pg_name (i := 3) sc_right_witness.nd rfl (Or.inl rfl))) (fun _ _ _ _ _ => (pts_one (pt_cmp (pc_dnotin hu (pe_tup (pa_cons (pv 3) (pa_cons (pv 2) pa_nil))) (k_fld (K := K) rfl (pv 0) rfl))))) (fun _ _ _ _ _ => (pv 3))) (pe_lst pa_nil) (nomark _))
      (pss_one (ps_ret (pv 2)))
      pss_nil)))
      (pss_one (ps_ret pe_non))), ?_⟩
    obtain ⟨dx, a, b, d, h1, hM, hN, hd⟩ := hR.ex
    obtain ⟨⟨dxa, fa, sa, va, rs, kvs, ha, _⟩, okM⟩ := id hM
    obtain ⟨⟨dxb, fb, sb, vb, rs2, kvs2, hb, _⟩, okN⟩ := id hN
    have msn : ∀ {fa sa va : Addr}, (mF fa sa va).lookup ("seen" : Str) = none := fun {_ _ _} => mF_no (by decide +kernel) (by decide +kernel) (by decide +kernel)
    refine ⟨_, rfl, p, CR, dx, _, _, rfl, h1, T.cR, T.r_second, rF_second, b, dxb, _, rfl, hb, msn, _, rfl, t, _, 1, _, rfl, rfl, st_of ht, rfl, b, N, w, rfl, hN, hw, fun u H1 e1 ⟨la, hu1, hla⟩ => ?_⟩
    subst hu1
    refine ⟨la, rfl, ⟨_, hla⟩, ?_⟩
    refine Wk.for_ (Wk.list la ((Bi.seen N w).map nV)) (fun i σ H2 => ∃ z, σ = [some (.ref p), some (.ref t), z, none] ∧ Ex H1 H2 ∧ ∀ y, y ∈ (Bi.seen N w).take i → ¬ ∀ x, x ∈ Bi.seen M v → Bi.T M N k x y)
      ⟨none, rfl, Ex.refl _, fun x hx => by simp at hx⟩ (fun i σ H2 _ ⟨_, _, e, _⟩ => ex_l e hla) ?_ ?_
    · rintro i y σ H2 hi hy ⟨z, rfl, e2, hz⟩
      obtain ⟨y, hx, rfl⟩ := getD_nV hy
      have hxs := List.mem_of_getElem? hx
      have hxn := okN.seenlt hxs
      have e12 := e1.trans e2
      refine ⟨_, rfl, p, CR, dx, _, _, rfl, e12 _ _ h1, T.cR, T.r_first, rF_first, a, dxa, _, rfl, e12 _ _ ha, msn, _, rfl, t, _, 0, _, rfl, rfl, st_of (e12 _ _ ht), rfl, a, M, v, rfl, hM.mono e12, hv, fun u H3 e3 ⟨lb, hu2, hlb⟩ => ?_⟩
      subst hu2
      have e13 := e12.trans e3
      refine ⟨lb, rfl, ⟨_, hlb⟩, fun D hD => ?_⟩
      refine (Wk.list lb ((Bi.seen M v).map nV)).fl (Bi.seen M v) (by rw [List.length_map]) (fun x => !(F.lookup (x, y)).isSome) nV hD (by rw [List.length_map]; have := okM.seen7 v; omega) hlb (fun _ _ e b => ex_l e b) ?_ ?_
      · rintro j x u H4 yes no hy2 e4 hu3 ky kn
        obtain ⟨y', hy', rfl⟩ := getD_nV hu3
        rw [hy2] at hy'
        have hy' := Option.some.inj hy'
        subst hy'
        have e14 := e13.trans e4
        refine ⟨rfl, _, rfl, _, rfl, (by show 2 ≤ sizeLine; decide), fun r hr1 => ?_⟩
        have e15 := e14.trans (Ex.new (o := HO.tup [nV x, nV y]) hr1)
        refine ⟨_, rfl, p, CR, dx, _, _, rfl, e15 _ _ h1, T.cR, T.r_found, rF_found, d, _, rfl, DGet.t (k := kP (x, y)) (e15 _ _ hd) upd_same, _, rfl, ?_⟩
        rw [isSome_tb]
        exact ite2 (fun q => ⟨_, rfl, ky q _ (Ex.new hr1)⟩) (fun q => kn (by simpa using q) _ (Ex.new hr1))
      · intro H4 e4 hz4
        refine ⟨(by show 0 ≤ sizeLine; decide), fun a6 ha6 => ?_⟩
        refine eqNil (sq_of (Ex.new ha6 _ _ hz4)) (sq_of upd_same) ⟨_, rfl, ?_⟩
        have e16 := (e13.trans e4).trans (Ex.new (o := HO.lst []) ha6)
        have iff : ((Bi.seen M v).filter fun x => !(F.lookup (x, y)).isSome).isEmpty = true ↔ ∀ x, x ∈ Bi.seen M v → Bi.T M N k x y := by
          rw [List.isEmpty_iff, List.filter_eq_nil_iff]
          refine forall_congr' fun x => imp_congr_right fun hx => ?_
          rw [← hF.isSome (okM.seenlt hx) hxn]
          cases (F.lookup (x, y)).isSome <;> simp
        refine ite2 (fun q => ⟨_, rfl, kk _ _ e16 (Or.inl ⟨y, rfl, hxs, iff.mp q⟩)⟩) (fun q => ⟨_, rfl, (e2.trans (e3.trans e4)).trans (Ex.new ha6), fun x' hx' => ?_⟩)
        rw [take_snoc hx] at hx'
        rcases List.mem_append.mp hx' with hx' | hx'
        · exact hz x' hx'
        · rw [List.mem_singleton.mp hx']
          exact fun g => q (iff.mpr g)
    · rintro σ H2 ⟨z, rfl, e2, hz⟩
      rw [List.length_map, List.take_length] at hz
      exact kk _ _ (e1.trans e2) (Or.inr ⟨rfl, fun ⟨x, h1, h2⟩ => hz x h1 h2⟩)
abbrev N_is_told : List Str := ["self", "pair"]
theorem sc_is_told : FnScope N_is_told ["self", "pair"] (defScope s_is_told) := ⟨rfl, rfl, rfl, by decide +kernel, rfl, by decide +kernel, by decide +kernel⟩
theorem ok_is_told {f : Addr} {fd : FuncData} (F : Fun K "is_told" "Rounds.is_told" s_is_told f fd) (T : Tx K mg CM CR aF) (c_left_witness : Mth P w K mg base CR 2 "left_witness" ["self", "pair"] (spWit K CM CR WitL))
    (c_right_witness : Mth P w K mg base CR 2 "right_witness" ["self", "pair"] (spWit K CM CR WitR)) : FnOk P w K mg base CX0 3 f fd ["self", "pair"] (spTold K CM CR) := by
  refine F.ok sc_is_told (fun vs H Q E h => ?_) (fun cdv A outer s H vs Q E hr h => ?_)
  · obtain ⟨_, _, _, _, _, _, _, _, rfl, _⟩ := h
    rfl
  · obtain ⟨p, x, M, N, F, k, v, w, rfl, hR, hF, hx, hv, hw, kk⟩ := h
    refine ⟨_, (pss_one (ps_ret (pe_or (pe_cmp (pc_notN (pe_mth c_left_witness T.cR (hr.mono (by omega)) (pv 0) (pa_cons (pv 1) pa_nil)))) (pe_one (pe_cmp (pc_notN (pe_mth c_right_witness T.cR (hr.mono (by omega)) (pv 0) (pa_cons (pv 1) pa_nil)))))))), ?_⟩
    obtain ⟨dx, a, b, d, h1, _⟩ := hR.ex
    refine ⟨_, rfl, p, dx, _, rfl, h1, rF_no (by decide +kernel) (by decide +kernel) (by decide +kernel), _, rfl, p, x, M, N, F, k, v, w, rfl, hR, hF, hx, hv, hw, fun u H1 e1 hu1 => ?_⟩
    refine ⟨_, rfl, ?_⟩
    rcases hu1 with ⟨y, rfl, y1, y2⟩ | ⟨rfl, hn⟩
    · exact iteT (kk _ _ e1 ⟨true, rfl, fun _ => Or.inl ⟨y, y1, y2⟩, fun _ => rfl⟩)
    · refine iteF ?_
      refine ⟨_, rfl, p, dx, _, rfl, e1 _ _ h1, rF_no (by decide +kernel) (by decide +kernel) (by decide +kernel), _, rfl, p, x, M, N, F, k, v, w, rfl, hR.mono e1, hF, hx.mono e1, hv, hw, fun u H2 e2 hu2 => ?_⟩
      rcases hu2 with ⟨y, rfl, y1, y2⟩ | ⟨rfl, hn2⟩
      · exact kk _ _ (e1.trans e2) ⟨true, rfl, fun _ => Or.inr ⟨y, y1, y2⟩, fun _ => rfl⟩
      · refine kk _ _ (e1.trans e2) ⟨false, rfl, fun c => (nomatch c), fun c => ?_⟩
        rcases c with c | c
        · exact absurd c hn
        · exact absurd c hn2
end
end Q
/-! [(v, w) for v in range(n) for w in range(m) if ..] -/
namespace Q
open PySem PySem.Spec PyProof.Rows L2 Evl Rl Bi
/-- the grid as far as (i, j) -/
def gridTo (i m j : Nat) : List (Nat × Nat) := grid i m ++ (List.range j).map fun w => (i, w)
theorem gridTo_zero (i m : Nat) : gridTo i m 0 = grid i m := by unfold gridTo; simp
theorem gridTo_end (i m : Nat) : gridTo i m m = grid (i + 1) m := by unfold gridTo; rw [grid_succ]
theorem gridTo_succ (i m j : Nat) : gridTo i m (j + 1) = gridTo i m j ++ [(i, j)] := by
  unfold gridTo
  rw [List.range_succ, List.map_append, List.append_assoc]
  rfl
theorem gridTo_len (i m j : Nat) : (gridTo i m j).length = i * m + j := by
  unfold gridTo
  rw [List.length_append, grid_len, List.length_map, List.length_range]
/-- a new pair that is not at D -/
def PdAt (D : Addr) (H : Hp) (x : V) (p : Nat × Nat) : Prop := ∃ t, x = .ref t ∧ t ≠ D ∧ H t = some (.tup [nV p.1, nV p.2])
theorem PdAt.sb {D : Addr} {H H' : Hp} {x : V} {p : Nat × Nat} (e : Sb D H H') (h : PdAt D H x p) : PdAt D H' x p := let ⟨t, h1, h2, h3⟩ := h; ⟨t, h1, h2, e _ _ h2 h3⟩
theorem PdAt.mono {D : Addr} {H H' : Hp} {x : V} {p : Nat × Nat} (e : Ex H H') (h : PdAt D H x p) : PdAt D H' x p := let ⟨t, h1, h2, h3⟩ := h; ⟨t, h1, h2, e _ _ h3⟩
theorem PdAt.pf {D : Addr} {H : Hp} {x : V} {p : Nat × Nat} (h : PdAt D H x p) : PfAt H x p := let ⟨t, h1, _, h3⟩ := h; ⟨t, h1, h3⟩
theorem PfAt.pr {K : PySem.W.Frag} {H : Hp} {x : V} {p : Nat × Nat} (h : PfAt H x p) : PrAt K H x p := let ⟨t, h1, h3⟩ := h; ⟨t, h1, st_of h3⟩
theorem grid2 {i1 i2 n m : Nat} {σ : L2.St} {H1 : Hp} {D : Addr} {wi1 : TI} {tt1 : TT} {te : TE} {Qd : Hp → Prop} (f : Nat → Nat → Bool) (hD : H1 D = none) (hn : n ≤ 7) (hm : m ≤ 7)
    (s1 : ∀ x, wipe ((wipe σ [i1, i2]).set i1 (some x)) [i1, i2] = wipe σ [i1, i2])
    (s2 : ∀ x y, wipe ((wipe ((wipe σ [i1, i2]).set i1 (some x)) [i2]).set i2 (some y)) [i2] = wipe ((wipe σ [i1, i2]).set i1 (some x)) [i2])
    (hw : ∀ (v : Nat) H (R : It → Hp → Prop), v < n → Ex H1 H → (∀ H4, Ex H H4 → R (Itr 0 m) H4) → wi1 ((wipe σ [i1, i2]).set i1 (some (nV v))) H R)
    (ht : ∀ (v w : Nat) H (yes : V → Hp → Prop) (no : Hp → Prop), v < n → w < m → Ex H1 H → (f v w = true → ∀ y H4, Ex H H4 → (∀ acc, H D = some (.lst acc) → PdAt D H4 y (v, w)) → yes y H4) → (f v w = false → ∀ H4, Ex H H4 → no H4) →
      tt1 ((wipe ((wipe σ [i1, i2]).set i1 (some (nV v))) [i2]).set i2 (some (nV w))) H fun b H6 => if b = true then te ((wipe ((wipe σ [i1, i2]).set i1 (some (nV v))) [i2]).set i2 (some (nV w))) H6 yes else no H6)
    (hd : ∀ ys H', Ex H1 H' → H' D = some (.lst ys) → All2 (PdAt D H') ys ((grid n m).filter fun p => f p.1 p.2) → Qd H') :
    ∃ W : Nat → Nat → Hp → Prop, (∃ m, W 0 m (upd H1 D (.lst []))) ∧ ∀ i k H, W i k H →
      ((Itr 0 n).stop i H ∧ Qd H) ∨ ((Itr 0 n).go i H ∧ ∃ Nx : Hp → Prop, (∀ H', Nx H' → ∃ k', k' < k ∧ W (i + 1) k' H') ∧ ∀ x H', (Itr 0 n).yld i H x H' → gName i1 x (wipe σ [i1, i2]) H' fun σ2 H2 => wipe σ2 [i1, i2] = wipe σ [i1, i2] ∧ tYes σ2 H2 fun b H3 =>
        if b = true then wi1 σ2 H3 fun J1 H4 => ∃ W1 : Nat → Nat → Hp → Prop, (∃ m, W1 0 m H4) ∧ ∀ j k H, W1 j k H →
          (J1.stop j H ∧ Nx H) ∨ (J1.go j H ∧ ∃ Nx1 : Hp → Prop, (∀ H', Nx1 H' → ∃ k', k' < k ∧ W1 (j + 1) k' H') ∧ ∀ x H', J1.yld j H x H' → gName i2 x (wipe σ2 [i2]) H' fun σ3 H5 => wipe σ3 [i2] = wipe σ2 [i2] ∧ tt1 σ3 H5 fun b H6 =>
            if b = true then te σ3 H6 fun y H7 => ∃ acc, H7 D = some (.lst acc) ∧ acc.length < sizeLine ∧ Nx1 (upd H7 D (.lst (acc ++ [y]))) else Nx1 H6)
        else Nx H3) := by
  refine (Wk.range n).comp (fun i H => Ex H1 H ∧ ∃ ys, H D = some (.lst ys) ∧ All2 (PdAt D H) ys ((gridTo i m 0).filter fun p => f p.1 p.2)) ⟨Ex.new hD, [], upd_same, All2.nil⟩ (fun _ _ _ _ => trivial) ?_ ?_
  · rintro v x H hv rfl ⟨e1, ys, hy, ha⟩
    refine ⟨s1 _, ?_⟩
    refine iteT (B := Ex H1 H ∧ ∃ ys, H D = some (.lst ys) ∧ All2 (PdAt D H) ys ((gridTo (v + 1) m 0).filter fun p => f p.1 p.2)) (hw v H _ hv e1 fun H4 e4 => ?_)
    refine (Wk.range m).comp (fun j H => Ex H1 H ∧ ∃ ys, H D = some (.lst ys) ∧ All2 (PdAt D H) ys ((gridTo v m j).filter fun p => f p.1 p.2)) ⟨e1.trans e4, ys, e4 _ _ hy, ha.mono fun _ _ z => z.mono e4⟩ (fun _ _ _ _ => trivial) ?_ ?_
    · rintro w x H hw' rfl ⟨e5, zs, hz, hb⟩
      refine ⟨s2 _ _, ht v w H _ _ hv hw' e5 (fun hf y H6 e6 hp => ?_) (fun hf H6 e6 => ?_)⟩
      · have hz6 := e6 _ _ hz
        have sb : Sb D H6 (upd H6 D (.lst (zs ++ [y]))) := Sb.upd
        refine ⟨zs, hz6, ?_, Ex.mut (e5.trans e6) hD, _, upd_same, ?_⟩
        · have h1 := hb.1
          have h2 := List.length_filter_le (fun p : Nat × Nat => f p.1 p.2) (gridTo v m w)
          rw [gridTo_len] at h2
          have h3 : v * m ≤ 7 * 7 := Nat.mul_le_mul (by omega) hm
          exact small1000 (by omega)
        · rw [gridTo_succ, List.filter_append]
          rw [show ([(v, w)] : List (Nat × Nat)).filter (fun p => f p.1 p.2) = [(v, w)] by rw [List.filter_cons]; simp [hf]]
          exact ((hb.mono fun _ _ z => z.mono e6).snoc (hp _ hz)).mono fun _ _ z => z.sb sb
      · refine ⟨e5.trans e6, zs, e6 _ _ hz, ?_⟩
        rw [gridTo_succ, List.filter_append]
        rw [show ([(v, w)] : List (Nat × Nat)).filter (fun p => f p.1 p.2) = [] by rw [List.filter_cons]; simp [hf], List.append_nil]
        exact hb.mono fun _ _ z => z.mono e6
    · rintro H ⟨e5, zs, hz, hb⟩
      refine ⟨e5, zs, hz, ?_⟩
      rw [gridTo_zero, ← gridTo_end]
      exact hb
  · rintro H ⟨e5, zs, hz, hb⟩
    rw [gridTo_zero] at hb
    exact hd zs H e5 hz hb
/-- two lists place by place, those kept -/
theorem All2.filt {α β : Type} {F : α → β → Prop} (p : β → Bool) : ∀ {xs : List α} {ys : List β}, All2 F xs ys → All2 F (((xs.zip ys).filter fun e => p e.2).map (·.1)) (ys.filter p)
  | [], [], _ => All2.nil
  | [], y :: ys, h => absurd h.1 (by simp)
  | x :: xs, [], h => absurd h.1 (by simp)
  | x :: xs, y :: ys, h => by
    have ih := All2.filt p (xs := xs) (ys := ys) ⟨by have := h.1; simpa using this, fun i a b ha hb => h.2 (i + 1) a b ha hb⟩
    have h0 := h.2 0 x y rfl rfl
    rw [List.zip_cons_cons, List.filter_cons, List.filter_cons]
    by_cases c : p y = true
    · rw [if_pos c, if_pos c, List.map_cons]
      refine ⟨by rw [List.length_cons, List.length_cons, ih.1], fun i a b ha hb => ?_⟩
      cases i with
      | zero =>
        rw [List.getElem?_cons_zero] at ha hb
        rw [← Option.some.inj ha, ← Option.some.inj hb]
        exact h0
      | succ i =>
        rw [List.getElem?_cons_succ] at ha hb
        exact ih.2 i a b ha hb
    · rw [if_neg c, if_neg c]
      exact ih
end Q
/-! Rounds.__init__ -/
namespace Q
open PySem PySem.Spec PyProof.Rows L2 Evl Rl Bi
def spRinit (K : PySem.W.Frag) (CM CR : Addr) : Sp := fun vs H Q _ => ∃ (p dx a b : Addr) (M N : Mo Str), vs = [.ref p, .ref a, .ref b] ∧ H p = some (.ins CR dx []) ∧ MdAt K CM H a M ∧ MdAt K CM H b N ∧
  ∀ H' F d, Sb p H H' → H' p = some (.ins CR dx (rF a b d)) → H' d = some (.dT (tb F)) → Done M N F → Q .non H'
theorem MdAt.sb {K : PySem.W.Frag} {C D p : Addr} {H H' : Hp} {M : Mo Str} {o : HO} (hD : H D = some o) (n : NoSq o) (nk : ∀ kvs, o ≠ .dK kvs) (np : p ≠ D) (e : Sb D H H') (h : MdAt K C H p M) : MdAt K C H' p M := by
  obtain ⟨⟨dx, fa, sa, va, rs, kvs, h1, h2, h3, h4, h5, h6⟩, ok⟩ := h
  exact ⟨⟨dx, fa, sa, va, rs, kvs, e _ _ np h1, h2.sb hD n e, sql_sb hD n e h3, h4.mono fun _ _ z => z.sb hD n e, e _ _ (fun z => by rw [z, hD] at h5; exact nk _ (Option.some.inj h5)) h5, h6.mono fun _ _ z => z.sb hD n e⟩, ok⟩
theorem mF_ne {fa sa va : Addr} : mF fa sa va ≠ [] := fun z => by have := @mF_len fa sa va; rw [z] at this; cases this
def rs1 (a : Addr) : List (Str × V) := putF "first" (.ref a) []
def rs2 (a b : Addr) : List (Str × V) := putF "second" (.ref b) (rs1 a)
theorem rs1_len {a : Addr} : (rs1 a).length ≤ 1 := by
  have := length_putF "first" (.ref a) []
  unfold rs1
  simpa using this
theorem rs2_len {a b : Addr} : (rs2 a b).length ≤ 2 := by
  have := length_putF "second" (.ref b) (rs1 a)
  have := @rs1_len a
  unfold rs2
  omega
/-- what Found holds fits -/
theorem Found_len {M N : Mo Str} {L : Nat} {F : Tb} (f : Found M N L F) : F.length ≤ M.n * N.n := by
  have := nodup_sub_len (L := grid M.n N.n) f.nd fun x hx => by
    obtain ⟨⟨⟨v, w⟩, r⟩, hm, rfl⟩ := List.mem_map.mp hx
    obtain ⟨h1, h2, _⟩ := (f.at_ v w r).mp hm
    exact mem_grid.mpr ⟨h1, h2⟩
  rw [List.length_map, grid_len] at this
  exact this
theorem grid49 {n m : Nat} (hn : n ≤ 7) (hm : m ≤ 7) : n * m ≤ 49 := Nat.mul_le_mul hn hm
theorem tb_put {F : Tb} {p : Nat × Nat} {r : Nat} (h : F.lookup p = none) : putK (tb F) (kP p) (nV r) = tb (F ++ [(p, r)]) := by
  rw [putK_new _ (by rw [valV_tb, h]; rfl)]
  unfold tb
  rw [List.map_append]
  rfl
theorem start_none {f : Nat × Nat → Bool} {g : List (Nat × Nat)} (hn : g.Nodup) {i : Nat} {p : Nat × Nat} (h : g[i]? = some p) : ((((g.take i).filter f).map fun q => (q, 0)) : Tb).lookup p = none := by
  rw [lookup_key, List.map_map]
  intro m
  obtain ⟨q, hq, e⟩ := List.mem_map.mp m
  have e : q = p := e
  subst e
  exact nodup_take hn h (List.mem_filter.mp hq).1
section
variable {P : Program} {w : World} {K : PySem.W.Frag} {mg : Str → Option Value} {base : Heap} {CM CR aF : Addr}
abbrev N_rinit : List Str := ["self", "first", "second", "pairs", "v", "w", "count", "more", "told", "pair"]
theorem sc_rinit : FnScope N_rinit ["self", "first", "second"] (defScope s_rinit) := ⟨rfl, rfl, rfl, by decide +kernel, rfl, by decide +kernel, by decide +kernel⟩
theorem ok_rinit {f : Addr} {fd : FuncData} (F : Fun K "__init__" "Rounds.__init__" s_rinit f fd) (T : Tx K mg CM CR aF) (c_frame : Mth P w K mg base CM 1 "frame" ["self"] (spFrame K CM)) (c_names_at : Cal P w K mg base CX0 2 "names_at" ["model", "v"] (spNames K CM))
    (c_is_told : Mth P w K mg base CR 3 "is_told" ["self", "pair"] (spTold K CM CR)) : FnOk P w K mg base CX0 4 f fd ["self", "first", "second"] (spRinit K CM CR) := by
  refine F.ok sc_rinit (fun vs H Q E h => ?_) (fun cdv A outer s H vs Q E hr h => ?_)
  · obtain ⟨_, _, _, _, _, _, rfl, _⟩ := h
    rfl
  · obtain ⟨p, dx, a, b, M, N, rfl, hp, hM, hN, k⟩ := h
    have hu := hu_of hr
    refine ⟨_, (pss_cons (ps_fld (pv 0) (pv 1) rfl)
      (pss_cons (ps_fld (pv 0) (pv 2) rfl)
      (pss_cons (ps_fld (pv 0) pe_dnewT rfl)
      (pss_cons (ps_setLc2 (i := 3) (own := [("v", 4), ("w", 5)]) (g := gName 4) (g1 := gName 5) (vs1 := [5]) rfl sc_rinit.nd rfl rfl (sw_true rfl rfl rfl (by decide +kernel)) (pi_range1 rfl T.n_range (pa_cons (pe_ix ix_tup (pe_mth0 c_frame T.cM (hr.mono (by omega)) (pv 1)) pe_int (fun _ _ => rfl)) pa_nil)) (blkOk_by (own := [("v", 4), ("w", 5)]) (N := N_rinit) (sc := defScope s_rinit) (by decide +kernel)) (by decide) (fun _ _ _ _ _ => (pg_name (i := 4) sc_rinit.nd rfl (Or.inl rfl))) (fun _ _ _ _ _ => pts_nil) (fun _ _ _ _ _ => (pi_range1 rfl T.n_range (pa_cons (pe_ix (k_ixt (K := K) rfl) (pe_mth0 c_frame T.cM (hr.mono (by omega)) (pv 2)) pe_int (fun _ _ => rfl)) pa_nil))) (fun _ _ _ _ _ => (pg_name (i := 5) sc_rinit.nd rfl (Or.inl rfl))) (fun _ _ _ _ _ => pts_nil) (fun _ _ _ _ _ => (pe_tup (pa_cons (pv 4) (pa_cons (pv 5) pa_nil)))))
      (pss_cons (ps_for PassesOwn.never rfl (pi_list (pv 3)) (pg_tup rfl (pgs_cons (pg_name (i := 4) sc_rinit.nd rfl (Or.inl rfl)) (pgs_cons (pg_name (i := 5) sc_rinit.nd rfl (Or.inl rfl)) pgs_nil)))
      (pss_one (ps_if (pt_cmpR (op_neD hr.units) (pe_own c_names_at (hr.mono (by omega)) rfl (pa_cons (pv 1) (pa_cons (pv 4) pa_nil))) (pe_own c_names_at (hr.mono (by omega)) rfl (pa_cons (pv 2) (pa_cons (pv 5) pa_nil))) (nomark _))
      (pss_one (ps_dput hu (pe_fld (pv 0) rfl) (pe_tup (pa_cons (pv 4) (pa_cons (pv 5) pa_nil))) pe_int rfl))
      pss_nil)))
      (pss_cons (ps_set (i := 6) sc_rinit.nd rfl (Or.inl rfl) pe_int)
      (pss_cons (ps_set (i := 7) sc_rinit.nd rfl (Or.inl rfl) pe_bl)
      (pss_one (ps_while PassesOwn.never (pt_val (pv 7))
      (pss_cons (ps_setLc (i := 8) (own := [("pair", 9)]) (g := gName 9) rfl sc_rinit.nd rfl rfl (sw_true rfl rfl rfl (by decide +kernel)) (pi_list (pv 3)) (blkOk_by (own := [("pair", 9)]) (N := N_rinit) (sc := defScope s_rinit) (by decide +kernel)) (fun _ _ _ _ _ => (pg_name (i := 9) sc_rinit.nd rfl (Or.inl rfl))) (fun _ _ _ _ _ => (pts_one (PW.pt (pw_and (pt_cmp (pc_dnotin hu (pv 9) (k_fld (K := K) rfl (pv 0) rfl))) (pw_and1 (pt_val (pe_mth c_is_told T.cR (hr.mono (by omega)) (pv 0) (pa_cons (pv 9) pa_nil)))))))) (fun _ _ _ _ _ => (pv 9)))
      (pss_cons (ps_for PassesOwn.never rfl (pi_list (pv 8)) (pg_name (i := 9) sc_rinit.nd rfl (Or.inl rfl))
      (pss_one (ps_dput hu (pe_fld (pv 0) rfl) (pv 9) (pv 6) rfl)))
      (pss_cons (ps_aug (i := 6) sc_rinit.nd rfl (Or.inl rfl) pe_int ip_add)
      (pss_one (ps_set (i := 7) sc_rinit.nd rfl (Or.inl rfl) (pe_cmpR op_gt (pe_callB call_len_seq rfl T.n_len boot_len (pa_cons (pv 8) pa_nil)) pe_int (nomark _)))))))))))))))), ?_⟩
    have nap : a ≠ p := fun z => by
      obtain ⟨dx, fa, sa, va, rs, kvs, h1, _⟩ := hM.ex
      rw [z, hp] at h1
      injection h1 with h1
      injection h1 with _ _ h1
      exact mF_ne h1.symm
    have nbp : b ≠ p := fun z => by
      obtain ⟨dx, fa, sa, va, rs, kvs, h1, _⟩ := hN.ex
      rw [z, hp] at h1
      injection h1 with h1
      injection h1 with _ _ h1
      exact mF_ne h1.symm
    refine ⟨_, rfl, _, rfl, p, CR, dx, [], rfl, hp, T.cR, T.r_first, (by decide), ?_⟩
    refine ⟨_, rfl, _, rfl, p, CR, dx, rs1 a, rfl, upd_same, T.cR, T.r_second, (by have := @rs1_len a; omega), ?_⟩
    intro d hd
    have ndp : d ≠ p := fun z => by rw [z, upd_same] at hd; cases hd
    have hdn : H d = none := by rw [upd_ne ndp, upd_ne ndp] at hd; exact hd
    refine ⟨_, rfl, p, CR, dx, rs2 a b, rfl, (by rw [upd_ne ndp.symm]; exact upd_same), T.cR, T.r_found, (by have := @rs2_len a b; omega), ?_⟩
    generalize hHC : upd (upd (upd (upd H p (.ins CR dx (putF "first" (.ref a) []))) p (.ins CR dx (putF "second" (.ref b) (rs1 a)))) d (.dT [])) p (.ins CR dx (putF "found" (.ref d) (rs2 a b))) = HC
    have pC : HC p = some (.ins CR dx (rF a b d)) := by rw [← hHC]; exact upd_same
    have dC : HC d = some (.dT []) := by rw [← hHC, upd_ne ndp]; exact upd_same
    have sC : Sb p H HC := fun c o hc e => by
      rw [← hHC, upd_ne hc, upd_ne (ne_of_none e hdn), upd_ne hc, upd_ne hc]
      exact e
    clear hHC
    have nI : ∀ kvs : List (Key × V), (HO.ins CR dx []) ≠ .dK kvs := fun _ z => by cases z
    have nT : ∀ {F : Tb} (kvs : List (Key × V)), (HO.dT (tb F)) ≠ .dK kvs := fun _ z => by cases z
    have mC := hM.sb hp noSq_ins nI nap sC
    have nC := hN.sb hp noSq_ins nI nbp sC
    have okM := hM.ok
    have okN := hN.ok
    have g49 := grid49 okM.n7 okN.n7
    have mno : ∀ {fa sa va : Addr}, (mF fa sa va).lookup ("frame" : Str) = none := fun {_ _ _} => mF_no (by decide +kernel) (by decide +kernel) (by decide +kernel)
    -- pairs
    obtain ⟨⟨dxa, _, _, _, _, _, a1, _⟩, _⟩ := id mC
    obtain ⟨⟨dxb, _, _, _, _, _, b1, _⟩, _⟩ := id nC
    refine ⟨_, rfl, a, dxa, _, rfl, a1, mno, a, M, rfl, mC, fun u H1 e1 ⟨fa, hu1, pa, ts, f1, _⟩ => ?_⟩
    subst hu1
    refine ⟨fa, _, 0, _, rfl, rfl, f1, rfl, M.n, rfl, by have := okM.n7; omega, by have := okM.n7; omega, fun D hD => ?_⟩
    refine grid2 (n := M.n) (m := N.n) (fun _ _ => true) hD okM.n7 okN.n7 (fun _ => rfl) (fun _ _ => rfl) ?_ ?_ ?_
    · intro v H2 R hv e2 kR
      refine ⟨_, rfl, b, dxb, _, rfl, (e1.trans e2) _ _ b1, mno, b, N, rfl, nC.mono (e1.trans e2), fun u H3 e3 ⟨fb, hu2, pb, us, g1, _⟩ => ?_⟩
      subst hu2
      exact ⟨fb, _, 0, _, rfl, rfl, g1, rfl, N.n, rfl, by have := okN.n7; omega, by have := okN.n7; omega, kR _ e3⟩
    · intro v w H2 yes no hv hw e2 ky kn
      refine iteT (B := no H2) ⟨_, rfl, _, rfl, (by show 2 ≤ sizeLine; decide), fun r hr1 => ky rfl _ _ (Ex.new hr1) fun acc hacc => ⟨r, rfl, (fun z => by rw [z, hacc] at hr1; cases hr1), upd_same⟩⟩
    intro ys HP e2 hys hall
    rw [filter_id] at hall
    have eP := e1.trans e2
    have pP := eP _ _ pC
    have dP := eP _ _ dC
    have mP := mC.mono eP
    have nP := nC.mono eP
    have hall' : All2 (PfAt HP) ys (grid M.n N.n) := hall.mono fun _ _ z => z.pf
    clear hall
    have nad : a ≠ d := fun z => by rw [z, dC] at a1; cases a1
    have nbd : b ≠ d := fun z => by rw [z, dC] at b1; cases b1
    have nDd : D ≠ d := fun z => by rw [z, dP] at hys; cases hys
    -- what stands while d grows
    have dP0 : HP d = some (.dT (tb [])) := dP
    have sM : ∀ {H2}, Sb d HP H2 → MdAt K CM H2 a M := fun e => mP.sb dP0 noSq_dT nT nad e
    have sN : ∀ {H2}, Sb d HP H2 → MdAt K CM H2 b N := fun e => nP.sb dP0 noSq_dT nT nbd e
    have sp : ∀ {H2}, Sb d HP H2 → H2 p = some (.ins CR dx (rF a b d)) := fun e => e _ _ ndp.symm pP
    have sD : ∀ {H2}, Sb d HP H2 → H2 D = some (.lst ys) := fun e => e _ _ nDd hys
    have sAll : ∀ {H2}, Sb d HP H2 → All2 (PfAt H2) ys (grid M.n N.n) := fun e => hall'.mono fun _ _ z => z.sb dP0 noSq_dT e
    have ylen : ys.length = M.n * N.n := by rw [hall'.1, grid_len]
    -- the first round
    obtain ⟨fd, hfd⟩ : ∃ fd : Nat → Nat → Bool, ∀ v w, fd v w = true ↔ diff M N v w := ⟨fun v w => @decide (diff M N v w) (Classical.propDecidable _), fun v w => @decide_eq_true_iff _ (Classical.propDecidable _)⟩
    refine ⟨_, rfl, D, rfl, ⟨_, sq_of hys⟩, ?_⟩
    refine Wk.for_ (Wk.list D ys) (fun i σ H2 => ∃ z4 z5, σ = [some (.ref p), some (.ref a), some (.ref b), some (.ref D), z4, z5, none, none, none, none] ∧ Sb d HP H2 ∧ H2 d = some (.dT (tb ((((grid M.n N.n).take i).filter fun q => fd q.1 q.2).map fun q => (q, 0)))))
      ⟨none, none, rfl, Sb.refl, dP⟩ (fun i σ H2 _ ⟨_, _, _, e, _⟩ => sq_of (sD e)) ?_ ?_
    · rintro i x σ H2 hi hx ⟨z4, z5, rfl, sb, hd2⟩
      obtain ⟨⟨v, w⟩, hg, t, rfl, ht⟩ := (sAll sb).at hx
      obtain ⟨hv, hw⟩ := mem_grid.mp (List.mem_of_getElem? hg)
      refine ⟨t, _, rfl, st_of ht, rfl, _, _, rfl, _, _, rfl, rfl, ?_⟩
      refine ⟨_, rfl, _, rfl, a, M, v, rfl, sM sb, fun u H3 e3 ⟨l1, ns1, hu3, h3, N1⟩ => ?_⟩
      subst hu3
      refine ⟨_, rfl, _, rfl, b, N, w, rfl, (sN sb).mono e3, fun u H4 e4 ⟨l2, ns2, hu4, h4, N2⟩ => ?_⟩
      subst hu4
      have e34 := e3.trans e4
      have sb4 : Sb d HP H4 := sb.ex e34
      have hd4 := e34 _ _ hd2
      refine ⟨.list (ns1.map PyData.str), .list (ns2.map PyData.str), .lst (sq_of (e4 _ _ h3)) (dp_strs _), .lst (sq_of h4) (dp_strs _), strs_shaped _ N1.sok, strs_shaped _ N2.sok, _, rfl, ?_⟩
      rw [strsL_eqv]
      have hq : (!decide (ns1 = ns2)) = fd v w := by
        have h1 := N1.same N2
        have h2 := hfd v w
        cases c : fd v w with
        | true =>
          rw [c] at h2
          rw [decide_eq_false (fun z => (h1.mp z) (h2.mp rfl))]
          rfl
        | false =>
          rw [c] at h2
          rw [decide_eq_true (h1.mpr fun z => Bool.false_ne_true (h2.mpr z))]
          rfl
      rw [hq]
      refine ite2 (fun c => ?_) (fun c => ?_)
      · refine ⟨_, rfl, p, CR, dx, _, _, rfl, sp sb4, T.cR, T.r_found, rF_found, _, rfl, _, rfl, (by show 2 ≤ sizeLine; decide), fun r hr1 => ?_⟩
        have er : Ex H4 (upd H4 r (.tup [nV v, nV w])) := Ex.new hr1
        refine ⟨d, _, rfl, DPut.t (k := kP (v, w)) (er _ _ hd4) upd_same ?_, ?_⟩
        · have h1 := List.length_filter_le (fun q : Nat × Nat => fd q.1 q.2) ((grid M.n N.n).take i)
          have h2 := List.length_take (i := i) (l := grid M.n N.n)
          rw [grid_len] at h2
          unfold tb
          rw [List.length_map, List.length_map]
          exact small1000 (by omega)
        · refine ⟨_, _, rfl, (sb4.ex er).trans Sb.upd, ?_⟩
          rw [upd_same, take_snoc hg, List.filter_append]
          rw [show ([(v, w)] : List (Nat × Nat)).filter (fun q => fd q.1 q.2) = [(v, w)] by rw [List.filter_cons]; simp [c], List.map_append]
          congr 2
          exact tb_put (start_none (grid_nodup _ _) hg)
      · refine ⟨_, _, rfl, sb4, ?_⟩
        rw [hd4, take_snoc hg, List.filter_append]
        rw [show ([(v, w)] : List (Nat × Nat)).filter (fun q => fd q.1 q.2) = [] by rw [List.filter_cons]; simp [c], List.append_nil]
    rintro σ H2 ⟨z4, z5, rfl, sb, hd2⟩
    rw [ylen, ← grid_len, List.take_length] at hd2
    have F0 := Found.start (M := M) (N := N) fd fun v w _ _ => hfd v w
    generalize ((grid M.n N.n).filter fun q => fd q.1 q.2).map (fun q => (q, 0)) = T0 at F0 hd2
    -- the rounds
    refine ⟨fun m σ H2 => ∃ (z4 z5 z8 z9 : Option V) (more : Bool) (L : Nat) (F : Tb), σ = [some (.ref p), some (.ref a), some (.ref b), some (.ref D), z4, z5, some (nV (L + 1)), some (.bl more), z8, z9] ∧ Sb d HP H2 ∧ H2 d = some (.dT (tb F)) ∧
      ((more = true ∧ Found M N (L + 1) F ∧ L + left M.n N.n F ≤ M.n * N.n ∧ m = left M.n N.n F + 1) ∨ (more = false ∧ Done M N F ∧ m = 0)),
      ⟨left M.n N.n T0 + 1, z4, z5, none, none, true, 0, T0, rfl, sb, hd2, Or.inl ⟨rfl, F0, by have := left_le M.n N.n T0; omega, rfl⟩⟩, ?_⟩
    rintro m σ H3 ⟨y4, y5, y8, y9, more, L, F, rfl, sb3, hd3, hmore⟩
    refine ⟨_, rfl, more, rfl, ?_⟩
    rcases hmore with ⟨rfl, hF, hL, rfl⟩ | ⟨rfl, hF, rfl⟩
    · refine iteT ⟨fun σ H2 => ∃ m', m' < left M.n N.n F + 1 ∧ ∃ (z4 z5 z8 z9 : Option V) (more : Bool) (L : Nat) (F : Tb), σ = [some (.ref p), some (.ref a), some (.ref b), some (.ref D), z4, z5, some (nV (L + 1)), some (.bl more), z8, z9] ∧ Sb d HP H2 ∧ H2 d = some (.dT (tb F)) ∧
        ((more = true ∧ Found M N (L + 1) F ∧ L + left M.n N.n F ≤ M.n * N.n ∧ m' = left M.n N.n F + 1) ∨ (more = false ∧ Done M N F ∧ m' = 0)), fun σ' H' z => z, ?_⟩
      obtain ⟨nb, hnb⟩ : ∃ nb : Nat → Nat → Bool, ∀ v w, nb v w = true ↔ newly M N L v w := ⟨fun v w => @decide (newly M N L v w) (Classical.propDecidable _), fun v w => @decide_eq_true_iff _ (Classical.propDecidable _)⟩
      have hFl := Found_len hF
      have hzip : ∀ {i : Nat} {e : V × (Nat × Nat)}, (ys.zip (grid M.n N.n))[i]? = some e → ys[i]? = some e.1 ∧ (grid M.n N.n)[i]? = some e.2 := fun h => List.getElem?_zip_eq_some.mp h
      refine ⟨_, rfl, D, rfl, ⟨_, sq_of (sD sb3)⟩, fun D8 hD8 => ?_⟩
      have n8 : D8 ≠ d := fun z => by rw [z, hd3] at hD8; cases hD8
      refine (Wk.list D ys).fl (ys.zip (grid M.n N.n)) (by rw [List.length_zip, ylen, grid_len, Nat.min_self]) (fun e => !(F.lookup e.2).isSome && nb e.2.1 e.2.2) (·.1) hD8 (by rw [ylen]; omega) (sq_of (sD sb3)) (fun _ _ e b => ex_l e b) ?_ ?_
      · rintro i ⟨y, v, w⟩ x H4 yes no he e4 hx ky kn
        obtain ⟨hy, hg⟩ := hzip he
        rw [hx] at hy
        have hy := Option.some.inj hy
        subst hy
        obtain ⟨hv, hw⟩ := mem_grid.mp (List.mem_of_getElem? hg)
        have sb4 := sb3.ex e4
        obtain ⟨t, hxt, ht⟩ := (sAll sb4).2 i _ _ hx hg
        simp only at hxt ht
        subst hxt
        refine ⟨rfl, _, rfl, _, rfl, p, CR, dx, _, _, rfl, sp sb4, T.cR, T.r_found, rF_found, d, _, rfl, DGet.t (k := kP (v, w)) (e4 _ _ hd3) ht, _, rfl, ?_⟩
        rw [isSome_tb]
        refine ite2 (fun c => ?_) (fun c => ?_)
        · refine ⟨_, rfl, p, dx, _, rfl, sp sb4, rF_no (by decide +kernel) (by decide +kernel) (by decide +kernel), _, rfl, p, .ref t, M, N, F, L, v, w, rfl, ⟨dx, a, b, d, sp sb4, sM sb4, sN sb4, e4 _ _ hd3⟩, hF, ⟨t, rfl, ht⟩, hv, hw, fun u H5 e5 ⟨r, hu5, hr5⟩ => ⟨r, hu5, ?_⟩⟩
          refine ite2 (fun q => ⟨_, rfl, ky ?_ _ e5⟩) (fun q => kn ?_ _ e5)
          · show (!(F.lookup (v, w)).isSome && nb v w) = true
            rw [c, (hnb v w).mpr (hr5.mp q)]
            rfl
          · show (!(F.lookup (v, w)).isSome && nb v w) = false
            rw [c]
            cases z : nb v w with
            | false => rfl
            | true => exact absurd (hr5.mpr ((hnb v w).mp z)) q
        · refine iteF (kn ?_ _ (Ex.refl _))
          show (!(F.lookup (v, w)).isSome && nb v w) = false
          rw [show (!(F.lookup (v, w)).isSome) = false by simpa using c]
          rfl
      intro H4 e4 hts
      have sb4 := sb3.ex e4
      have hd4 := e4 _ _ hd3
      have htl : All2 (PfAt H4) (((ys.zip (grid M.n N.n)).filter fun e => (fun q : Nat × Nat => !(F.lookup q).isSome && nb q.1 q.2) e.2).map (·.1)) ((grid M.n N.n).filter fun q => !(F.lookup q).isSome && nb q.1 q.2) := (sAll sb4).filt (fun q => !(F.lookup q).isSome && nb q.1 q.2)
      have hlm : ∀ v w, (v, w) ∈ ((grid M.n N.n).filter fun q => !(F.lookup q).isSome && nb q.1 q.2) ↔ v < M.n ∧ w < N.n ∧ ¬ Bi.T M N L v w ∧ newly M N L v w := fun v w => by
        rw [List.mem_filter, mem_grid, Bool.and_eq_true, hnb]
        constructor
        · rintro ⟨⟨h1, h2⟩, h3, h4⟩
          refine ⟨h1, h2, fun z => ?_, h4⟩
          rw [(hF.isSome h1 h2).mpr z] at h3
          cases h3
        · rintro ⟨h1, h2, h3, h4⟩
          refine ⟨⟨h1, h2⟩, ?_, h4⟩
          cases z : (F.lookup (v, w)).isSome with
          | false => rfl
          | true => exact absurd ((hF.isSome h1 h2).mp z) h3
      have hlnd : ((grid M.n N.n).filter fun q => !(F.lookup q).isSome && nb q.1 q.2).Nodup := List.filter_sublist.nodup (grid_nodup _ _)
      have hln : ∀ q, q ∈ ((grid M.n N.n).filter fun q => !(F.lookup q).isSome && nb q.1 q.2) → q ∈ grid M.n N.n ∧ F.lookup q = none := fun q hq => by
        obtain ⟨h1, h2⟩ := List.mem_filter.mp hq
        rw [Bool.and_eq_true] at h2
        refine ⟨h1, ?_⟩
        cases z : F.lookup q with
        | none => rfl
        | some r => rw [z] at h2; cases h2.1
      have hll : ((grid M.n N.n).filter fun q => !(F.lookup q).isSome && nb q.1 q.2).length ≤ 49 := by
        have := List.length_filter_le (fun q => !(F.lookup q).isSome && nb q.1 q.2) (grid M.n N.n)
        rw [grid_len] at this
        omega
      generalize ((grid M.n N.n).filter fun q => !(F.lookup q).isSome && nb q.1 q.2) = l at htl hlm hlnd hln hll
      have hts : H4 D8 = some (.lst (((ys.zip (grid M.n N.n)).filter fun e => (fun q : Nat × Nat => !(F.lookup q).isSome && nb q.1 q.2) e.2).map (·.1))) := hts
      generalize (((ys.zip (grid M.n N.n)).filter fun e => (fun q : Nat × Nat => !(F.lookup q).isSome && nb q.1 q.2) e.2).map (·.1)) = us at htl hts
      have s8 : ∀ {H5}, Sb d H4 H5 → H5 D8 = some (.lst us) := fun e => e _ _ n8 hts
      refine ⟨_, rfl, D8, rfl, ⟨_, sq_of hts⟩, ?_⟩
      refine Wk.for_ (Wk.list D8 us) (fun i σ H5 => ∃ z9, σ = [some (.ref p), some (.ref a), some (.ref b), some (.ref D), y4, y5, some (nV (L + 1)), some (.bl true), some (.ref D8), z9] ∧ Sb d H4 H5 ∧ H5 d = some (.dT (tb (F ++ (l.take i).map fun q => (q, L + 1)))))
        ⟨_, rfl, Sb.refl, by rw [List.take_zero, List.map_nil, List.append_nil]; exact hd4⟩ (fun i σ H2 _ ⟨_, _, e, _⟩ => sq_of (s8 e)) ?_ ?_
      · rintro i x σ H5 hi hx ⟨z9, rfl, sb5, hd5⟩
        obtain ⟨q, hq, t, rfl, ht⟩ := htl.at hx
        have ht5 := sb5 _ _ (fun z => by rw [z, hd4] at ht; cases ht) ht
        refine ⟨_, rfl, _, rfl, p, CR, dx, _, _, rfl, sp (sb4.trans sb5), T.cR, T.r_found, rF_found, _, rfl, d, _, rfl, DPut.t (k := kP q) hd5 ht5 ?_, ?_⟩
        · have h2 := List.length_take (i := i) (l := l)
          unfold tb
          rw [List.length_map, List.length_append, List.length_map]
          exact small1000 (by omega)
        · refine ⟨_, rfl, sb5.trans Sb.upd, ?_⟩
          rw [upd_same, take_snoc hq, List.map_append, ← List.append_assoc]
          congr 2
          refine tb_put (lookup_app.mpr ⟨(hln q (List.mem_of_getElem? hq)).2, ?_⟩)
          rw [lookup_key, List.map_map]
          intro m
          obtain ⟨q', hq', e⟩ := List.mem_map.mp m
          have e : q' = q := e
          subst e
          exact nodup_take hlnd hq hq'
      · rintro σ H5 ⟨z9, rfl, sb5, hd5⟩
        rw [htl.1, List.take_length] at hd5
        refine ⟨_, rfl, _, _, rfl, rfl, ?_⟩
        refine ⟨_, rfl, D8, us, rfl, Or.inl (sq_of (s8 sb5)), _, _, rfl, rfl, ?_⟩
        cases hl : l with
        | nil =>
          rw [hl, List.map_nil, List.append_nil] at hd5
          have u0 : us.length = 0 := by rw [htl.1, hl]; rfl
          refine ⟨0, by omega, y4, y5, some (.ref D8), z9, false, L + 1, F, ?_, sb4.trans sb5, hd5, Or.inr ⟨rfl, hF.done okM.inn okN.inn (fun v w hv hw => ?_) (by omega), rfl⟩⟩
          · rw [u0]
            rfl
          · refine Classical.byContradiction fun c => ?_
            rw [not_or, Classical.not_not] at c
            have := (hlm v w).mpr ⟨hv, hw, c.1, c.2⟩
            rw [hl] at this
            cases this
        | cons q r =>
          have l0 : l ≠ [] := by rw [hl]; simp
          have u0 : us.length ≠ 0 := by rw [htl.1, hl]; simp
          have less := left_less (k := L + 1) hln l0
          refine ⟨_, Nat.succ_lt_succ less, y4, y5, some (.ref D8), z9, true, L + 1, F ++ l.map (fun q => (q, L + 1)), ?_, sb4.trans sb5, hd5, Or.inl ⟨rfl, hF.next hlnd hlm, by omega, rfl⟩⟩
          have e1 : decide ((0 : Int) < (us.length : Int)) = true := decide_eq_true (by omega)
          show [some (.ref p), some (.ref a), some (.ref b), some (.ref D), y4, y5, some (nV (L + 1 + 1)), some (.bl (decide ((0 : Int) < (us.length : Int)))), some (.ref D8), z9] = _
          rw [e1]
    · refine iteF (k _ F d (fun c o hc e => ?_) (sp sb3) hd3 hF)
      exact sb3 _ _ (ne_of_none e hdn) (eP _ _ (sC _ _ hc e))
end
end Q
/-! Rounds.early -/
namespace Q
open PySem PySem.Spec PyProof.Rows L2 Evl Rl Bi
def spEarly (K : PySem.W.Frag) (CM CR : Addr) : Sp := fun vs H Q _ => ∃ (p : Addr) (j L : Nat) (M N : Mo Str) (F : Tb), vs = [.ref p, nV j] ∧ RdAt K CM CR H p M N F ∧ Found M N L F ∧ Ret H (fun u H' => ∃ q, u = .ref q ∧ RdAt K CM CR H' q M N (F.filter fun e => decide (e.2 < j))) Q
theorem dget_tb {H : Hp} {d t : Addr} {F : Tb} {p : Nat × Nat} {r : Nat} (hd : Rd H d (.dT (tb F))) (ht : H t = some (.tup [nV p.1, nV p.2])) (h : F.lookup p = some r) : DGet H d (.ref t) (some (nV r)) :=
  Or.inr ⟨tb F, kP p, t, hd, rfl, ht, by rw [valV_tb, h]; rfl⟩
/-- Model((1, ()), {}) -/
theorem mk_one {K : PySem.W.Frag} {C : Addr} {H : Hp} {Q : VK} {E : XK} {fa ea va x dx : Addr} (hea : H ea = some (.tup [])) (hfa : H fa = some (.tup [.int 1, .ref ea])) (hva : H va = some (.dK [])) (hx : H x = none) (hdx : H dx = none)
    (k : ∀ H' M, Ex H H' → MdAt K C H' x M → Q .non H') : spMinit K C [.ref x, .ref fa, .ref va] (upd (upd H dx (.own x)) x (.ins C dx [])) Q E := by
  have e : Ex H (upd (upd H dx (.own x)) x (.ins C dx [])) := fun b o z => by
    rw [upd_ne (ne_of_none z hx), upd_ne (ne_of_none z hdx)]
    exact z
  refine ⟨x, dx, fa, va, 1, [], [], [], rfl, upd_same, ⟨ea, [], st_of (e _ _ hfa), st_of (e _ _ hea), All2.nil⟩, ⟨by omega, by omega, List.Pairwise.nil, fun p h => (nomatch h), by show 0 < 64; omega⟩, e _ _ hva, All2.nil, List.nodup_nil, by show 0 ≤ 6; omega, fun e h => (nomatch h), fun H' M sb _ _ _ hM => k H' M (fun b o z => sb _ _ (ne_of_none z hx) (e _ _ z)) hM⟩
section
variable {P : Program} {w : World} {K : PySem.W.Frag} {mg : Str → Option Value} {base : Heap} {CM CR aF : Addr}
abbrev N_early : List Str := ["self", "limit", "result", "pair"]
theorem sc_early : FnScope N_early ["self", "limit"] (defScope s_early) := ⟨rfl, rfl, rfl, by decide +kernel, rfl, by decide +kernel, by decide +kernel⟩
theorem ok_early {f : Addr} {fd : FuncData} (F : Fun K "early" "Rounds.early" s_early f fd) (T : Tx K mg CM CR aF) (c_minit : Mak P w K mg base CM 3 "Model" ["self", "frame", "values"] (spMinit K CM)) (c_rinit : Mak P w K mg base CR 4 "Rounds" ["self", "first", "second"] (spRinit K CM CR)) :
    FnOk P w K mg base CX0 6 f fd ["self", "limit"] (spEarly K CM CR) := by
  refine F.ok sc_early (fun vs H Q E h => ?_) (fun cdv A outer s H vs Q E hr h => ?_)
  · obtain ⟨_, _, _, _, _, _, rfl, _⟩ := h
    rfl
  · obtain ⟨p, j, L, M, N, F, rfl, hR, hF, k⟩ := h
    have hu := hu_of hr
    have hu0 := hr.units0
    refine ⟨_, (pss_cons (ps_set (i := 2) sc_early.nd rfl (Or.inl rfl) (pe_mak c_rinit (hr.mono (by omega)) rfl (pa_cons (pe_mak c_minit (hr.mono (by omega)) rfl (pa_cons (pe_tup (pa_cons pe_int (pa_cons (pe_tup pa_nil) pa_nil))) (pa_cons pe_dnewK pa_nil))) (pa_cons (pe_mak c_minit (hr.mono (by omega)) rfl (pa_cons (pe_tup (pa_cons pe_int (pa_cons (pe_tup pa_nil) pa_nil))) (pa_cons pe_dnewK pa_nil))) pa_nil))))
      (pss_cons (ps_fld (pv 2) (pe_fld (pv 0) rfl) rfl)
      (pss_cons (ps_fld (pv 2) (pe_fld (pv 0) rfl) rfl)
      (pss_cons (ps_fld (pv 2) (pe_lock (pe_dcT hu0 (own := [("pair", 3)]) (g := gName 3) rfl sc_early.nd (pi_keys (pe_fld (pv 0) rfl)) (blkOk_by (own := [("pair", 3)]) (N := N_early) (sc := defScope s_early) (by decide +kernel)) (fun _ _ _ _ _ => (pg_name (i := 3) sc_early.nd rfl (Or.inl rfl))) (fun _ _ _ _ _ => (pts_one (pt_cmpR op_lt (pe_dget hu (k_fld (K := K) rfl (pv 0) rfl) (pv 3) (fun _ _ => rfl)) (pv 1) (nomark _)))) (fun _ _ _ _ _ => (pv 3)) (fun _ _ _ _ _ => (pe_dget hu (k_fld (K := K) rfl (pv 0) rfl) (pv 3) (fun _ _ => rfl))))) rfl)
      (pss_one (ps_ret (pv 2))))))), ?_⟩
    obtain ⟨dx, a, b, d, h1, hM, hN, hd⟩ := hR.ex
    -- two small models
    refine ⟨(by show 0 ≤ sizeLine; decide), fun ea hea => ⟨(by show 2 ≤ sizeLine; decide), fun fa hfa va hva x dx1 hx hdx1 hne1 => ?_⟩⟩
    have ea1 := Ex.new (o := HO.tup []) hea
    have ea2 := Ex.new (o := HO.tup [.int 1, .ref ea]) hfa
    have ea3 := Ex.new (o := HO.dK []) hva
    refine mk_one (ea3 _ _ (ea2 _ _ upd_same)) (ea3 _ _ upd_same) upd_same hx hdx1 fun H1 M1 e1 hM1 => ⟨rfl, ?_⟩
    refine ⟨(by show 0 ≤ sizeLine; decide), fun eb heb => ⟨(by show 2 ≤ sizeLine; decide), fun fb hfb vb hvb y dy1 hy hdy1 hne2 => ?_⟩⟩
    have eb1 := Ex.new (o := HO.tup []) heb
    have eb2 := Ex.new (o := HO.tup [.int 1, .ref eb]) hfb
    have eb3 := Ex.new (o := HO.dK []) hvb
    refine mk_one (eb3 _ _ (eb2 _ _ upd_same)) (eb3 _ _ upd_same) upd_same hy hdy1 fun H2 M2 e2 hM2 => ⟨rfl, ?_⟩
    have eA : Ex H H1 := ((ea1.trans ea2).trans ea3).trans e1
    have eB : Ex H1 H2 := ((eb1.trans eb2).trans eb3).trans e2
    intro r dr hr0 hdr hner
    have eC : Ex H2 (upd (upd H2 dr (.own r)) r (.ins CR dr [])) := fun b o z => by
      rw [upd_ne (ne_of_none z hr0), upd_ne (ne_of_none z hdr)]
      exact z
    refine ⟨r, dr, x, y, M1, M2, rfl, upd_same, hM1.mono (eB.trans eC), hM2.mono eC, fun H3 F3 d3 sb hr3 hd3 _ => ⟨rfl, ?_⟩⟩
    have e3 : Ex H H3 := fun b o z => by
      have z2 := eB _ _ (eA _ _ z)
      exact sb _ _ (ne_of_none z2 hr0) (eC _ _ z2)
    have npr : p ≠ r := fun z => by
      have := eB _ _ (eA _ _ h1)
      rw [z, hr0] at this
      cases this
    clear sb eC hM1 hM2
    -- the fields
    refine ⟨_, rfl, p, CR, dx, _, _, rfl, e3 _ _ h1, T.cR, T.r_first, rF_first, _, rfl, r, CR, dr, rF x y d3, rfl, hr3, T.cR, T.r_first, ?_, ?_⟩
    · rw [rF_eq]
      show 3 < 1000; omega
    have u1 : ∀ {o}, upd H3 r o p = some (.ins CR dx (rF a b d)) := fun {o} => by rw [upd_ne npr]; exact e3 _ _ h1
    refine ⟨_, rfl, p, CR, dx, _, _, rfl, u1, T.cR, T.r_second, rF_second, _, rfl, r, CR, dr, rF a y d3, rfl, (by rw [upd_same, rF_put1]), T.cR, T.r_second, ?_, ?_⟩
    · rw [rF_eq]
      show 3 < 1000; omega
    generalize hH4 : upd (upd H3 r (.ins CR dr (putF "first" (.ref a) (rF x y d3)))) r (.ins CR dr (putF "second" (.ref b) (rF a y d3))) = H4
    have r4 : H4 r = some (.ins CR dr (rF a b d3)) := by rw [← hH4, upd_same, rF_put2]
    have e4 : Ex H H4 := fun c o z => by
      have nr : c ≠ r := fun q => by
        have z2 := eB _ _ (eA _ _ z)
        rw [q, hr0] at z2
        cases z2
      rw [← hH4, upd_ne nr, upd_ne nr]
      exact e3 _ _ z
    have p4 := e4 _ _ h1
    have d4 := e4 _ _ hd
    have npd : p ≠ d := fun z => by rw [z, hd] at h1; cases h1
    have nrd : r ≠ d := fun z => by rw [z, d4] at r4; cases r4
    clear hH4 u1 hr3 hd3 e3
    -- the table
    refine ⟨d, _, d4, trivial, fun od => ?_⟩
    have pF : upd H4 d (.frz od (.dT (tb F))) p = some (.ins CR dx (rF a b d)) := by rw [upd_ne npd]; exact p4
    refine ⟨_, rfl, p, CR, dx, _, _, rfl, pF, T.cR, T.r_found, rF_found, d, od, rfl, Or.inr ⟨tb F, upd_same, fun D hD => ?_⟩⟩
    have nDd : D ≠ d := fun z => by rw [z, upd_same] at hD; cases hD
    have hD4 : H4 D = none := by rw [upd_ne nDd] at hD; exact hD
    have npD : p ≠ D := ne_of_none p4 hD4
    have nrD : r ≠ D := ne_of_none r4 hD4
    have Fl := Found_len hF
    have g49 := grid49 hM.ok.n7 hN.ok.n7
    have tbl : (tb F).length = F.length := by unfold tb; rw [List.length_map]
    refine Wk.comp (Wk.keysT d od (tb F)) (fun i H5 => H5 d = some (.frz od (.dT (tb F))) ∧ (∀ c o, c ≠ d → c ≠ D → H4 c = some o → H5 c = some o) ∧ H5 D = some (.dT (tb ((F.take i).filter fun e => decide (e.2 < j)))))
      ⟨by rw [upd_ne nDd.symm, upd_same], fun c o h1 h2 z => by rw [upd_ne h2, upd_ne h1]; exact z, upd_same⟩ (fun i H5 _ z => z.1) ?_ ?_
    · rintro i x H5 hi ⟨key, v, q, hkv, rfl, hq⟩ ⟨g1, g2, g3⟩
      obtain ⟨⟨pr, n⟩, he, hkv2⟩ : ∃ e, F[i]? = some e ∧ (key, v) = (kP e.1, nV e.2) := by
        unfold tb at hkv
        rw [List.getElem?_map] at hkv
        cases z : F[i]? with
        | none => rw [z] at hkv; cases hkv
        | some e => rw [z] at hkv; exact ⟨e, rfl, (Option.some.inj hkv).symm⟩
      injection hkv2 with k1 k2
      subst k1; subst k2
      have hl : F.lookup pr = some n := mem_lookup hF.nd (List.mem_of_getElem? he)
      have hdg : DGet H5 d (.ref q) (some (nV n)) := dget_tb (Or.inr ⟨od, g1⟩) hq hl
      have p5 := g2 _ _ npd npD p4
      refine ⟨rfl, _, rfl, p, CR, dx, _, _, rfl, p5, T.cR, T.r_found, rF_found, _, rfl, d, _, rfl, hdg, _, rfl, _, _, rfl, rfl, _, rfl, ?_⟩
      have ti : ∀ (b : Bool), decide (n < j) = b → (F.take (i + 1)).filter (fun e => decide (e.2 < j)) = ((F.take i).filter fun e => decide (e.2 < j)) ++ if b = true then [(pr, n)] else [] := fun b hb => by
        rw [take_snoc he, List.filter_append]
        congr 1
        rw [List.filter_cons]
        show (if decide (n < j) = true then _ else _) = _
        rw [hb]
        rfl
      refine ite2 (fun c => ?_) (fun c => ?_)
      · have c : n < j := by have := of_decide_eq_true c; omega
        refine ⟨_, rfl, _, rfl, p, CR, dx, _, _, rfl, p5, T.cR, T.r_found, rF_found, _, rfl, d, _, rfl, hdg, tb ((F.take i).filter fun e => decide (e.2 < j)), kP pr, q, rfl, hq, g3, ?_, ?_⟩
        · have h1 := List.length_filter_le (fun e : (Nat × Nat) × Nat => decide (e.2 < j)) (F.take i)
          have h2 := List.length_take (i := i) (l := F)
          unfold tb
          rw [List.length_map]
          exact small1000 (by omega)
        · refine ⟨by rw [upd_ne nDd.symm]; exact g1, fun c o h1 h2 z => by rw [upd_ne h2]; exact g2 _ _ h1 h2 z, ?_⟩
          rw [upd_same, ti true (decide_eq_true c), if_pos rfl]
          congr 2
          refine tb_put (lookup_key.mpr fun m => ?_)
          obtain ⟨e', he', ee⟩ := List.mem_map.mp m
          have hm := (List.mem_filter.mp he').1
          have := nodup_take hF.nd (i := i) (x := pr) (by rw [List.getElem?_map, he]; rfl)
          rw [← List.map_take] at this
          exact this (List.mem_map.mpr ⟨e', hm, ee⟩)
      · have c : ¬ n < j := fun z => c (decide_eq_true (by omega))
        refine ⟨g1, g2, ?_⟩
        rw [ti false (decide_eq_false c), if_neg Bool.false_ne_true, List.append_nil]
        exact g3
    · rintro H5 ⟨g1, g2, g3⟩
      rw [tbl, List.take_length] at g3
      refine ⟨g1, ?_⟩
      have e5 : Ex H (upd H5 d (.dT (tb F))) := fun c o z => by
        by_cases hc : c = d
        · rw [hc, upd_same, ← hd, ← hc]
          exact z
        · rw [upd_ne hc]
          exact g2 _ _ hc (ne_of_none (e4 _ _ z) hD4) (e4 _ _ z)
      refine ⟨_, rfl, r, CR, dr, rF a b d3, rfl, (by rw [upd_ne nrd]; exact g2 _ _ nrd nrD r4), T.cR, T.r_found, ?_, ?_⟩
      · rw [rF_eq]
        show 3 < 1000; omega
      have e6 : Ex H (upd (upd H5 d (.dT (tb F))) r (.ins CR dr (putF "found" (.ref D) (rF a b d3)))) := fun c o z => by
        have nr : c ≠ r := fun q => by
          have z2 := eB _ _ (eA _ _ z)
          rw [q, hr0] at z2
          cases z2
        rw [upd_ne nr]
        exact e5 _ _ z
      refine ⟨_, rfl, k _ _ e6 ⟨r, rfl, dr, a, b, D, ?_, hM.mono e6, hN.mono e6, ?_⟩⟩
      · rw [upd_same, rF_put3]
      · rw [upd_ne nrD.symm, upd_ne nDd]
        exact g3
end
end Q
/-! Rounds.formula -/
namespace Q
open PySem PySem.Spec PyProof.Rows L2 Evl Rl Bi
def spForm (K : PySem.W.Frag) (CM CR : Addr) (h : Nat) : Sp := fun vs H Q _ => ∃ (p : Addr) (x : V) (M N : Mo Str) (F : Tb) (v w r : Nat), vs = [.ref p, x] ∧ RdAt K CM CR H p M N F ∧ Done M N F ∧ PfAt H x (v, w) ∧ M.n ≤ 4 ∧ N.n ≤ 4 ∧ v < M.n ∧ w < N.n ∧ R M N v w r ∧ r < h ∧
  Ret H (fun u H' => ∃ φ, FmAt K H' φ u ∧ Tells M N v w r φ) Q
theorem flat_strs : ∀ l : List Str, (l.map V.str).all flatV = true
  | [] => rfl
  | a :: l => by rw [List.map_cons, List.all_cons, flat_strs l]; rfl
theorem inV_strs {c : Str} : ∀ {l : List Str}, inV (.str c) (l.map V.str) = decide (c ∈ l)
  | [] => by simp [inV]
  | a :: l => by
    have ih := @inV_strs c l
    unfold inV at ih ⊢
    rw [List.map_cons, List.any_cons, ih]
    have e : eqV (.str c) (.str a) = decide (c = a) := by
      show (c == a) = decide (c = a)
      by_cases h : c = a
      · subst h; simp
      · rw [decide_eq_false h]; exact beq_eq_false_iff_ne.mpr h
    have e' : eqV (.str a) (.str c) = decide (c = a) := by
      show (a == c) = decide (c = a)
      by_cases h : c = a
      · subst h; simp
      · rw [decide_eq_false h]; exact beq_eq_false_iff_ne.mpr (fun z => h z.symm)
    first
      | rw [e]
      | rw [e']
    by_cases h : c = a
    · subst h; simp
    · simp [h]
theorem getD_str {l : List Str} {i : Nat} {x : V} (h : (l.map V.str)[i]? = some x) : ∃ c, l[i]? = some c ∧ x = .str c := by
  rw [List.getElem?_map] at h
  cases q : l[i]? with
  | none => rw [q] at h; cases h
  | some c => rw [q] at h; exact ⟨c, rfl, (Option.some.inj h).symm⟩
/-- the heap without D -/
def er (D : Addr) (H : Hp) : Hp := fun b => if b = D then none else H b
theorem er_ex {D : Addr} {H : Hp} : Ex (er D H) H := fun b o h => by
  unfold er at h
  by_cases c : b = D
  · rw [if_pos c] at h; cases h
  · rw [if_neg c] at h; exact h
theorem er_sb {D : Addr} {H H' : Hp} (e : Sb D H H') : Ex (er D H) (er D H') := fun b o h => by
  unfold er at h ⊢
  by_cases c : b = D
  · rw [if_pos c] at h; cases h
  · rw [if_neg c] at h ⊢; exact e b o c h
theorem er_of {D : Addr} {H : Hp} : Sb D H (er D H) := fun b o c h => by
  unfold er
  rw [if_neg c]; exact h
theorem sqt_lst {K : PySem.W.Frag} {D a : Addr} {H H' : Hp} {xs ys : List V} (hD : H D = some (.lst ys)) (e : Sb D H H') (h : SqT K H a xs) : SqT K H' a xs := by
  rcases h with (h | ⟨q, h⟩) | h
  · exact Or.inl (Or.inl (e _ _ (fun z => by rw [z, hD] at h; cases h) h))
  · exact Or.inl (Or.inr ⟨q, e _ _ (fun z => by rw [z, hD] at h; cases h) h⟩)
  · exact Or.inr h
theorem FmAt.lst {K : PySem.W.Frag} {D : Addr} {H H' : Hp} {ys : List V} (hD : H D = some (.lst ys)) (e : Sb D H H') : ∀ {φ : Fm Str} {v : V}, FmAt K H φ v → FmAt K H' φ v
  | .var x, v, ⟨a, h1, h2⟩ => ⟨a, h1, sqt_lst hD e h2⟩
  | .fals, v, ⟨a, h1, h2⟩ => ⟨a, h1, sqt_lst hD e h2⟩
  | .imp p q, v, ⟨a, x, y, h1, h2, h3, h4⟩ => ⟨a, x, y, h1, sqt_lst hD e h2, h3.lst hD e, h4.lst hD e⟩
  | .and p q, v, ⟨a, x, y, h1, h2, h3, h4⟩ => ⟨a, x, y, h1, sqt_lst hD e h2, h3.lst hD e, h4.lst hD e⟩
  | .box p, v, ⟨a, x, h1, h2, h3⟩ => ⟨a, x, h1, sqt_lst hD e h2, h3.lst hD e⟩
/-- one choice a place -/
theorem choose_list {α β : Type} : ∀ {ys : List α} {G : Nat → α → β → Prop}, (∀ i y, ys[i]? = some y → ∃ f, G i y f) → ∃ fs : List β, fs.length = ys.length ∧ ∀ i y f, ys[i]? = some y → fs[i]? = some f → G i y f
  | [], G, h => ⟨[], rfl, fun i y f e => by simp at e⟩
  | y :: ys, G, h => by
    obtain ⟨f, hf⟩ := h 0 y rfl
    obtain ⟨fs, h1, h2⟩ := choose_list (ys := ys) (G := fun i => G (i + 1)) fun i y e => h (i + 1) y (by rw [List.getElem?_cons_succ]; exact e)
    refine ⟨f :: fs, by rw [List.length_cons, List.length_cons, h1], fun i z g e1 e2 => ?_⟩
    cases i with
    | zero =>
      rw [List.getElem?_cons_zero] at e1 e2
      rw [← Option.some.inj e1, ← Option.some.inj e2]
      exact hf
    | succ i =>
      rw [List.getElem?_cons_succ] at e1 e2
      exact h2 i z g e1 e2
theorem notin_of {c : Str} {ns : List Str} {A : Prop} {b : Bool} (h : c ∈ ns ↔ A) (hb : b = true ↔ ¬ A) : (!decide (c ∈ ns)) = b := by
  by_cases q : c ∈ ns
  · rw [decide_eq_true q]
    cases b with
    | false => rfl
    | true => exact absurd (h.mp q) (hb.mp rfl)
  · rw [decide_eq_false q]
    exact (hb.mpr fun z => q (h.mpr z)).symm
section
variable {P : Program} {w : World} {K : PySem.W.Frag} {mg : Str → Option Value} {base : Heap} {CM CR aF : Addr}
abbrev N_formula : List Str := ["self", "pair", "v", "w", "extra", "name", "before", "x", "y"]
theorem sc_formula : FnScope N_formula ["self", "pair"] (defScope s_formula) := ⟨rfl, rfl, rfl, by decide +kernel, rfl, by decide +kernel, by decide +kernel⟩
theorem ok_formula {f : Addr} {fd : FuncData} (F : Fun K "formula" "Rounds.formula" s_formula f fd) (T : Tx K mg CM CR aF) (h : Nat) (c_neg : Cal P w K mg base CX0 1 "neg" ["a"] (spNeg K)) (c_dia : Cal P w K mg base CX0 2 "dia" ["a"] (spDia K)) (c_conjunction : Cal P w K mg base CX0 3 "conjunction" ["formulas"] (spConj K))
    (c_seen : Mth P w K mg base CM 1 "seen" ["self", "v"] (spSeen K CM)) (c_names_at : Cal P w K mg base CX0 2 "names_at" ["model", "v"] (spNames K CM)) (c_left_witness : Mth P w K mg base CR 2 "left_witness" ["self", "pair"] (spWit K CM CR WitL))
    (c_right_witness : Mth P w K mg base CR 2 "right_witness" ["self", "pair"] (spWit K CM CR WitR)) (c_early : Mth P w K mg base CR 6 "early" ["self", "limit"] (spEarly K CM CR)) (c_formula : Mth P w K mg base CR (h + 7) "formula" ["self", "pair"] (spForm K CM CR h)) :
    FnOk P w K mg base CX0 (h + 8) f fd ["self", "pair"] (spForm K CM CR (h + 1)) := by
  refine F.ok sc_formula (fun vs H Q E h => ?_) (fun cdv A outer s H vs Q E hr hh => ?_)
  · obtain ⟨_, _, _, _, _, _, _, _, rfl, _⟩ := h
    rfl
  · obtain ⟨p, x, M, N, F, v, w, r, rfl, hR, hF, ⟨t, rfl, ht⟩, hM4, hN4, hv, hw, hrk, hrh, k⟩ := hh
    have hu := hu_of hr
    refine ⟨_, (pss_cons (ps_asg (pv 1) (pg_tup rfl (pgs_cons (pg_name (i := 2) sc_formula.nd rfl (Or.inr rfl)) (pgs_cons (pg_name (i := 3) sc_formula.nd rfl (Or.inr rfl)) pgs_nil))))
      (pss_cons (ps_if (pt_cmpR op_eq (pe_dget hu (pe_fld (pv 0) rfl) (pv 1) (fun _ _ => rfl)) pe_int (nomark _))
      (pss_cons (ps_setLc (i := 4) (own := [("name", 5)]) (g := gName 5) rfl sc_formula.nd rfl rfl (sw_true rfl rfl rfl (by decide +kernel)) (pi_list (pe_own c_names_at (hr.mono (by omega)) rfl (pa_cons (pe_fld (pv 0) rfl) (pa_cons (pv 2) pa_nil)))) (blkOk_by (own := [("name", 5)]) (N := N_formula) (sc := defScope s_formula) (by decide +kernel)) (fun _ _ _ _ _ => (pg_name (i := 5) sc_formula.nd rfl (Or.inl rfl))) (fun _ _ _ _ _ => (pts_one (pt_cmpR (k_notin (K := K) rfl) (pv 5) (pe_own c_names_at (hr.mono (by omega)) rfl (pa_cons (k_fld (K := K) rfl (pv 0) rfl) (pa_cons (pv 3) pa_nil))) (by rfl)))) (fun _ _ _ _ _ => (pv 5)))
      (pss_cons (ps_if (pt_cmpR op_gt (pe_callB call_len_seq rfl T.n_len boot_len (pa_cons (pv 4) pa_nil)) pe_int (nomark _))
      (pss_one (ps_ret (pe_tup (pa_cons pe_str (pa_cons (pe_ix ix_list (pv 4) pe_int (fun _ _ => rfl)) pa_nil)))))
      pss_nil)
      (pss_one (ps_ret (pe_own c_neg (hr.mono (by omega)) rfl (pa_cons (pe_tup (pa_cons pe_str (pa_cons (pe_ix ix_list (pe_lc (own := [("name", 5)]) (g := gName 5) rfl sc_formula.nd (pi_list (pe_own c_names_at (hr.mono (by omega)) rfl (pa_cons (pe_fld (pv 0) rfl) (pa_cons (pv 3) pa_nil)))) (blkOk_by (own := [("name", 5)]) (N := N_formula) (sc := defScope s_formula) (by decide +kernel)) (fun _ _ _ _ _ => (pg_name (i := 5) sc_formula.nd rfl (Or.inl rfl))) (fun _ _ _ _ _ => (pts_one (pt_cmpR (k_notin (K := K) rfl) (pv 5) (pe_own c_names_at (hr.mono (by omega)) rfl (pa_cons (k_fld (K := K) rfl (pv 0) rfl) (pa_cons (pv 2) pa_nil))) (by rfl)))) (fun _ _ _ _ _ => (pv 5))) pe_int (fun _ _ => rfl)) pa_nil))) pa_nil))))))
      pss_nil)
      (pss_cons (ps_set (i := 6) sc_formula.nd rfl (Or.inl rfl) (pe_mth c_early T.cR (hr.mono (by omega)) (pv 0) (pa_cons (pe_dget hu (pe_fld (pv 0) rfl) (pv 1) (fun _ _ => rfl)) pa_nil)))
      (pss_cons (ps_set (i := 7) sc_formula.nd rfl (Or.inr rfl) (pe_mth c_left_witness T.cR (hr.mono (by omega)) (pv 6) (pa_cons (pv 1) pa_nil)))
      (pss_cons (ps_if (pt_cmp (pc_notN (pv 7)))
      (pss_one (ps_ret (pe_own c_dia (hr.mono (by omega)) rfl (pa_cons (pe_own c_conjunction (hr.mono (by omega)) rfl (pa_cons (pe_lc (own := [("y", 8)]) (g := gName 8) rfl sc_formula.nd (pi_list (pe_mth c_seen T.cM (hr.mono (by omega)) (pe_fld (pv 0) rfl) (pa_cons (pv 3) pa_nil))) (blkOk_by (own := [("y", 8)]) (N := N_formula) (sc := defScope s_formula) (by decide +kernel)) (fun _ _ _ _ _ => (pg_name (i := 8) sc_formula.nd rfl (Or.inl rfl))) (fun _ _ _ _ _ => pts_nil) (fun _ _ _ _ _ => (pe_mth c_formula T.cR (hr.mono (by omega)) (pv 0) (pa_cons (pe_tup (pa_cons (pv 7) (pa_cons (pv 8) pa_nil))) pa_nil)))) pa_nil)) pa_nil))))
      pss_nil)
      (pss_cons (ps_set (i := 8) sc_formula.nd rfl (Or.inr rfl) (pe_mth c_right_witness T.cR (hr.mono (by omega)) (pv 6) (pa_cons (pv 1) pa_nil)))
      (pss_one (ps_ret (pe_own c_neg (hr.mono (by omega)) rfl (pa_cons (pe_own c_dia (hr.mono (by omega)) rfl (pa_cons (pe_own c_conjunction (hr.mono (by omega)) rfl (pa_cons (pe_lc (own := [("x", 7)]) (g := gName 7) rfl sc_formula.nd (pi_list (pe_mth c_seen T.cM (hr.mono (by omega)) (pe_fld (pv 0) rfl) (pa_cons (pv 2) pa_nil))) (blkOk_by (own := [("x", 7)]) (N := N_formula) (sc := defScope s_formula) (by decide +kernel)) (fun _ _ _ _ _ => (pg_name (i := 7) sc_formula.nd rfl (Or.inl rfl))) (fun _ _ _ _ _ => pts_nil) (fun _ _ _ _ _ => (pe_own c_neg (hr.mono (by omega)) rfl (pa_cons (pe_mth c_formula T.cR (hr.mono (by omega)) (pv 0) (pa_cons (pe_tup (pa_cons (pv 7) (pa_cons (pv 8) pa_nil))) pa_nil)) pa_nil)))) pa_nil)) pa_nil)) pa_nil)))))))))), ?_⟩
    obtain ⟨dx, a, b, d, h1, hM, hN, hd⟩ := hR.ex
    obtain ⟨⟨dxa, fa, sa, va, rs, kvs, ha, _⟩, okM⟩ := id hM
    obtain ⟨⟨dxb, fb, sb, vb, rs2, kvs2, hb, _⟩, okN⟩ := id hN
    have msn : ∀ {fa sa va : Addr}, (mF fa sa va).lookup ("seen" : Str) = none := fun {_ _ _} => mF_no (by decide +kernel) (by decide +kernel) (by decide +kernel)
    have hlk : F.lookup (v, w) = some r := hF.some.mpr ⟨hv, hw, hrk⟩
    have hno : ∀ {m : Str}, ¬ m = "first" → ¬ m = "second" → ¬ m = "found" → (rF a b d).lookup m = none := fun h1 h2 h3 => rF_no h1 h2 h3
    refine ⟨_, rfl, t, _, rfl, st_of ht, rfl, _, _, rfl, _, _, rfl, rfl, ?_⟩
    refine ⟨_, rfl, p, CR, dx, _, _, rfl, h1, T.cR, T.r_found, rF_found, _, rfl, d, _, rfl, dget_tb (p := (v, w)) (Or.inl hd) ht hlk, rfl, _, rfl, ?_⟩
    refine ite2 (fun c => ?_) (fun c => ?_)
    · have r0 : r = 0 := by
        have c := of_decide_eq_true c
        injection c with c
        omega
      subst r0
      obtain ⟨nx, hnx⟩ : ∃ nx : Str → Bool, ∀ x, nx x = true ↔ ¬ val N x w := ⟨fun x => !@decide (val N x w) (Classical.propDecidable _), fun x => by
        have := @decide_eq_true_iff (val N x w) (Classical.propDecidable _)
        cases q : @decide (val N x w) (Classical.propDecidable _) <;> simp_all⟩
      refine ⟨_, rfl, p, CR, dx, _, _, rfl, h1, T.cR, T.r_first, rF_first, _, rfl, a, M, v, rfl, hM, fun u H1 e1 ⟨l1, ns1, hu1, g1, N1⟩ => ?_⟩
      subst hu1
      refine ⟨l1, rfl, ⟨_, sq_of g1⟩, fun D hD => ?_⟩
      refine (Wk.list l1 (ns1.map V.str)).fl ns1 (by rw [List.length_map]) nx V.str hD (by rw [List.length_map]; have := N1.len; omega) (sq_of g1) (fun _ _ e b => ex_l e b) ?_ ?_
      · rintro i c z H2 yes no hc e2 hz ky kn
        obtain ⟨c', hc', rfl⟩ := getD_str hz
        rw [hc] at hc'
        have hc' := Option.some.inj hc'
        subst hc'
        have e12 := e1.trans e2
        refine ⟨rfl, _, rfl, _, rfl, p, CR, dx, _, _, rfl, e12 _ _ h1, T.cR, T.r_second, rF_second, _, rfl, b, N, w, rfl, hN.mono e12, fun u H3 e3 ⟨l2, ns2, hu3, g2, N2⟩ => ?_⟩
        subst hu3
        refine ⟨l2, _, rfl, Or.inl (sq_of g2), rfl, flat_strs _, _, rfl, ?_⟩
        rw [if_pos rfl, inV_strs, notin_of (N2.mem c) (hnx c)]
        exact ite2 (fun q => ⟨_, rfl, ky q _ e3⟩) (fun q => kn (by simpa using q) _ e3)
      · intro H2 e2 hz
        have e12 := e1.trans e2
        refine ⟨_, rfl, D, (ns1.filter nx).map V.str, rfl, Or.inl (sq_of hz), _, _, rfl, rfl, _, rfl, ?_⟩
        refine ite2 (fun c => ?_) (fun c => ?_)
        · have c : 0 < (ns1.filter nx).length := by
            have c := of_decide_eq_true c
            rw [List.length_map] at c
            omega
          obtain ⟨y, hy⟩ : ∃ y, (ns1.filter nx)[0]? = some y := ⟨_, List.getElem?_eq_getElem c⟩
          obtain ⟨y1, y2⟩ := List.mem_filter.mp (List.mem_of_getElem? hy)
          refine ⟨_, rfl, D, _, 0, .str y, rfl, rfl, sq_of hz, atI_nat (j := 0) (by rw [List.getElem?_map, hy]; rfl), (by show 2 ≤ sizeLine; decide), fun q hq => k _ _ (e12.trans (Ex.new hq)) ⟨.var y, ⟨q, rfl, st_of upd_same⟩, tells_var ((N1.mem y).mp y1) ((hnx y).mp y2)⟩⟩
        · have c : ns1.filter nx = [] := by
            refine List.eq_nil_of_length_eq_zero (Nat.eq_zero_of_not_pos fun z => c (decide_eq_true ?_))
            rw [List.length_map]
            omega
          have hsub : ∀ x, val M x v → val N x w := fun x hx => Classical.byContradiction fun z => by
            have := List.mem_filter.mpr ⟨(N1.mem x).mpr hx, (hnx x).mpr z⟩
            rw [c] at this
            cases this
          obtain ⟨x0, hx0⟩ := hrk.1
          have hx1 : val N x0 w ∧ ¬ val M x0 v := by
            by_cases q : val M x0 v
            · exact absurd ⟨fun _ => hsub x0 q, fun _ => q⟩ hx0
            · refine ⟨Classical.byContradiction fun z => hx0 ⟨fun g => absurd g q, fun g => absurd g z⟩, q⟩
          obtain ⟨mx, hmx⟩ : ∃ mx : Str → Bool, ∀ x, mx x = true ↔ ¬ val M x v := ⟨fun x => !@decide (val M x v) (Classical.propDecidable _), fun x => by
            have := @decide_eq_true_iff (val M x v) (Classical.propDecidable _)
            cases q : @decide (val M x v) (Classical.propDecidable _) <;> simp_all⟩
          refine ⟨_, rfl, p, CR, dx, _, _, rfl, e12 _ _ h1, T.cR, T.r_second, rF_second, _, rfl, b, N, w, rfl, hN.mono e12, fun u H3 e3 ⟨l3, ns3, hu3, g3, N3⟩ => ?_⟩
          subst hu3
          have e13 := e12.trans e3
          refine ⟨l3, rfl, ⟨_, sq_of g3⟩, fun D3 hD3 => ?_⟩
          refine (Wk.list l3 (ns3.map V.str)).fl ns3 (by rw [List.length_map]) mx V.str hD3 (by rw [List.length_map]; have := N3.len; omega) (sq_of g3) (fun _ _ e b => ex_l e b) ?_ ?_
          · rintro i c z H4 yes no hc e4 hz ky kn
            obtain ⟨c', hc', rfl⟩ := getD_str hz
            rw [hc] at hc'
            have hc' := Option.some.inj hc'
            subst hc'
            have e14 := e13.trans e4
            refine ⟨rfl, _, rfl, _, rfl, p, CR, dx, _, _, rfl, e14 _ _ h1, T.cR, T.r_first, rF_first, _, rfl, a, M, v, rfl, hM.mono e14, fun u H5 e5 ⟨l2, ns2, hu3, g2, N2⟩ => ?_⟩
            subst hu3
            refine ⟨l2, _, rfl, Or.inl (sq_of g2), rfl, flat_strs _, _, rfl, ?_⟩
            rw [if_pos rfl, inV_strs, notin_of (N2.mem c) (hmx c)]
            exact ite2 (fun q => ⟨_, rfl, ky q _ e5⟩) (fun q => kn (by simpa using q) _ e5)
          · intro H4 e4 hz4
            have hmem : x0 ∈ ns3.filter mx := List.mem_filter.mpr ⟨(N3.mem x0).mpr hx1.1, (hmx x0).mpr hx1.2⟩
            obtain ⟨y, hy⟩ : ∃ y, (ns3.filter mx)[0]? = some y := ⟨_, List.getElem?_eq_getElem (List.length_pos_of_mem hmem)⟩
            obtain ⟨y1, y2⟩ := List.mem_filter.mp (List.mem_of_getElem? hy)
            refine ⟨D3, _, 0, .str y, rfl, rfl, sq_of hz4, atI_nat (j := 0) (by rw [List.getElem?_map, hy]; rfl), (by show 2 ≤ sizeLine; decide), fun q hq => ?_⟩
            refine ⟨.var y, _, rfl, ⟨q, rfl, st_of upd_same⟩, fun u H5 e5 h5 => k _ _ (((e13.trans e4).trans (Ex.new hq)).trans e5) ⟨_, h5, tells_nvar ((hmx y).mp y2) ((N3.mem y).mp y1)⟩⟩
    · -- a later round
      obtain ⟨kk, rfl⟩ : ∃ kk, r = kk + 1 := ⟨r - 1, by
        have : r ≠ 0 := fun z => c (by rw [z]; rfl)
        omega⟩
      have hfew : kk + 1 ≤ M.n * N.n := hF.few v w (kk + 1) (lookup_mem hlk)
      have hsN : (Bi.seen N w).length ≤ 4 := Nat.le_trans (seen_len okN.asc okN.inn w) hN4
      have hsM : (Bi.seen M v).length ≤ 4 := Nat.le_trans (seen_len okM.asc okM.inn v) hM4
      refine ⟨_, rfl, p, dx, _, rfl, h1, hno (by decide +kernel) (by decide +kernel) (by decide +kernel), _, rfl, p, CR, dx, _, _, rfl, h1, T.cR, T.r_found, rF_found, _, rfl, d, _, rfl, dget_tb (p := (v, w)) (Or.inl hd) ht hlk, ?_⟩
      refine ⟨p, kk + 1, M.n * N.n + 1, M, N, F, rfl, hR, hF.found, fun u H1 e1 ⟨q, hu1, hR2⟩ => ?_⟩
      subst hu1
      obtain ⟨dxq, qa, qb, qd, q1, _⟩ := hR2.ex
      have hFe := hF.found.early (j := kk + 1) (by omega)
      refine ⟨_, rfl, q, dxq, _, rfl, q1, rF_no (by decide +kernel) (by decide +kernel) (by decide +kernel), _, rfl, q, .ref t, M, N, _, kk, v, w, rfl, hR2, hFe, ⟨t, rfl, e1 _ _ ht⟩, hv, hw, fun u H2 e2 hu2 => ?_⟩
      have e12 := e1.trans e2
      rcases hu2 with ⟨x, hu2, hx, hk⟩ | ⟨hu2, hnl⟩
      · subst hu2
        refine ⟨_, rfl, _, rfl, iteT ?_⟩
        have hxn := okM.seenlt hx
        refine ⟨_, rfl, p, CR, dx, _, _, rfl, e12 _ _ h1, T.cR, T.r_second, rF_second, b, dxb, _, rfl, e12 _ _ hb, msn, _, rfl, b, N, w, rfl, hN.mono e12, hw, fun u H3 e3 ⟨lb, hu3, hlb⟩ => ?_⟩
        subst hu3
        have e13 := e12.trans e3
        refine ⟨lb, rfl, ⟨_, hlb⟩, fun D hD => ?_⟩
        refine (Wk.list lb ((Bi.seen N w).map nV)).lc (fun _ => true) (fun i y H => ∃ yw φ r, (Bi.seen N w)[i]? = some yw ∧ FmAt K (er D H) φ y ∧ R M N x yw r ∧ Tells M N x yw r φ) hD (by rw [List.length_map]; omega) hlb (fun _ _ e b => ex_l e b)
          (fun i y _ _ _ ⟨yw, φ, r, z1, z2, z3⟩ s => ⟨yw, φ, r, z1, z2.mono (er_sb s), z3⟩) ?_ ?_
        · rintro i y H4 yes no hi e4 ⟨acc, hacc⟩ hy ky kn
          obtain ⟨yw, hyw, rfl⟩ := getD_nV hy
          have hys := List.mem_of_getElem? hyw
          obtain ⟨r', hr', hR'⟩ := told_R (hk yw hys)
          have e14 := e13.trans e4
          refine ⟨rfl, iteT (B := no H4) ⟨_, rfl, p, dx, _, rfl, e14 _ _ h1, hno (by decide +kernel) (by decide +kernel) (by decide +kernel), _, rfl, _, rfl, (by show 2 ≤ sizeLine; decide), fun t2 ht2 => ?_⟩⟩
          have e15 := Ex.new (o := HO.tup [nV x, nV yw]) ht2
          refine ⟨p, .ref t2, M, N, F, x, yw, r', rfl, hR.mono (e14.trans e15), hF, ⟨t2, rfl, upd_same⟩, hM4, hN4, hxn, okN.seenlt hys, hR', by omega, fun u H5 e5 ⟨φ, h5, tl⟩ => ?_⟩
          exact ky rfl u H5 (e15.trans e5) ⟨yw, φ, r', hyw, h5.lst (e5 _ _ (e15 _ _ hacc)) er_of, hR', tl⟩
        · intro zs H4 e4 hz hacc
          obtain ⟨zl, zp⟩ := Acc.all (fun _ _ => rfl) hacc
          rw [List.length_map] at zl
          obtain ⟨fs, fl, fg⟩ := choose_list (ys := zs) (G := fun i y φ => ∃ yw r, (Bi.seen N w)[i]? = some yw ∧ FmAt K (er D H4) φ y ∧ R M N x yw r ∧ Tells M N x yw r φ) fun i y hy => by
            obtain ⟨yw, φ, r, z⟩ := zp i y hy
            exact ⟨φ, yw, r, z⟩
          refine ⟨D, fs, rfl, ⟨zs, sq_of hz, fl.symm, fun i y φ hy hφ => ?_⟩, by omega, fun u H5 e5 h5 => ?_⟩
          · obtain ⟨yw, r, z1, z2, z3⟩ := fg i y φ hy hφ
            exact z2.mono er_ex
          · refine ⟨Bi.conj fs, u, rfl, h5, fun u2 H6 e6 h6 => k _ _ (((e13.trans e4).trans e5).trans e6) ⟨_, h6, ?_⟩⟩
            refine tells_left hsN hrk hx hk (fl.trans zl) fun i yw φ hyw hφ => ?_
            obtain ⟨y, hy⟩ : ∃ y, zs[i]? = some y := ⟨_, List.getElem?_eq_getElem (by rw [← fl]; exact lt_of_some hφ)⟩
            obtain ⟨yw', r, z1, z2, z3⟩ := fg i y φ hy hφ
            rw [hyw] at z1
            have z1 := Option.some.inj z1
            subst z1
            exact ⟨r, z3⟩
      · subst hu2
        refine ⟨_, rfl, _, rfl, iteF ?_⟩
        refine ⟨_, rfl, q, dxq, _, rfl, e2 _ _ q1, rF_no (by decide +kernel) (by decide +kernel) (by decide +kernel), _, rfl, q, .ref t, M, N, _, kk, v, w, rfl, hR2.mono e2, hFe, ⟨t, rfl, e12 _ _ ht⟩, hv, hw, fun u H3 e3 hu3 => ?_⟩
        have e13 := e12.trans e3
        rcases hu3 with ⟨y, hu3, hy, hk⟩ | ⟨hu3, hnr⟩
        · subst hu3
          have hyn := okN.seenlt hy
          refine ⟨_, rfl, p, CR, dx, _, _, rfl, e13 _ _ h1, T.cR, T.r_first, rF_first, a, dxa, _, rfl, e13 _ _ ha, msn, _, rfl, a, M, v, rfl, hM.mono e13, hv, fun u H4 e4 ⟨lb, hu4, hlb⟩ => ?_⟩
          subst hu4
          have e14 := e13.trans e4
          refine ⟨lb, rfl, ⟨_, hlb⟩, fun D hD => ?_⟩
          refine (Wk.list lb ((Bi.seen M v).map nV)).lc (fun _ => true) (fun i z H => ∃ xv φ r, (Bi.seen M v)[i]? = some xv ∧ FmAt K (er D H) (Bi.neg φ) z ∧ R M N xv y r ∧ Tells M N xv y r φ) hD (by rw [List.length_map]; omega) hlb (fun _ _ e b => ex_l e b)
            (fun i y _ _ _ ⟨yw, φ, r, z1, z2, z3⟩ s => ⟨yw, φ, r, z1, z2.mono (er_sb s), z3⟩) ?_ ?_
          · rintro i z H5 yes no hi e5 ⟨acc, hacc⟩ hz ky kn
            obtain ⟨xv, hxv, rfl⟩ := getD_nV hz
            have hxs := List.mem_of_getElem? hxv
            obtain ⟨r', hr', hR'⟩ := told_R (hk xv hxs)
            have e15 := e14.trans e5
            refine ⟨rfl, iteT (B := no H5) ⟨_, rfl, p, dx, _, rfl, e15 _ _ h1, hno (by decide +kernel) (by decide +kernel) (by decide +kernel), _, rfl, _, rfl, (by show 2 ≤ sizeLine; decide), fun t2 ht2 => ?_⟩⟩
            have e16 := Ex.new (o := HO.tup [nV xv, nV y]) ht2
            refine ⟨p, .ref t2, M, N, F, xv, y, r', rfl, hR.mono (e15.trans e16), hF, ⟨t2, rfl, upd_same⟩, hM4, hN4, okM.seenlt hxs, hyn, hR', by omega, fun u H6 e6 ⟨φ, h6, tl⟩ => ?_⟩
            refine ⟨φ, u, rfl, h6, fun u2 H7 e7 h7 => ky rfl u2 H7 ((e16.trans e6).trans e7) ⟨xv, φ, r', hxv, h7.lst (e7 _ _ (e6 _ _ (e16 _ _ hacc))) er_of, hR', tl⟩⟩
          · intro zs H5 e5 hz hacc
            obtain ⟨zl, zp⟩ := Acc.all (fun _ _ => rfl) hacc
            rw [List.length_map] at zl
            obtain ⟨fs, fl, fg⟩ := choose_list (ys := zs) (G := fun i z ψ => ∃ xv φ r, ψ = Bi.neg φ ∧ (Bi.seen M v)[i]? = some xv ∧ FmAt K (er D H5) ψ z ∧ R M N xv y r ∧ Tells M N xv y r φ) fun i z hz => by
              obtain ⟨xv, φ, r, z1, z2⟩ := zp i z hz
              exact ⟨Bi.neg φ, xv, φ, r, rfl, z1, z2⟩
            refine ⟨D, fs, rfl, ⟨zs, sq_of hz, fl.symm, fun i z φ hz hφ => ?_⟩, by omega, fun u H6 e6 h6 => ?_⟩
            · obtain ⟨xv, φ', r, z0, z1, z2, z3⟩ := fg i z φ hz hφ
              exact z2.mono er_ex
            · refine ⟨Bi.conj fs, u, rfl, h6, fun u2 H7 e7 h7 => ⟨Bi.dia (Bi.conj fs), u2, rfl, h7, fun u3 H8 e8 h8 => k _ _ ((((e14.trans e5).trans e6).trans e7).trans e8) ⟨_, h8, ?_⟩⟩⟩
              refine tells_right hsM hrk hy hk (fl.trans zl) fun i xv ψ hxv hψ => ?_
              obtain ⟨z, hz⟩ : ∃ z, zs[i]? = some z := ⟨_, List.getElem?_eq_getElem (by rw [← fl]; exact lt_of_some hψ)⟩
              obtain ⟨xv', φ', r, z0, z1, z2, z3⟩ := fg i z ψ hz hψ
              rw [hxv] at z1
              have z1 := Option.some.inj z1
              subst z1
              exact ⟨r, φ', z0, z3⟩
        · exfalso
          rcases hrk.1 with z | z | z
          · exact hrk.2 kk (by omega) z
          · exact hnl z
          · exact hnr z
theorem ok_formula0 {f : Addr} {fd : FuncData} (F : Fun K "formula" "Rounds.formula" s_formula f fd) : FnOk P w K mg base CX0 7 f fd ["self", "pair"] (spForm K CM CR 0) := by
  have no : ∀ {vs H Q E}, ¬ spForm K CM CR 0 vs H Q E := fun {vs H Q E} ⟨_, _, _, _, _, _, _, r, _, _, _, _, _, _, _, _, _, h, _⟩ => absurd h (Nat.not_lt_zero _)
  refine F.ok sc_formula (fun vs H Q E h => absurd h no) (fun cdv A outer s H vs Q E hr hh => absurd hh no)
end
end Q
/-! greatest_bisimulation, round_of, class_of -/
namespace Q
open PySem PySem.Spec PyProof.Rows L2 Evl Rl Bi
/-- the list of the pairs alike -/
def AlAt (H : Hp) (u : V) (M N : Mo Str) : Prop := ∃ (D : Addr) (ys : List V) (g : Nat → Nat → Bool), u = .ref D ∧ H D = some (.lst ys) ∧ All2 (PfAt H) ys ((grid M.n N.n).filter fun p => g p.1 p.2) ∧ ∀ v w, v < M.n → w < N.n → (g v w = true ↔ ¬ Told M N v w)
def spGreatest (K : PySem.W.Frag) (C : Addr) : Sp := fun vs H Q _ => ∃ (a b : Addr) (M N : Mo Str), vs = [.ref a, .ref b] ∧ MdAt K C H a M ∧ MdAt K C H b N ∧ Ret H (fun u H' => AlAt H' u M N) Q
def spRound (K : PySem.W.Frag) (C : Addr) : Sp := fun vs H Q _ => ∃ (a b : Addr) (M N : Mo Str) (v w : Nat), vs = [.ref a, nV v, .ref b, nV w] ∧ MdAt K C H a M ∧ MdAt K C H b N ∧ v < M.n ∧ w < N.n ∧ Ret H (fun u _ => (∃ r, R M N v w r ∧ u = nV r) ∨ (¬ Told M N v w ∧ u = .int (-1))) Q
theorem mk_rounds {K : PySem.W.Frag} {CM CR a b x dx : Addr} {H : Hp} {M N : Mo Str} {Q : VK} {E : XK} (hM : MdAt K CM H a M) (hN : MdAt K CM H b N) (hx : H x = none) (hdx : H dx = none) (k : ∀ H' F, Ex H H' → RdAt K CM CR H' x M N F → Done M N F → Q .non H') :
    spRinit K CM CR [.ref x, .ref a, .ref b] (upd (upd H dx (.own x)) x (.ins CR dx [])) Q E := by
  have e : Ex H (upd (upd H dx (.own x)) x (.ins CR dx [])) := fun b o z => by
    rw [upd_ne (ne_of_none z hx), upd_ne (ne_of_none z hdx)]
    exact z
  refine ⟨x, dx, a, b, M, N, rfl, upd_same, hM.mono e, hN.mono e, fun H' F d sb h1 h2 h3 => ?_⟩
  have e' : Ex H H' := fun b o z => sb _ _ (ne_of_none z hx) (e _ _ z)
  exact k H' F e' ⟨dx, a, b, d, h1, hM.mono e', hN.mono e', h2⟩ h3
/-! ### numbers -/
noncomputable def toldB (B : Mo Str) (v w : Nat) : Bool := @decide (Told B B v w) (Classical.propDecidable _)
theorem toldB_iff {B : Mo Str} {v w : Nat} : toldB B v w = true ↔ Told B B v w := @decide_eq_true_iff _ (Classical.propDecidable _)
theorem toldB_not {B : Mo Str} {v w : Nat} : (!toldB B v w) = true ↔ ¬ Told B B v w := by
  rw [← toldB_iff]
  cases toldB B v w <;> simp
noncomputable def least (B : Mo Str) (v : Nat) : Nat := ((List.range B.n).find? fun w => !toldB B v w).getD 0
theorem find_least {n : Nat} {f : Nat → Bool} {v : Nat} (hv : v < n) (h : f v = true) : ∃ m, (List.range n).find? f = some m ∧ m < n ∧ f m = true ∧ ∀ w, w < n → f w = true → m ≤ w := by
  cases q : (List.range n).find? f with
  | none => exact absurd h (List.find?_eq_none.mp q v (List.mem_range.mpr hv))
  | some m =>
    refine ⟨m, rfl, List.mem_range.mp (List.mem_of_find?_eq_some q), List.find?_some q, fun w hw hf => ?_⟩
    obtain ⟨_, as, bs, e, hno⟩ := List.find?_eq_some_iff_append.mp q
    refine Nat.le_of_not_lt fun c => ?_
    have hs := range_asc n
    rw [e, List.pairwise_append] at hs
    have hwm : w ∈ as ++ m :: bs := by rw [← e]; exact List.mem_range.mpr hw
    rcases List.mem_append.mp hwm with z | z
    · have := hno w z
      rw [hf] at this
      cases this
    · rcases List.mem_cons.mp z with z | z
      · omega
      · have := (List.pairwise_cons.mp hs.2.1).1 w z
        omega
theorem least_ok {B : Mo Str} {v : Nat} (hv : v < B.n) : least B v < B.n ∧ ¬ Told B B v (least B v) ∧ ∀ w, w < B.n → ¬ Told B B v w → least B v ≤ w := by
  obtain ⟨m, e, h1, h2, h3⟩ := find_least (f := fun w => !toldB B v w) hv (toldB_not.mpr Told_refl)
  unfold least
  rw [e]
  exact ⟨h1, toldB_not.mp h2, fun w hw hn => h3 w hw (toldB_not.mpr hn)⟩
noncomputable def order (B : Mo Str) : List Nat := (List.range B.n).filter fun m => (List.range B.n).any fun v => least B v == m
theorem mem_order {B : Mo Str} {m : Nat} : m ∈ order B ↔ ∃ v, v < B.n ∧ least B v = m := by
  unfold order
  rw [List.mem_filter, List.any_eq_true, List.mem_range]
  constructor
  · rintro ⟨_, v, hv, e⟩
    exact ⟨v, List.mem_range.mp hv, eq_of_beq e⟩
  · rintro ⟨v, hv, e⟩
    exact ⟨by rw [← e]; exact (least_ok hv).1, v, List.mem_range.mpr hv, by rw [e]; exact beq_self_eq_true _⟩
theorem order_asc {B : Mo Str} : (order B).Pairwise (· < ·) := (range_asc B.n).filter _
theorem order_nd {B : Mo Str} : (order B).Nodup := order_asc.imp fun h => Nat.ne_of_lt h
noncomputable def num (B : Mo Str) (v : Nat) : Nat := (order B).idxOf (least B v)
theorem num_at {B : Mo Str} {v : Nat} (hv : v < B.n) : (order B)[num B v]? = some (least B v) := by
  have hm : least B v ∈ order B := mem_order.mpr ⟨v, hv, rfl⟩
  have hlt : num B v < (order B).length := List.idxOf_lt_length_of_mem hm
  rw [List.getElem?_eq_getElem hlt]
  congr 1
  exact List.getElem_idxOf hlt
theorem num_lt {B : Mo Str} {v : Nat} (hv : v < B.n) : num B v < B.n := by
  have h1 := lt_of_some (num_at hv)
  have h2 : (order B).length ≤ B.n := by
    have := List.length_filter_le (fun m => (List.range B.n).any fun v => least B v == m) (List.range B.n)
    rw [List.length_range] at this
    exact this
  omega
theorem num_iff {B : Mo Str} {v w : Nat} (hv : v < B.n) (hw : w < B.n) : num B v = num B w ↔ ¬ Told B B v w := by
  rw [index_iff order_nd (num_at hv) (num_at hw)]
  have a := least_ok hv
  have b := least_ok hw
  constructor
  · intro e h
    rcases Told_trans (v := least B v) h with z | z
    · exact a.2.1 z
    · rw [e] at z
      exact b.2.1 (Told_symm z)
  · intro h
    have h1 := a.2.2 _ b.1 (fun z => by
      rcases Told_trans (v := w) z with z | z
      · exact h z
      · exact b.2.1 z)
    have h2 := b.2.2 _ a.1 (fun z => by
      rcases Told_trans (v := v) z with z | z
      · exact h (Told_symm z)
      · exact a.2.1 z)
    omega
/-- the list of the numbers -/
def NumAt (H : Hp) (u : V) (B : Mo Str) : Prop := ∃ D, u = .ref D ∧ H D = some (.lst ((List.range B.n).map fun v => nV (num B v)))
def spClass (K : PySem.W.Frag) (C : Addr) : Sp := fun vs H Q _ => ∃ (p : Addr) (B : Mo Str), vs = [.ref p] ∧ MdAt K C H p B ∧ Ret H (fun u H' => NumAt H' u B) Q
theorem num_ix {B : Mo Str} {j m : Nat} {z' : Nat} (hm : m < j) {v : Nat} (hv : v < B.n) (hj : j = num B v) (h : (order B)[m]? = some z') : z' ≠ least B v := fun e => by
  have := nd_ix (order_nd (B := B)) h (by rw [e]; exact num_at hv)
  omega
section
variable {P : Program} {w : World} {K : PySem.W.Frag} {mg : Str → Option Value} {base : Heap} {CM CR aF : Addr}
abbrev N_greatest : List Str := ["first", "second", "told", "v", "w"]
theorem sc_greatest : FnScope N_greatest ["first", "second"] (defScope s_greatest) := ⟨rfl, rfl, rfl, by decide +kernel, rfl, by decide +kernel, by decide +kernel⟩
theorem ok_greatest {f : Addr} {fd : FuncData} (F : Fun K "greatest_bisimulation" "greatest_bisimulation" s_greatest f fd) (T : Tx K mg CM CR aF) (c_frame : Mth P w K mg base CM 1 "frame" ["self"] (spFrame K CM)) (c_rinit : Mak P w K mg base CR 4 "Rounds" ["self", "first", "second"] (spRinit K CM CR)) :
    FnOk P w K mg base CX0 6 f fd ["first", "second"] (spGreatest K CM) := by
  refine F.ok sc_greatest (fun vs H Q E h => ?_) (fun cdv A outer s H vs Q E hr h => ?_)
  · obtain ⟨_, _, _, _, rfl, _⟩ := h
    rfl
  · obtain ⟨a, b, M, N, rfl, hM, hN, k⟩ := h
    have hu := hu_of hr
    refine ⟨_, (pss_cons (ps_set (i := 2) sc_greatest.nd rfl (Or.inr rfl) (pe_fld (pe_mak c_rinit (hr.mono (by omega)) rfl (pa_cons (pv 0) (pa_cons (pv 1) pa_nil))) rfl))
      (pss_one (ps_ret (pe_lc2 (own := [("v", 3), ("w", 4)]) (g := gName 3) (g1 := gName 4) (vs1 := [4]) rfl sc_greatest.nd (pi_range1 rfl T.n_range (pa_cons (pe_ix ix_tup (pe_mth0 c_frame T.cM (hr.mono (by omega)) (pv 0)) pe_int (fun _ _ => rfl)) pa_nil)) (blkOk_by (own := [("v", 3), ("w", 4)]) (N := N_greatest) (sc := defScope s_greatest) (by decide +kernel)) (by decide) (fun _ _ _ _ _ => (pg_name (i := 3) sc_greatest.nd rfl (Or.inl rfl))) (fun _ _ _ _ _ => pts_nil) (fun _ _ _ _ _ => (pi_range1 rfl T.n_range (pa_cons (pe_ix (k_ixt (K := K) rfl) (pe_mth0 c_frame T.cM (hr.mono (by omega)) (pv 1)) pe_int (fun _ _ => rfl)) pa_nil))) (fun _ _ _ _ _ => (pg_name (i := 4) sc_greatest.nd rfl (Or.inl rfl))) (fun _ _ _ _ _ => (pts_one (pt_cmp (pc_dnotin hu (pe_tup (pa_cons (pv 3) (pa_cons (pv 4) pa_nil))) (pv 2))))) (fun _ _ _ _ _ => (pe_tup (pa_cons (pv 3) (pa_cons (pv 4) pa_nil)))))))), ?_⟩
    refine ⟨_, rfl, _, rfl, fun r dx0 hx0 hdx0 hne0 => mk_rounds hM hN hx0 hdx0 fun H1 F e1 hR hF => ⟨rfl, ?_⟩⟩
    obtain ⟨dx, a', b', d, h1, _, _, hd⟩ := hR.ex
    refine ⟨r, CR, dx, _, _, rfl, h1, T.cR, T.r_found, rF_found, ?_⟩
    have mno : ∀ {fa sa va : Addr}, (mF fa sa va).lookup ("frame" : Str) = none := fun {_ _ _} => mF_no (by decide +kernel) (by decide +kernel) (by decide +kernel)
    obtain ⟨⟨dxa, _, _, _, _, _, a1, _⟩, okM⟩ := hM.mono e1
    obtain ⟨⟨dxb, _, _, _, _, _, b1, _⟩, okN⟩ := hN.mono e1
    refine ⟨_, rfl, a, dxa, _, rfl, a1, mno, a, M, rfl, hM.mono e1, fun u H2 e2 ⟨fa, hu1, pa, ts, f1, _⟩ => ?_⟩
    subst hu1
    refine ⟨fa, _, 0, _, rfl, rfl, f1, rfl, M.n, rfl, by have := okM.n7; omega, by have := okM.n7; omega, fun D hD => ?_⟩
    refine grid2 (n := M.n) (m := N.n) (fun v w => !(F.lookup (v, w)).isSome) hD okM.n7 okN.n7 (fun _ => rfl) (fun _ _ => rfl) ?_ ?_ ?_
    · intro v H3 R hv e3 kR
      have e13 := e1.trans (e2.trans e3)
      refine ⟨_, rfl, b, dxb, _, rfl, (e2.trans e3) _ _ b1, mno, b, N, rfl, hN.mono e13, fun u H4 e4 ⟨fb, hu2, pb, us, g1, _⟩ => ?_⟩
      subst hu2
      exact ⟨fb, _, 0, _, rfl, rfl, g1, rfl, N.n, rfl, by have := okN.n7; omega, by have := okN.n7; omega, kR _ e4⟩
    · intro v w H3 yes no hv hw e3 ky kn
      refine ⟨_, rfl, _, rfl, (by show 2 ≤ sizeLine; decide), fun q hq => ?_⟩
      have e4 := Ex.new (o := HO.tup [nV v, nV w]) hq
      refine ⟨_, rfl, d, _, rfl, DGet.t (k := kP (v, w)) ((e2.trans (e3.trans e4)) _ _ hd) upd_same, _, rfl, ?_⟩
      rw [isSome_tb]
      refine ite2 (fun c => ?_) (fun c => kn (by simpa using c) _ e4)
      refine ⟨_, rfl, _, rfl, (by show 2 ≤ sizeLine; decide), fun r hr1 => ky c _ _ (e4.trans (Ex.new hr1)) fun acc hacc => ⟨r, rfl, (fun z => by rw [z, e4 _ _ hacc] at hr1; cases hr1), upd_same⟩⟩
    intro ys H3 e3 hys hall
    refine k _ _ (e1.trans (e2.trans e3)) ⟨D, ys, fun v w => !(F.lookup (v, w)).isSome, rfl, hys, hall.mono fun _ _ z => z.pf, fun v w hv hw => ?_⟩
    rw [← hF.none hv hw]
    show (!(F.lookup (v, w)).isSome) = true ↔ F.lookup (v, w) = none
    generalize F.lookup (v, w) = o
    cases o <;> simp
abbrev N_round_of : List Str := ["first", "v", "second", "w"]
theorem sc_round_of : FnScope N_round_of ["first", "v", "second", "w"] (defScope s_round_of) := ⟨rfl, rfl, rfl, by decide +kernel, rfl, by decide +kernel, by decide +kernel⟩
theorem ok_round_of {f : Addr} {fd : FuncData} (F : Fun K "round_of" "round_of" s_round_of f fd) (T : Tx K mg CM CR aF) (c_rinit : Mak P w K mg base CR 4 "Rounds" ["self", "first", "second"] (spRinit K CM CR)) :
    FnOk P w K mg base CX0 6 f fd ["first", "v", "second", "w"] (spRound K CM) := by
  refine F.ok sc_round_of (fun vs H Q E h => ?_) (fun cdv A outer s H vs Q E hr h => ?_)
  · obtain ⟨_, _, _, _, _, _, rfl, _⟩ := h
    rfl
  · obtain ⟨a, b, M, N, v, w, rfl, hM, hN, hv, hw, k⟩ := h
    have hu := hu_of hr
    refine ⟨_, (pss_one (ps_ret (pe_dget2 hu (pe_fld (pe_mak c_rinit (hr.mono (by omega)) rfl (pa_cons (pv 0) (pa_cons (pv 2) pa_nil))) rfl) (pe_tup (pa_cons (pv 1) (pa_cons (pv 3) pa_nil))) (pe_un un_neg pe_int) ⟨rfl, rfl, rfl, rfl⟩))), ?_⟩
    refine ⟨_, rfl, _, rfl, fun r dx0 hx0 hdx0 hne0 => mk_rounds hM hN hx0 hdx0 fun H1 F e1 hR hF => ⟨rfl, ?_⟩⟩
    obtain ⟨dx, a', b', d, h1, _, _, hd⟩ := hR.ex
    refine ⟨r, CR, dx, _, _, rfl, h1, T.cR, T.r_found, rF_found, d, rfl, Or.inr ⟨_, Or.inl hd⟩, _, rfl, _, rfl, (by show 2 ≤ sizeLine; decide), fun q hq => ?_⟩
    have e2 := Ex.new (o := HO.tup [nV v, nV w]) hq
    refine ⟨_, rfl, _, DGet.t (k := kP (v, w)) (e2 _ _ hd) upd_same, k _ _ (e1.trans e2) ?_⟩
    rw [valV_tb]
    have hs := fun n => hF.some (v := v) (w := w) (r := n)
    have hn := hF.none hv hw
    cases z : F.lookup (v, w) with
    | none => exact Or.inr ⟨hn.mp z, rfl⟩
    | some n => exact Or.inl ⟨n, ((hs n).mp z).2.2, rfl⟩
abbrev N_class_of : List Str := ["model", "alike", "leasts", "u", "w", "v", "order", "least"]
theorem sc_class_of : FnScope N_class_of ["model"] (defScope s_class_of) := ⟨rfl, rfl, rfl, by decide +kernel, rfl, by decide +kernel, by decide +kernel⟩
abbrev sv3 : Scope := relS (compS (valS (stAt (defBody s_class_of) 1))) (defScope s_class_of)
theorem ok_class_of {f : Addr} {fd : FuncData} (F : Fun K "class_of" "class_of" s_class_of f fd) (T : Tx K mg CM CR aF) (c_frame : Mth P w K mg base CM 1 "frame" ["self"] (spFrame K CM)) (c_greatest : Cal P w K mg base CX0 6 "greatest_bisimulation" ["first", "second"] (spGreatest K CM)) :
    FnOk P w K mg base CX0 7 f fd ["model"] (spClass K CM) := by
  refine F.ok sc_class_of (fun vs H Q E h => ?_) (fun cdv A outer s H vs Q E hr h => ?_)
  · obtain ⟨_, _, rfl, _⟩ := h
    rfl
  · obtain ⟨p, B, rfl, hB, k⟩ := h
    have hu := hu_of hr
    refine ⟨_, (pss_cons (ps_set (i := 1) sc_class_of.nd rfl (Or.inr rfl) (pe_own c_greatest (hr.mono (by omega)) rfl (pa_cons (pv 0) (pa_cons (pv 0) pa_nil))))
      (pss_cons (ps_setLc (i := 2) (own := [("v", 5)]) (g := gName 5) rfl sc_class_of.nd rfl rfl (sw_true rfl rfl rfl (by decide +kernel)) (pi_range1 rfl T.n_range (pa_cons (pe_ix ix_tup (pe_mth0 c_frame T.cM (hr.mono (by omega)) (pv 0)) pe_int (fun _ _ => rfl)) pa_nil)) (blkOk_by (own := [("v", 5)]) (N := N_class_of) (sc := defScope s_class_of) (by decide +kernel)) (fun _ _ _ _ _ => (pg_name (i := 5) sc_class_of.nd rfl (Or.inr rfl))) (fun _ _ _ _ _ => pts_nil) (fun _ _ _ _ _ => (pe_callB (k_min (K := K) rfl rfl) rfl T.n_min (by decide +kernel) (pa_cons (pe_lc (own := [("u", 3), ("w", 4)]) (g := gTup K 2 (gCons (gName 3) (gCons (gName 4) (gNil)))) rfl sc_class_of.nd (k_pil (K := K) rfl (pv 1)) (blkOk_by (own := [("u", 3), ("w", 4)]) (N := N_class_of) (sc := sv3) (by decide +kernel)) (fun _ _ _ _ _ => (k_pgt (K := K) rfl rfl (pgs_cons (pg_name (i := 3) sc_class_of.nd rfl (Or.inl rfl)) (pgs_cons (pg_name (i := 4) sc_class_of.nd rfl (Or.inl rfl)) pgs_nil)))) (fun _ _ _ _ _ => (pts_one (pt_cmpR op_eq (pv 3) (pv 5) (nomark _)))) (fun _ _ _ _ _ => (pv 4))) pa_nil))))
      (pss_cons (ps_set (i := 6) sc_class_of.nd rfl (Or.inr rfl) (pe_callB (cr_sortedSet rfl) rfl T.n_sorted (by decide +kernel) (pa_cons (pe_callTy (cr_setI rfl) rfl T.n_set (by decide +kernel) (pa_cons (pv 2) pa_nil)) pa_nil)))
      (pss_one (ps_ret (pe_lc (own := [("least", 7)]) (g := gName 7) rfl sc_class_of.nd (pi_list (pv 2)) (blkOk_by (own := [("least", 7)]) (N := N_class_of) (sc := defScope s_class_of) (by decide +kernel)) (fun _ _ _ _ _ => (pg_name (i := 7) sc_class_of.nd rfl (Or.inl rfl))) (fun _ _ _ _ _ => pts_nil) (fun _ _ _ _ _ => (k_bm (K := K) rfl PySem.F.plainAttrs_list PySem.F.slot_list_index PySem.F.type_list_index (k_index (K := K) rfl) (pv 6) (pa_cons (pv 7) pa_nil))))))))), ?_⟩
    obtain ⟨⟨dxp, _, _, _, _, _, p1, _⟩, okB⟩ := id hB
    have b7 := okB.n7
    have mno : ∀ {fa sa va : Addr}, (mF fa sa va).lookup ("frame" : Str) = none := fun {_ _ _} => mF_no (by decide +kernel) (by decide +kernel) (by decide +kernel)
    refine ⟨_, rfl, _, rfl, p, p, B, B, rfl, hB, hB, fun u H1 e1 ⟨al, ys, g, hu1, hal, hys, hg⟩ => ?_⟩
    subst hu1
    refine ⟨_, rfl, p, dxp, _, rfl, e1 _ _ p1, mno, p, B, rfl, hB.mono e1, fun u H2 e2 ⟨fa, hu2, pa, ts, f1, _⟩ => ?_⟩
    subst hu2
    have e12 := e1.trans e2
    have g49 := grid49 b7 b7
    have yl : ys.length ≤ 49 := by
      have h1 := List.length_filter_le (fun p : Nat × Nat => g p.1 p.2) (grid B.n B.n)
      rw [grid_len] at h1
      rw [hys.1]
      omega
    refine ⟨fa, _, 0, _, rfl, rfl, f1, rfl, B.n, rfl, by omega, by omega, fun D hD => ?_⟩
    refine (Wk.range B.n).fl (List.range B.n) List.length_range (fun _ => true) (fun v => nV (least B v)) hD (by omega) trivial (fun _ _ _ _ => trivial) ?_ ?_
    · rintro i v x H3 yes no hv e3 hx ky kn
      have hvi : i = v := by
        have h1 := lt_of_some hv
        rw [List.length_range] at h1
        rw [List.getElem?_range h1] at hv
        exact Option.some.inj hv
      subst hvi
      rw [show x = nV i from hx]
      have hvn : i < B.n := by have h1 := lt_of_some hv; rw [List.length_range] at h1; exact h1
      have e23 := e2.trans e3
      refine ⟨rfl, iteT (B := no H3) ⟨_, rfl, al, rfl, ⟨_, sq_of (e23 _ _ hal)⟩, fun D2 hD2 => ?_⟩⟩
      refine (Wk.list al ys).fl (ys.zip ((grid B.n B.n).filter fun p => g p.1 p.2)) (by rw [List.length_zip, hys.1, Nat.min_self]) (fun e => decide (e.2.1 = i)) (fun e => nV e.2.2) hD2 (by omega) (sq_of (e23 _ _ hal)) (fun _ _ e b => ex_l e b) ?_ ?_
      · rintro j ⟨y, a, b⟩ z H4 yes2 no2 he e4 hz ky2 kn2
        obtain ⟨hy, hgr⟩ := List.getElem?_zip_eq_some.mp he
        simp only at hy hgr
        rw [hz] at hy
        have hy := Option.some.inj hy
        subst hy
        obtain ⟨t, hzt, ht⟩ := hys.2 j _ _ hz hgr
        simp only at hzt ht
        subst hzt
        refine ⟨t, _, rfl, st_of ((e23.trans e4) _ _ ht), rfl, _, _, rfl, _, _, rfl, rfl, rfl, _, rfl, _, rfl, rfl, _, rfl, ?_⟩
        have hc : decide (nV a = nV i) = decide (a = i) := by
          refine decide_eq_decide.mpr ⟨fun h => ?_, fun h => by rw [h]⟩
          injection h with h
          omega
        rw [hc]
        exact ite2 (fun q => ⟨_, rfl, ky2 q _ (Ex.refl _)⟩) (fun q => kn2 (by simpa using q) _ (Ex.refl _))
      · intro H4 e4 hz
        have hmem : ∀ m : Int, m ∈ (toI (((ys.zip ((grid B.n B.n).filter fun p => g p.1 p.2)).filter fun e => decide (e.2.1 = i)).map fun e => e.2.2)) ↔ ∃ c : Nat, m = (c : Int) ∧ c < B.n ∧ ¬ Told B B i c := fun m => by
          unfold toI
          rw [List.mem_map]
          constructor
          · rintro ⟨c, hc, rfl⟩
            obtain ⟨⟨y, a, b⟩, h1, rfl⟩ := List.mem_map.mp hc
            obtain ⟨h2, h3⟩ := List.mem_filter.mp h1
            have h3 : a = i := of_decide_eq_true h3
            subst h3
            obtain ⟨h4, h5⟩ := List.mem_filter.mp (List.of_mem_zip h2).2
            obtain ⟨h6, h7⟩ := mem_grid.mp h4
            exact ⟨b, rfl, h7, (hg a b h6 h7).mp h5⟩
          · rintro ⟨c, rfl, h1, h2⟩
            have h3 : (i, c) ∈ (grid B.n B.n).filter fun p => g p.1 p.2 := List.mem_filter.mpr ⟨mem_grid.mpr ⟨hvn, h1⟩, (hg i c hvn h1).mpr h2⟩
            obtain ⟨j, hj⟩ := List.getElem?_of_mem h3
            obtain ⟨y, hy, _⟩ := hys.at' hj
            exact ⟨c, List.mem_map.mpr ⟨(y, i, c), List.mem_filter.mpr ⟨List.mem_of_getElem? (List.getElem?_zip_eq_some.mpr ⟨hy, hj⟩), decide_eq_true rfl⟩, rfl⟩, rfl⟩
        have hz' : H4 D2 = some (.lst ((toI (((ys.zip ((grid B.n B.n).filter fun p => g p.1 p.2)).filter fun e => decide (e.2.1 = i)).map fun e => e.2.2)).map V.int)) := by
          rw [hz, ← nV_map, List.map_map]
          rfl
        obtain ⟨l1, l2, l3⟩ := least_ok hvn
        refine ⟨D2, _, rfl, sq_of hz', ?_, fun m hm hle => ?_⟩
        · exact List.length_pos_of_mem ((hmem (least B i : Int)).mpr ⟨least B i, rfl, l1, l2⟩)
        · obtain ⟨c, rfl, h1, h2⟩ := (hmem m).mp hm
          have h3 := hle _ ((hmem (least B i : Int)).mpr ⟨least B i, rfl, l1, l2⟩)
          have h4 := l3 c h1 h2
          have : c = least B i := by omega
          subst this
          exact ky rfl _ e4
    intro H3 e3 hls
    rw [filter_id] at hls
    have hls' : H3 D = some (.lst ((toI ((List.range B.n).map (least B))).map V.int)) := by
      rw [hls, ← nV_map, List.map_map]
      rfl
    have e13 := e12.trans e3
    refine ⟨_, rfl, D, toI ((List.range B.n).map (least B)), rfl, sq_of hls', by unfold toI; rw [List.length_map, List.length_map, List.length_range]; omega, fun r cc hr1 hcc => ?_⟩
    have lt : (toI ((List.range B.n).map (least B))).length = B.n := by unfold toI; rw [List.length_map, List.length_map, List.length_range]
    refine ⟨r, _, cc, rfl, upd_same, by omega, fun ns r2 hasc hmem hlen2 hr2 => ?_⟩
    have e4 : Ex H3 (upd (upd H3 r (SetO w r (fun j => decide (j ∈ toI ((List.range B.n).map (least B)))) cc)) r2 (.lst (ns.map V.int))) := (Ex.new hr1).trans (Ex.new hr2)
    have hmem2 : ∀ m : Int, m ∈ ns ↔ ∃ v, v < B.n ∧ m = (least B v : Int) := fun m => by
      rw [hmem, decide_eq_true_eq]
      unfold toI
      rw [List.mem_map]
      constructor
      · rintro ⟨c, hc, rfl⟩
        obtain ⟨v, hv, rfl⟩ := List.mem_map.mp hc
        exact ⟨v, List.mem_range.mp hv, rfl⟩
      · rintro ⟨v, hv, rfl⟩
        exact ⟨_, List.mem_map.mpr ⟨v, List.mem_range.mpr hv, rfl⟩, rfl⟩
    have nn : ns = toI (order B) := by
      refine asc_uniq (lt := fun a b : Int => a < b) (fun a => Int.lt_irrefl a) (fun a b h k => by omega) hasc ?_ fun x => ?_
      · unfold toI
        rw [List.pairwise_map]
        exact order_asc.imp fun h => by omega
      · rw [hmem2]
        unfold toI
        rw [List.mem_map]
        constructor
        · rintro ⟨v, hv, rfl⟩
          exact ⟨least B v, mem_order.mpr ⟨v, hv, rfl⟩, rfl⟩
        · rintro ⟨c, hc, rfl⟩
          obtain ⟨v, hv, rfl⟩ := mem_order.mp hc
          exact ⟨v, hv, rfl⟩
    have hr2' : upd (upd H3 r (SetO w r (fun j => decide (j ∈ toI ((List.range B.n).map (least B)))) cc)) r2 (.lst (ns.map V.int)) r2 = some (.lst ((order B).map nV)) := by
      rw [upd_same, nn, nV_map]
    refine ⟨_, rfl, D, rfl, ⟨_, sq_of (e4 _ _ hls)⟩, fun D5 hD5 => ?_⟩
    refine (Wk.list D ((List.range B.n).map fun v => nV (least B v))).fl (List.range B.n) (by rw [List.length_map]) (fun _ => true) (fun v => nV (num B v)) hD5 (by rw [List.length_map, List.length_range]; omega) (sq_of (e4 _ _ hls)) (fun _ _ e b => ex_l e b) ?_ ?_
    · rintro i v x H5 yes no hv e5 hx ky kn
      have hvi : i = v ∧ i < B.n := by
        have h1 := lt_of_some hv
        rw [List.length_range] at h1
        rw [List.getElem?_range h1] at hv
        exact ⟨Option.some.inj hv, h1⟩
      obtain ⟨rfl, hvn⟩ := hvi
      have hx' : x = nV (least B i) := by
        rw [List.getElem?_map, hv] at hx
        exact (Option.some.inj hx).symm
      subst hx'
      refine ⟨rfl, iteT (B := no H5) ⟨_, rfl, Or.inl ⟨rfl, _, sq_of (e5 _ _ hr2')⟩, _, rfl, r2, (order B).map nV, nV (least B i), num B i, nV (least B i), rfl, rfl, sq_of (e5 _ _ hr2'), rfl, flat_nats _, ?_, ?_, fun m z' hm hz' => ?_, ky rfl _ (Ex.refl _)⟩⟩
      · rw [List.getElem?_map, num_at hvn]
        rfl
      · rw [nV_eqV]
        exact decide_eq_true rfl
      · obtain ⟨c, hc, rfl⟩ := getD_nV hz'
        rw [nV_eqV]
        exact decide_eq_false (num_ix hm hvn rfl hc)
    · intro H5 e5 hz
      rw [filter_id] at hz
      exact k _ _ ((e13.trans e4).trans e5) ⟨D5, rfl, hz⟩
end
end Q
/-! smallest -/
namespace Q
open PySem PySem.Spec PyProof.Rows L2 Evl Rl Bi
def spSmallest (K : PySem.W.Frag) (C : Addr) : Sp := fun vs H Q _ => ∃ (p : Addr) (B : Mo Str), vs = [.ref p] ∧ MdAt K C H p B ∧ Ret H (fun u H' => ∃ q Z, u = .ref q ∧ MdAt K C H' q Z ∧ IsQuot B Z (num B) ∧ ∀ v, v < B.n → num B v < Z.n) Q
noncomputable def numP (B : Mo Str) (p : Nat × Nat) : Nat × Nat := (num B p.1, num B p.2)
noncomputable def psQ (B : Mo Str) : List (Nat × Nat) := (grid B.n B.n).filter fun c => decide (c ∈ B.ps.map (numP B))
theorem psQ_asc {B : Mo Str} : (psQ B).Pairwise plt := (grid_asc _ _).filter _
theorem mem_psQ {B : Mo Str} (i : ∀ p, p ∈ B.ps → p.1 < B.n ∧ p.2 < B.n) {c : Nat × Nat} : c ∈ psQ B ↔ ∃ p, p ∈ B.ps ∧ c = numP B p := by
  unfold psQ
  rw [List.mem_filter, decide_eq_true_eq, List.mem_map]
  constructor
  · rintro ⟨_, p, h, e⟩
    exact ⟨p, h, e.symm⟩
  · rintro ⟨p, h, rfl⟩
    obtain ⟨h1, h2⟩ := i p h
    exact ⟨mem_grid.mpr ⟨num_lt h1, num_lt h2⟩, p, h, rfl⟩
theorem num_ls {B : Mo Str} {v : Nat} (hv : v < B.n) : atI ((List.range B.n).map fun v => nV (num B v)) (v : Int) = some (nV (num B v)) :=
  atI_nat (j := v) (by rw [List.getElem?_map, List.getElem?_range hv]; rfl)
section
variable {P : Program} {w : World} {K : PySem.W.Frag} {mg : Str → Option Value} {base : Heap} {CM CR aF : Addr}
abbrev N_smallest : List Str := ["model", "number", "pairs", "v", "w", "values", "kept", "name"]
theorem sc_smallest : FnScope N_smallest ["model"] (defScope s_smallest) := ⟨rfl, rfl, rfl, by decide +kernel, rfl, by decide +kernel, by decide +kernel⟩
abbrev sv4 : Scope := relS (compS (valS (stAt (defBody s_smallest) 3))) (defScope s_smallest)
theorem ok_smallest {f : Addr} {fd : FuncData} (F : Fun K "smallest" "smallest" s_smallest f fd) (T : Tx K mg CM CR aF) (c_frame : Mth P w K mg base CM 1 "frame" ["self"] (spFrame K CM)) (c_true_worlds : Mth P w K mg base CM 1 "true_worlds" ["self"] (spTw K CM))
    (c_class_of : Cal P w K mg base CX0 7 "class_of" ["model"] (spClass K CM)) (c_minit : Mak P w K mg base CM 3 "Model" ["self", "frame", "values"] (spMinit K CM)) : FnOk P w K mg base CX0 8 f fd ["model"] (spSmallest K CM) := by
  refine F.ok sc_smallest (fun vs H Q E h => ?_) (fun cdv A outer s H vs Q E hr h => ?_)
  · obtain ⟨_, _, rfl, _⟩ := h
    rfl
  · obtain ⟨p, B, rfl, hB, k⟩ := h
    have hu := hu_of hr
    refine ⟨_, (pss_cons (ps_set (i := 1) sc_smallest.nd rfl (Or.inr rfl) (pe_own c_class_of (hr.mono (by omega)) rfl (pa_cons (pv 0) pa_nil)))
      (pss_cons (ps_set (i := 2) sc_smallest.nd rfl (Or.inl rfl) (pe_callB (cr_sortedT rfl) rfl T.n_sorted (by decide +kernel) (pa_cons (pe_scT hr.units (own := [("v", 3), ("w", 4)]) (g := gTup K 2 (gCons (gName 3) (gCons (gName 4) (gNil)))) rfl sc_smallest.nd (pi_tup (pe_ix ix_tup (pe_mth0 c_frame T.cM (hr.mono (by omega)) (pv 0)) pe_int (fun _ _ => rfl))) (blkOk_by (own := [("v", 3), ("w", 4)]) (N := N_smallest) (sc := defScope s_smallest) (by decide +kernel)) (fun _ _ _ _ _ => (k_pgt (K := K) rfl rfl (pgs_cons (pg_name (i := 3) sc_smallest.nd rfl (Or.inl rfl)) (pgs_cons (pg_name (i := 4) sc_smallest.nd rfl (Or.inl rfl)) pgs_nil)))) (fun _ _ _ _ _ => pts_nil) (fun _ _ _ _ _ => (pe_tup (pa_cons (pe_ix (k_ixl (K := K) rfl) (pv 1) (pv 3) (fun _ _ => rfl)) (pa_cons (pe_ix (k_ixl (K := K) rfl) (pv 1) (pv 4) (fun _ _ => rfl)) pa_nil))))) pa_nil)))
      (pss_cons (ps_set (i := 5) sc_smallest.nd rfl (Or.inr rfl) (pe_mth0 c_true_worlds T.cM (hr.mono (by omega)) (pv 0)))
      (pss_cons (ps_lock (ps_setDcK (i := 6) (own := [("name", 7)]) (g := gName 7) rfl sc_smallest.nd rfl rfl (sw_dict rfl rfl rfl (by decide +kernel)) (pi_keys (pv 5)) (blkOk_by (own := [("name", 7)]) (N := N_smallest) (sc := defScope s_smallest) (by decide +kernel)) (fun _ _ _ _ _ => (pg_name (i := 7) sc_smallest.nd rfl (Or.inl rfl))) (fun _ _ _ _ _ => pts_nil) (fun _ _ _ _ _ => (pv 7)) (fun _ _ _ _ _ => (pe_lc (own := [("v", 3)]) (g := gName 3) rfl sc_smallest.nd (k_pil (K := K) rfl (pe_dget hu (pv 5) (pv 7) (fun _ _ => rfl))) (blkOk_by (own := [("v", 3)]) (N := N_smallest) (sc := sv4) (by decide +kernel)) (fun _ _ _ _ _ => (pg_name (i := 3) sc_smallest.nd rfl (Or.inl rfl))) (fun _ _ _ _ _ => pts_nil) (fun _ _ _ _ _ => (pe_ix (k_ixl (K := K) rfl) (pv 1) (pv 3) (fun _ _ => rfl)))))))
      (pss_one (ps_ret (pe_mak c_minit (hr.mono (by omega)) rfl (pa_cons (pe_tup (pa_cons (pe_op op_add (pe_callB (cr_max rfl) rfl T.n_max (by decide +kernel) (pa_cons (pv 1) pa_nil)) pe_int) (pa_cons (pe_callTy call_tuple_of rfl T.n_tuple boot_tuple (pa_cons (pv 2) pa_nil)) pa_nil))) (pa_cons (pv 6) pa_nil))))))))), ?_⟩
    obtain ⟨⟨dxp, _, _, _, _, _, p1, _⟩, okB⟩ := id hB
    have b7 := okB.n7
    have b1 := okB.n1
    have g49 := grid49 b7 b7
    have mno : ∀ {fa sa va : Addr}, (mF fa sa va).lookup ("frame" : Str) = none := fun {_ _ _} => mF_no (by decide +kernel) (by decide +kernel) (by decide +kernel)
    have mtw : ∀ {fa sa va : Addr}, (mF fa sa va).lookup ("true_worlds" : Str) = none := fun {_ _ _} => mF_no (by decide +kernel) (by decide +kernel) (by decide +kernel)
    refine ⟨_, rfl, p, B, rfl, hB, fun u H1 e1 ⟨nl, hu1, hnl⟩ => ?_⟩
    subst hu1
    refine ⟨_, rfl, p, dxp, _, rfl, e1 _ _ p1, mno, p, B, rfl, hB.mono e1, fun u H2 e2 ⟨fa, hu2, pa, ts, f1, f2, f3⟩ => ?_⟩
    subst hu2
    have e12 := e1.trans e2
    have ps49 : ts.length ≤ 49 := by
      have := ps_len okB.asc okB.rng
      rw [f3.1]
      omega
    refine ⟨fa, _, 1, _, rfl, rfl, f1, rfl, pa, rfl, ⟨_, f2⟩, fun D hD => ?_⟩
    refine (Wk.tup pa ts).comp (fun i H => Ex H2 H ∧ ∃ L : List (Addr × List Int), H D = some (SetTO P w D L) ∧ L.length ≤ i ∧ (∀ q, q ∈ L → q.1 ≠ D ∧ H q.1 = some (.tup (q.2.map V.int))) ∧ ∀ u, u ∈ L.map (·.2) ↔ ∃ pr, pr ∈ B.ps.take i ∧ u = pl (numP B pr))
      ⟨Ex.new hD, [], upd_same, Nat.le_refl _, fun q h => (nomatch h), fun u => ⟨fun h => (nomatch h), fun ⟨_, h, _⟩ => by simp at h⟩⟩ (fun _ _ _ z => ex_t z.1 f2) ?_ ?_
    · rintro i x H3 hi hx ⟨e3, L, hL, hLl, hLt, hLm⟩
      obtain ⟨⟨a, b⟩, hab, t, rfl, ht⟩ := f3.at hx
      obtain ⟨ra, rb⟩ := okB.rng _ (List.mem_of_getElem? hab)
      simp only at ra rb
      have nl3 : SqL K H3 nl ((List.range B.n).map fun v => nV (num B v)) := sq_of ((e2.trans e3) _ _ hnl)
      refine ⟨t, _, rfl, ex_t e3 ht, rfl, _, _, rfl, _, _, rfl, rfl, rfl, ?_⟩
      refine ⟨_, rfl, _, rfl, nl, _, _, _, rfl, rfl, nl3, num_ls ra, _, rfl, _, rfl, nl, _, _, _, rfl, rfl, nl3, num_ls rb, (by show 2 ≤ sizeLine; decide), fun q hq => ?_⟩
      have e4 : Ex H3 (upd H3 q (.tup [nV (num B a), nV (num B b)])) := Ex.new hq
      have nqD : q ≠ D := fun z => by rw [z, hL] at hq; cases hq
      refine ⟨q, pl (numP B (a, b)), L, rfl, st_of upd_same, e4 _ _ hL, fun q' hq' => st_of (e4 _ _ (hLt q' hq').2), by omega, fun L' h1 h2 => ?_⟩
      refine ⟨fun c o z => ?_, L', upd_same, ?_⟩
      · rw [upd_ne (ne_of_none z hD)]
        exact e4 _ _ (e3 _ _ z)
      have tk : ∀ u, (∃ pr, pr ∈ B.ps.take (i + 1) ∧ u = pl (numP B pr)) ↔ (∃ pr, pr ∈ B.ps.take i ∧ u = pl (numP B pr)) ∨ u = pl (numP B (a, b)) := fun u => by
        rw [take_snoc hab]
        constructor
        · rintro ⟨pr, hm, e⟩
          rcases List.mem_append.mp hm with hm | hm
          · exact Or.inl ⟨pr, hm, e⟩
          · rw [List.mem_singleton.mp hm] at e
            exact Or.inr e
        · rintro (⟨pr, hm, e⟩ | e)
          · exact ⟨pr, List.mem_append_left _ hm, e⟩
          · exact ⟨_, List.mem_append_right _ List.mem_cons_self, e⟩
      by_cases c : pl (numP B (a, b)) ∈ L.map (·.2)
      · rw [h1 c]
        refine ⟨by omega, fun q' hq' => ⟨(hLt q' hq').1, by rw [upd_ne (hLt q' hq').1]; exact e4 _ _ (hLt q' hq').2⟩, fun u => ?_⟩
        rw [tk, hLm]
        constructor
        · exact Or.inl
        · rintro (z | z)
          · exact z
          · rw [z]
            exact (hLm _).mp c
      · have pm := h2 c
        refine ⟨by rw [pm.length_eq, List.length_cons]; omega, fun q' hq' => ?_, fun u => ?_⟩
        · rcases List.mem_cons.mp (pm.mem_iff.mp hq') with z | z
          · rw [z]
            exact ⟨nqD, by rw [upd_ne nqD]; exact upd_same⟩
          · exact ⟨(hLt q' z).1, by rw [upd_ne (hLt q' z).1]; exact e4 _ _ (hLt q' z).2⟩
        · rw [tk, (pm.map _).mem_iff, List.map_cons, List.mem_cons, hLm]
          exact ⟨fun z => z.symm, fun z => z.symm⟩
    rintro H3 ⟨e3, L, hL, hLl, hLt, hLm⟩
    rw [f3.1, List.take_length] at hLm
    have pq64 : ∀ c, c ∈ psQ B → c.1 < 64 ∧ c.2 < 64 := fun c hc => by
      obtain ⟨pr, h1, rfl⟩ := (mem_psQ okB.rng).mp hc
      obtain ⟨h2, h3⟩ := okB.rng pr h1
      have h4 := num_lt h2
      have h5 := num_lt h3
      show num B pr.1 < 64 ∧ num B pr.2 < 64
      omega
    refine ⟨D, L, 2, 64, rfl, hL, fun q hq => st_of (hLt q hq).2, by decide, fun q hq => ?_, fun L' q2 pm nd _ pw hq2 => ?_⟩
    · obtain ⟨pr, h1, e⟩ := (hLm q.2).mp (List.mem_map.mpr ⟨q, hq, rfl⟩)
      rw [e]
      exact pl_bd (pq64 _ ((mem_psQ okB.rng).mpr ⟨pr, h1, rfl⟩))
    have es' : L'.map (·.2) = (psQ B).map pl := by
      refine sorted_prs psQ_asc pq64 nd (List.pairwise_map.mpr pw) fun u => ?_
      rw [(pm.map _).mem_iff, hLm]
      constructor
      · rintro ⟨pr, h, e⟩
        exact ⟨numP B pr, (mem_psQ okB.rng).mpr ⟨pr, h, rfl⟩, e⟩
      · rintro ⟨c, h, e⟩
        obtain ⟨pr, h1, rfl⟩ := (mem_psQ okB.rng).mp h
        exact ⟨pr, h1, e⟩
    have e4 : Ex H3 (upd H3 q2 (.lst (L'.map fun q => V.ref q.1))) := Ex.new hq2
    have hprs : All2 (PrAt K (upd H3 q2 (.lst (L'.map fun q => V.ref q.1)))) (L'.map fun q => V.ref q.1) (psQ B) := prs_join es' fun q hq => st_of (e4 _ _ (hLt q (pm.mem_iff.mp hq)).2)
    have hq2' : upd H3 q2 (.lst (L'.map fun q => V.ref q.1)) q2 = some (.lst (L'.map fun q => V.ref q.1)) := upd_same
    generalize upd H3 q2 (.lst (L'.map fun q => V.ref q.1)) = H4 at e4 hprs hq2' ⊢
    have eA : Ex H H4 := e12.trans (e3.trans e4)
    have hnl4 := (e2.trans (e3.trans e4)) _ _ hnl
    clear hL hLt hLm f2 f3
    -- the values
    refine ⟨_, rfl, p, dxp, _, rfl, eA _ _ p1, mtw, p, B, rfl, hB.mono eA, fun d1 H5 kvs e5 hd1 hks hkv => ?_⟩
    have ndk := kv_nodup (K := K) (KfAt.kvs hkv) okB.nd
    refine ⟨d1, _, hks, trivial, fun od => ?_⟩
    refine ⟨_, rfl, d1, od, rfl, Or.inl ⟨kvs, upd_same, fun D2 hD2 => ?_⟩⟩
    have n2 : D2 ≠ d1 := fun z => by rw [z, upd_same] at hD2; cases hD2
    have hD25 : H5 D2 = none := by rw [upd_ne n2] at hD2; exact hD2
    have rawl : (B.vs.map fun e => (e.1, e.2.map (num B))).length = B.vs.length := List.length_map _
    have rawn : (B.vs.map fun e => (e.1, e.2.map (num B))).map (·.1) = B.vs.map (·.1) := by rw [List.map_map]; rfl
    refine Wk.comp (Wk.keys d1 od kvs) (fun i H6 => H6 d1 = some (.frz od (.dK kvs)) ∧ Sb d1 H5 H6 ∧ ∃ es, H6 D2 = some (.dK es) ∧ All2 (KfAt H6) es ((B.vs.map fun e => (e.1, e.2.map (num B))).take i))
      ⟨by rw [upd_ne n2.symm, upd_same], fun b o hb e => by rw [upd_ne (ne_of_none e hD25), upd_ne hb]; exact e, [], upd_same, All2.nil⟩ (fun i H6 _ z => z.1) ?_ ?_
    · rintro i x H6 hi ⟨key, v, hk, rfl⟩ ⟨c1, c2, es, c3, c4⟩
      obtain ⟨e, he, hq1, a2, hq3, hq4⟩ := hkv.at hk
      simp only at hq1 hq3
      subst hq1; subst hq3
      have hem := List.mem_of_getElem? he
      have hv2 : valV kvs (.inr e.1) = some (.ref a2) := valV_mem ndk (List.mem_of_getElem? hk)
      have ha2 : H6 a2 = some (.lst (e.2.map nV)) := c2 _ _ (ne_of hq4 hks (by intro z; cases z)) hq4
      have hraw : (B.vs.map fun e => (e.1, e.2.map (num B)))[i]? = some (e.1, e.2.map (num B)) := by rw [List.getElem?_map, he]; rfl
      have e7l := okB.len hem
      have nnd1 : nl ≠ d1 := ne_of_none hnl4 hd1
      have nl6 := c2 _ _ nnd1 (e5 _ _ hnl4)
      refine ⟨rfl, ⟨_, rfl, _, rfl, _, rfl, d1, _, rfl, dget_frz c1 hv2, a2, rfl, ⟨_, sq_of ha2⟩, fun D3 hD3 => ?_⟩⟩
      refine (Wk.list a2 (e.2.map nV)).fl e.2 (by rw [List.length_map]) (fun _ => true) (fun c => nV (num B c)) hD3 (by rw [List.length_map]; omega) (sq_of ha2) (fun _ _ e b => ex_l e b) ?_ ?_
      · rintro j c y H7 yes no hc e7 hy ky kn
        obtain ⟨c', hc', rfl⟩ := getD_nV hy
        rw [hc] at hc'
        have hc' := Option.some.inj hc'
        subst hc'
        have hcn : c < B.n := (okB.ls e hem).2.2 c (List.mem_of_getElem? hc)
        exact ⟨rfl, iteT (B := no H7) ⟨_, rfl, _, rfl, nl, _, _, _, rfl, rfl, sq_of (e7 _ _ nl6), num_ls hcn, ky rfl _ (Ex.refl _)⟩⟩
      intro H7 e7 hz
      rw [filter_id] at hz
      have hz' : H7 D3 = some (.lst ((e.2.map (num B)).map nV)) := by rw [hz, List.map_map]; rfl
      have c3' := e7 _ _ c3
      have nkey : valV es (.inr e.1 : Key) = none := kv_none (K := K) (KfAt.kvs c4) (by
        have := names_take (es := B.vs.map fun e => (e.1, e.2.map (num B))) (by rw [rawn]; exact okB.nd) hraw
        exact this)
      have esl : es.length ≤ 6 := by
        have h1 := c4.1
        have h2 := List.length_take (i := i) (l := B.vs.map fun e => (e.1, e.2.map (num B)))
        have h3 := okB.few
        omega
      refine ⟨es, .inr e.1, rfl, c3', small1000 (by omega), ?_⟩
      rw [putK_new _ nkey]
      have s2 : Sb D2 H7 (upd H7 D2 (.dK (es ++ [(.inr e.1, .ref D3)]))) := Sb.upd
      refine ⟨s2 _ _ n2.symm (e7 _ _ c1), fun b o hb z => s2 _ _ (ne_of_none z hD25) (e7 _ _ (c2 _ _ hb z)), _, upd_same, ?_⟩
      rw [take_snoc hraw]
      exact All2.snoc (c4.mono fun _ _ z => (z.mono e7).sb c3' noSq_dK s2) ⟨rfl, D3, rfl, s2 _ _ (ne_of c3' hz' (by intro z; cases z)).symm hz'⟩
    rintro H6 ⟨c1, c2, es, c3, c4⟩
    have kvl : kvs.length = B.vs.length := hkv.1
    rw [kvl, ← rawl, List.take_length] at c4
    refine ⟨c1, ?_⟩
    have sF : Sb d1 H6 (upd H6 d1 (.dK kvs)) := Sb.upd
    have eF : Ex H4 (upd H6 d1 (.dK kvs)) := fun b o z => by
      have n1 : b ≠ d1 := ne_of_none z hd1
      exact sF _ _ n1 (c2 _ _ n1 (e5 _ _ z))
    have f3 : upd H6 d1 (.dK kvs) D2 = some (.dK es) := by rw [upd_ne n2]; exact c3
    have f4 : All2 (KfAt (upd H6 d1 (.dK kvs))) es (B.vs.map fun e => (e.1, e.2.map (num B))) := c4.mono fun _ _ z => z.sb c1 noSq_fK sF
    generalize upd H6 d1 (.dK kvs) = HF at eF f3 f4 ⊢
    have eAF := eA.trans eF
    have hnlF : HF nl = some (.lst ((toI ((List.range B.n).map (num B))).map V.int)) := by
      rw [← nV_map, List.map_map]
      exact eF _ _ hnl4
    refine ⟨_, rfl, nl, _, rfl, sq_of hnlF, by unfold toI; rw [List.length_map, List.length_map, List.length_range]; omega, fun mm hmm hmle => ?_⟩
    have hle : ∀ v, v < B.n → (num B v : Int) ≤ mm := fun v hv => hmle _ (by unfold toI; exact List.mem_map.mpr ⟨num B v, List.mem_map.mpr ⟨v, List.mem_range.mpr hv, rfl⟩, rfl⟩)
    obtain ⟨v0, hv0, rfl⟩ : ∃ v0, v0 < B.n ∧ mm = (num B v0 : Int) := by
      unfold toI at hmm
      obtain ⟨c, hc, rfl⟩ := List.mem_map.mp hmm
      obtain ⟨v, hv, rfl⟩ := List.mem_map.mp hc
      exact ⟨v, List.mem_range.mp hv, rfl⟩
    have hle' : ∀ v, v < B.n → num B v < num B v0 + 1 := fun v hv => by have := hle v hv; omega
    have hv0n := num_lt hv0
    refine ⟨_, _, rfl, rfl, _, rfl, q2, _, rfl, Or.inl ⟨sq_of (eF _ _ hq2'), fun tp htp => ⟨(by show 2 ≤ sizeLine; decide), fun ft hft => ⟨_, rfl, fun m dm hm hdm hne => ?_⟩⟩⟩⟩
    have ep : Ex HF (upd HF tp (.tup (L'.map fun q => V.ref q.1))) := Ex.new htp
    have htpv : upd HF tp (.tup (L'.map fun q => V.ref q.1)) tp = some (.tup (L'.map fun q => V.ref q.1)) := upd_same
    generalize upd HF tp (.tup (L'.map fun q => V.ref q.1)) = HG at ep htpv hft hm hdm ⊢
    have eft : Ex HG (upd HG ft (.tup [V.int ((num B v0 : Int) + 1), .ref tp])) := Ex.new hft
    have hftv : upd HG ft (.tup [V.int ((num B v0 : Int) + 1), .ref tp]) ft = some (.tup [V.int ((num B v0 : Int) + 1), .ref tp]) := upd_same
    generalize hHH : upd HG ft (.tup [V.int ((num B v0 : Int) + 1), .ref tp]) = HH at eft hftv hm hdm ⊢
    have eI : Ex HH (upd (upd HH dm (.own m)) m (.ins CM dm [])) := fun b o z => by
      rw [upd_ne (ne_of_none z hm), upd_ne (ne_of_none z hdm)]
      exact z
    have eJ := ep.trans (eft.trans eI)
    refine ⟨m, dm, ft, D2, num B v0 + 1, psQ B, es, B.vs.map (fun e => (e.1, e.2.map (num B))), rfl, upd_same, ⟨tp, L'.map (fun q => V.ref q.1), st_of (eI _ _ hftv), st_of ((eft.trans eI) _ _ htpv), hprs.mono fun _ _ z => z.mono (eF.trans eJ)⟩, ⟨by omega, by omega, psQ_asc, ?_, ?_⟩, eJ _ _ f3,
      (KfAt.kvs f4).mono fun _ _ z => z.mono eJ, by rw [rawn]; exact okB.nd, by rw [rawl]; exact okB.few, fun e he => ?_, fun H' Z sb hn hp hval hZ => ⟨rfl, k _ _ ?_ ⟨m, Z, rfl, hZ, ⟨fun v x hv hx => num_iff hv hx, fun c d => ?_, fun x c => ?_⟩, fun v hv => by rw [hn]; exact hle' v hv⟩⟩⟩
    · intro c hc
      obtain ⟨pr, h1, rfl⟩ := (mem_psQ okB.rng).mp hc
      obtain ⟨h2, h3⟩ := okB.rng pr h1
      exact ⟨hle' _ h2, hle' _ h3⟩
    · have h1 := List.length_filter_le (fun c => decide (c ∈ B.ps.map (numP B))) (grid B.n B.n)
      rw [grid_len] at h1
      unfold psQ
      omega
    · obtain ⟨e', he', rfl⟩ := List.mem_map.mp he
      refine ⟨okB.sok e' he', by rw [List.length_map]; have := okB.len he'; omega, fun x hx => ?_⟩
      obtain ⟨c, hc, rfl⟩ := List.mem_map.mp hx
      exact hle' c ((okB.ls e' he').2.2 c hc)
    · intro b o z
      have z1 := (eAF.trans (ep.trans eft)) _ _ z
      exact sb _ _ (ne_of_none z1 hm) (eI _ _ z1)
    · rw [hp, mem_psQ okB.rng]
      constructor
      · rintro ⟨pr, h, e⟩
        injection e with h1 h2
        exact ⟨pr.1, pr.2, h, h1, h2⟩
      · rintro ⟨a, b, h, rfl, rfl⟩
        exact ⟨(a, b), h, rfl⟩
    · rw [hval]
      constructor
      · rintro ⟨l, h1, h2⟩
        obtain ⟨e', he', e2⟩ := List.mem_map.mp h1
        injection e2 with q1 q2
        subst q1; subst q2
        obtain ⟨y, hy, rfl⟩ := List.mem_map.mp h2
        exact ⟨y, ⟨e'.2, he', hy⟩, rfl⟩
      · rintro ⟨v, ⟨l, h1, h2⟩, rfl⟩
        exact ⟨l.map (num B), List.mem_map.mpr ⟨(x, l), h1, rfl⟩, List.mem_map.mpr ⟨v, h2, rfl⟩⟩
end
end Q
/-! telling: it may raise NotTold -/
namespace Q
open PySem PySem.Spec PyProof.Rows L2 Evl Rl Bi
/-- what the top has written of NotTold -/
structure Nt (K : PySem.W.Frag) (mg : Str → Option Value) (CN : Addr) : Prop where
  g : mg "NotTold" = some (.ref CN)
  x : PySem.W.excIn K CN [.type "ValueError", .type "Exception", .type "BaseException", .type "object"] "ValueError.__new__" = true
  k : PySem.W.keepIn K (.ref CN) = true
  b : PySem.W.subIn K (.ref CN) (.type "BaseException") = some true
  t : PySem.W.typeIn K (.ref CN) = some (.type "type")
  e : PySem.W.exmOne K (.ref CN) (.ref CN) = some true
def spTelling (K : PySem.W.Frag) (C CN : Addr) (h : Nat) : Sp := fun vs H Q E => ∃ (a b : Addr) (M N : Mo Str) (v w : Nat), vs = [.ref a, nV v, .ref b, nV w] ∧ MdAt K C H a M ∧ MdAt K C H b N ∧ M.n ≤ 4 ∧ N.n ≤ 4 ∧ M.n * N.n < h ∧ v < M.n ∧ w < N.n ∧
  (∀ r, R M N v w r → r ≤ M.n * N.n → Ret H (fun u H' => ∃ φ, FmAt K H' φ u ∧ Tells M N v w r φ) Q) ∧ (¬ Told M N v w → ∀ H', Ex H H' → E (.ref CN) none H')
section
variable {P : Program} {w : World} {K : PySem.W.Frag} {mg : Str → Option Value} {base : Heap} {CM CR CN aF : Addr}
abbrev N_telling : List Str := ["first", "v", "second", "w", "rounds"]
theorem sc_telling : FnScope N_telling ["first", "v", "second", "w"] (defScope s_telling) := ⟨rfl, rfl, rfl, by decide +kernel, rfl, by decide +kernel, by decide +kernel⟩
theorem ok_telling {f : Addr} {fd : FuncData} (F : Fun K "telling" "telling" s_telling f fd) (T : Tx K mg CM CR aF) (N : Nt K mg CN) (h : Nat) (c_rinit : Mak P w K mg base CR 4 "Rounds" ["self", "first", "second"] (spRinit K CM CR))
    (c_formula : Mth P w K mg base CR (h + 7) "formula" ["self", "pair"] (spForm K CM CR h)) : FnOk P w K mg base (L2.CX P w) (h + 8) f fd ["first", "v", "second", "w"] (spTelling K CM CN h) := by
  refine F.okX sc_telling (fun vs H Q E h => ?_) (fun cdv A outer s H vs Q E hr hh => ?_)
  · obtain ⟨_, _, _, _, _, _, rfl, _⟩ := h
    rfl
  · obtain ⟨a, b, M, N', v, w', rfl, hM, hN, hM4, hN4, hmn, hv, hw, kY, kN⟩ := hh
    have hu := hu_of hr
    refine ⟨_, (pss_cons (ps_set (i := 4) sc_telling.nd rfl (Or.inl rfl) (pe_mak c_rinit (hr.mono (by omega)) rfl (pa_cons (pv 0) (pa_cons (pv 2) pa_nil))))
      (pss_cons (ps_if (pt_cmp (pc_dnotin hu (pe_tup (pa_cons (pv 1) (pa_cons (pv 3) pa_nil))) (pe_fld (pv 4) rfl)))
      (pss_one (ps_raise rfl (takes_of rfl rfl rfl rfl) (pmk_own PySem.F.excBase_ValueError N.x N.g N.k (raises_own N.b N.t) (by exact rfl))))
      pss_nil)
      (pss_one (ps_ret (pe_mth c_formula T.cR (hr.mono (by omega)) (pv 4) (pa_cons (pe_tup (pa_cons (pv 1) (pa_cons (pv 3) pa_nil))) pa_nil)))))), ?_⟩
    refine ⟨_, rfl, _, rfl, fun r dx0 hx0 hdx0 hne0 => mk_rounds hM hN hx0 hdx0 fun H1 F e1 hR hF => ⟨rfl, ?_⟩⟩
    obtain ⟨dx, a', b', d, h1, _, _, hd⟩ := hR.ex
    refine ⟨_, rfl, _, rfl, (by show 2 ≤ sizeLine; decide), fun q hq => ?_⟩
    have e2 := Ex.new (o := HO.tup [nV v, nV w']) hq
    refine ⟨_, rfl, r, CR, dx, _, _, rfl, e2 _ _ h1, T.cR, T.r_found, rF_found, d, _, rfl, DGet.t (k := kP (v, w')) (e2 _ _ hd) upd_same, _, rfl, ?_⟩
    rw [isSome_tb]
    have hn := hF.none hv hw
    have hs := fun n => hF.some (v := v) (w := w') (r := n)
    cases z : F.lookup (v, w') with
    | none =>
      refine iteT ?_
      exact kN (hn.mp z) _ (e1.trans e2)
    | some n =>
      refine iteF ?_
      have hrk := ((hs n).mp z).2.2
      have hle := hF.few v w' n (lookup_mem z)
      refine ⟨_, rfl, r, dx, _, rfl, e2 _ _ h1, rF_no (by decide +kernel) (by decide +kernel) (by decide +kernel), _, rfl, _, rfl, (by show 2 ≤ sizeLine; decide), fun t2 ht2 => ?_⟩
      have e3 := Ex.new (o := HO.tup [nV v, nV w']) ht2
      exact ⟨r, .ref t2, M, N', F, v, w', n, rfl, hR.mono (e2.trans e3), hF, ⟨t2, rfl, upd_same⟩, hM4, hN4, hv, hw, hrk, by omega, fun u H4 e4 hu4 => kY n hrk hle u H4 ((e1.trans e2).trans (e3.trans e4)) hu4⟩
end
end Q
/-! The law's draws -/
namespace Q
open PySem PySem.Spec PyProof.Rows L2 Evl Rl Bi
/-- what stands behind the first statement, told once -/
theorem seq_with {t1 t2 : TS} {D : Ends} {σ : L2.St} {H : Hp} (I : L2.St → Hp → Prop) (h2 : ∀ σ H, I σ H → t2 D σ H) (h1 : ∀ N : L2.St → Hp → Prop, (∀ σ H, I σ H → N σ H) → t1 { D with nx := N } σ H) : tSeq t1 t2 D σ H := h1 _ h2
def PoolAt (H : Hp) (p l : Addr) : Prop := ∃ (ns : List Int) (i : Nat) (c d s : Int), H p = some (.lst [.ref l, nV i, .int c, .int d, .int s]) ∧ H l = some (.lst (ns.map V.int)) ∧ l ≠ p
def spPool (K : PySem.W.Frag) : Sp := fun vs H Q _ => ∃ (a : Addr) (ns : List Int), vs = [.ref a] ∧ SqL K H a (ns.map V.int) ∧ Ret H (fun u H' => ∃ p l, u = .ref p ∧ PoolAt H' p l) Q
def spSpread : Sp := fun vs H Q _ => ∃ c : Int, vs = [.int c] ∧ ∀ t : Int, Q (.int t) H
def spDraw : Sp := fun vs H Q _ => ∃ (p l : Addr) (m : Nat), vs = [.ref p, nV m] ∧ PoolAt H p l ∧ 0 < m ∧ m ≤ 4096 ∧ ∀ (n : Nat) H', Sb p H H' → PoolAt H' p l → n < m → Q (nV n) H'
theorem PoolAt.mono {H H' : Hp} {p l : Addr} (e : Ex H H') (h : PoolAt H p l) : PoolAt H' p l := by
  obtain ⟨ns, i, c, d, s, h1, h2, h3⟩ := h
  exact ⟨ns, i, c, d, s, e _ _ h1, e _ _ h2, h3⟩
theorem PoolAt.sb {H H' : Hp} {p l D : Addr} (e : Sb D H H') (n1 : p ≠ D) (n2 : l ≠ D) (h : PoolAt H p l) : PoolAt H' p l := by
  obtain ⟨ns, i, c, d, s, h1, h2, h3⟩ := h
  exact ⟨ns, i, c, d, s, e _ _ n1 h1, e _ _ n2 h2, h3⟩
theorem PoolAt.np {H : Hp} {p l D : Addr} (h : PoolAt H p l) (hD : H D = none) : p ≠ D ∧ l ≠ D := by
  obtain ⟨ns, i, c, d, s, h1, h2, h3⟩ := h
  exact ⟨ne_of_none h1 hD, ne_of_none h2 hD⟩
theorem modN {x : Int} {m : Nat} (hm : 0 < m) : ∃ n : Nat, n < m ∧ V.int (x % (m : Int)) = nV n := by
  have h1 := Int.emod_nonneg x (b := (m : Int)) (by omega)
  have h2 := Int.emod_lt_of_pos x (b := (m : Int)) (by omega)
  refine ⟨(x % (m : Int)).toNat, by omega, ?_⟩
  unfold nV
  rw [Int.toNat_of_nonneg h1]
section
variable {P : Program} {w : World} {K : PySem.W.Frag} {mg : Str → Option Value} {base : Heap} {CM CR CN aF : Addr}
abbrev N_pool : List Str := ["_law_script", "_law_salt", "_law_cell"]
theorem sc_pool : FnScope N_pool ["_law_script"] (defScope s_pool) := ⟨rfl, rfl, rfl, by decide +kernel, rfl, by decide +kernel, by decide +kernel⟩
theorem ok_pool {f : Addr} {fd : FuncData} (F : Fun K "_law_pool" "_law_pool" s_pool f fd) (T : Tx K mg CM CR aF) : FnOk P w K mg base CX0 1 f fd ["_law_script"] (spPool K) := by
  refine F.ok sc_pool (fun vs H Q E h => ?_) (fun cdv A outer s H vs Q E hr h => ?_)
  · obtain ⟨_, _, rfl, _⟩ := h
    rfl
  · obtain ⟨a, ns, rfl, ha, k⟩ := h
    refine ⟨_, (pss_cons (ps_set (i := 1) sc_pool.nd rfl (Or.inl rfl) pe_int)
      (pss_cons (ps_for PassesOwn.never rfl (pi_list (pe_slice sl_list (pv 0) po_none (po_some pe_int))) (pg_name (i := 2) sc_pool.nd rfl (Or.inl rfl))
      (pss_one (ps_set (i := 1) sc_pool.nd rfl (Or.inl rfl) (pe_op op_mod (pe_callTy call_int1 rfl T.n_int boot_int (pa_cons (pe_op op_add (pe_op op_mul (pv 1) pe_int) (pv 2)) pa_nil)) pe_int))))
      (pss_one (ps_ret (pe_lst (pa_cons (pe_callTy call_list_of rfl T.n_list boot_list (pa_cons (pv 0) pa_nil)) (pa_cons pe_int (pa_cons pe_int (pa_cons pe_int (pa_cons (pv 1) pa_nil)))))))))), ?_⟩
    refine ⟨_, rfl, _, rfl, a, _, rfl, ha, fun p hp => ?_⟩
    have e1 := Ex.new (o := HO.lst (cutV (ns.map V.int) none (some 63))) hp
    refine ⟨p, rfl, ⟨_, sq_of upd_same⟩, ?_⟩
    have hcut : cutV (ns.map V.int) none (some 63) = (ns.take 63).map V.int := by
      unfold cutV HT.sIx
      show ((ns.map V.int).drop 0).take ((if (63 : Int) < 0 then _ else min (63 : Int).toNat (ns.map V.int).length) - 0) = _
      rw [if_neg (by omega), List.drop_zero, Nat.sub_zero, List.length_map, ← List.map_take]
      congr 1
      show ns.take (min 63 ns.length) = ns.take 63
      rw [Nat.min_def]
      split
      · rfl
      · rw [List.take_of_length_le (Nat.le_refl _), List.take_of_length_le (by omega)]
    refine Wk.for_ (Wk.list p (cutV (ns.map V.int) none (some 63))) (fun i σ H2 => ∃ (s : Int) (z : Option V), σ = [some (.ref a), some (.int s), z] ∧ Ex H H2 ∧ SqL K H2 p (cutV (ns.map V.int) none (some 63))) ⟨7, none, rfl, e1, sq_of upd_same⟩ (fun i σ H2 _ ⟨_, _, _, _, h⟩ => h) ?_ ?_
    · rintro i x σ H2 hi hx ⟨sl, z, rfl, e2, hq⟩
      rw [hcut, List.getElem?_map] at hx
      obtain ⟨c, rfl⟩ : ∃ c, x = V.int c := by
        cases q : (ns.take 63)[i]? with
        | none => rw [q] at hx; cases hx
        | some c => rw [q] at hx; exact ⟨c, (Option.some.inj hx).symm⟩
      exact ⟨_, rfl, _, _, rfl, rfl, Or.inr ⟨by decide, by decide⟩, _, rfl, _, _, rfl, rfl, Or.inl ⟨_, rfl, _, _, rfl, rfl, (by show (0 : Int) < 1000003; decide), _, _, rfl, e2, hq⟩⟩
    · rintro σ H2 ⟨sl, z, rfl, e2, hq⟩
      refine ⟨_, rfl, a, _, rfl, Or.inl (ex_l e2 ha), fun l hl => ⟨_, rfl, (by show 5 ≤ sizeLine; decide), fun q hq2 => ?_⟩⟩
      have e3 := Ex.new (o := HO.lst (ns.map V.int)) hl
      have e4 := Ex.new (o := HO.lst [.ref l, .int 0, .int 0, .int 0, .int sl]) hq2
      have hl2 := e4 _ _ (show upd H2 l (.lst (ns.map V.int)) l = _ from upd_same)
      exact k _ _ ((e2.trans e3).trans e4) ⟨q, l, rfl, ns, 0, 0, 0, sl, upd_same, hl2, fun z => by rw [z, upd_same] at hq2; cases hq2⟩
abbrev N_spread : List Str := ["_law_cell", "_law_mixed", "_law_total", "_law_k"]
theorem sc_spread : FnScope N_spread ["_law_cell"] (defScope s_spread) := ⟨rfl, rfl, rfl, by decide +kernel, rfl, by decide +kernel, by decide +kernel⟩
theorem ok_spread {f : Addr} {fd : FuncData} (F : Fun K "_law_spread" "_law_spread" s_spread f fd) (T : Tx K mg CM CR aF) : FnOk P w K mg base CX0 1 f fd ["_law_cell"] spSpread := by
  refine F.ok sc_spread (fun vs H Q E h => ?_) (fun cdv A outer s H vs Q E hr h => ?_)
  · obtain ⟨_, rfl, _⟩ := h
    rfl
  · obtain ⟨c, rfl, k⟩ := h
    refine ⟨_, (pss_cons (ps_set (i := 1) sc_spread.nd rfl (Or.inl rfl) (pe_op op_mod (pe_callTy call_int1 rfl T.n_int boot_int (pa_cons (pv 0) pa_nil)) pe_int))
      (pss_cons (ps_set (i := 2) sc_spread.nd rfl (Or.inl rfl) pe_int)
      (pss_cons (ps_for PassesOwn.never rfl (pi_range1 rfl T.n_range (pa_cons pe_int pa_nil)) (pg_name (i := 3) sc_spread.nd rfl (Or.inl rfl))
      (pss_cons (ps_set (i := 1) sc_spread.nd rfl (Or.inl rfl) (pe_op op_mod (pe_callTy call_int1 rfl T.n_int boot_int (pa_cons (pe_op op_add (pe_op op_add (pe_op op_mul (pv 1) pe_int) pe_int) (pv 3)) pa_nil)) pe_int))
      (pss_one (ps_set (i := 2) sc_spread.nd rfl (Or.inl rfl) (pe_op op_add (pe_op op_mul (pv 2) pe_int) (pv 1))))))
      (pss_one (ps_ret (pv 2)))))), ?_⟩
    refine ⟨_, rfl, Or.inl ⟨_, rfl, _, _, rfl, rfl, (by show (0 : Int) < 2147483647; decide), 4, rfl, by decide, by decide, ?_⟩⟩
    refine Wk.for_ (Wk.range 4) (fun i σ H2 => ∃ (a b : Int) (z : Option V), σ = [some (.int c), some (.int a), some (.int b), z] ∧ H2 = H) ⟨_, _, none, rfl, rfl⟩ (fun _ _ _ _ _ => trivial) ?_ ?_
    · rintro i x σ H2 hi hx ⟨a, b, z, rfl, rfl⟩
      rw [show x = nV i from hx]
      exact ⟨_, rfl, _, _, rfl, rfl, Or.inr ⟨by decide, by decide⟩, _, _, rfl, rfl, _, rfl, _, _, rfl, rfl, Or.inl ⟨_, rfl, _, _, rfl, rfl, (by show (0 : Int) < 2147483647; decide), _, rfl, _, _, rfl, rfl, Or.inr ⟨by decide, by decide⟩, _, rfl, _, _, rfl, rfl, _, _, _, rfl, rfl⟩⟩
    · rintro σ H2 ⟨a, b, z, rfl, rfl⟩
      exact ⟨_, rfl, k _⟩
abbrev N_draw : List Str := ["_law_pool_here", "_law_many", "_law_cell", "_law_mixed", "_law_value"]
theorem sc_draw : FnScope N_draw ["_law_pool_here", "_law_many"] (defScope s_draw) := ⟨rfl, rfl, rfl, by decide +kernel, rfl, by decide +kernel, by decide +kernel⟩
theorem ok_draw {f : Addr} {fd : FuncData} (F : Fun K "_law_draw" "_law_draw" s_draw f fd) (T : Tx K mg CM CR aF) (c_spread : Cal P w K mg base CX0 1 "_law_spread" ["_law_cell"] spSpread) : FnOk P w K mg base CX0 2 f fd ["_law_pool_here", "_law_many"] spDraw := by
  refine F.ok sc_draw (fun vs H Q E h => ?_) (fun cdv A outer s H vs Q E hr h => ?_)
  · obtain ⟨_, _, _, rfl, _⟩ := h
    rfl
  · obtain ⟨p, l, m, rfl, hP, hm, hm4, k⟩ := h
    refine ⟨_, (pss_cons (ps_if (PW.pt (pw_and (pt_cmpR op_le (pe_ix ix_list (pv 0) pe_int (fun _ _ => rfl)) pe_int (nomark _)) (pw_and1 (pt_cmpR op_lt (pe_ix ix_list (pv 0) pe_int (fun _ _ => rfl)) (pe_callB call_len_seq rfl T.n_len boot_len (pa_cons (pe_ix ix_list (pv 0) pe_int (fun _ _ => rfl)) pa_nil)) (nomark _)))))
      (pss_cons (ps_set (i := 2) sc_draw.nd rfl (Or.inl rfl) (pe_ix ix_list (pe_ix ix_list (pv 0) pe_int (fun _ _ => rfl)) (pe_ix ix_list (pv 0) pe_int (fun _ _ => rfl)) (fun _ _ => rfl)))
      (pss_cons (ps_asg (pe_op op_add (pe_ix ix_list (pv 0) pe_int (fun _ _ => rfl)) pe_int) (pg_sub (pv 0) pe_int set_list))
      (pss_cons (ps_asg (pv 2) (pg_sub (pv 0) pe_int set_list))
      (pss_one (ps_if (pt_cmpR op_lt (pv 2) pe_int (nomark _))
      (pss_one (ps_asg (pe_own c_spread (hr.mono (by omega)) rfl (pa_cons (pv 2) pa_nil)) (pg_sub (pv 0) pe_int set_list)))
      pss_nil)))))
      pss_nil)
      (pss_cons (ps_asg (pe_op op_add (pe_ix ix_list (pv 0) pe_int (fun _ _ => rfl)) pe_int) (pg_sub (pv 0) pe_int set_list))
      (pss_cons (ps_if (pt_cmpR op_le (pe_ix ix_list (pv 0) pe_int (fun _ _ => rfl)) pe_int (nomark _))
      (pss_cons (ps_set (i := 3) sc_draw.nd rfl (Or.inl rfl) (pe_op op_mod (pe_callTy call_int1 rfl T.n_int boot_int (pa_cons (pe_op op_add (pe_op op_add (pe_op op_mul (pe_ix ix_list (pv 0) pe_int (fun _ _ => rfl)) pe_int) (pe_op op_mul (pe_ix ix_list (pv 0) pe_int (fun _ _ => rfl)) pe_int)) pe_int) pa_nil)) pe_int))
      (pss_cons (ps_set (i := 3) sc_draw.nd rfl (Or.inl rfl) (pe_op op_mod (pe_callTy call_int1 rfl T.n_int boot_int (pa_cons (pe_op op_add (pe_op op_mul (pv 3) pe_int) (pe_ix ix_list (pv 0) pe_int (fun _ _ => rfl))) pa_nil)) pe_int))
      (pss_one (ps_ret (pe_op op_mod (pe_op op_fdiv (pv 3) pe_int) (pv 1))))))
      pss_nil)
      (pss_cons (ps_set (i := 4) sc_draw.nd rfl (Or.inl rfl) (pe_op op_mod (pe_callTy call_int1 rfl T.n_int boot_int (pa_cons (pe_ix ix_list (pv 0) pe_int (fun _ _ => rfl)) pa_nil)) (pv 1)))
      (pss_cons (ps_asg (pe_op op_fdiv (pe_ix ix_list (pv 0) pe_int (fun _ _ => rfl)) (pv 1)) (pg_sub (pv 0) pe_int set_list))
      (pss_one (ps_ret (pv 4)))))))), ?_⟩
    have key : ∀ (x : Int) H', Sb p H H' → PoolAt H' p l → Q (V.int (x % (m : Int))) H' := fun x H' a b => by
      obtain ⟨n, hn, e⟩ := modN (x := x) hm
      rw [e]
      exact k n H' a b hn
    refine seq_with (I := fun σ H2 => ∃ z2 : Option V, σ = [some (.ref p), some (nV m), z2, none, none] ∧ Sb p H H2 ∧ PoolAt H2 p l) ?_ ?_
    · rintro σ H2 ⟨z2, rfl, sb, ns, i, c, d, sl, h1, h2, h3⟩
      -- the count
      refine ⟨_, rfl, p, _, 3, _, rfl, rfl, sq_of h1, rfl, _, _, rfl, rfl, _, rfl, p, _, 3, 3, rfl, rfl, h1, rfl, ?_⟩
      have g1 : upd H2 p (.lst ([V.ref l, nV i, .int c, .int d, .int sl].set 3 (.int (d + 1)))) p = some (.lst [.ref l, nV i, .int c, .int (d + 1), .int sl]) := upd_same
      have g2 : upd H2 p (.lst ([V.ref l, nV i, .int c, .int d, .int sl].set 3 (.int (d + 1)))) l = some (.lst (ns.map V.int)) := by rw [upd_ne h3]; exact h2
      have sb2 : Sb p H (upd H2 p (.lst ([V.ref l, nV i, .int c, .int d, .int sl].set 3 (.int (d + 1))))) := sb.trans Sb.upd
      refine ⟨_, rfl, p, _, 2, _, rfl, rfl, sq_of g1, rfl, _, _, rfl, rfl, _, rfl, ite2 (fun _ => ?_) (fun _ => ?_)⟩
      · refine ⟨_, rfl, p, _, 4, _, rfl, rfl, sq_of g1, rfl, _, _, rfl, rfl, Or.inr ⟨by decide, by decide⟩, _, rfl, p, _, 3, _, rfl, rfl, sq_of g1, rfl, _, _, rfl, rfl, Or.inr ⟨by decide, by decide⟩, _, _, rfl, rfl, _, _, rfl, rfl, Or.inl ⟨_, rfl, _, _, rfl, rfl, (by show (0 : Int) < 2147483647; decide), ?_⟩⟩
        refine ⟨_, rfl, _, _, rfl, rfl, Or.inr ⟨by decide, by decide⟩, _, rfl, p, _, 3, _, rfl, rfl, sq_of g1, rfl, _, _, rfl, rfl, Or.inl ⟨_, rfl, _, _, rfl, rfl, (by show (0 : Int) < 2147483629; decide), ?_⟩⟩
        refine ⟨_, rfl, _, _, rfl, rfl, ⟨by decide, by decide⟩, _, rfl, _, _, rfl, rfl, (by show (0 : Int) < (m : Int); omega), ?_⟩
        exact key _ _ sb2 ⟨ns, i, c, d + 1, sl, g1, g2, h3⟩
      · refine ⟨_, rfl, p, _, 2, _, rfl, rfl, sq_of g1, rfl, Or.inl ⟨_, rfl, _, rfl, _, _, rfl, rfl, (by show (0 : Int) < (m : Int); omega), ?_⟩⟩
        refine ⟨_, rfl, p, _, 2, _, rfl, rfl, sq_of g1, rfl, _, rfl, _, _, rfl, rfl, ⟨by show (0 : Int) < (m : Int); omega, by show (m : Int) < 1073741824; omega⟩, _, rfl, p, _, 2, 2, rfl, rfl, g1, rfl, ?_⟩
        refine ⟨_, rfl, ?_⟩
        exact key _ _ (sb2.trans Sb.upd) ⟨ns, i, c / (m : Int), d + 1, sl, upd_same, by rw [upd_ne h3]; exact g2, h3⟩
    · intro N hN
      obtain ⟨ns, i, c, d, sl, h1, h2, h3⟩ := hP
      have out : N [some (.ref p), some (nV m), none, none, none] H := hN _ _ ⟨none, rfl, Sb.refl, ns, i, c, d, sl, h1, h2, h3⟩
      refine ⟨_, rfl, p, _, 2, _, rfl, rfl, sq_of h1, rfl, _, _, rfl, rfl, _, rfl, ite2 (fun _ => ?_) (fun _ => iteF out)⟩
      refine ⟨_, rfl, p, _, 1, _, rfl, rfl, sq_of h1, rfl, _, rfl, p, _, 0, _, rfl, rfl, sq_of h1, rfl, l, _, rfl, Or.inl (sq_of h2), _, _, rfl, rfl, _, rfl, ite2 (fun hlt => ?_) (fun _ => out)⟩
      have hlt : i < ns.length := by
        have := of_decide_eq_true hlt
        rw [List.length_map] at this
        omega
      obtain ⟨cell, hcell⟩ : ∃ cell, ns[i]? = some cell := ⟨_, List.getElem?_eq_getElem hlt⟩
      refine ⟨_, rfl, p, _, 0, _, rfl, rfl, sq_of h1, rfl, _, rfl, p, _, 1, _, rfl, rfl, sq_of h1, rfl, l, _, (i : Int), .int cell, rfl, rfl, sq_of h2, atI_nat (j := i) (by rw [List.getElem?_map, hcell]; rfl), ?_⟩
      refine ⟨_, rfl, p, _, 1, _, rfl, rfl, sq_of h1, rfl, _, _, rfl, rfl, _, rfl, p, _, 1, 1, rfl, rfl, h1, rfl, ?_⟩
      have g1 : upd H p (.lst ([V.ref l, nV i, .int c, .int d, .int sl].set 1 (.int ((i : Int) + 1)))) p = some (.lst [.ref l, nV (i + 1), .int c, .int d, .int sl]) := upd_same
      refine ⟨_, rfl, _, rfl, p, _, 2, 2, rfl, rfl, g1, rfl, ?_⟩
      have g2 : upd (upd H p (.lst ([V.ref l, nV i, .int c, .int d, .int sl].set 1 (.int ((i : Int) + 1))))) p (.lst ([V.ref l, nV (i + 1), .int c, .int d, .int sl].set 2 (.int cell))) p = some (.lst [.ref l, nV (i + 1), .int cell, .int d, .int sl]) := upd_same
      have sb2 : Sb p H (upd (upd H p (.lst ([V.ref l, nV i, .int c, .int d, .int sl].set 1 (.int ((i : Int) + 1))))) p (.lst ([V.ref l, nV (i + 1), .int c, .int d, .int sl].set 2 (.int cell)))) := Sb.upd.trans Sb.upd
      have g3 : upd (upd H p (.lst ([V.ref l, nV i, .int c, .int d, .int sl].set 1 (.int ((i : Int) + 1))))) p (.lst ([V.ref l, nV (i + 1), .int c, .int d, .int sl].set 2 (.int cell))) l = some (.lst (ns.map V.int)) := sb2 _ _ h3 h2
      refine ⟨_, rfl, _, _, rfl, rfl, _, rfl, ite2 (fun _ => ?_) (fun _ => hN _ _ ⟨_, rfl, sb2, ns, i + 1, cell, d, sl, g2, g3, h3⟩)⟩
      refine ⟨_, rfl, cell, rfl, fun t => ⟨_, rfl, p, _, 2, 2, rfl, rfl, g2, rfl, hN _ _ ⟨_, rfl, sb2.trans Sb.upd, ns, i + 1, t, d, sl, upd_same, by rw [upd_ne h3]; exact g3, h3⟩⟩⟩
end
end Q
/-! The law's tables of what is seen -/
namespace Q
open PySem PySem.Spec PyProof.Rows L2 Evl Rl Bi
/-- an n by n table of bools -/
def SeenAt (H : Hp) (a n : Nat) : Prop := ∃ rs : List Addr, H a = some (.lst (rs.map V.ref)) ∧ rs.length = n ∧ ∀ r, r ∈ rs → ∃ bs : List Bool, H r = some (.lst (bs.map V.bl)) ∧ bs.length = n
/-- a new one -/
structure RowsOk (H0 H : Hp) (b n : Nat) (rs : List Addr) : Prop where
  ex : Ex H0 H
  at_ : H b = some (.lst (rs.map V.ref))
  len : rs.length = n
  row : ∀ r, r ∈ rs → H0 r = none ∧ r ≠ b ∧ ∃ bs : List Bool, H r = some (.lst (bs.map V.bl)) ∧ bs.length = n
theorem RowsOk.seen {H0 H : Hp} {b n : Nat} {rs : List Addr} (h : RowsOk H0 H b n rs) : SeenAt H b n := ⟨rs, h.at_, h.len, fun r hr => (h.row r hr).2.2⟩
theorem SeenAt.mono {H H' : Hp} {a n : Nat} (e : Ex H H') (h : SeenAt H a n) : SeenAt H' a n := by
  obtain ⟨rs, h1, h2, h3⟩ := h
  exact ⟨rs, e _ _ h1, h2, fun r hr => let ⟨bs, x, y⟩ := h3 r hr; ⟨bs, e _ _ x, y⟩⟩
theorem flat_bools : ∀ l : List Bool, (l.map V.bl).all flatV = true
  | [] => rfl
  | a :: l => by rw [List.map_cons, List.all_cons, flat_bools l]; rfl
theorem row_at {rs : List Addr} {n v : Nat} (hl : rs.length = n) (hv : v < n) : ∃ r, r ∈ rs ∧ atI (rs.map V.ref) (v : Int) = some (.ref r) :=
  ⟨rs[v]'(by omega), List.getElem_mem _, atI_nat (j := v) (by rw [List.getElem?_map, List.getElem?_eq_getElem (show v < rs.length by omega)]; rfl)⟩
theorem cell_at {bs : List Bool} {n w : Nat} (hl : bs.length = n) (hw : w < n) : ∃ c, atI (bs.map V.bl) (w : Int) = some (.bl c) :=
  ⟨bs[w]'(by omega), atI_nat (j := w) (by rw [List.getElem?_map, List.getElem?_eq_getElem (show w < bs.length by omega)]; rfl)⟩
theorem RowsOk.set {H0 H : Hp} {b n r w : Nat} {rs : List Addr} {bs : List Bool} (h : RowsOk H0 H b n rs) (hr : r ∈ rs) (hl : bs.length = n) (c : Bool) : RowsOk H0 (upd H r (.lst ((bs.map V.bl).set w (.bl c)))) b n rs := by
  obtain ⟨h1, h2, _⟩ := h.row r hr
  refine ⟨Ex.mut h.ex h1, by rw [upd_ne h2.symm]; exact h.at_, h.len, fun q hq => ?_⟩
  obtain ⟨g1, g2, cs, g3, g4⟩ := h.row q hq
  refine ⟨g1, g2, ?_⟩
  by_cases e : q = r
  · subst e
    exact ⟨bs.set w c, by rw [upd_same, List.map_set], by rw [List.length_set]; exact hl⟩
  · exact ⟨cs, by rw [upd_ne e]; exact g3, g4⟩
def spClosed : Sp := fun vs H Q _ => ∃ (a : Addr) (lg : Str) (n : Nat), vs = [.ref a, .str lg] ∧ SeenAt H a n ∧ n ≤ 4 ∧ Ret H (fun u H' => ∃ b, u = .ref b ∧ SeenAt H' b n) Q
section
variable {P : Program} {w : World} {K : PySem.W.Frag} {mg : Str → Option Value} {base : Heap} {CM CR CN aF : Addr}
abbrev N_closed : List Str := ["_law_seen", "_law_logic", "_law_worlds", "_law_pairs", "_law_row", "_law_v", "_law_w", "_law_u"]
theorem sc_closed : FnScope N_closed ["_law_seen", "_law_logic"] (defScope s_closed) := ⟨rfl, rfl, rfl, by decide +kernel, rfl, by decide +kernel, by decide +kernel⟩
theorem ok_closed {f : Addr} {fd : FuncData} (F : Fun K "_law_closed" "_law_closed" s_closed f fd) (T : Tx K mg CM CR aF) : FnOk P w K mg base CX0 1 f fd ["_law_seen", "_law_logic"] spClosed := by
  refine F.ok sc_closed (fun vs H Q E h => ?_) (fun cdv A outer s H vs Q E hr h => ?_)
  · obtain ⟨_, _, _, rfl, _⟩ := h
    rfl
  · obtain ⟨a, lg, n, rfl, ⟨rs0, h1, h2, h3⟩, hn, k⟩ := h
    refine ⟨_, (pss_cons (ps_set (i := 2) sc_closed.nd rfl (Or.inl rfl) (pe_callB call_len_seq rfl T.n_len boot_len (pa_cons (pv 0) pa_nil)))
      (pss_cons (ps_setLc (i := 3) (own := [("_law_row", 4)]) (g := gName 4) rfl sc_closed.nd rfl rfl (sw_true rfl rfl rfl (by decide +kernel)) (pi_list (pv 0)) (blkOk_by (own := [("_law_row", 4)]) (N := N_closed) (sc := defScope s_closed) (by decide +kernel)) (fun _ _ _ _ _ => (pg_name (i := 4) sc_closed.nd rfl (Or.inl rfl))) (fun _ _ _ _ _ => pts_nil) (fun _ _ _ _ _ => (pe_callTy (k_list (K := K) rfl) rfl T.n_list boot_list (pa_cons (pv 4) pa_nil))))
      (pss_cons (ps_if (pt_cmpR op_notIn_seq (pv 1) (pe_tup (pa_cons pe_str (pa_cons pe_str (pa_cons pe_str (pa_cons pe_str (pa_cons pe_str pa_nil)))))) (by rfl))
      (pss_one (ps_for PassesOwn.never rfl (pi_range1 rfl T.n_range (pa_cons (pv 2) pa_nil)) (pg_name (i := 5) sc_closed.nd rfl (Or.inl rfl))
      (pss_one (ps_asg pe_bl (pg_sub (pe_ix ix_list (pv 3) (pv 5) (fun _ _ => rfl)) (pv 5) set_list)))))
      pss_nil)
      (pss_cons (ps_if (pt_cmpR op_eq (pv 1) pe_str (nomark _))
      (pss_one (ps_for PassesOwn.never rfl (pi_range1 rfl T.n_range (pa_cons (pv 2) pa_nil)) (pg_name (i := 5) sc_closed.nd rfl (Or.inl rfl))
      (pss_one (ps_for PassesOwn.never rfl (pi_range1 rfl T.n_range (pa_cons (pv 2) pa_nil)) (pg_name (i := 6) sc_closed.nd rfl (Or.inl rfl))
      (pss_one (ps_asg (pe_or (pe_ix ix_list (pe_ix ix_list (pv 3) (pv 5) (fun _ _ => rfl)) (pv 6) (fun _ _ => rfl)) (pe_one (pe_ix ix_list (pe_ix ix_list (pv 3) (pv 6) (fun _ _ => rfl)) (pv 5) (fun _ _ => rfl)))) (pg_sub (pe_ix ix_list (pv 3) (pv 5) (fun _ _ => rfl)) (pv 6) set_list)))))))
      pss_nil)
      (pss_cons (ps_if (pt_cmpR op_in_seq (pv 1) (pe_tup (pa_cons pe_str (pa_cons pe_str pa_nil))) (by rfl))
      (pss_one (ps_for PassesOwn.never rfl (pi_range1 rfl T.n_range (pa_cons (pv 2) pa_nil)) (pg_name (i := 5) sc_closed.nd rfl (Or.inl rfl))
      (pss_one (ps_if (pt_cmpR op_notIn_seq pe_bl (pe_ix ix_list (pv 3) (pv 5) (fun _ _ => rfl)) (by rfl))
      (pss_one (ps_asg pe_bl (pg_sub (pe_ix ix_list (pv 3) (pv 5) (fun _ _ => rfl)) (pv 5) set_list)))
      pss_nil))))
      pss_nil)
      (pss_cons (ps_if (pt_cmpR op_notIn_seq (pv 1) (pe_tup (pa_cons pe_str (pa_cons pe_str (pa_cons pe_str pa_nil)))) (by rfl))
      (pss_one (ps_for PassesOwn.never rfl (pi_range1 rfl T.n_range (pa_cons (pv 2) pa_nil)) (pg_name (i := 7) sc_closed.nd rfl (Or.inl rfl))
      (pss_one (ps_for PassesOwn.never rfl (pi_range1 rfl T.n_range (pa_cons (pv 2) pa_nil)) (pg_name (i := 5) sc_closed.nd rfl (Or.inl rfl))
      (pss_one (ps_for PassesOwn.never rfl (pi_range1 rfl T.n_range (pa_cons (pv 2) pa_nil)) (pg_name (i := 6) sc_closed.nd rfl (Or.inl rfl))
      (pss_one (ps_asg (pe_or (pe_ix ix_list (pe_ix ix_list (pv 3) (pv 5) (fun _ _ => rfl)) (pv 6) (fun _ _ => rfl)) (pe_one (pe_and (pe_ix ix_list (pe_ix ix_list (pv 3) (pv 5) (fun _ _ => rfl)) (pv 7) (fun _ _ => rfl)) (pe_one (pe_ix ix_list (pe_ix ix_list (pv 3) (pv 7) (fun _ _ => rfl)) (pv 6) (fun _ _ => rfl)))))) (pg_sub (pe_ix ix_list (pv 3) (pv 5) (fun _ _ => rfl)) (pv 6) set_list)))))))))
      pss_nil)
      (pss_one (ps_ret (pv 3))))))))), ?_⟩
    refine ⟨_, rfl, a, _, rfl, Or.inl (sq_of h1), ?_⟩
    rw [show V.int ((rs0.map V.ref).length : Int) = nV n by rw [List.length_map, h2]; rfl]
    -- the rows anew
    refine ⟨_, rfl, a, rfl, ⟨_, sq_of h1⟩, fun b hb => ?_⟩
    have nab : a ≠ b := ne_of_none h1 hb
    refine (Wk.list a (rs0.map V.ref)).comp (fun i H2 => Ex H H2 ∧ ∃ rs : List Addr, H2 b = some (.lst (rs.map V.ref)) ∧ rs.length = i ∧ ∀ r, r ∈ rs → H r = none ∧ r ≠ b ∧ ∃ bs : List Bool, H2 r = some (.lst (bs.map V.bl)) ∧ bs.length = n)
      ⟨Ex.new hb, [], upd_same, rfl, fun r h => (nomatch h)⟩ (fun i H2 _ z => sq_of (z.1 _ _ h1)) ?_ ?_
    · rintro i x H2 hi hx ⟨e2, rs, g1, g2, g3⟩
      rw [List.length_map] at hi
      obtain ⟨r0, hr0, rfl⟩ : ∃ r0, r0 ∈ rs0 ∧ x = .ref r0 := by
        rw [List.getElem?_map] at hx
        cases q : rs0[i]? with
        | none => rw [q] at hx; cases hx
        | some c => rw [q] at hx; exact ⟨c, List.mem_of_getElem? q, (Option.some.inj hx).symm⟩
      obtain ⟨bs, z1, z2⟩ := h3 r0 hr0
      refine ⟨rfl, ⟨_, rfl, r0, _, rfl, Or.inl (sq_of (e2 _ _ z1)), fun r hr1 => ?_⟩⟩
      have e3 := Ex.new (o := HO.lst (bs.map V.bl)) hr1
      have nrb : r ≠ b := fun z => by rw [z, g1] at hr1; cases hr1
      have hrH : H r = none := by
        cases q : H r with
        | none => rfl
        | some o => rw [e2 _ _ q] at hr1; cases hr1
      refine ⟨_, e3 _ _ g1, by rw [List.length_map]; exact small1000 (by omega), Ex.mut (e2.trans e3) hb, rs ++ [r], by rw [upd_same, List.map_append]; rfl, by rw [List.length_append, g2]; rfl, fun q hq => ?_⟩
      rcases List.mem_append.mp hq with hq | hq
      · obtain ⟨y1, y2, cs, y3, y4⟩ := g3 q hq
        exact ⟨y1, y2, cs, by rw [upd_ne y2]; exact e3 _ _ y3, y4⟩
      · rw [List.mem_singleton.mp hq]
        exact ⟨hrH, nrb, bs, by rw [upd_ne nrb]; exact upd_same, z2⟩
    rintro H2 ⟨e2, rs, g1, g2, g3⟩
    rw [List.length_map] at g2
    have R2 : RowsOk H H2 b n rs := ⟨e2, g1, g2.trans h2, g3⟩
    clear g1 g2 g3
    -- one cell put
    let J : L2.St → Hp → Prop := fun σ H3 => ∃ z5 z6 z7 : Option V, σ = [some (.ref a), some (.str lg), some (nV n), some (.ref b), none, z5, z6, z7] ∧ RowsOk H H3 b n rs
    dsimp only [gName]
    refine seq_with (I := J) ?_ (fun N hN => ?_)
    · rintro σ H3 ⟨z5, z6, z7, rfl, R3⟩
      refine seq_with (I := J) ?_ (fun N hN => ?_)
      · rintro σ H4 ⟨z5, z6, z7, rfl, R4⟩
        refine seq_with (I := J) ?_ (fun N hN => ?_)
        · rintro σ H5 ⟨z5, z6, z7, rfl, R5⟩
          refine seq_with (I := J) ?_ (fun N hN => ?_)
          · rintro σ H6 ⟨z5, z6, z7, rfl, R6⟩
            exact ⟨_, rfl, k _ _ R6.ex ⟨b, rfl, R6.seen⟩⟩
          · -- transitive
            refine ⟨_, rfl, (by show 3 ≤ sizeLine; decide), fun t ht => ⟨t, _, rfl, Or.inr (st_of upd_same), rfl, rfl, _, rfl, ?_⟩⟩
            have R5' : RowsOk H _ b n rs := ⟨R5.ex.trans (Ex.new (o := HO.tup [.str "K", .str "D", .str "T"]) ht), (Ex.new ht) _ _ R5.at_, R5.len, fun r hr => let ⟨x, y, bs, z1, z2⟩ := R5.row r hr; ⟨x, y, bs, (Ex.new ht) _ _ z1, z2⟩⟩
            refine ite2 (fun _ => ?_) (fun _ => hN _ _ ⟨_, _, _, rfl, R5'⟩)
            refine ⟨_, rfl, n, rfl, by omega, by omega, ?_⟩
            refine Wk.for_ (Wk.range n) (fun _ σ H6 => J σ H6) ⟨_, _, _, rfl, R5'⟩ (fun _ _ _ _ _ => trivial) ?_ (fun σ H6 h => hN _ _ h)
            rintro u x σ H6 hu rfl ⟨z5, z6, z7, rfl, R6⟩
            refine ⟨_, rfl, n, rfl, by omega, by omega, ?_⟩
            refine Wk.for_ (Wk.range n) (fun _ σ H6 => ∃ z5 z6 : Option V, σ = [some (.ref a), some (.str lg), some (nV n), some (.ref b), none, z5, z6, some (nV u)] ∧ RowsOk H H6 b n rs) ⟨_, _, rfl, R6⟩ (fun _ _ _ _ _ => trivial) ?_ (fun σ H6 ⟨z5, z6, e, R⟩ => ⟨z5, z6, _, e, R⟩)
            rintro v x σ H7 hv rfl ⟨z5, z6, rfl, R7⟩
            refine ⟨_, rfl, n, rfl, by omega, by omega, ?_⟩
            refine Wk.for_ (Wk.range n) (fun _ σ H6 => ∃ z6 : Option V, σ = [some (.ref a), some (.str lg), some (nV n), some (.ref b), none, some (nV v), z6, some (nV u)] ∧ RowsOk H H6 b n rs) ⟨_, rfl, R7⟩ (fun _ _ _ _ _ => trivial) ?_ (fun σ H6 ⟨z6, e, R⟩ => ⟨_, z6, e, R⟩)
            rintro x y σ H8 hx rfl ⟨z6, rfl, R8⟩
            obtain ⟨rv, mv, av⟩ := row_at R8.len hv
            obtain ⟨ru, mu, au⟩ := row_at R8.len hu
            obtain ⟨_, _, bv, v1, v2⟩ := R8.row rv mv
            obtain ⟨_, _, bu, u1, u2⟩ := R8.row ru mu
            obtain ⟨c1, hc1⟩ := cell_at v2 hx
            obtain ⟨c2, hc2⟩ := cell_at v2 hu
            obtain ⟨c3, hc3⟩ := cell_at u2 hx
            have ixv : ixN (bv.map V.bl).length (x : Int) = some x := ixN_nat (by rw [List.length_map, v2]; exact hx)
            refine ⟨_, rfl, _, rfl, b, _, _, _, rfl, rfl, sq_of R8.at_, av, _, rfl, rv, _, _, _, rfl, rfl, sq_of v1, hc1, c1, rfl, ite2 (fun _ => ?_) (fun _ => ?_)⟩
            · exact ⟨_, rfl, _, rfl, b, _, _, _, rfl, rfl, sq_of R8.at_, av, _, rfl, rv, _, _, _, rfl, rfl, v1, ixv, ⟨_, rfl, R8.set mv v2 _⟩⟩
            · refine ⟨_, rfl, _, rfl, b, _, _, _, rfl, rfl, sq_of R8.at_, av, _, rfl, rv, _, _, _, rfl, rfl, sq_of v1, hc2, c2, rfl, ite2 (fun _ => ?_) (fun _ => ?_)⟩
              · exact ⟨_, rfl, _, rfl, b, _, _, _, rfl, rfl, sq_of R8.at_, au, _, rfl, ru, _, _, _, rfl, rfl, sq_of u1, hc3, _, rfl, _, rfl, b, _, _, _, rfl, rfl, sq_of R8.at_, av, _, rfl, rv, _, _, _, rfl, rfl, v1, ixv, ⟨_, rfl, R8.set mv v2 _⟩⟩
              · exact ⟨_, rfl, _, rfl, b, _, _, _, rfl, rfl, sq_of R8.at_, av, _, rfl, rv, _, _, _, rfl, rfl, v1, ixv, ⟨_, rfl, R8.set mv v2 _⟩⟩
        · -- serial
          refine ⟨_, rfl, (by show 2 ≤ sizeLine; decide), fun t ht => ⟨t, _, rfl, Or.inr (st_of upd_same), rfl, rfl, _, rfl, ?_⟩⟩
          have R4' : RowsOk H _ b n rs := ⟨R4.ex.trans (Ex.new (o := HO.tup [.str "D", .str "D4"]) ht), (Ex.new ht) _ _ R4.at_, R4.len, fun r hr => let ⟨x, y, bs, z1, z2⟩ := R4.row r hr; ⟨x, y, bs, (Ex.new ht) _ _ z1, z2⟩⟩
          refine ite2 (fun _ => ?_) (fun _ => hN _ _ ⟨_, _, _, rfl, R4'⟩)
          refine ⟨_, rfl, n, rfl, by omega, by omega, ?_⟩
          refine Wk.for_ (Wk.range n) (fun _ σ H6 => J σ H6) ⟨_, _, _, rfl, R4'⟩ (fun _ _ _ _ _ => trivial) ?_ (fun σ H6 h => hN _ _ h)
          rintro v x σ H6 hv rfl ⟨z5, z6, z7, rfl, R6⟩
          obtain ⟨rv, mv, av⟩ := row_at R6.len hv
          obtain ⟨_, _, bv, v1, v2⟩ := R6.row rv mv
          have ixv : ixN (bv.map V.bl).length (v : Int) = some v := ixN_nat (by rw [List.length_map, v2]; exact hv)
          refine ⟨_, rfl, _, rfl, b, _, _, _, rfl, rfl, sq_of R6.at_, av, rv, _, rfl, Or.inl (sq_of v1), rfl, flat_bools _, _, rfl, ite2 (fun _ => ?_) (fun _ => ⟨_, _, _, rfl, R6⟩)⟩
          exact ⟨_, rfl, _, rfl, b, _, _, _, rfl, rfl, sq_of R6.at_, av, _, rfl, rv, _, _, _, rfl, rfl, v1, ixv, ⟨_, _, _, rfl, R6.set mv v2 _⟩⟩
      · -- symmetric
        refine ⟨_, rfl, rfl, _, rfl, ite2 (fun _ => ?_) (fun _ => hN _ _ ⟨_, _, _, rfl, R3⟩)⟩
        refine ⟨_, rfl, n, rfl, by omega, by omega, ?_⟩
        refine Wk.for_ (Wk.range n) (fun _ σ H6 => J σ H6) ⟨_, _, _, rfl, R3⟩ (fun _ _ _ _ _ => trivial) ?_ (fun σ H6 h => hN _ _ h)
        rintro v x σ H6 hv rfl ⟨z5, z6, z7, rfl, R6⟩
        refine ⟨_, rfl, n, rfl, by omega, by omega, ?_⟩
        refine Wk.for_ (Wk.range n) (fun _ σ H6 => ∃ z6 z7 : Option V, σ = [some (.ref a), some (.str lg), some (nV n), some (.ref b), none, some (nV v), z6, z7] ∧ RowsOk H H6 b n rs) ⟨_, _, rfl, R6⟩ (fun _ _ _ _ _ => trivial) ?_ (fun σ H6 ⟨z6, z7, e, R⟩ => ⟨_, z6, z7, e, R⟩)
        rintro x y σ H8 hx rfl ⟨z6, z7, rfl, R8⟩
        obtain ⟨rv, mv, av⟩ := row_at R8.len hv
        obtain ⟨ru, mu, au⟩ := row_at R8.len hx
        obtain ⟨_, _, bv, v1, v2⟩ := R8.row rv mv
        obtain ⟨_, _, bu, u1, u2⟩ := R8.row ru mu
        obtain ⟨c1, hc1⟩ := cell_at v2 hx
        obtain ⟨c3, hc3⟩ := cell_at u2 hv
        have ixv : ixN (bv.map V.bl).length (x : Int) = some x := ixN_nat (by rw [List.length_map, v2]; exact hx)
        refine ⟨_, rfl, _, rfl, b, _, _, _, rfl, rfl, sq_of R8.at_, av, _, rfl, rv, _, _, _, rfl, rfl, sq_of v1, hc1, c1, rfl, ite2 (fun _ => ?_) (fun _ => ?_)⟩
        · exact ⟨_, rfl, _, rfl, b, _, _, _, rfl, rfl, sq_of R8.at_, av, _, rfl, rv, _, _, _, rfl, rfl, v1, ixv, ⟨_, _, rfl, R8.set mv v2 _⟩⟩
        · exact ⟨_, rfl, _, rfl, b, _, _, _, rfl, rfl, sq_of R8.at_, au, _, rfl, ru, _, _, _, rfl, rfl, sq_of u1, hc3, _, rfl, _, rfl, b, _, _, _, rfl, rfl, sq_of R8.at_, av, _, rfl, rv, _, _, _, rfl, rfl, v1, ixv, ⟨_, _, rfl, R8.set mv v2 _⟩⟩
    · -- reflexive
      refine ⟨_, rfl, (by show 5 ≤ sizeLine; decide), fun t ht => ⟨t, _, rfl, Or.inr (st_of upd_same), rfl, rfl, _, rfl, ?_⟩⟩
      have R4' : RowsOk H _ b n rs := ⟨R2.ex.trans (Ex.new (o := HO.tup [.str "K", .str "D", .str "K4", .str "D4", .str "GL"]) ht), (Ex.new ht) _ _ R2.at_, R2.len, fun r hr => let ⟨x, y, bs, z1, z2⟩ := R2.row r hr; ⟨x, y, bs, (Ex.new ht) _ _ z1, z2⟩⟩
      refine ite2 (fun _ => ?_) (fun _ => hN _ _ ⟨_, _, _, rfl, R4'⟩)
      refine ⟨_, rfl, n, rfl, by omega, by omega, ?_⟩
      refine Wk.for_ (Wk.range n) (fun _ σ H6 => J σ H6) ⟨_, _, _, rfl, R4'⟩ (fun _ _ _ _ _ => trivial) ?_ (fun σ H6 h => hN _ _ h)
      rintro v x σ H6 hv rfl ⟨z5, z6, z7, rfl, R6⟩
      obtain ⟨rv, mv, av⟩ := row_at R6.len hv
      obtain ⟨_, _, bv, v1, v2⟩ := R6.row rv mv
      have ixv : ixN (bv.map V.bl).length (v : Int) = some v := ixN_nat (by rw [List.length_map, v2]; exact hv)
      exact ⟨_, rfl, _, rfl, b, _, _, _, rfl, rfl, sq_of R6.at_, av, _, rfl, rv, _, _, _, rfl, rfl, v1, ixv, ⟨_, _, _, rfl, R6.set mv v2 _⟩⟩
end
end Q
/-! The law's lists, grids, frames -/
namespace Q
open PySem PySem.Spec PyProof.Rows L2 Evl Rl Bi
def logics : List Str := ["K", "D", "T", "K4", "D4", "S4", "S5", "GL", "Grz", "Int", "KC", "LC", "BD2", "HT", "Cl"]
def spLnames : Sp := fun vs H Q _ => vs = [] ∧ Ret H (fun u H' => ∃ D, u = .ref D ∧ H' D = some (.lst (logics.map V.str))) Q
def spList : Sp := fun vs H Q _ => ∃ (p l : Addr) (k : Nat), vs = [.ref p, nV k] ∧ PoolAt H p l ∧ k ≤ 6 ∧ ∀ H' D (ns : List Nat), Sb p H H' → PoolAt H' p l → H' D = some (.lst (ns.map nV)) → ns.length = k → D ≠ p → D ≠ l → Q (.ref D) H'
def spGrid : Sp := fun vs H Q _ => ∃ n m : Nat, vs = [nV n, nV m] ∧ n ≤ 4 ∧ m ≤ 4 ∧ Ret H (fun u H' => ∃ D ys, u = .ref D ∧ H' D = some (.lst ys) ∧ All2 (PfAt H') ys (grid n m)) Q
def spFramed (K : PySem.W.Frag) : Sp := fun vs H Q _ => ∃ (s n : Nat), vs = [.ref s] ∧ SeenAt H s n ∧ n ≤ 4 ∧ Ret H (fun u H' => ∃ fa ps, u = .ref fa ∧ FrAt K H' fa n ps ∧ ps.Pairwise plt ∧ ∀ p, p ∈ ps → p.1 < n ∧ p.2 < n) Q
def pqr : List Str := ["p", "q", "r"]
/-- a drawn model's lists of worlds -/
structure RawOk (n : Nat) (raw : List (Str × List Nat)) : Prop where
  names : raw.map (·.1) = pqr
  len : ∀ e, e ∈ raw → e.2.length ≤ n
  rng : ∀ e, e ∈ raw → ∀ w, w ∈ e.2 → w < n
theorem names3 : pqr.Nodup := by decide +kernel
theorem RawOk.nd {n : Nat} {raw : List (Str × List Nat)} (h : RawOk n raw) : (raw.map (·.1)).Nodup := by rw [h.names]; exact names3
theorem RawOk.three {n : Nat} {raw : List (Str × List Nat)} (h : RawOk n raw) : raw.length = 3 := by rw [← List.length_map (f := (·.1)) (as := raw), h.names]; rfl
theorem names_ok : ∀ x, x ∈ pqr → PyData.strOk x = true := by decide +kernel
theorem RawOk.sok {n : Nat} {raw : List (Str × List Nat)} (h : RawOk n raw) : ∀ e, e ∈ raw → PyData.strOk e.1 = true := fun e he => names_ok _ (by rw [← h.names]; exact List.mem_map.mpr ⟨e, he, rfl⟩)
def RawAt (H : Hp) (u : V) (n : Nat) (raw : List (Str × List Nat)) : Prop := ∃ (t s d : Addr) (kvs : List (Key × V)), u = .ref t ∧ H t = some (.tup [.ref s, .ref d]) ∧ SeenAt H s n ∧ H d = some (.dK kvs) ∧ All2 (KfAt H) kvs raw ∧ RawOk n raw ∧ 1 ≤ n
theorem RawAt.mono {H H' : Hp} {u : V} {n : Nat} {raw : List (Str × List Nat)} (e : Ex H H') (h : RawAt H u n raw) : RawAt H' u n raw := by
  obtain ⟨t, s, d, kvs, h1, h2, h3, h4, h5, h6⟩ := h
  exact ⟨t, s, d, kvs, h1, e _ _ h2, h3.mono e, e _ _ h4, h5.mono fun _ _ z => z.mono e, h6⟩
def spPm (K : PySem.W.Frag) : Sp := fun vs H Q _ => ∃ (u0 : V) (n : Nat) (raw : List (Str × List Nat)), vs = [u0] ∧ RawAt H u0 n raw ∧ n ≤ 4 ∧
  Ret H (fun u H' => ∃ t fa d kvs ps, u = .ref t ∧ H' t = some (.tup [.ref fa, .ref d]) ∧ FrAt K H' fa n ps ∧ ps.Pairwise plt ∧ (∀ p, p ∈ ps → p.1 < n ∧ p.2 < n) ∧ H' d = some (.dK kvs) ∧ All2 (KfAt H') kvs raw) Q
theorem seen_fn {H : Hp} {s n : Nat} (h : SeenAt H s n) : ∃ (rs : List Addr) (f : Nat → Nat → Bool), H s = some (.lst (rs.map V.ref)) ∧ rs.length = n ∧ ∀ v w, v < n → w < n → ∃ r xs, atI (rs.map V.ref) (v : Int) = some (.ref r) ∧ H r = some (.lst xs) ∧ atI xs (w : Int) = some (.bl (f v w)) := by
  obtain ⟨rs, h1, h2, h3⟩ := h
  obtain ⟨tbl, t1, t2⟩ := choose_list (ys := rs) (G := fun (_ : Nat) (r : Addr) (bs : List Bool) => H r = some (.lst (bs.map V.bl)) ∧ bs.length = n) fun i r hr => h3 r (List.mem_of_getElem? hr)
  refine ⟨rs, fun v w => (tbl.getD v []).getD w false, h1, h2, fun v w hv hw => ?_⟩
  have e1 : rs[v]? = some (rs[v]'(by omega)) := List.getElem?_eq_getElem (by omega)
  have e2 : tbl[v]? = some (tbl.getD v []) := by rw [List.getD_eq_getElem?_getD, List.getElem?_eq_getElem (show v < tbl.length by omega)]; rfl
  obtain ⟨g1, g2⟩ := t2 v _ _ e1 e2
  have e3 : ∀ (l : List Bool), w < l.length → l[w]? = some (l.getD w false) := fun l h => by rw [List.getD_eq_getElem?_getD, List.getElem?_eq_getElem h]; rfl
  exact ⟨_, _, atI_nat (j := v) (by rw [List.getElem?_map, e1]; rfl), g1, atI_nat (j := w) (by rw [List.getElem?_map, e3 _ (by omega)]; rfl)⟩
section
variable {P : Program} {w : World} {K : PySem.W.Frag} {mg : Str → Option Value} {base : Heap} {CM CR CN aF : Addr}
abbrev N_names : List Str := []
theorem sc_names : FnScope N_names [] (defScope s_names) := ⟨rfl, rfl, rfl, by decide +kernel, rfl, by decide +kernel, by decide +kernel⟩
theorem ok_names {f : Addr} {fd : FuncData} (F : Fun K "_law_names" "_law_names" s_names f fd) : FnOk P w K mg base CX0 1 f fd [] spLnames := by
  refine F.ok sc_names (fun vs H Q E h => ?_) (fun cdv A outer s H vs Q E hr h => ?_)
  · obtain ⟨rfl, _⟩ := h
    rfl
  · obtain ⟨rfl, k⟩ := h
    refine ⟨_, (pss_one (ps_ret (pe_lst (pa_cons pe_str (pa_cons pe_str (pa_cons pe_str (pa_cons pe_str (pa_cons pe_str (pa_cons pe_str (pa_cons pe_str (pa_cons pe_str (pa_cons pe_str (pa_cons pe_str (pa_cons pe_str (pa_cons pe_str (pa_cons pe_str (pa_cons pe_str (pa_cons pe_str pa_nil)))))))))))))))))), ?_⟩
    exact ⟨(by show 15 ≤ sizeLine; decide), fun p hp => k _ _ (Ex.new hp) ⟨p, rfl, upd_same⟩⟩
abbrev N_list : List Str := ["_law_pool_here", "_law_many", "_law_k"]
theorem sc_list : FnScope N_list ["_law_pool_here", "_law_many"] (defScope s_list) := ⟨rfl, rfl, rfl, by decide +kernel, rfl, by decide +kernel, by decide +kernel⟩
theorem ok_list {f : Addr} {fd : FuncData} (F : Fun K "_law_list" "_law_list" s_list f fd) (T : Tx K mg CM CR aF) (c_draw : Cal P w K mg base CX0 2 "_law_draw" ["_law_pool_here", "_law_many"] spDraw) : FnOk P w K mg base CX0 3 f fd ["_law_pool_here", "_law_many"] spList := by
  refine F.ok sc_list (fun vs H Q E h => ?_) (fun cdv A outer s H vs Q E hr h => ?_)
  · obtain ⟨_, _, _, rfl, _⟩ := h
    rfl
  · obtain ⟨p, l, n, rfl, hP, hn, k⟩ := h
    refine ⟨_, (pss_one (ps_ret (pe_lc (own := [("_law_k", 2)]) (g := gName 2) rfl sc_list.nd (pi_range1 rfl T.n_range (pa_cons (pv 1) pa_nil)) (blkOk_by (own := [("_law_k", 2)]) (N := N_list) (sc := defScope s_list) (by decide +kernel)) (fun _ _ _ _ _ => (pg_name (i := 2) sc_list.nd rfl (Or.inl rfl))) (fun _ _ _ _ _ => pts_nil) (fun _ _ _ _ _ => (pe_own c_draw (hr.mono (by omega)) rfl (pa_cons (pv 0) (pa_cons pe_int pa_nil))))))), ?_⟩
    refine ⟨_, rfl, n, rfl, by omega, by omega, fun D hD => ?_⟩
    obtain ⟨npD, nlD⟩ := hP.np hD
    refine (Wk.range n).comp (fun i H2 => Sb p H H2 ∧ PoolAt H2 p l ∧ ∃ ns : List Nat, H2 D = some (.lst (ns.map nV)) ∧ ns.length = i) ⟨fun b o _ z => by rw [upd_ne (ne_of_none z hD)]; exact z, hP.mono (Ex.new hD), [], upd_same, rfl⟩ (fun _ _ _ _ => trivial) ?_ ?_
    · rintro i x H2 hi hx ⟨sb, hP2, ns, h1, h2⟩
      refine ⟨rfl, ⟨_, rfl, p, l, 4096, rfl, hP2, by decide, by decide, fun m H3 sb3 hP3 hm => ?_⟩⟩
      have h13 := sb3 _ _ npD.symm h1
      refine ⟨_, h13, by rw [List.length_map]; exact small1000 (by omega), ?_⟩
      have s4 : Sb D H3 (upd H3 D (.lst (ns.map nV ++ [nV m]))) := Sb.upd
      refine ⟨fun b o hb z => s4 _ _ (ne_of_none z hD) (sb3 _ _ hb (sb _ _ hb z)), hP3.sb s4 npD nlD, ns ++ [m], by rw [upd_same, List.map_append]; rfl, by rw [List.length_append, h2]; rfl⟩
    · rintro H2 ⟨sb, hP2, ns, h1, h2⟩
      exact k _ _ ns sb hP2 h1 h2 npD.symm nlD.symm
abbrev N_grid : List Str := ["_law_first", "_law_second", "_law_found", "_law_v", "_law_w"]
theorem sc_grid : FnScope N_grid ["_law_first", "_law_second"] (defScope s_grid) := ⟨rfl, rfl, rfl, by decide +kernel, rfl, by decide +kernel, by decide +kernel⟩
theorem ok_grid {f : Addr} {fd : FuncData} (F : Fun K "_law_grid" "_law_grid" s_grid f fd) (T : Tx K mg CM CR aF) : FnOk P w K mg base CX0 1 f fd ["_law_first", "_law_second"] spGrid := by
  refine F.ok sc_grid (fun vs H Q E h => ?_) (fun cdv A outer s H vs Q E hr h => ?_)
  · obtain ⟨_, _, rfl, _⟩ := h
    rfl
  · obtain ⟨n, m, rfl, hn, hm, k⟩ := h
    refine ⟨_, (pss_cons (ps_set (i := 2) sc_grid.nd rfl (Or.inl rfl) (pe_lst pa_nil))
      (pss_cons (ps_for PassesOwn.never rfl (pi_range1 rfl T.n_range (pa_cons (pv 0) pa_nil)) (pg_name (i := 3) sc_grid.nd rfl (Or.inl rfl))
      (pss_one (ps_for PassesOwn.never rfl (pi_range1 rfl T.n_range (pa_cons (pv 1) pa_nil)) (pg_name (i := 4) sc_grid.nd rfl (Or.inl rfl))
      (pss_one (ps_expr (pe_bm PySem.F.plainAttrs_list PySem.F.slot_list_append PySem.F.type_list_append mt_append (pv 2) (pa_cons (pe_tup (pa_cons (pv 3) (pa_cons (pv 4) pa_nil))) pa_nil)))))))
      (pss_one (ps_ret (pv 2))))), ?_⟩
    refine ⟨(by show 0 ≤ sizeLine; decide), fun D hD => ?_⟩
    refine ⟨_, rfl, n, rfl, by omega, by omega, ?_⟩
    refine Wk.for_ (Wk.range n) (fun i σ H2 => ∃ z3 z4 : Option V, σ = [some (nV n), some (nV m), some (.ref D), z3, z4] ∧ Ex H H2 ∧ ∃ ys, H2 D = some (.lst ys) ∧ All2 (PdAt D H2) ys (gridTo i m 0)) ⟨none, none, rfl, Ex.new hD, [], upd_same, All2.nil⟩ (fun _ _ _ _ _ => trivial) ?_ ?_
    · rintro v x σ H2 hv rfl ⟨z3, z4, rfl, e2, ys, h1, h2⟩
      refine ⟨_, rfl, m, rfl, by omega, by omega, ?_⟩
      refine Wk.for_ (Wk.range m) (fun j σ H3 => ∃ z4 : Option V, σ = [some (nV n), some (nV m), some (.ref D), some (nV v), z4] ∧ Ex H H3 ∧ ∃ ys, H3 D = some (.lst ys) ∧ All2 (PdAt D H3) ys (gridTo v m j)) ⟨_, rfl, e2, ys, h1, h2⟩ (fun _ _ _ _ _ => trivial) ?_ ?_
      · rintro w' x σ H3 hw rfl ⟨z4, rfl, e3, zs, g1, g2⟩
        refine ⟨_, rfl, Or.inl ⟨rfl, _, sq_of g1⟩, _, rfl, _, rfl, (by show 2 ≤ sizeLine; decide), fun r hr1 => ?_⟩
        have e4 := Ex.new (o := HO.tup [nV v, nV w']) hr1
        have nrD : r ≠ D := fun z => by rw [z, g1] at hr1; cases hr1
        have s5 : Sb D (upd H3 r (.tup [nV v, nV w'])) (upd (upd H3 r (.tup [nV v, nV w'])) D (.lst (zs ++ [.ref r]))) := Sb.upd
        refine ⟨D, zs, _, rfl, rfl, e4 _ _ g1, ?_, ⟨_, rfl, Ex.mut (e3.trans e4) hD, _, upd_same, ?_⟩⟩
        · have h3 := g2.1
          rw [gridTo_len] at h3
          have h4 : v * m ≤ 4 * 4 := Nat.mul_le_mul (by omega) hm
          exact small1000 (by omega)
        · rw [gridTo_succ]
          exact ((g2.mono fun _ _ z => z.mono e4).snoc (y := (v, w')) ⟨r, rfl, nrD, upd_same⟩).mono fun _ _ z => z.sb s5
      · rintro σ H3 ⟨z4, rfl, e3, zs, g1, g2⟩
        refine ⟨_, _, rfl, e3, zs, g1, ?_⟩
        rw [gridTo_zero, ← gridTo_end]
        exact g2
    · rintro σ H2 ⟨z3, z4, rfl, e2, ys, h1, h2⟩
      rw [gridTo_zero] at h2
      exact ⟨_, rfl, k _ _ e2 ⟨D, ys, rfl, h1, h2.mono fun _ _ z => z.pf⟩⟩
abbrev N_framed : List Str := ["_law_seen", "_law_pairs", "_law_pair"]
theorem sc_framed : FnScope N_framed ["_law_seen"] (defScope s_framed) := ⟨rfl, rfl, rfl, by decide +kernel, rfl, by decide +kernel, by decide +kernel⟩
theorem ok_framed {f : Addr} {fd : FuncData} (F : Fun K "_law_framed" "_law_framed" s_framed f fd) (T : Tx K mg CM CR aF) (c_grid : Cal P w K mg base CX0 1 "_law_grid" ["_law_first", "_law_second"] spGrid) : FnOk P w K mg base CX0 2 f fd ["_law_seen"] (spFramed K) := by
  refine F.ok sc_framed (fun vs H Q E h => ?_) (fun cdv A outer s H vs Q E hr h => ?_)
  · obtain ⟨_, _, rfl, _⟩ := h
    rfl
  · obtain ⟨sa, n, rfl, hS, hn, k⟩ := h
    refine ⟨_, (pss_cons (ps_set (i := 1) sc_framed.nd rfl (Or.inl rfl) (pe_own c_grid (hr.mono (by omega)) rfl (pa_cons (pe_callB call_len_seq rfl T.n_len boot_len (pa_cons (pv 0) pa_nil)) (pa_cons (pe_callB call_len_seq rfl T.n_len boot_len (pa_cons (pv 0) pa_nil)) pa_nil))))
      (pss_one (ps_ret (pe_tup (pa_cons (pe_callB call_len_seq rfl T.n_len boot_len (pa_cons (pv 0) pa_nil)) (pa_cons (pe_callTy call_tuple_of rfl T.n_tuple boot_tuple (pa_cons (pe_lc (own := [("_law_pair", 2)]) (g := gName 2) rfl sc_framed.nd (pi_list (pv 1)) (blkOk_by (own := [("_law_pair", 2)]) (N := N_framed) (sc := defScope s_framed) (by decide +kernel)) (fun _ _ _ _ _ => (pg_name (i := 2) sc_framed.nd rfl (Or.inl rfl))) (fun _ _ _ _ _ => (pts_one (pt_val (pe_ix (k_ixl (K := K) rfl) (pe_ix (k_ixl (K := K) rfl) (pv 0) (pe_ix (k_ixt (K := K) rfl) (pv 2) pe_int (fun _ _ => rfl)) (fun _ _ => rfl)) (pe_ix (k_ixt (K := K) rfl) (pv 2) pe_int (fun _ _ => rfl)) (fun _ _ => rfl))))) (fun _ _ _ _ _ => (pv 2))) pa_nil)) pa_nil)))))), ?_⟩
    obtain ⟨rs, fb, s1, s2, s3⟩ := seen_fn hS
    have eln : V.int ((rs.map V.ref).length : Int) = nV n := by rw [List.length_map, s2]; rfl
    refine ⟨_, rfl, sa, _, rfl, Or.inl (sq_of s1), _, rfl, sa, _, rfl, Or.inl (sq_of s1), n, n, ?_, hn, hn, fun u H1 e1 ⟨D1, ys, hu1, hys, hall⟩ => ?_⟩
    · rw [eln]
      rfl
    subst hu1
    have g16 : n * n ≤ 4 * 4 := Nat.mul_le_mul hn hn
    have ylen : ys.length = n * n := by rw [hall.1, grid_len]
    have hzip : ∀ {i : Nat} {e : V × (Nat × Nat)}, (ys.zip (grid n n))[i]? = some e → ys[i]? = some e.1 ∧ (grid n n)[i]? = some e.2 := fun h => List.getElem?_zip_eq_some.mp h
    refine ⟨_, rfl, sa, _, rfl, Or.inl (sq_of (e1 _ _ s1)), ?_⟩
    rw [eln]
    refine ⟨_, rfl, D1, rfl, ⟨_, sq_of hys⟩, fun D hD => ?_⟩
    refine (Wk.list D1 ys).fl (ys.zip (grid n n)) (by rw [List.length_zip, ylen, grid_len, Nat.min_self]) (fun e => fb e.2.1 e.2.2) (·.1) hD (by omega) (sq_of hys) (fun _ _ e b => ex_l e b) ?_ ?_
    · rintro i ⟨y, v, w⟩ x H2 yes no he e2 hx ky kn
      obtain ⟨hy, hg⟩ := hzip he
      rw [hx] at hy
      have hy := Option.some.inj hy
      subst hy
      obtain ⟨hv, hw⟩ := mem_grid.mp (List.mem_of_getElem? hg)
      obtain ⟨t, hxt, ht⟩ := hall.2 i _ _ hx hg
      simp only at hxt ht
      subst hxt
      have ht2 := e2 _ _ ht
      obtain ⟨r, xs, r1, r2, r3⟩ := s3 v w hv hw
      have e12 := e1.trans e2
      refine ⟨rfl, _, rfl, _, rfl, t, _, 0, _, rfl, rfl, st_of ht2, rfl, sa, _, _, _, rfl, rfl, sq_of (e12 _ _ s1), r1, _, rfl, t, _, 1, _, rfl, rfl, st_of ht2, rfl, r, _, _, _, rfl, rfl, sq_of (e12 _ _ r2), r3, _, rfl, ?_⟩
      exact ite2 (fun q => ⟨_, rfl, ky q _ (Ex.refl _)⟩) (fun q => kn (by simpa using q) _ (Ex.refl _))
    · intro H2 e2 hts
      have hft : All2 (PfAt H2) (((ys.zip (grid n n)).filter fun e => fb e.2.1 e.2.2).map (·.1)) ((grid n n).filter fun p => fb p.1 p.2) := (hall.mono fun _ _ z => z.mono e2).filt (fun p => fb p.1 p.2)
      refine ⟨D, _, rfl, Or.inl ⟨sq_of hts, fun tp htp => ⟨(by show 2 ≤ sizeLine; decide), fun ft hft2 => ?_⟩⟩⟩
      have e3 := Ex.new (o := HO.tup (((ys.zip (grid n n)).filter fun e => fb e.2.1 e.2.2).map (·.1))) htp
      have e4 := Ex.new (o := HO.tup [nV n, .ref tp]) hft2
      refine k _ _ ((e1.trans e2).trans (e3.trans e4)) ⟨ft, (grid n n).filter fun p => fb p.1 p.2, rfl, ⟨tp, _, st_of upd_same, st_of (e4 _ _ upd_same), hft.mono fun _ _ z => (z.mono (e3.trans e4)).pr⟩, (grid_asc n n).filter _, fun p hp => ?_⟩
      exact mem_grid.mp (List.mem_filter.mp hp).1
abbrev N_program_model : List Str := ["_law_model_here", "_law_values", "_law_name"]
theorem sc_program_model : FnScope N_program_model ["_law_model_here"] (defScope s_program_model) := ⟨rfl, rfl, rfl, by decide +kernel, rfl, by decide +kernel, by decide +kernel⟩
theorem ok_program_model {f : Addr} {fd : FuncData} (F : Fun K "_law_program_model" "_law_program_model" s_program_model f fd) (T : Tx K mg CM CR aF) (c_framed : Cal P w K mg base CX0 2 "_law_framed" ["_law_seen"] (spFramed K)) : FnOk P w K mg base CX0 3 f fd ["_law_model_here"] (spPm K) := by
  refine F.ok sc_program_model (fun vs H Q E h => ?_) (fun cdv A outer s H vs Q E hr h => ?_)
  · obtain ⟨_, _, _, rfl, _⟩ := h
    rfl
  · obtain ⟨u0, n, raw, rfl, ⟨t, sa, d, kvs, rfl, t1, t2, t3, t4, t5, t6⟩, hn, k⟩ := h
    have hu := hu_of hr
    refine ⟨_, (pss_cons (ps_set (i := 1) sc_program_model.nd rfl (Or.inl rfl) pe_dnewK)
      (pss_cons (ps_lock (ps_for PassesOwn.never rfl (pi_keys (pe_ix ix_tup (pv 0) pe_int (fun _ _ => rfl))) (pg_name (i := 2) sc_program_model.nd rfl (Or.inl rfl))
      (pss_one (ps_dput hu (pv 1) (pv 2) (pe_callTy call_list_of rfl T.n_list boot_list (pa_cons (pe_dget hu (pe_ix ix_tup (pv 0) pe_int (fun _ _ => rfl)) (pv 2) (fun _ _ => rfl)) pa_nil)) rfl))))
      (pss_one (ps_ret (pe_tup (pa_cons (pe_own c_framed (hr.mono (by omega)) rfl (pa_cons (pe_ix ix_tup (pv 0) pe_int (fun _ _ => rfl)) pa_nil)) (pa_cons (pv 1) pa_nil))))))), ?_⟩
    have ndk := kv_nodup (K := K) (KfAt.kvs t4) t5.nd
    intro d2 hd2
    have nd2 : d ≠ d2 := ne_of_none t3 hd2
    have ntd : t ≠ d := ne_of t1 t3 (by intro z; cases z)
    have nt2 : t ≠ d2 := ne_of_none t1 hd2
    refine ⟨d, .dK kvs, (by rw [upd_ne nd2]; exact t3), trivial, fun od => ?_⟩
    have ht0 : upd (upd H d2 (.dK [])) d (.frz od (.dK kvs)) t = some (.tup [.ref sa, .ref d]) := by rw [upd_ne ntd, upd_ne nt2]; exact t1
    refine ⟨_, rfl, t, _, 1, _, rfl, rfl, st_of ht0, rfl, d, od, rfl, Or.inl ⟨kvs, upd_same, ?_⟩⟩
    refine Wk.for_ (Wk.keys d od kvs) (fun i σ H2 => ∃ z : Option V, σ = [some (.ref t), some (.ref d2), z] ∧ H2 d = some (.frz od (.dK kvs)) ∧ (∀ b o, b ≠ d → b ≠ d2 → H b = some o → H2 b = some o) ∧ ∃ es, H2 d2 = some (.dK es) ∧ All2 (KfAt H2) es (raw.take i))
      ⟨none, rfl, upd_same, fun b o h1 h2 z => by rw [upd_ne h1, upd_ne h2]; exact z, [], by rw [upd_ne nd2.symm]; exact upd_same, All2.nil⟩ (fun i σ H2 _ ⟨_, _, h, _⟩ => h) ?_ ?_
    · rintro i x σ H2 hi ⟨key, v, hk, rfl⟩ ⟨z, rfl, b1, b2, es, b3, b4⟩
      obtain ⟨e, he, hq1, a2, hq2, hq3⟩ := t4.at hk
      simp only at hq1 hq2
      subst hq1; subst hq2
      have hv2 : valV kvs (.inr e.1) = some (.ref a2) := valV_mem ndk (List.mem_of_getElem? hk)
      have ha2 : H2 a2 = some (.lst (e.2.map nV)) := b2 _ _ (ne_of hq3 t3 (by intro z; cases z)) (ne_of_none hq3 hd2) hq3
      have ht2 := b2 _ _ ntd nt2 t1
      refine ⟨_, rfl, t, _, 1, _, rfl, rfl, st_of ht2, rfl, _, rfl, d, _, rfl, dget_frz b1 hv2, a2, _, rfl, Or.inl (sq_of ha2), fun q hq => ?_⟩
      have ec := Ex.new (o := HO.lst (e.2.map nV)) hq
      have b3' := ec _ _ b3
      have esl : es.length ≤ 3 := by
        have h1 := b4.1
        have h2 := List.length_take (i := i) (l := raw)
        have h3 := t5.three
        omega
      refine ⟨_, rfl, _, rfl, d2, _, rfl, DPut.k b3' (small1000 (n := es.length) (by omega)), ?_⟩
      rw [putK_new _ (kv_none (K := K) (KfAt.kvs b4) (names_take t5.nd he))]
      have s5 : Sb d2 (upd H2 q (.lst (e.2.map nV))) (upd (upd H2 q (.lst (e.2.map nV))) d2 (.dK (es ++ [(.inr e.1, .ref q)]))) := Sb.upd
      refine ⟨_, rfl, s5 _ _ nd2 (ec _ _ b1), fun b o h1 h2 h3 => s5 _ _ h2 (ec _ _ (b2 b o h1 h2 h3)), _, upd_same, ?_⟩
      rw [take_snoc he]
      exact All2.snoc (b4.mono fun _ _ z => (z.mono ec).sb b3' noSq_dK s5) ⟨rfl, q, rfl, s5 _ _ (ne_of b3' upd_same (by intro z; cases z)).symm upd_same⟩
    · rintro σ H2 ⟨z, rfl, b1, b2, es, b3, b4⟩
      rw [t4.1, List.take_length] at b4
      refine ⟨b1, ?_⟩
      have sF : Sb d H2 (upd H2 d (.dK kvs)) := Sb.upd
      have eF : Ex H (upd H2 d (.dK kvs)) := fun b o z => by
        by_cases hb : b = d
        · rw [hb, upd_same, ← t3, ← hb]
          exact z
        · exact sF _ _ hb (b2 _ _ hb (ne_of_none z hd2) z)
      have f3 : upd H2 d (.dK kvs) d2 = some (.dK es) := by rw [upd_ne nd2.symm]; exact b3
      have f4 : All2 (KfAt (upd H2 d (.dK kvs))) es raw := b4.mono fun _ _ z => z.sb b1 noSq_fK sF
      refine ⟨_, rfl, t, _, 0, _, rfl, rfl, st_of (eF _ _ t1), rfl, sa, n, rfl, t2.mono eF, hn, fun u H3 e3 ⟨fa, ps, hu3, g1, g2, g3⟩ => ?_⟩
      subst hu3
      refine ⟨_, rfl, (by show 2 ≤ sizeLine; decide), fun q hq => ?_⟩
      have e4 := Ex.new (o := HO.tup [.ref fa, .ref d2]) hq
      exact k _ _ (eF.trans (e3.trans e4)) ⟨q, fa, d2, es, ps, rfl, upd_same, g1.mono e4, g2, g3, (e3.trans e4) _ _ f3, f4.mono fun _ _ z => z.mono (e3.trans e4)⟩
end
end Q
/-! A drawn model -/
namespace Q
open PySem PySem.Spec PyProof.Rows L2 Evl Rl Bi
section
variable {J : It} {n : Nat} {base : Hp → Prop} {item : Nat → V → Hp → Prop}
/-- a comprehension of bools -/
theorem Wk.bools (w : Wk J n base item) {g : TG} {tt : TT} {te : TE} {vs : List Nat} {σ : L2.St} {H1 : Hp} {D : Addr} {Qd : Hp → Prop} (hD : H1 D = none) (hn : n ≤ 40000) (hb0 : base H1) (hb : ∀ H H', Ex H H' → base H → base H')
    (hs : ∀ i x H (yes : V → Hp → Prop) (no : Hp → Prop), i < n → Ex H1 H → item i x H → (∀ c H4, Ex H H4 → yes (.bl c) H4) → g x (wipe σ vs) H fun σ2 H2 => wipe σ2 vs = wipe σ vs ∧ tt σ2 H2 fun b H3 => if b = true then te σ2 H3 yes else no H3)
    (hd : ∀ (bs : List Bool) H', Ex H1 H' → H' D = some (.lst (bs.map V.bl)) → bs.length = n → Qd H') :
    ∃ W : Nat → Nat → Hp → Prop, (∃ m, W 0 m (upd H1 D (.lst []))) ∧ ∀ i m H, W i m H →
      (J.stop i H ∧ Qd H) ∨ (J.go i H ∧ ∃ Nx : Hp → Prop, (∀ H', Nx H' → ∃ m', m' < m ∧ W (i + 1) m' H') ∧ ∀ x H', J.yld i H x H' → g x (wipe σ vs) H' fun σ2 H2 => wipe σ2 vs = wipe σ vs ∧ tt σ2 H2 fun b H3 =>
        if b = true then te σ2 H3 fun y H4 => ∃ acc, H4 D = some (.lst acc) ∧ acc.length < sizeLine ∧ Nx (upd H4 D (.lst (acc ++ [y]))) else Nx H3) := by
  refine w.lc (fun _ => true) (fun i y _ => ∃ c, y = .bl c) hD hn hb0 hb (fun _ _ _ _ _ z _ => z) (fun i x H yes no hi e _ it ky kn => hs i x H yes no hi e it fun c H4 e4 => ky rfl _ H4 e4 ⟨c, rfl⟩) fun ys H' e hy ha => ?_
  obtain ⟨zl, zp⟩ := Acc.all (fun _ _ => rfl) ha
  obtain ⟨bs, b1, b2⟩ := choose_list (ys := ys) (G := fun (_ : Nat) (y : V) (c : Bool) => y = .bl c) fun i y hy => zp i y hy
  refine hd bs H' e ?_ (b1.trans zl)
  rw [hy, show ys = bs.map V.bl from All2.eq_map ⟨b1.symm, fun i y c h1 h2 => b2 i y c h1 h2⟩]
/-- a comprehension of rows of bools -/
theorem Wk.rows (w : Wk J n base item) {g : TG} {tt : TT} {te : TE} {vs : List Nat} {σ : L2.St} {H1 : Hp} {D : Addr} {Qd : Hp → Prop} (m : Nat) (hD : H1 D = none) (hn : n ≤ 40000) (hb0 : base H1) (hb : ∀ H H', Ex H H' → base H → base H')
    (hs : ∀ i x H (yes : V → Hp → Prop) (no : Hp → Prop), i < n → Ex H1 H → item i x H → (∀ r (bs : List Bool) H4, Ex H H4 → H r = none → H4 r = some (.lst (bs.map V.bl)) → bs.length = m → yes (.ref r) H4) →
      g x (wipe σ vs) H fun σ2 H2 => wipe σ2 vs = wipe σ vs ∧ tt σ2 H2 fun b H3 => if b = true then te σ2 H3 yes else no H3)
    (hd : ∀ (rs : List Addr) H', Ex H1 H' → H' D = some (.lst (rs.map V.ref)) → rs.length = n → (∀ r, r ∈ rs → r ≠ D ∧ ∃ bs : List Bool, H' r = some (.lst (bs.map V.bl)) ∧ bs.length = m) → Qd H') :
    ∃ W : Nat → Nat → Hp → Prop, (∃ m, W 0 m (upd H1 D (.lst []))) ∧ ∀ i m H, W i m H →
      (J.stop i H ∧ Qd H) ∨ (J.go i H ∧ ∃ Nx : Hp → Prop, (∀ H', Nx H' → ∃ m', m' < m ∧ W (i + 1) m' H') ∧ ∀ x H', J.yld i H x H' → g x (wipe σ vs) H' fun σ2 H2 => wipe σ2 vs = wipe σ vs ∧ tt σ2 H2 fun b H3 =>
        if b = true then te σ2 H3 fun y H4 => ∃ acc, H4 D = some (.lst acc) ∧ acc.length < sizeLine ∧ Nx (upd H4 D (.lst (acc ++ [y]))) else Nx H3) := by
  refine w.lc (fun _ => true) (fun i y H => ∃ r, y = .ref r ∧ r ≠ D ∧ ∃ bs : List Bool, H r = some (.lst (bs.map V.bl)) ∧ bs.length = m) hD hn hb0 hb (fun _ _ _ _ _ ⟨r, h1, h2, bs, h3, h4⟩ s => ⟨r, h1, h2, bs, s _ _ h2 h3, h4⟩)
    (fun i x H yes no hi e ⟨acc, hacc⟩ it ky kn => hs i x H yes no hi e it fun r bs H4 e4 hr h4 hl => ky rfl _ H4 e4 ⟨r, rfl, (fun z => by rw [z, hacc] at hr; cases hr), bs, h4, hl⟩) fun ys H' e hy ha => ?_
  obtain ⟨zl, zp⟩ := Acc.all (fun _ _ => rfl) ha
  obtain ⟨rs, b1, b2⟩ := choose_list (ys := ys) (G := fun (_ : Nat) (y : V) (r : Addr) => y = .ref r ∧ r ≠ D ∧ ∃ bs : List Bool, H' r = some (.lst (bs.map V.bl)) ∧ bs.length = m) fun i y hy => zp i y hy
  refine hd rs H' e ?_ (b1.trans zl) fun r hr => ?_
  · rw [hy, show ys = rs.map V.ref from All2.eq_map ⟨b1.symm, fun i y c h1 h2 => (b2 i y c h1 h2).1⟩]
  · obtain ⟨i, hi⟩ := List.getElem?_of_mem hr
    obtain ⟨y, hy⟩ : ∃ y, ys[i]? = some y := ⟨_, List.getElem?_eq_getElem (by rw [← b1]; exact lt_of_some hi)⟩
    exact (b2 i y r hy hi).2
end
theorem neNil {K : PySem.W.Frag} {H : Hp} {Q : VK} {a b : Addr} {l : List Nat} (ha : SqL K H a (l.map nV)) (hb : SqL K H b []) (k : Q (.bl (!l.isEmpty)) H) : rNeD K (.ref a) (.ref b) H Q := by
  refine ⟨.list ((toI l).map PyData.int), .list [], .lst ha ?_, .lst hb .nil, ints_shaped _, by decide +kernel, ?_⟩
  · rw [nV_map]
    exact dp_ints _
  · rw [nil_eqv]
    have e : (toI l).isEmpty = l.isEmpty := by cases l <;> rfl
    rw [e]
    exact k
theorem cut_mem {xs : List V} {a b : Option Int} {x : V} (h : x ∈ cutV xs a b) : x ∈ xs := by
  unfold cutV at h
  exact List.mem_of_mem_drop (List.mem_of_mem_take h)
theorem SeenAt.sb {H H' : Hp} {D a n : Nat} {o : HO} (hD : H D = some o) (no : NoSq o) (e : Sb D H H') (h : SeenAt H a n) : SeenAt H' a n := by
  obtain ⟨rs, h1, h2, h3⟩ := h
  refine ⟨rs, e _ _ (fun z => by rw [z, hD] at h1; exact no.1 _ (Option.some.inj h1)) h1, h2, fun r hr => ?_⟩
  obtain ⟨bs, g1, g2⟩ := h3 r hr
  exact ⟨bs, e _ _ (fun z => by rw [z, hD] at g1; exact no.1 _ (Option.some.inj g1)) g1, g2⟩
theorem rep_false : ∀ n : Nat, (List.replicate n [V.bl false]).flatten = (List.replicate n false).map V.bl
  | 0 => rfl
  | n + 1 => by
    rw [List.replicate_succ, List.replicate_succ, List.flatten_cons, List.map_cons, rep_false n]
    rfl
theorem pqr_at : ∀ k : Nat, k < 3 → ∃ c, atI ("pqr" : Str).cps.toList (k : Int) = some c ∧ pqr[k]? = some ⟨#[c]⟩
  | 0, _ => ⟨_, rfl, rfl⟩
  | 1, _ => ⟨_, rfl, rfl⟩
  | 2, _ => ⟨_, rfl, rfl⟩
  | k + 3, h => absurd h (by omega)
def spModel (K : PySem.W.Frag) : Sp := fun vs H Q _ => ∃ (ln : Addr) (ns : List Nat) (lg : Str) (most : Nat), vs = [.ref ln, .str lg, nV most] ∧ SqL K H ln (ns.map nV) ∧ ns.length = 6 ∧ 1 ≤ most ∧ most ≤ 4 ∧ Ret H (fun u H' => ∃ n raw, RawAt H' u n raw ∧ n ≤ most) Q
section
variable {P : Program} {w : World} {K : PySem.W.Frag} {mg : Str → Option Value} {base : Heap} {CM CR CN aF : Addr}
abbrev N_model : List Str := ["_law_numbers", "_law_logic", "_law_most", "_law_first", "_law_worlds", "_law_bits", "_law_number", "_law_seen", "_law_v", "_law_row", "_law_w", "_law_values", "_law_k", "_law_name", "_law_mask", "_law_here"]
theorem sc_model : FnScope N_model ["_law_numbers", "_law_logic", "_law_most"] (defScope s_model) := ⟨rfl, rfl, rfl, by decide +kernel, rfl, by decide +kernel, by decide +kernel⟩
abbrev sv5 : Scope := relS (compS (valS (stAt (inIf (stAt (defBody s_model) 7)) 0))) (defScope s_model)
abbrev sv6 : Scope := relS (compS (valS (stAt (inIf (stAt (inFor (stAt (defBody s_model) 10)) 4)) 0))) (defScope s_model)
theorem ok_model {f : Addr} {fd : FuncData} (F : Fun K "_law_model" "_law_model" s_model f fd) (T : Tx K mg CM CR aF) (c_closed : Cal P w K mg base CX0 1 "_law_closed" ["_law_seen", "_law_logic"] spClosed) : FnOk P w K mg base CX0 2 f fd ["_law_numbers", "_law_logic", "_law_most"] (spModel K) := by
  refine F.ok sc_model (fun vs H Q E h => ?_) (fun cdv A outer s H vs Q E hr h => ?_)
  · obtain ⟨_, _, _, _, rfl, _⟩ := h
    rfl
  · obtain ⟨ln, ns, lg, most, rfl, hln, hl6, hm1, hm4, k⟩ := h
    have hu := hu_of hr
    refine ⟨_, (pss_cons (ps_set (i := 3) sc_model.nd rfl (Or.inl rfl) pe_int)
      (pss_cons (ps_if (pt_cmpR (op_neD hr.units) (pv 0) (pe_lst pa_nil) (nomark _))
      (pss_one (ps_set (i := 3) sc_model.nd rfl (Or.inl rfl) (pe_callTy call_int1 rfl T.n_int boot_int (pa_cons (pe_ix ix_list (pv 0) pe_int (fun _ _ => rfl)) pa_nil))))
      pss_nil)
      (pss_cons (ps_set (i := 4) sc_model.nd rfl (Or.inr rfl) (pe_op op_add pe_int (pe_op op_mod (pv 3) (pv 2))))
      (pss_cons (ps_set (i := 5) sc_model.nd rfl (Or.inr rfl) (pe_op op_fdiv (pv 3) pe_int))
      (pss_cons (ps_for PassesOwn.never rfl (pi_list (pe_slice sl_list (pv 0) (po_some pe_int) (po_some pe_int))) (pg_name (i := 6) sc_model.nd rfl (Or.inl rfl))
      (pss_one (ps_set (i := 5) sc_model.nd rfl (Or.inr rfl) (pe_op op_add (pe_op op_mul (pv 5) pe_int) (pe_callTy call_int1 rfl T.n_int boot_int (pa_cons (pv 6) pa_nil))))))
      (pss_cons (ps_set (i := 7) sc_model.nd rfl (Or.inr rfl) (pe_lst pa_nil))
      (pss_cons (ps_for PassesOwn.never rfl (pi_range1 rfl T.n_range (pa_cons (pv 4) pa_nil)) (pg_name (i := 8) sc_model.nd rfl (Or.inr rfl))
      (pss_cons (ps_set (i := 9) sc_model.nd rfl (Or.inr rfl) (pe_lc (own := [("_law_w", 10)]) (g := gName 10) rfl sc_model.nd (pi_range1 rfl T.n_range (pa_cons (pv 4) pa_nil)) (blkOk_by (own := [("_law_w", 10)]) (N := N_model) (sc := defScope s_model) (by decide +kernel)) (fun _ _ _ _ _ => (pg_name (i := 10) sc_model.nd rfl (Or.inl rfl))) (fun _ _ _ _ _ => pts_nil) (fun _ _ _ _ _ => (pe_cmpR op_eq (pe_op op_and (pe_op op_shr (pv 5) (pe_op op_add (pe_op op_mul (pv 8) (pv 4)) (pv 10))) pe_int) pe_int (nomark _)))))
      (pss_cons (ps_if (pt_cmpR op_in_seq (pv 1) (pe_tup (pa_cons pe_str (pa_cons pe_str (pa_cons pe_str (pa_cons pe_str (pa_cons pe_str (pa_cons pe_str (pa_cons pe_str (pa_cons pe_str pa_nil))))))))) (by rfl))
      (pss_one (ps_set (i := 9) sc_model.nd rfl (Or.inr rfl) (pe_lc (own := [("_law_w", 10)]) (g := gName 10) rfl sc_model.nd (pi_range1 rfl T.n_range (pa_cons (pv 4) pa_nil)) (blkOk_by (own := [("_law_w", 10)]) (N := N_model) (sc := defScope s_model) (by decide +kernel)) (fun _ _ _ _ _ => (pg_name (i := 10) sc_model.nd rfl (Or.inl rfl))) (fun _ _ _ _ _ => pts_nil) (fun _ _ _ _ _ => (pe_and (pe_ix (k_ixl (K := K) rfl) (pv 9) (pv 10) (fun _ _ => rfl)) (pe_one (pe_cmpR op_lt (pv 8) (pv 10) (nomark _))))))))
      pss_nil)
      (pss_cons (ps_if (pt_cmpR op_in_seq (pv 1) (pe_tup (pa_cons pe_str (pa_cons pe_str pa_nil))) (by rfl))
      (pss_one (ps_set (i := 9) sc_model.nd rfl (Or.inr rfl) (pe_lc (own := [("_law_w", 10)]) (g := gName 10) rfl sc_model.nd (pi_range1 rfl T.n_range (pa_cons (pv 4) pa_nil)) (blkOk_by (own := [("_law_w", 10)]) (N := N_model) (sc := defScope s_model) (by decide +kernel)) (fun _ _ _ _ _ => (pg_name (i := 10) sc_model.nd rfl (Or.inl rfl))) (fun _ _ _ _ _ => pts_nil) (fun _ _ _ _ _ => (pe_cmpR op_lt (pv 8) (pv 10) (nomark _))))))
      pss_nil)
      (pss_cons (ps_if (pt_cmpR op_in_seq (pv 1) (pe_tup (pa_cons pe_str pa_nil)) (by rfl))
      (pss_one (ps_set (i := 9) sc_model.nd rfl (Or.inr rfl) (pe_lc (own := [("_law_w", 10)]) (g := gName 10) rfl sc_model.nd (pi_range1 rfl T.n_range (pa_cons (pv 4) pa_nil)) (blkOk_by (own := [("_law_w", 10)]) (N := N_model) (sc := defScope s_model) (by decide +kernel)) (fun _ _ _ _ _ => (pg_name (i := 10) sc_model.nd rfl (Or.inl rfl))) (fun _ _ _ _ _ => pts_nil) (fun _ _ _ _ _ => (pe_or (pe_ix (k_ixl (K := K) rfl) (pv 9) (pv 10) (fun _ _ => rfl)) (pe_one (pe_and (pe_cmpR op_eq (pv 10) (pe_op op_sub (pv 4) pe_int) (nomark _)) (pe_one (pe_cmpR op_lt (pv 8) (pv 10) (nomark _))))))))))
      pss_nil)
      (pss_cons (ps_if (pt_cmpR op_in_seq (pv 1) (pe_tup (pa_cons pe_str pa_nil)) (by rfl))
      (pss_one (ps_set (i := 9) sc_model.nd rfl (Or.inr rfl) (pe_lc (own := [("_law_w", 10)]) (g := gName 10) rfl sc_model.nd (pi_range1 rfl T.n_range (pa_cons (pv 4) pa_nil)) (blkOk_by (own := [("_law_w", 10)]) (N := N_model) (sc := defScope s_model) (by decide +kernel)) (fun _ _ _ _ _ => (pg_name (i := 10) sc_model.nd rfl (Or.inl rfl))) (fun _ _ _ _ _ => pts_nil) (fun _ _ _ _ _ => (pe_and (pe_ix (k_ixl (K := K) rfl) (pv 9) (pv 10) (fun _ _ => rfl)) (pe_one (pe_chain op_lt op_le (pv 8) (pe_op op_fdiv (pv 4) pe_int) (pv 10))))))))
      pss_nil)
      (pss_cons (ps_if (pt_cmpR op_eq (pv 1) pe_str (nomark _))
      (pss_one (ps_set (i := 9) sc_model.nd rfl (Or.inr rfl) (pe_op op_rep (pe_lst (pa_cons pe_bl pa_nil)) (pv 4))))
      pss_nil)
      (pss_one (ps_expr (pe_bm PySem.F.plainAttrs_list PySem.F.slot_list_append PySem.F.type_list_append mt_append (pv 7) (pa_cons (pv 9) pa_nil)))))))))))
      (pss_cons (ps_if (PW.pt (pw_and (pt_cmpR op_eq (pv 1) pe_str (nomark _)) (pw_and1 (pt_cmpR op_gt (pv 4) pe_int (nomark _)))))
      (pss_one (ps_set (i := 7) sc_model.nd rfl (Or.inr rfl) (pe_lc (own := [("_law_v", 8)]) (g := gName 8) rfl sc_model.nd (pi_range1 rfl T.n_range (pa_cons (pv 4) pa_nil)) (blkOk_by (own := [("_law_v", 8)]) (N := N_model) (sc := defScope s_model) (by decide +kernel)) (fun _ _ _ _ _ => (pg_name (i := 8) sc_model.nd rfl (Or.inr rfl))) (fun _ _ _ _ _ => pts_nil) (fun _ _ _ _ _ => (pe_lc (own := [("_law_w", 10)]) (g := gName 10) rfl sc_model.nd (pi_range1 rfl T.n_range (pa_cons (pv 4) pa_nil)) (blkOk_by (own := [("_law_w", 10)]) (N := N_model) (sc := sv5) (by decide +kernel)) (fun _ _ _ _ _ => (pg_name (i := 10) sc_model.nd rfl (Or.inl rfl))) (fun _ _ _ _ _ => pts_nil) (fun _ _ _ _ _ => (pe_and (pe_cmpR op_lt (pv 8) (pv 10) (nomark _)) (pe_one (pe_cmpR op_eq (pe_op op_fdiv (pv 8) pe_int) (pe_op op_fdiv (pv 10) pe_int) (nomark _))))))))))
      pss_nil)
      (pss_cons (ps_set (i := 7) sc_model.nd rfl (Or.inr rfl) (pe_own c_closed (hr.mono (by omega)) rfl (pa_cons (pv 7) (pa_cons (pv 1) pa_nil))))
      (pss_cons (ps_set (i := 11) sc_model.nd rfl (Or.inl rfl) pe_dnewK)
      (pss_cons (ps_for PassesOwn.never rfl (pi_range1 rfl T.n_range (pa_cons pe_int pa_nil)) (pg_name (i := 12) sc_model.nd rfl (Or.inl rfl))
      (pss_cons (ps_set (i := 13) sc_model.nd rfl (Or.inl rfl) (pe_ix ix_str pe_str (pv 12) (fun _ _ => rfl)))
      (pss_cons (ps_set (i := 14) sc_model.nd rfl (Or.inr rfl) pe_int)
      (pss_cons (ps_if (pt_cmpR op_gt (pe_callB call_len_seq rfl T.n_len boot_len (pa_cons (pv 0) pa_nil)) (pe_op op_add pe_int (pv 12)) (nomark _))
      (pss_one (ps_set (i := 14) sc_model.nd rfl (Or.inr rfl) (pe_op op_mod (pe_callTy call_int1 rfl T.n_int boot_int (pa_cons (pe_ix ix_list (pv 0) (pe_op op_add pe_int (pv 12)) (fun _ _ => rfl)) pa_nil)) (pe_op op_shl pe_int (pv 4)))))
      pss_nil)
      (pss_cons (ps_set (i := 15) sc_model.nd rfl (Or.inr rfl) (pe_lc (own := [("_law_w", 10)]) (g := gName 10) rfl sc_model.nd (pi_range1 rfl T.n_range (pa_cons (pv 4) pa_nil)) (blkOk_by (own := [("_law_w", 10)]) (N := N_model) (sc := defScope s_model) (by decide +kernel)) (fun _ _ _ _ _ => (pg_name (i := 10) sc_model.nd rfl (Or.inl rfl))) (fun _ _ _ _ _ => (pts_one (pt_cmpR op_eq (pe_op op_and (pe_op op_shr (pv 14) (pv 10)) pe_int) pe_int (nomark _)))) (fun _ _ _ _ _ => (pv 10))))
      (pss_cons (ps_if (pt_cmpR op_in_seq (pv 1) (pe_tup (pa_cons pe_str (pa_cons pe_str (pa_cons pe_str (pa_cons pe_str (pa_cons pe_str (pa_cons pe_str pa_nil))))))) (by rfl))
      (pss_one (ps_set (i := 15) sc_model.nd rfl (Or.inr rfl) (pe_lc (own := [("_law_w", 10)]) (g := gName 10) rfl sc_model.nd (pi_range1 rfl T.n_range (pa_cons (pv 4) pa_nil)) (blkOk_by (own := [("_law_w", 10)]) (N := N_model) (sc := defScope s_model) (by decide +kernel)) (fun _ _ _ _ _ => (pg_name (i := 10) sc_model.nd rfl (Or.inr rfl))) (fun _ _ _ _ _ => (pts_one (pt_cmpR (k_in (K := K) rfl) pe_bl (pe_lc (own := [("_law_v", 8)]) (g := gName 8) rfl sc_model.nd (k_pil (K := K) rfl (pv 15)) (blkOk_by (own := [("_law_v", 8)]) (N := N_model) (sc := sv6) (by decide +kernel)) (fun _ _ _ _ _ => (pg_name (i := 8) sc_model.nd rfl (Or.inl rfl))) (fun _ _ _ _ _ => pts_nil) (fun _ _ _ _ _ => (pe_ix (k_ixl (K := K) rfl) (pe_ix (k_ixl (K := K) rfl) (pv 7) (pv 8) (fun _ _ => rfl)) (pv 10) (fun _ _ => rfl)))) (by rfl)))) (fun _ _ _ _ _ => (pv 10)))))
      pss_nil)
      (pss_one (ps_dput hu (pv 11) (pv 13) (pv 15) rfl))))))))
      (pss_one (ps_ret (pe_tup (pa_cons (pv 7) (pa_cons (pv 11) pa_nil)))))))))))))))), ?_⟩
    have hne : ns.isEmpty = false := by cases ns with
      | nil => cases hl6
      | cons a b => rfl
    obtain ⟨n0, hn0⟩ : ∃ n0, ns[0]? = some n0 := ⟨_, List.getElem?_eq_getElem (by omega)⟩
    -- first
    refine ⟨_, rfl, (by show 0 ≤ sizeLine; decide), fun q0 hq0 => ?_⟩
    have e0 := Ex.new (o := HO.lst []) hq0
    have hln0 := ex_l e0 hln
    refine neNil hln0 (sq_of upd_same) ⟨_, rfl, ?_⟩
    rw [hne]
    refine iteT ⟨_, rfl, ln, _, 0, .int n0, rfl, rfl, hln0, atI_nat (j := 0) (by rw [List.getElem?_map, hn0]; rfl), Or.inl ⟨_, rfl, ?_⟩⟩
    -- worlds
    refine ⟨_, rfl, _, rfl, _, _, rfl, rfl, (by show (0 : Int) < (most : Int); omega), _, _, rfl, rfl, ?_⟩
    obtain ⟨W, hW1, hW2, hWe⟩ : ∃ W : Nat, 1 ≤ W ∧ W ≤ most ∧ V.int (1 + (n0 : Int) % (most : Int)) = nV W := by
      have h1 := Int.emod_nonneg (n0 : Int) (b := (most : Int)) (by omega)
      have h2 := Int.emod_lt_of_pos (n0 : Int) (b := (most : Int)) (by omega)
      refine ⟨(1 + (n0 : Int) % (most : Int)).toNat, by omega, by omega, ?_⟩
      unfold nV
      rw [Int.toNat_of_nonneg (by omega)]
    have hW4 : W ≤ 4 := by omega
    dsimp only
    rw [hWe]
    -- bits
    refine ⟨_, rfl, _, _, rfl, rfl, ⟨by decide, by decide⟩, ?_⟩
    refine ⟨_, rfl, _, rfl, _, rfl, ln, _, rfl, hln0, fun p hp => ?_⟩
    have e1 := Ex.new (o := HO.lst (cutV (ns.map nV) (some 1) (some 3))) hp
    refine ⟨p, rfl, ⟨_, sq_of upd_same⟩, ?_⟩
    refine Wk.for_ (Wk.list p (cutV (ns.map nV) (some 1) (some 3))) (fun i σ H2 => ∃ (b : Int) (z6 : Option V), σ = [some (.ref ln), some (.str lg), some (nV most), some (nV n0), some (nV W), some (.int b), z6, none, none, none, none, none, none, none, none, none] ∧ Ex H H2 ∧ SqL K H2 p (cutV (ns.map nV) (some 1) (some 3)))
      ⟨_, none, rfl, e0.trans e1, sq_of upd_same⟩ (fun i σ H2 _ ⟨_, _, _, _, h⟩ => h) ?_ ?_
    · rintro i x σ H2 hi hx ⟨b, z6, rfl, e2, hq⟩
      obtain ⟨c, _, rfl⟩ := List.mem_map.mp (cut_mem (List.mem_of_getElem? hx))
      exact ⟨_, rfl, _, _, rfl, rfl, Or.inr ⟨by decide, by decide⟩, _, rfl, Or.inl ⟨_, rfl, _, _, rfl, rfl, _, _, rfl, e2, hq⟩⟩
    rintro σ H2 ⟨bits, z6, rfl, e2, _⟩
    -- the rows
    refine ⟨(by show 0 ≤ sizeLine; decide), fun S hS => ?_⟩
    have eS := Ex.new (o := HO.lst []) hS
    have eHS := e2.trans eS
    have atS : upd H2 S (.lst []) S = some (.lst []) := upd_same
    generalize upd H2 S (.lst []) = HS at eS eHS atS ⊢
    dsimp only [gName]
    refine seq_with (I := fun σ H3 => ∃ (z8 z9 : Option V) (S2 : Addr), σ = [some (.ref ln), some (.str lg), some (nV most), some (nV n0), some (nV W), some (.int bits), z6, some (.ref S2), z8, z9, none, none, none, none, none, none] ∧ Ex H H3 ∧ SeenAt H3 S2 W) ?_ (fun N hN => ?_)
    · rintro σ H3 ⟨z8, z9, S2, rfl, e3, hS2⟩
      -- HT
      refine seq_with (I := fun σ H4 => ∃ (z8 z9 : Option V) (S2 : Addr), σ = [some (.ref ln), some (.str lg), some (nV most), some (nV n0), some (nV W), some (.int bits), z6, some (.ref S2), z8, z9, none, none, none, none, none, none] ∧ Ex H H4 ∧ SeenAt H4 S2 W) ?_ (fun N hN => ?_)
      · rintro σ H4 ⟨z8, z9, S2, rfl, e4, hS2⟩
        -- closed
        refine ⟨_, rfl, _, rfl, S2, lg, W, rfl, hS2, hW4, fun u H5 e5 ⟨S3, hu5, hS3⟩ => ?_⟩
        subst hu5
        intro d hd
        have ed := Ex.new (o := HO.dK []) hd
        have hS3' := hS3.mono ed
        have eHd := (e4.trans e5).trans ed
        have atd : upd H5 d (.dK []) d = some (.dK []) := upd_same
        have hd0 : H d = none := by
          cases q : H d with
          | none => rfl
          | some o => rw [e5 _ _ (e4 _ _ q)] at hd; cases hd
        generalize upd H5 d (.dK []) = HD at ed hS3' eHd atd ⊢
        refine ⟨3, rfl, by decide, by decide, ?_⟩
        refine Wk.for_ (Wk.range 3) (fun k σ H6 => ∃ (z12 z13 z14 z15 : Option V) (es : List (Key × V)) (raw : List (Str × List Nat)), σ = [some (.ref ln), some (.str lg), some (nV most), some (nV n0), some (nV W), some (.int bits), z6, some (.ref S3), z8, z9, none, some (.ref d), z12, z13, z14, z15] ∧ Sb d HD H6 ∧ H6 d = some (.dK es) ∧ All2 (KfAt H6) es raw ∧ raw.map (·.1) = pqr.take k ∧ ∀ e, e ∈ raw → e.2.length ≤ W ∧ ∀ w, w ∈ e.2 → w < W)
          ⟨none, none, none, none, [], [], rfl, Sb.refl, atd, All2.nil, rfl, fun e h => (nomatch h)⟩ (fun _ _ _ _ _ => trivial) ?_ ?_
        · rintro kk x σ H6 hk rfl ⟨z12, z13, z14, z15, es, raw, rfl, s1, s2, s3, s4, s5⟩
          obtain ⟨c, hc1, hc2⟩ := pqr_at kk hk
          have hS6 : SeenAt H6 S3 W := hS3'.sb atd noSq_dK s1
          have hln6 : SqL K H6 ln (ns.map nV) := sql_sb atd noSq_dK s1 (ex_l eHd hln)
          -- name, mask
          refine ⟨_, rfl, _, _, _, rfl, rfl, (by decide), hc1, ?_⟩
          dsimp only [gName]
          refine seq_with (I := fun σ H7 => ∃ m : Int, σ = [some (.ref ln), some (.str lg), some (nV most), some (nV n0), some (nV W), some (.int bits), z6, some (.ref S3), z8, z9, none, some (.ref d), some (nV kk), some (.str ⟨#[c]⟩), some (.int m), z15] ∧ H6 = H7) ?_ (fun N hN => hN _ _ ⟨0, rfl, rfl⟩)
          rintro σ H7 ⟨m0, rfl, rfl⟩
          refine seq_with (I := fun σ H7 => ∃ m : Int, σ = [some (.ref ln), some (.str lg), some (nV most), some (nV n0), some (nV W), some (.int bits), z6, some (.ref S3), z8, z9, none, some (.ref d), some (nV kk), some (.str ⟨#[c]⟩), some (.int m), z15] ∧ H6 = H7) ?_ (fun N hN => ?_)
          · rintro σ H7 ⟨m, rfl, rfl⟩
            -- here
            refine seq_with (I := fun σ H8 => ∃ (h : Addr) (l : List Nat), σ = [some (.ref ln), some (.str lg), some (nV most), some (nV n0), some (nV W), some (.int bits), z6, some (.ref S3), z8, z9, none, some (.ref d), some (nV kk), some (.str ⟨#[c]⟩), some (.int m), some (.ref h)] ∧ Ex H6 H8 ∧ H8 h = some (.lst (l.map nV)) ∧ l.length ≤ W ∧ ∀ w, w ∈ l → w < W) ?_ (fun N hN => ?_)
            · rintro σ H8 ⟨h, l, rfl, e8, h8, l1, l2⟩
              refine seq_with (I := fun σ H8 => ∃ (h : Addr) (l : List Nat), σ = [some (.ref ln), some (.str lg), some (nV most), some (nV n0), some (nV W), some (.int bits), z6, some (.ref S3), z8, z9, none, some (.ref d), some (nV kk), some (.str ⟨#[c]⟩), some (.int m), some (.ref h)] ∧ Ex H6 H8 ∧ H8 h = some (.lst (l.map nV)) ∧ l.length ≤ W ∧ ∀ w, w ∈ l → w < W) ?_ (fun N hN => ?_)
              · rintro σ H9 ⟨h, l, rfl, e9, h9, l1, l2⟩
                -- values[name] = here
                have d9 := e9 _ _ s2
                have esl : es.length ≤ 3 := by
                  have h1 := s3.1
                  have h2 := List.length_take (i := kk) (l := pqr)
                  rw [← s4, List.length_map] at h2
                  omega
                have hnew : (⟨#[c]⟩ : Str) ∉ raw.map (·.1) := by
                  rw [s4]
                  exact nodup_take names3 hc2
                refine ⟨_, rfl, _, rfl, _, rfl, d, _, rfl, DPut.k (k := Sum.inr ⟨#[c]⟩) d9 (small1000 (n := es.length) (by omega)), ?_⟩
                rw [putK_new _ (kv_none (K := K) (KfAt.kvs s3) hnew)]
                have sd : Sb d H9 (upd H9 d (.dK (es ++ [(.inr ⟨#[c]⟩, .ref h)]))) := Sb.upd
                refine ⟨_, _, _, _, _, raw ++ [(⟨#[c]⟩, l)], rfl, s1.trans (Sb.pre e9 sd), upd_same, ?_, ?_, fun e he => ?_⟩
                · exact All2.snoc ((s3.mono fun _ _ z => z.mono e9).mono fun _ _ z => z.sb d9 noSq_dK sd) ⟨rfl, h, rfl, sd _ _ (ne_of d9 h9 (by intro z; cases z)).symm h9⟩
                · rw [List.map_append, s4, take_snoc hc2]
                  rfl
                · rcases List.mem_append.mp he with he | he
                  · exact s5 e he
                  · rw [List.mem_singleton.mp he]
                    exact ⟨l1, l2⟩
              · -- the intuitionistic ones
                refine ⟨_, rfl, (by show 6 ≤ sizeLine; decide), fun t ht => ⟨t, _, rfl, Or.inr (st_of upd_same), rfl, rfl, _, rfl, ?_⟩⟩
                have et := Ex.new (o := HO.tup [.str "Int", .str "KC", .str "LC", .str "BD2", .str "HT", .str "Cl"]) ht
                refine ite2 (fun _ => ?_) (fun _ => hN _ _ ⟨h, l, rfl, e8.trans et, et _ _ h8, l1, l2⟩)
                refine ⟨_, rfl, W, rfl, by omega, by omega, fun D hD => ?_⟩
                obtain ⟨rs, fb, q1, q2, q3⟩ := seen_fn (hS6.mono (e8.trans et))
                refine (Wk.range W).fl (List.range W) List.length_range (fun w => inV (.bl true) (l.map fun v => .bl (fb v w))) nV hD (by omega) trivial (fun _ _ _ _ => trivial) ?_ (fun H9 e9 h9 => hN _ _ ⟨D, _, rfl, (e8.trans et).trans e9, h9, ?_, fun w hw => ?_⟩)
                · rintro i w' y H9 yes no hw e9 hy ky kn
                  have hwi : i = w' ∧ i < W := by
                    have h1 := lt_of_some hw
                    rw [List.length_range] at h1
                    rw [List.getElem?_range h1] at hw
                    exact ⟨Option.some.inj hw, h1⟩
                  obtain ⟨rfl, hi⟩ := hwi
                  rw [show y = nV i from hy]
                  refine ⟨rfl, _, rfl, h, rfl, ⟨_, sq_of (e9 _ _ (et _ _ h8))⟩, fun D2 hD2 => ?_⟩
                  refine (Wk.list h (l.map nV)).fl l (by rw [List.length_map]) (fun _ => true) (fun v => .bl (fb v i)) hD2 (by rw [List.length_map]; omega) (sq_of (e9 _ _ (et _ _ h8))) (fun _ _ e b => ex_l e b) ?_ ?_
                  · rintro j v z H10 yes2 no2 hv e10 hz ky2 kn2
                    obtain ⟨v', hv', rfl⟩ := getD_nV hz
                    rw [hv] at hv'
                    have hv' := Option.some.inj hv'
                    subst hv'
                    obtain ⟨r, xs, r1, r2, r3⟩ := q3 v i (l2 v (List.mem_of_getElem? hv)) hi
                    have e90 := e9.trans e10
                    exact ⟨rfl, iteT (B := no2 H10) ⟨_, rfl, _, rfl, S3, _, _, _, rfl, rfl, sq_of (e90 _ _ q1), r1, _, rfl, r, _, _, _, rfl, rfl, sq_of (e90 _ _ r2), r3, ky2 rfl _ (Ex.refl _)⟩⟩
                  · intro H10 e10 hz
                    rw [filter_id] at hz
                    refine ⟨D2, _, rfl, Or.inl (sq_of hz), rfl, ?_, _, rfl, ?_⟩
                    · have := flat_bools (l.map fun v => fb v i)
                      rw [List.map_map] at this
                      exact this
                    · rw [if_neg Bool.false_ne_true]
                      exact ite2 (fun q => ⟨_, rfl, ky q _ e10⟩) (fun q => kn (by simpa using q) _ e10)
                · have h1 := List.length_filter_le (fun w => inV (.bl true) (l.map fun v => .bl (fb v w))) (List.range W)
                  rw [List.length_range] at h1
                  exact h1
                · exact List.mem_range.mp (List.mem_filter.mp hw).1
            · -- by the mask
              refine ⟨_, rfl, W, rfl, by omega, by omega, fun D hD => ?_⟩
              refine (Wk.range W).fl (List.range W) List.length_range (fun w => decide (V.int (Builtin.bitAnd (m / 2 ^ ((w : Int)).toNat) 1) = V.int 1)) nV hD (by omega) trivial (fun _ _ _ _ => trivial) ?_ (fun H9 e9 h9 => hN _ _ ⟨D, _, rfl, e9, h9, ?_, fun w hw => ?_⟩)
              · rintro i w' y H9 yes no hw e9 hy ky kn
                have hwi : i = w' := by
                  have h1 := lt_of_some hw
                  rw [List.length_range] at h1
                  rw [List.getElem?_range h1] at hw
                  exact Option.some.inj hw
                subst hwi
                rw [show y = nV i from hy]
                refine ⟨rfl, _, rfl, _, rfl, _, _, rfl, rfl, (by show (0 : Int) ≤ (i : Int); exact Int.natCast_nonneg _), _, _, rfl, rfl, rfl, _, rfl, ?_⟩
                exact ite2 (fun q => ⟨_, rfl, ky q _ (Ex.refl _)⟩) (fun q => kn (by simpa using q) _ (Ex.refl _))
              · have h1 := List.length_filter_le (fun w : Nat => decide (V.int (Builtin.bitAnd (m / 2 ^ ((w : Int)).toNat) 1) = V.int 1)) (List.range W)
                rw [List.length_range] at h1
                exact h1
              · exact List.mem_range.mp (List.mem_filter.mp hw).1
          · refine ⟨_, rfl, ln, _, rfl, Or.inl hln6, _, rfl, _, _, rfl, rfl, _, _, rfl, rfl, _, rfl, ite2 (fun _ => ?_) (fun _ => hN _ _ ⟨m0, rfl, rfl⟩)⟩
            obtain ⟨n3, hn3⟩ : ∃ n3, ns[3 + kk]? = some n3 := ⟨_, List.getElem?_eq_getElem (by omega)⟩
            refine ⟨_, rfl, _, rfl, _, _, rfl, rfl, ln, _, _, .int n3, rfl, rfl, hln6, ?_, Or.inl ⟨_, rfl, _, rfl, _, _, rfl, rfl, ⟨by show (0 : Int) ≤ (W : Int); omega, by show (W : Int) ≤ 1000000; omega, by decide⟩, _, _, rfl, rfl, ?_, hN _ _ ⟨_, rfl, rfl⟩⟩⟩
            · exact atI_nat (j := 3 + kk) (by rw [List.getElem?_map, hn3]; rfl)
            · show (0 : Int) < 1 * 2 ^ ((W : Int)).toNat
              rw [Int.one_mul]
              exact Int.pow_pos (by decide)
        · rintro σ H6 ⟨z12, z13, z14, z15, es, raw, rfl, s1, s2, s3, s4, s5⟩
          have hS6 : SeenAt H6 S3 W := hS3'.sb atd noSq_dK s1
          refine ⟨_, rfl, _, rfl, (by show 2 ≤ sizeLine; decide), fun t ht => ?_⟩
          have et := Ex.new (o := HO.tup [.ref S3, .ref d]) ht
          refine k _ _ (fun b o z => et _ _ (s1 _ _ (ne_of_none z hd0) (eHd _ _ z))) ⟨W, raw, ⟨t, S3, d, es, rfl, upd_same, hS6.mono et, et _ _ s2, s3.mono fun _ _ z => z.mono et, ⟨s4, fun e he => (s5 e he).1, fun e he => (s5 e he).2⟩, hW1⟩, hW2⟩
      · -- a table of its own
        refine ⟨_, rfl, rfl, _, rfl, ite2 (fun _ => ?_) (fun _ => iteF (hN _ _ ⟨z8, z9, S2, rfl, e3, hS2⟩))⟩
        refine ⟨_, rfl, _, _, rfl, rfl, _, rfl, ite2 (fun _ => ?_) (fun _ => hN _ _ ⟨z8, z9, S2, rfl, e3, hS2⟩)⟩
        refine ⟨_, rfl, W, rfl, by omega, by omega, fun D hD => ?_⟩
        refine (Wk.range W).rows W hD (by omega) trivial (fun _ _ _ _ => trivial) ?_ (fun rs H6 e6 h6 l6 r6 => hN _ _ ⟨z8, z9, D, rfl, e3.trans e6, rs, h6, l6, fun r hr1 => (r6 r hr1).2⟩)
        rintro v x H6 yes no hv e6 rfl ky
        refine ⟨rfl, iteT (B := no H6) ⟨_, rfl, W, rfl, by omega, by omega, fun D2 hD2 => ?_⟩⟩
        refine (Wk.range W).bools hD2 (by omega) trivial (fun _ _ _ _ => trivial) ?_ (fun cs H7 e7 h7 l7 => ky D2 cs H7 e7 hD2 h7 l7)
        rintro y z H7 yes2 no2 hy e7 rfl ky2
        exact ⟨rfl, iteT (B := no2 H7) ⟨_, rfl, _, rfl, _, _, rfl, rfl, _, rfl, ite2 (fun _ => ⟨_, rfl, _, _, rfl, rfl, ⟨by decide, by decide⟩, _, rfl, _, _, rfl, rfl, ⟨by decide, by decide⟩, rfl, ky2 _ _ (Ex.refl _)⟩) (fun _ => ky2 _ _ (Ex.refl _))⟩⟩
    · refine ⟨_, rfl, W, rfl, by omega, by omega, ?_⟩
      refine Wk.for_ (Wk.range W) (fun v σ H3 => ∃ (z8 z9 : Option V) (rs : List Addr), σ = [some (.ref ln), some (.str lg), some (nV most), some (nV n0), some (nV W), some (.int bits), z6, some (.ref S), z8, z9, none, none, none, none, none, none] ∧ Sb S HS H3 ∧ H3 S = some (.lst (rs.map V.ref)) ∧ rs.length = v ∧ ∀ r, r ∈ rs → r ≠ S ∧ ∃ bs : List Bool, H3 r = some (.lst (bs.map V.bl)) ∧ bs.length = W)
        ⟨none, none, [], rfl, Sb.refl, atS, rfl, fun r h => (nomatch h)⟩ (fun _ _ _ _ _ => trivial) ?_ ?_
      · rintro v x σ H3 hv rfl ⟨z8, z9, rs, rfl, s1, s2, s3, s6⟩
        dsimp only [gName]
        refine seq_with (I := (fun σ H4 => ∃ (R : Addr) (bs : List Bool), σ = [some (.ref ln), some (.str lg), some (nV most), some (nV n0), some (nV W), some (.int bits), z6, some (.ref S), some (nV v), some (.ref R), none, none, none, none, none, none] ∧ Ex H3 H4 ∧ H4 R = some (.lst (bs.map V.bl)) ∧ bs.length = W ∧ R ≠ S)) ?_ (fun N hN => ?_)
        · rintro σ H4 ⟨R, bs, rfl, eJ, hR, hl, hRS⟩
          refine seq_with (I := (fun σ H4 => ∃ (R : Addr) (bs : List Bool), σ = [some (.ref ln), some (.str lg), some (nV most), some (nV n0), some (nV W), some (.int bits), z6, some (.ref S), some (nV v), some (.ref R), none, none, none, none, none, none] ∧ Ex H3 H4 ∧ H4 R = some (.lst (bs.map V.bl)) ∧ bs.length = W ∧ R ≠ S)) ?_ (fun N hN => ?_)
          · rintro σ H4 ⟨R, bs, rfl, eJ, hR, hl, hRS⟩
            refine seq_with (I := (fun σ H4 => ∃ (R : Addr) (bs : List Bool), σ = [some (.ref ln), some (.str lg), some (nV most), some (nV n0), some (nV W), some (.int bits), z6, some (.ref S), some (nV v), some (.ref R), none, none, none, none, none, none] ∧ Ex H3 H4 ∧ H4 R = some (.lst (bs.map V.bl)) ∧ bs.length = W ∧ R ≠ S)) ?_ (fun N hN => ?_)
            · rintro σ H4 ⟨R, bs, rfl, eJ, hR, hl, hRS⟩
              refine seq_with (I := (fun σ H4 => ∃ (R : Addr) (bs : List Bool), σ = [some (.ref ln), some (.str lg), some (nV most), some (nV n0), some (nV W), some (.int bits), z6, some (.ref S), some (nV v), some (.ref R), none, none, none, none, none, none] ∧ Ex H3 H4 ∧ H4 R = some (.lst (bs.map V.bl)) ∧ bs.length = W ∧ R ≠ S)) ?_ (fun N hN => ?_)
              · rintro σ H4 ⟨R, bs, rfl, eJ, hR, hl, hRS⟩
                refine seq_with (I := (fun σ H4 => ∃ (R : Addr) (bs : List Bool), σ = [some (.ref ln), some (.str lg), some (nV most), some (nV n0), some (nV W), some (.int bits), z6, some (.ref S), some (nV v), some (.ref R), none, none, none, none, none, none] ∧ Ex H3 H4 ∧ H4 R = some (.lst (bs.map V.bl)) ∧ bs.length = W ∧ R ≠ S)) ?_ (fun N hN => ?_)
                · rintro σ H4 ⟨R, bs, rfl, eJ, hR, hl, hRS⟩
                  refine seq_with (I := (fun σ H4 => ∃ (R : Addr) (bs : List Bool), σ = [some (.ref ln), some (.str lg), some (nV most), some (nV n0), some (nV W), some (.int bits), z6, some (.ref S), some (nV v), some (.ref R), none, none, none, none, none, none] ∧ Ex H3 H4 ∧ H4 R = some (.lst (bs.map V.bl)) ∧ bs.length = W ∧ R ≠ S)) ?_ (fun N hN => ?_)
                  · rintro σ H4 ⟨R, bs, rfl, eJ, hR, hl, hRS⟩
                    have s4 := eJ _ _ s2
                    have s5 : Sb S H4 (upd H4 S (.lst (rs.map V.ref ++ [.ref R]))) := Sb.upd
                    refine ⟨_, rfl, Or.inl ⟨rfl, _, sq_of s4⟩, _, rfl, S, _, _, rfl, rfl, s4, by rw [List.length_map]; exact small1000 (by omega), ⟨_, _, rs ++ [R], rfl, s1.trans (Sb.pre eJ s5), by rw [upd_same, List.map_append]; rfl, by rw [List.length_append, s3]; rfl, fun r hr1 => ?_⟩⟩
                    rcases List.mem_append.mp hr1 with hr1 | hr1
                    · obtain ⟨y1, cs, y2, y3⟩ := s6 r hr1
                      exact ⟨y1, cs, by rw [upd_ne y1]; exact eJ _ _ y2, y3⟩
                    · rw [List.mem_singleton.mp hr1]
                      exact ⟨hRS, bs, by rw [upd_ne hRS]; exact hR, hl⟩
                  · refine ⟨_, rfl, rfl, _, rfl, ite2 (fun _ => ?_) (fun _ => hN _ _ ⟨R, bs, rfl, eJ, hR, hl, hRS⟩)⟩
                    refine ⟨(by show 1 ≤ sizeLine; decide), fun q hq => ⟨_, rfl, q, (W : Int), _, rfl, rfl, upd_same, (by omega), (by omega), ?_, fun q2 hq2 => hN _ _ ⟨q2, List.replicate W false, rfl, (eJ.trans (Ex.new hq)).trans (Ex.new hq2), ?_, List.length_replicate, ?_⟩⟩⟩
                    · show 1 * W ≤ sizeLine
                      exact Nat.le_of_lt (small1000 (by omega))
                    · rw [upd_same]
                      exact congrArg (fun z => some (HO.lst z)) (rep_false W)
                    · intro z
                      rw [z] at hq2
                      have := (Ex.new (o := HO.lst [.bl false]) hq) _ _ (eJ _ _ s2)
                      rw [hq2] at this
                      cases this
                · refine ⟨_, rfl, (by show 1 ≤ sizeLine; decide), fun t ht => ⟨t, _, rfl, Or.inr (st_of upd_same), rfl, rfl, _, rfl, ?_⟩⟩
                  have et := Ex.new (o := HO.tup [.str "BD2"]) ht
                  refine ite2 (fun _ => ?_) (fun _ => hN _ _ ⟨R, bs, rfl, eJ.trans et, et _ _ hR, hl, hRS⟩)
                  refine ⟨_, rfl, W, rfl, by omega, by omega, fun D hD => ?_⟩
                  have nDS : D ≠ S := fun z => by rw [z] at hD; have := (eJ.trans et) _ _ s2; rw [hD] at this; cases this
                  refine (Wk.range W).bools hD (by omega) trivial (fun _ _ _ _ => trivial) ?_ (fun cs H6 e6 h6 l6 => hN _ _ ⟨D, cs, rfl, ((eJ.trans et)).trans e6, h6, l6, nDS⟩)
                  rintro x y H6 yes no hx e6 rfl ky
                  have r6 := e6 _ _ (et _ _ hR)
                  obtain ⟨c, hc⟩ := cell_at hl hx
                  refine ⟨rfl, iteT (B := no H6) ?_⟩
                  exact ⟨_, rfl, _, rfl, R, _, _, .bl c, rfl, rfl, sq_of r6, hc, c, rfl, ite2 (fun _ => ⟨_, rfl, _, rfl, _, _, rfl, rfl, ⟨by decide, by decide⟩, _, _, rfl, rfl, _, rfl, ite2 (fun _ => ⟨_, rfl, _, _, rfl, rfl, ky _ _ (Ex.refl _)⟩) (fun _ => ky _ _ (Ex.refl _))⟩) (fun _ => ky _ _ (Ex.refl _))⟩
              · refine ⟨_, rfl, (by show 1 ≤ sizeLine; decide), fun t ht => ⟨t, _, rfl, Or.inr (st_of upd_same), rfl, rfl, _, rfl, ?_⟩⟩
                have et := Ex.new (o := HO.tup [.str "KC"]) ht
                refine ite2 (fun _ => ?_) (fun _ => hN _ _ ⟨R, bs, rfl, eJ.trans et, et _ _ hR, hl, hRS⟩)
                refine ⟨_, rfl, W, rfl, by omega, by omega, fun D hD => ?_⟩
                have nDS : D ≠ S := fun z => by rw [z] at hD; have := (eJ.trans et) _ _ s2; rw [hD] at this; cases this
                refine (Wk.range W).bools hD (by omega) trivial (fun _ _ _ _ => trivial) ?_ (fun cs H6 e6 h6 l6 => hN _ _ ⟨D, cs, rfl, ((eJ.trans et)).trans e6, h6, l6, nDS⟩)
                rintro x y H6 yes no hx e6 rfl ky
                have r6 := e6 _ _ (et _ _ hR)
                obtain ⟨c, hc⟩ := cell_at hl hx
                refine ⟨rfl, iteT (B := no H6) ?_⟩
                exact ⟨_, rfl, _, rfl, R, _, _, .bl c, rfl, rfl, sq_of r6, hc, c, rfl, ite2 (fun _ => ky _ _ (Ex.refl _)) (fun _ => ⟨_, rfl, _, rfl, _, _, rfl, rfl, rfl, _, rfl, ite2 (fun _ => ⟨_, rfl, _, rfl, _, _, rfl, rfl, ky _ _ (Ex.refl _)⟩) (fun _ => ky _ _ (Ex.refl _))⟩)⟩
            · refine ⟨_, rfl, (by show 2 ≤ sizeLine; decide), fun t ht => ⟨t, _, rfl, Or.inr (st_of upd_same), rfl, rfl, _, rfl, ?_⟩⟩
              have et := Ex.new (o := HO.tup [.str "LC", .str "HT"]) ht
              refine ite2 (fun _ => ?_) (fun _ => hN _ _ ⟨R, bs, rfl, eJ.trans et, et _ _ hR, hl, hRS⟩)
              refine ⟨_, rfl, W, rfl, by omega, by omega, fun D hD => ?_⟩
              have nDS : D ≠ S := fun z => by rw [z] at hD; have := (eJ.trans et) _ _ s2; rw [hD] at this; cases this
              refine (Wk.range W).bools hD (by omega) trivial (fun _ _ _ _ => trivial) ?_ (fun cs H6 e6 h6 l6 => hN _ _ ⟨D, cs, rfl, ((eJ.trans et)).trans e6, h6, l6, nDS⟩)
              rintro x y H6 yes no hx e6 rfl ky
              refine ⟨rfl, iteT (B := no H6) ?_⟩
              exact ⟨_, rfl, _, rfl, _, _, rfl, rfl, ky _ _ (Ex.refl _)⟩
          · refine ⟨_, rfl, (by show 8 ≤ sizeLine; decide), fun t ht => ⟨t, _, rfl, Or.inr (st_of upd_same), rfl, rfl, _, rfl, ?_⟩⟩
            have et := Ex.new (o := HO.tup [.str "GL", .str "Grz", .str "Int", .str "KC", .str "LC", .str "BD2", .str "HT", .str "Cl"]) ht
            refine ite2 (fun _ => ?_) (fun _ => hN _ _ ⟨R, bs, rfl, eJ.trans et, et _ _ hR, hl, hRS⟩)
            refine ⟨_, rfl, W, rfl, by omega, by omega, fun D hD => ?_⟩
            have nDS : D ≠ S := fun z => by rw [z] at hD; have := (eJ.trans et) _ _ s2; rw [hD] at this; cases this
            refine (Wk.range W).bools hD (by omega) trivial (fun _ _ _ _ => trivial) ?_ (fun cs H6 e6 h6 l6 => hN _ _ ⟨D, cs, rfl, ((eJ.trans et)).trans e6, h6, l6, nDS⟩)
            rintro x y H6 yes no hx e6 rfl ky
            have r6 := e6 _ _ (et _ _ hR)
            obtain ⟨c, hc⟩ := cell_at hl hx
            refine ⟨rfl, iteT (B := no H6) ?_⟩
            exact ⟨_, rfl, _, rfl, R, _, _, .bl c, rfl, rfl, sq_of r6, hc, c, rfl, ite2 (fun _ => ⟨_, rfl, _, rfl, _, _, rfl, rfl, ky _ _ (Ex.refl _)⟩) (fun _ => ky _ _ (Ex.refl _))⟩
        · refine ⟨_, rfl, W, rfl, by omega, by omega, fun D hD => ?_⟩
          have nDS : D ≠ S := fun z => by rw [z] at hD; have := (Ex.refl H3) _ _ s2; rw [hD] at this; cases this
          refine (Wk.range W).bools hD (by omega) trivial (fun _ _ _ _ => trivial) ?_ (fun cs H6 e6 h6 l6 => hN _ _ ⟨D, cs, rfl, ((Ex.refl H3)).trans e6, h6, l6, nDS⟩)
          rintro x y H6 yes no hx e6 rfl ky
          refine ⟨rfl, iteT (B := no H6) ?_⟩
          exact ⟨_, rfl, _, rfl, _, rfl, _, _, rfl, rfl, Or.inl ⟨by show -(2 ^ 64 : Int) < (v : Int); omega, by show (v : Int) < 2 ^ 64; omega⟩, _, rfl, _, _, rfl, rfl, _, _, rfl, rfl, (by show (0 : Int) ≤ (v : Int) * (W : Int) + (x : Int); exact Int.add_nonneg (Int.mul_nonneg (Int.natCast_nonneg _) (Int.natCast_nonneg _)) (Int.natCast_nonneg _)), _, _, rfl, rfl, rfl, ky _ _ (Ex.refl _)⟩
      · rintro σ H3 ⟨z8, z9, rs, rfl, s1, s2, s3, s6⟩
        exact hN _ _ ⟨z8, z9, S, rfl, fun b o z => s1 _ _ (ne_of_none z (by
          cases q : H S with
          | none => rfl
          | some o => rw [e2 _ _ q] at hS; cases hS)) (eHS _ _ z), rs, s2, s3, fun r hr1 => (s6 r hr1).2⟩
end
end Q
/-! Models drawn from the pool -/
namespace Q
open PySem PySem.Spec PyProof.Rows L2 Evl Rl Bi
/-- what the pool's change leaves -/
theorem KfAt.sbp {H H' : Hp} {p l : Addr} {kv : Key × V} {x : Str × List Nat} (hP : PoolAt H p l) (e : Sb p H H') (h : KfAt H kv x) : KfAt H' kv x := by
  obtain ⟨ns, i, c, d, s, p1, _, _⟩ := hP
  obtain ⟨h1, a, a1, a2⟩ := h
  refine ⟨h1, a, a1, e _ _ (fun z => ?_) a2⟩
  rw [z, p1] at a2
  injection a2 with a2
  injection a2 with a2
  cases hx : x.2 with
  | nil => rw [hx] at a2; cases a2
  | cons a r => rw [hx] at a2; injection a2 with a2 _; cases a2
theorem SeenAt.sbp {H H' : Hp} {p l a n : Nat} (hP : PoolAt H p l) (hn : n ≤ 4) (e : Sb p H H') (h : SeenAt H a n) : SeenAt H' a n := by
  obtain ⟨ns, i, c, d, s, p1, _, _⟩ := hP
  obtain ⟨rs, g1, g2, g3⟩ := h
  refine ⟨rs, e _ _ (fun z => ?_) g1, g2, fun r hr => ?_⟩
  · rw [z, p1] at g1
    injection g1 with g1
    injection g1 with g1
    have := congrArg List.length g1
    rw [List.length_map, g2] at this
    have : 5 = n := this
    omega
  · obtain ⟨bs, b1, b2⟩ := g3 r hr
    refine ⟨bs, e _ _ (fun z => ?_) b1, b2⟩
    rw [z, p1] at b1
    injection b1 with b1
    injection b1 with b1
    cases bs with
    | nil => cases b1
    | cons a r => injection b1 with b1 _; cases b1
theorem RawAt.sbp {H H' : Hp} {p l : Addr} {u : V} {n : Nat} {raw : List (Str × List Nat)} (hP : PoolAt H p l) (hn : n ≤ 4) (e : Sb p H H') (h : RawAt H u n raw) : RawAt H' u n raw := by
  obtain ⟨t, sa, da, kvs, h1, h2, h3, h4, h5, h6⟩ := h
  have hP' := hP
  obtain ⟨ns, i, c, d, s, p1, _, _⟩ := hP
  exact ⟨t, sa, da, kvs, h1, e _ _ (ne_of h2 p1 (by intro z; cases z)) h2, h3.sbp hP' hn e, e _ _ (ne_of h4 p1 (by intro z; cases z)) h4, h5.mono fun _ _ z => z.sbp hP' e, h6⟩
/-- a comprehension over a range whose turns draw -/
theorem lcP {n : Nat} {g : TG} {tt : TT} {te : TE} {vs : List Nat} {σ : L2.St} {H1 : Hp} {D p l : Addr} {Qd : Hp → Prop} (P : Nat → V → Hp → Prop) (fl : Bool) (hP : PoolAt H1 p l) (hD : H1 D = none) (hn : n ≤ 40000)
    (hst : ∀ i y H H', P i y H → Sb D H H' → P i y H') (hsp : ∀ i y H H', P i y H → Sb p H H' → P i y H')
    (hs : ∀ (i : Nat) H (yes : V → Hp → Prop) (no : Hp → Prop), i < n → Sb p H1 H → PoolAt H p l → (∃ acc, H D = some (.lst acc)) → (∀ y H4, Sb p H H4 → PoolAt H4 p l → P i y H4 → yes y H4) → (fl = true → ∀ H4, Sb p H H4 → PoolAt H4 p l → no H4) →
      g (nV i) (wipe σ vs) H fun σ2 H2 => wipe σ2 vs = wipe σ vs ∧ tt σ2 H2 fun b H3 => if b = true then te σ2 H3 yes else no H3)
    (hd : ∀ ys H', Sb p H1 H' → PoolAt H' p l → H' D = some (.lst ys) → (∀ y, y ∈ ys → ∃ i, i < n ∧ P i y H') → ys.length ≤ n → (fl = false → ys.length = n) → D ≠ p → D ≠ l → Qd H') :
    ∃ W : Nat → Nat → Hp → Prop, (∃ m, W 0 m (upd H1 D (.lst []))) ∧ ∀ i m H, W i m H →
      ((Itr 0 n).stop i H ∧ Qd H) ∨ ((Itr 0 n).go i H ∧ ∃ Nx : Hp → Prop, (∀ H', Nx H' → ∃ m', m' < m ∧ W (i + 1) m' H') ∧ ∀ x H', (Itr 0 n).yld i H x H' → g x (wipe σ vs) H' fun σ2 H2 => wipe σ2 vs = wipe σ vs ∧ tt σ2 H2 fun b H3 =>
        if b = true then te σ2 H3 fun y H4 => ∃ acc, H4 D = some (.lst acc) ∧ acc.length < sizeLine ∧ Nx (upd H4 D (.lst (acc ++ [y]))) else Nx H3) := by
  obtain ⟨npD, nlD⟩ := hP.np hD
  refine (Wk.range n).comp (fun i H => Sb p H1 H ∧ PoolAt H p l ∧ ∃ ys, H D = some (.lst ys) ∧ (∀ y, y ∈ ys → ∃ i, i < n ∧ P i y H) ∧ ys.length ≤ i ∧ (fl = false → ys.length = i)) ⟨fun b o _ z => by rw [upd_ne (ne_of_none z hD)]; exact z, hP.mono (Ex.new hD), [], upd_same, fun y h => (nomatch h), Nat.le_refl _, fun _ => rfl⟩ (fun _ _ _ _ => trivial) ?_ ?_
  · rintro i x H hi rfl ⟨s1, hP1, ys, h1, h2, h3, h4⟩
    refine hs i H _ _ hi s1 hP1 ⟨ys, h1⟩ (fun y H4 s4 hP4 hy => ?_) (fun hf H4 s4 hP4 => ?_)
    · have hD4 := s4 _ _ npD.symm h1
      have s5 : Sb D H4 (upd H4 D (.lst (ys ++ [y]))) := Sb.upd
      refine ⟨ys, hD4, sz_lt (by omega), fun b o hb z => s5 _ _ (ne_of_none z hD) (s4 _ _ hb (s1 _ _ hb z)), hP4.sb s5 npD nlD, _, upd_same, fun z hz => ?_, by rw [List.length_append]; simp; omega, fun hf => by rw [List.length_append, h4 hf]; rfl⟩
      rcases List.mem_append.mp hz with hz | hz
      · obtain ⟨j, hj, q⟩ := h2 z hz
        exact ⟨j, hj, hst _ _ _ _ (hsp _ _ _ _ q s4) s5⟩
      · rw [List.mem_singleton.mp hz]
        exact ⟨i, hi, hst _ _ _ _ hy s5⟩
    · refine ⟨fun b o hb z => s4 _ _ hb (s1 _ _ hb z), hP4, ys, s4 _ _ npD.symm h1, fun z hz => ?_, by omega, fun q => by rw [hf] at q; cases q⟩
      obtain ⟨j, hj, q⟩ := h2 z hz
      exact ⟨j, hj, hsp _ _ _ _ q s4⟩
  · rintro H ⟨s1, hP1, ys, h1, h2, h3, h4⟩
    exact hd ys H s1 hP1 h1 h2 h3 h4 npD.symm nlD.symm
def spDrawn : Sp := fun vs H Q _ => ∃ (p l : Addr) (lg : Str) (most : Nat), vs = [.ref p, .str lg, nV most] ∧ PoolAt H p l ∧ 1 ≤ most ∧ most ≤ 4 ∧ ∀ H' u n raw, Sb p H H' → PoolAt H' p l → RawAt H' u n raw → n ≤ most → Q u H'
def spWide : Sp := fun vs H Q _ => ∃ (p l : Addr) (most : Nat), vs = [.ref p, nV most] ∧ PoolAt H p l ∧ 1 ≤ most ∧ most ≤ 4 ∧ ∀ H' u n raw, Sb p H H' → PoolAt H' p l → RawAt H' u n raw → n ≤ most → Q u H'
theorem succ_nV (m : Nat) : V.int (1 + (m : Int)) = nV (m + 1) := by
  unfold nV
  rw [Int.natCast_add, Int.add_comm]
  rfl
section
variable {P : Program} {w : World} {K : PySem.W.Frag} {mg : Str → Option Value} {base : Heap} {CM CR CN aF : Addr}
abbrev N_drawn_model : List Str := ["_law_pool_here", "_law_logic", "_law_most"]
theorem sc_drawn_model : FnScope N_drawn_model ["_law_pool_here", "_law_logic", "_law_most"] (defScope s_drawn_model) := ⟨rfl, rfl, rfl, by decide +kernel, rfl, by decide +kernel, by decide +kernel⟩
theorem ok_drawn_model {f : Addr} {fd : FuncData} (F : Fun K "_law_drawn_model" "_law_drawn_model" s_drawn_model f fd) (c_list : Cal P w K mg base CX0 3 "_law_list" ["_law_pool_here", "_law_many"] spList) (c_model : Cal P w K mg base CX0 2 "_law_model" ["_law_numbers", "_law_logic", "_law_most"] (spModel K)) :
    FnOk P w K mg base CX0 4 f fd ["_law_pool_here", "_law_logic", "_law_most"] spDrawn := by
  refine F.ok sc_drawn_model (fun vs H Q E h => ?_) (fun cdv A outer s H vs Q E hr h => ?_)
  · obtain ⟨_, _, _, _, rfl, _⟩ := h
    rfl
  · obtain ⟨p, l, lg, most, rfl, hP, h1, h2, k⟩ := h
    refine ⟨_, (pss_one (ps_ret (pe_own c_model (hr.mono (by omega)) rfl (pa_cons (pe_own c_list (hr.mono (by omega)) rfl (pa_cons (pv 0) (pa_cons pe_int pa_nil))) (pa_cons (pv 1) (pa_cons (pv 2) pa_nil)))))), ?_⟩
    refine ⟨_, rfl, p, l, 6, rfl, hP, by decide, fun H1 D ns s1 hP1 hD hl _ _ => ?_⟩
    refine ⟨_, rfl, _, rfl, D, ns, lg, most, rfl, sq_of hD, hl, h1, h2, fun u H2 e2 ⟨n, raw, hR, hn⟩ => ?_⟩
    exact k H2 u n raw (s1.ex e2) (hP1.mono e2) hR hn
abbrev N_wide_model : List Str := ["_law_pool_here", "_law_most", "_law_worlds", "_law_dense", "_law_seen", "_law_w", "_law_v", "_law_values", "_law_name"]
theorem sc_wide_model : FnScope N_wide_model ["_law_pool_here", "_law_most"] (defScope s_wide_model) := ⟨rfl, rfl, rfl, by decide +kernel, rfl, by decide +kernel, by decide +kernel⟩
abbrev sv7 : Scope := relS (compS (valS (stAt (defBody s_wide_model) 2))) (defScope s_wide_model)
theorem ok_wide_model {f : Addr} {fd : FuncData} (F : Fun K "_law_wide_model" "_law_wide_model" s_wide_model f fd) (T : Tx K mg CM CR aF) (c_draw : Cal P w K mg base CX0 2 "_law_draw" ["_law_pool_here", "_law_many"] spDraw) : FnOk P w K mg base CX0 3 f fd ["_law_pool_here", "_law_most"] spWide := by
  refine F.ok sc_wide_model (fun vs H Q E h => ?_) (fun cdv A outer s H vs Q E hr h => ?_)
  · obtain ⟨_, _, _, rfl, _⟩ := h
    rfl
  · obtain ⟨p, l, most, rfl, hP, h1, h2, k⟩ := h
    have hu := hu_of hr
    refine ⟨_, (pss_cons (ps_set (i := 2) sc_wide_model.nd rfl (Or.inr rfl) (pe_op op_add pe_int (pe_own c_draw (hr.mono (by omega)) rfl (pa_cons (pv 0) (pa_cons (pv 1) pa_nil)))))
      (pss_cons (ps_set (i := 3) sc_wide_model.nd rfl (Or.inr rfl) (pe_op op_add pe_int (pe_own c_draw (hr.mono (by omega)) rfl (pa_cons (pv 0) (pa_cons pe_int pa_nil)))))
      (pss_cons (ps_setLc (i := 4) (own := [("_law_v", 6)]) (g := gName 6) rfl sc_wide_model.nd rfl rfl (sw_true rfl rfl rfl (by decide +kernel)) (pi_range1 rfl T.n_range (pa_cons (pv 2) pa_nil)) (blkOk_by (own := [("_law_v", 6)]) (N := N_wide_model) (sc := defScope s_wide_model) (by decide +kernel)) (fun _ _ _ _ _ => (pg_name (i := 6) sc_wide_model.nd rfl (Or.inl rfl))) (fun _ _ _ _ _ => pts_nil) (fun _ _ _ _ _ => (pe_lc (own := [("_law_w", 5)]) (g := gName 5) rfl sc_wide_model.nd (pi_range1 rfl T.n_range (pa_cons (pv 2) pa_nil)) (blkOk_by (own := [("_law_w", 5)]) (N := N_wide_model) (sc := sv7) (by decide +kernel)) (fun _ _ _ _ _ => (pg_name (i := 5) sc_wide_model.nd rfl (Or.inl rfl))) (fun _ _ _ _ _ => pts_nil) (fun _ _ _ _ _ => (pe_cmpR op_lt (pe_own c_draw (hr.mono (by omega)) rfl (pa_cons (pv 0) (pa_cons pe_int pa_nil))) (pv 3) (nomark _))))))
      (pss_cons (ps_set (i := 7) sc_wide_model.nd rfl (Or.inl rfl) pe_dnewK)
      (pss_cons (ps_for PassesOwn.never rfl (pi_tup (pe_tup (pa_cons pe_str (pa_cons pe_str (pa_cons pe_str pa_nil))))) (pg_name (i := 8) sc_wide_model.nd rfl (Or.inl rfl))
      (pss_one (ps_dput hu (pv 7) (pv 8) (pe_lc (own := [("_law_w", 5)]) (g := gName 5) rfl sc_wide_model.nd (pi_range1 rfl T.n_range (pa_cons (pv 2) pa_nil)) (blkOk_by (own := [("_law_w", 5)]) (N := N_wide_model) (sc := defScope s_wide_model) (by decide +kernel)) (fun _ _ _ _ _ => (pg_name (i := 5) sc_wide_model.nd rfl (Or.inl rfl))) (fun _ _ _ _ _ => (pts_one (pt_cmpR op_eq (pe_own c_draw (hr.mono (by omega)) rfl (pa_cons (pv 0) (pa_cons pe_int pa_nil))) pe_int (nomark _)))) (fun _ _ _ _ _ => (pv 5))) rfl)))
      (pss_one (ps_ret (pe_tup (pa_cons (pv 4) (pa_cons (pv 7) pa_nil)))))))))), ?_⟩
    refine ⟨_, rfl, _, rfl, p, l, most, rfl, hP, h1, by omega, fun w0 H1 s1 hP1 hw0 => ⟨_, _, rfl, rfl, ?_⟩⟩
    dsimp only
    rw [succ_nV]
    have hW : w0 + 1 ≤ most := hw0
    have hW1 : 1 ≤ w0 + 1 := Nat.succ_le_succ (Nat.zero_le _)
    generalize w0 + 1 = W at hW hW1 ⊢
    refine ⟨_, rfl, p, l, 4, rfl, hP1, by decide, by decide, fun d0 H2 s2 hP2 hd0 => ⟨_, _, rfl, rfl, ?_⟩⟩
    dsimp only
    have s12 : Sb p H H2 := s1.trans s2
    -- the table
    refine ⟨_, rfl, W, rfl, by omega, by omega, fun D hD => ?_⟩
    refine lcP (fun _ y H => ∃ r, y = .ref r ∧ r ≠ D ∧ r ≠ p ∧ ∃ bs : List Bool, H r = some (.lst (bs.map V.bl)) ∧ bs.length = W) false hP2 hD (by omega) (fun _ _ _ _ ⟨r, q1, q2, q3, bs, q4, q5⟩ e => ⟨r, q1, q2, q3, bs, e _ _ q2 q4, q5⟩) (fun _ _ _ _ ⟨r, q1, q2, q3, bs, q4, q5⟩ e => ⟨r, q1, q2, q3, bs, e _ _ q3 q4, q5⟩) ?_ ?_
    · rintro v H3 yes no hv s3 hP3 ⟨acc, hacc⟩ ky _
      refine ⟨rfl, iteT (B := no H3) ⟨_, rfl, W, rfl, by omega, by omega, fun D2 hD2 => ?_⟩⟩
      refine lcP (fun _ y _ => ∃ c, y = .bl c) false hP3 hD2 (by omega) (fun _ _ _ _ z _ => z) (fun _ _ _ _ z _ => z) ?_ ?_
      · rintro x H4 yes2 no2 hx s4 hP4 _ ky2 _
        exact ⟨rfl, iteT (B := no2 H4) ⟨_, rfl, p, l, 5, rfl, hP4, by decide, by decide, fun m H5 s5 hP5 hm => ⟨_, rfl, _, _, rfl, rfl, ky2 _ _ s5 hP5 ⟨_, rfl⟩⟩⟩⟩
      · intro zs H4 s4 hP4 hz hel _ hlen n1 n2
        obtain ⟨bs, c1, c2⟩ := choose_list (ys := zs) (G := fun (_ : Nat) (y : V) (c : Bool) => y = .bl c) fun i y hy => let ⟨_, _, z⟩ := hel y (List.mem_of_getElem? hy); z
        refine ky _ _ s4 hP4 ⟨D2, rfl, (fun z => by rw [z, hacc] at hD2; cases hD2), n1, bs, ?_, c1.trans (hlen rfl)⟩
        rw [hz, show zs = bs.map V.bl from All2.eq_map ⟨c1.symm, fun i y c h1 h2 => c2 i y c h1 h2⟩]
    intro ys H3 s3 hP3 hys hel _ hlen n1 n2
    obtain ⟨rs, c1, c2⟩ := choose_list (ys := ys) (G := fun (_ : Nat) (y : V) (r : Addr) => y = .ref r ∧ ∃ bs : List Bool, H3 r = some (.lst (bs.map V.bl)) ∧ bs.length = W) fun i y hy => by
      obtain ⟨_, _, r, q1, _, _, q4⟩ := hel y (List.mem_of_getElem? hy)
      exact ⟨r, q1, q4⟩
    have hS : SeenAt H3 D W := by
      refine ⟨rs, ?_, c1.trans (hlen rfl), fun r hr1 => ?_⟩
      · rw [hys, show ys = rs.map V.ref from All2.eq_map ⟨c1.symm, fun i y c h1 h2 => (c2 i y c h1 h2).1⟩]
      · obtain ⟨i, hi⟩ := List.getElem?_of_mem hr1
        obtain ⟨y, hy⟩ : ∃ y, ys[i]? = some y := ⟨_, List.getElem?_eq_getElem (by rw [← c1]; exact lt_of_some hi)⟩
        exact (c2 i y r hy hi).2
    clear c1 c2 hel hys
    -- the values
    intro d hd
    obtain ⟨npd, nld⟩ := hP3.np hd
    have ed := Ex.new (o := HO.dK []) hd
    refine ⟨(by show 3 ≤ sizeLine; decide), fun t ht => ?_⟩
    have et := Ex.new (o := HO.tup [.str "p", .str "q", .str "r"]) ht
    have hPB := hP3.mono (ed.trans et)
    have hSB := hS.mono (ed.trans et)
    have sB : Sb p H (upd (upd H3 d (.dK [])) t (.tup [.str "p", .str "q", .str "r"])) := (s12.trans s3).ex (ed.trans et)
    have dB : upd (upd H3 d (.dK [])) t (.tup [.str "p", .str "q", .str "r"]) d = some (.dK []) := et _ _ upd_same
    have tB' : upd (upd H3 d (.dK [])) t (.tup [.str "p", .str "q", .str "r"]) t = some (.tup [.str "p", .str "q", .str "r"]) := upd_same
    have hd0' : H d = none := by
      cases q : H d with
      | none => rfl
      | some o => have := (s12.trans s3) _ _ npd.symm q; rw [hd] at this; cases this
    refine ⟨t, rfl, ⟨_, st_of upd_same⟩, ?_⟩
    generalize upd (upd H3 d (.dK [])) t (.tup [.str "p", .str "q", .str "r"]) = HB at hPB hSB sB dB tB' ⊢
    have ntp : t ≠ p := fun z => by obtain ⟨_, _, _, _, _, z1, _⟩ := hPB; rw [z, z1] at tB'; cases tB'
    have ntd : t ≠ d := fun z => by rw [z, dB] at tB'; cases tB'
    refine Wk.for_ (Wk.tup t [.str "p", .str "q", .str "r"]) (fun k σ H4 => ∃ (z8 : Option V) (es : List (Key × V)) (raw : List (Str × List Nat)), σ = [some (.ref p), some (nV most), some (nV W), some (.int (1 + (d0 : Int))), some (.ref D), none, none, some (.ref d), z8] ∧
        (∀ b o, b ≠ p → b ≠ d → HB b = some o → H4 b = some o) ∧ PoolAt H4 p l ∧ SeenAt H4 D W ∧ H4 d = some (.dK es) ∧ All2 (KfAt H4) es raw ∧ raw.map (·.1) = pqr.take k ∧ ∀ e, e ∈ raw → e.2.length ≤ W ∧ ∀ w, w ∈ e.2 → w < W)
      ⟨none, [], [], rfl, fun _ _ _ _ z => z, hPB, hSB, dB, All2.nil, rfl, fun e h => (nomatch h)⟩ (fun i σ H4 _ ⟨_, _, _, _, z, _⟩ => st_of (z _ _ ntp ntd tB')) ?_ ?_
    · rintro kk x σ H4 hk hx ⟨z8, es, raw, rfl, q1, hP4, hS4, q2, q3, q4, q5⟩
      obtain ⟨nm, hnm, rfl⟩ := getD_str (l := pqr) hx
      refine ⟨_, rfl, W, rfl, by omega, by omega, fun D5 hD5 => ?_⟩
      refine lcP (fun i y _ => y = nV i) true hP4 hD5 (by omega) (fun _ _ _ _ z _ => z) (fun _ _ _ _ z _ => z) ?_ ?_
      · rintro i H5 yes no hi s5 hP5 _ ky kn
        refine ⟨rfl, ⟨_, rfl, p, l, 3, rfl, hP5, by decide, by decide, fun m H6 s6 hP6 hm => ⟨rfl, _, rfl, ?_⟩⟩⟩
        exact ite2 (fun _ => ⟨_, rfl, ky _ _ s6 hP6 rfl⟩) (fun _ => kn rfl _ s6 hP6)
      intro zs H5 s5 hP5 hz hel hle _ n3 n4
      obtain ⟨l5, c1, c2⟩ := choose_list (ys := zs) (G := fun (_ : Nat) (y : V) (i : Nat) => i < W ∧ y = nV i) fun i y hy => hel y (List.mem_of_getElem? hy)
      have hz' : H5 D5 = some (.lst (l5.map nV)) := by rw [hz, show zs = l5.map nV from All2.eq_map ⟨c1.symm, fun i y c h1 h2 => (c2 i y c h1 h2).2⟩]
      have l5r : ∀ w, w ∈ l5 → w < W := fun w hw => by
        obtain ⟨i, hi⟩ := List.getElem?_of_mem hw
        obtain ⟨y, hy⟩ : ∃ y, zs[i]? = some y := ⟨_, List.getElem?_eq_getElem (by rw [← c1]; exact lt_of_some hi)⟩
        exact (c2 i y w hy hi).1
      have d5 := s5 _ _ npd.symm q2
      have q3' : All2 (KfAt H5) es raw := q3.mono fun _ _ z => z.sbp hP4 s5
      have hS5 := hS4.sbp hP4 (by omega) s5
      have esl : es.length ≤ 3 := by
        have h1 := q3.1
        have h2 := List.length_take (i := kk) (l := pqr)
        rw [← q4, List.length_map] at h2
        have : pqr.length = 3 := rfl
        omega
      have hnew : nm ∉ raw.map (·.1) := by
        rw [q4]
        exact nodup_take names3 hnm
      refine ⟨_, rfl, _, rfl, d, _, rfl, DPut.k (k := Sum.inr nm) d5 (small1000 (n := es.length) (by omega)), ?_⟩
      rw [putK_new _ (kv_none (K := K) (KfAt.kvs q3') hnew)]
      have sd : Sb d H5 (upd H5 d (.dK (es ++ [(.inr nm, .ref D5)]))) := Sb.upd
      refine ⟨_, _, raw ++ [(nm, l5)], rfl, fun b o h1 h2 z => sd _ _ h2 (s5 _ _ h1 (q1 b o h1 h2 z)), hP5.sb sd npd nld, hS5.sb d5 noSq_dK sd, upd_same, ?_, ?_, fun e he => ?_⟩
      · exact All2.snoc (q3'.mono fun _ _ z => z.sb d5 noSq_dK sd) ⟨rfl, D5, rfl, sd _ _ (ne_of d5 hz' (by intro z; cases z)).symm hz'⟩
      · rw [List.map_append, q4, take_snoc hnm]
        rfl
      · rcases List.mem_append.mp he with he | he
        · exact q5 e he
        · rw [List.mem_singleton.mp he]
          exact ⟨by rw [c1]; exact hle, l5r⟩
    · rintro σ H4 ⟨z8, es, raw, rfl, q1, hP4, hS4, q2, q3, q4, q5⟩
      refine ⟨_, rfl, _, rfl, (by show 2 ≤ sizeLine; decide), fun t2 ht2 => ?_⟩
      have e5 := Ex.new (o := HO.tup [.ref D, .ref d]) ht2
      refine k _ _ W raw (fun b o hb z => e5 _ _ (q1 b o hb (ne_of_none z hd0') (sB _ _ hb z))) (hP4.mono e5) ⟨t2, D, d, es, rfl, upd_same, hS4.mono e5, e5 _ _ q2, q3.mono fun _ _ z => z.mono e5, ⟨q4, fun e he => (q5 e he).1, fun e he => (q5 e he).2⟩, hW1⟩ hW
end
end Q
/-! Any model, a twisted model -/
namespace Q
open PySem PySem.Spec PyProof.Rows L2 Evl Rl Bi
def spTwisted : Sp := fun vs H Q _ => ∃ (p l : Addr) (u0 : V) (n : Nat) (raw : List (Str × List Nat)), vs = [.ref p, u0] ∧ PoolAt H p l ∧ RawAt H u0 n raw ∧ n ≤ 3 ∧ ∀ H' u raw', Sb p H H' → PoolAt H' p l → RawAt H' u (n + 1) raw' → Q u H'
/-- the names' lists with the twin's world -/
def twin (n tw : Nat) (e : Str × List Nat) : Str × List Nat := (e.1, e.2 ++ if inV (nV tw) (e.2.map nV) = true then [n] else [])
theorem twin_raw {n tw : Nat} {raw : List (Str × List Nat)} (h : RawOk n raw) : RawOk (n + 1) (raw.map (twin n tw)) := by
  refine ⟨?_, fun e he => ?_, fun e he w hw => ?_⟩
  · rw [List.map_map]
    exact h.names
  · obtain ⟨e', he', rfl⟩ := List.mem_map.mp he
    have h1 := h.len e' he'
    show (e'.2 ++ _).length ≤ n + 1
    rw [List.length_append]
    split
    · simp; omega
    · simp; omega
  · obtain ⟨e', he', rfl⟩ := List.mem_map.mp he
    have h1 := h.rng e' he'
    rcases List.mem_append.mp hw with hw | hw
    · have := h1 w hw
      omega
    · split at hw
      · rw [List.mem_singleton.mp hw]; omega
      · cases hw
section
variable {P : Program} {w : World} {K : PySem.W.Frag} {mg : Str → Option Value} {base : Heap} {CM CR CN aF : Addr}
abbrev N_any_model : List Str := ["_law_pool_here", "_law_most"]
theorem sc_any_model : FnScope N_any_model ["_law_pool_here", "_law_most"] (defScope s_any_model) := ⟨rfl, rfl, rfl, by decide +kernel, rfl, by decide +kernel, by decide +kernel⟩
theorem ok_any_model {f : Addr} {fd : FuncData} (F : Fun K "_law_any_model" "_law_any_model" s_any_model f fd) (c_draw : Cal P w K mg base CX0 2 "_law_draw" ["_law_pool_here", "_law_many"] spDraw) (c_names : Cal P w K mg base CX0 1 "_law_names" [] spLnames)
    (c_wide_model : Cal P w K mg base CX0 3 "_law_wide_model" ["_law_pool_here", "_law_most"] spWide) (c_drawn_model : Cal P w K mg base CX0 4 "_law_drawn_model" ["_law_pool_here", "_law_logic", "_law_most"] spDrawn) : FnOk P w K mg base CX0 5 f fd ["_law_pool_here", "_law_most"] spWide := by
  refine F.ok sc_any_model (fun vs H Q E h => ?_) (fun cdv A outer s H vs Q E hr h => ?_)
  · obtain ⟨_, _, _, rfl, _⟩ := h
    rfl
  · obtain ⟨p, l, most, rfl, hP, h1, h2, k⟩ := h
    refine ⟨_, (pss_cons (ps_if (pt_cmpR op_eq (pe_own c_draw (hr.mono (by omega)) rfl (pa_cons (pv 0) (pa_cons pe_int pa_nil))) pe_int (nomark _))
      (pss_one (ps_ret (pe_own c_wide_model (hr.mono (by omega)) rfl (pa_cons (pv 0) (pa_cons (pv 1) pa_nil)))))
      pss_nil)
      (pss_one (ps_ret (pe_own c_drawn_model (hr.mono (by omega)) rfl (pa_cons (pv 0) (pa_cons (pe_ix ix_list (pe_own0 c_names (hr.mono (by omega)) rfl) (pe_own c_draw (hr.mono (by omega)) rfl (pa_cons (pv 0) (pa_cons pe_int pa_nil))) (fun _ _ => rfl)) (pa_cons (pv 1) pa_nil))))))), ?_⟩
    refine ⟨_, rfl, p, l, 2, rfl, hP, by decide, by decide, fun m H1 s1 hP1 hm => ⟨rfl, _, rfl, ite2 (fun _ => ?_) (fun _ => ?_)⟩⟩
    · exact ⟨_, rfl, _, rfl, p, l, most, rfl, hP1, h1, h2, fun H2 u n raw s2 hP2 hR hn => k H2 u n raw (s1.trans s2) hP2 hR hn⟩
    · refine ⟨_, rfl, rfl, fun u H2 e2 ⟨D, hu, hD⟩ => ?_⟩
      subst hu
      have hP2 := hP1.mono e2
      refine ⟨_, rfl, p, l, 15, rfl, hP2, by decide, by decide, fun m H3 s3 hP3 hm => ?_⟩
      have nDp : D ≠ p := fun z => by
        obtain ⟨_, _, _, _, _, z1, _⟩ := hP2
        rw [z, z1] at hD
        injection hD with hD
        injection hD with hD
        injection hD with hD _
        cases hD
      obtain ⟨lg, hlg⟩ : ∃ lg, logics[m]? = some lg := ⟨_, List.getElem?_eq_getElem (show m < 15 from hm)⟩
      refine ⟨D, _, _, .str lg, rfl, rfl, sq_of (s3 _ _ nDp hD), atI_nat (j := m) (by rw [List.getElem?_map, hlg]; rfl), _, rfl, p, l, lg, most, rfl, hP3, h1, h2, fun H4 u n raw s4 hP4 hR hn => ?_⟩
      exact k H4 u n raw ((s1.ex e2).trans (s3.trans s4)) hP4 hR hn
abbrev N_twisted : List Str := ["_law_pool_here", "_law_model_here", "_law_seen", "_law_row", "_law_worlds", "_law_twin", "_law_grown", "_law_values", "_law_name"]
theorem sc_twisted : FnScope N_twisted ["_law_pool_here", "_law_model_here"] (defScope s_twisted) := ⟨rfl, rfl, rfl, by decide +kernel, rfl, by decide +kernel, by decide +kernel⟩
theorem ok_twisted {f : Addr} {fd : FuncData} (F : Fun K "_law_twisted" "_law_twisted" s_twisted f fd) (T : Tx K mg CM CR aF) (c_draw : Cal P w K mg base CX0 2 "_law_draw" ["_law_pool_here", "_law_many"] spDraw) : FnOk P w K mg base CX0 3 f fd ["_law_pool_here", "_law_model_here"] spTwisted := by
  refine F.ok sc_twisted (fun vs H Q E h => ?_) (fun cdv A outer s H vs Q E hr h => ?_)
  · obtain ⟨_, _, _, _, _, rfl, _⟩ := h
    rfl
  · obtain ⟨p, l, u0, n, raw, rfl, hP, hR, hn, k⟩ := h
    have hu := hu_of hr
    refine ⟨_, (pss_cons (ps_setLc (i := 2) (own := [("_law_row", 3)]) (g := gName 3) rfl sc_twisted.nd rfl rfl (sw_true rfl rfl rfl (by decide +kernel)) (pi_list (pe_ix ix_tup (pv 1) pe_int (fun _ _ => rfl))) (blkOk_by (own := [("_law_row", 3)]) (N := N_twisted) (sc := defScope s_twisted) (by decide +kernel)) (fun _ _ _ _ _ => (pg_name (i := 3) sc_twisted.nd rfl (Or.inl rfl))) (fun _ _ _ _ _ => pts_nil) (fun _ _ _ _ _ => (pe_callTy (k_list (K := K) rfl) rfl T.n_list boot_list (pa_cons (pv 3) pa_nil))))
      (pss_cons (ps_set (i := 4) sc_twisted.nd rfl (Or.inl rfl) (pe_callB call_len_seq rfl T.n_len boot_len (pa_cons (pv 2) pa_nil)))
      (pss_cons (ps_set (i := 5) sc_twisted.nd rfl (Or.inr rfl) (pe_own c_draw (hr.mono (by omega)) rfl (pa_cons (pv 0) (pa_cons (pv 4) pa_nil))))
      (pss_cons (ps_setLc (i := 6) (own := [("_law_row", 3)]) (g := gName 3) rfl sc_twisted.nd rfl rfl (sw_true rfl rfl rfl (by decide +kernel)) (pi_list (pv 2)) (blkOk_by (own := [("_law_row", 3)]) (N := N_twisted) (sc := defScope s_twisted) (by decide +kernel)) (fun _ _ _ _ _ => (pg_name (i := 3) sc_twisted.nd rfl (Or.inl rfl))) (fun _ _ _ _ _ => pts_nil) (fun _ _ _ _ _ => (pe_op op_cat (pv 3) (pe_lst (pa_cons (pe_ix (k_ixl (K := K) rfl) (pv 3) (pv 5) (fun _ _ => rfl)) pa_nil)))))
      (pss_cons (ps_expr (pe_bm PySem.F.plainAttrs_list PySem.F.slot_list_append PySem.F.type_list_append mt_append (pv 6) (pa_cons (pe_op op_cat (pe_ix ix_list (pv 2) (pv 5) (fun _ _ => rfl)) (pe_lst (pa_cons (pe_ix ix_list (pe_ix ix_list (pv 2) (pv 5) (fun _ _ => rfl)) (pv 5) (fun _ _ => rfl)) pa_nil))) pa_nil)))
      (pss_cons (ps_set (i := 7) sc_twisted.nd rfl (Or.inl rfl) pe_dnewK)
      (pss_cons (ps_lock (ps_for PassesOwn.never rfl (pi_keys (pe_ix ix_tup (pv 1) pe_int (fun _ _ => rfl))) (pg_name (i := 8) sc_twisted.nd rfl (Or.inl rfl))
      (pss_one (ps_dput hu (pv 7) (pv 8) (pe_op op_cat (pe_callTy call_list_of rfl T.n_list boot_list (pa_cons (pe_dget hu (pe_ix ix_tup (pv 1) pe_int (fun _ _ => rfl)) (pv 8) (fun _ _ => rfl)) pa_nil)) (pe_op op_rep (pe_lst (pa_cons (pv 4) pa_nil)) (pe_callTy call_int1 rfl T.n_int boot_int (pa_cons (pe_cmpR op_in_seq (pv 5) (pe_dget hu (pe_ix ix_tup (pv 1) pe_int (fun _ _ => rfl)) (pv 8) (fun _ _ => rfl)) (by rfl)) pa_nil)))) rfl))))
      (pss_one (ps_ret (pe_tup (pa_cons (pv 6) (pa_cons (pv 7) pa_nil)))))))))))), ?_⟩
    obtain ⟨t, sa, da, kvs, rfl, t1, ⟨rs0, q1, q2, q3⟩, t3, t4, t5, t6⟩ := id hR
    -- the rows anew
    refine ⟨_, rfl, t, _, 0, _, rfl, rfl, st_of t1, rfl, sa, rfl, ⟨_, sq_of q1⟩, fun D hD => ?_⟩
    refine (Wk.list sa (rs0.map V.ref)).rows n hD (by rw [List.length_map]; omega) (sq_of q1) (fun _ _ e b => ex_l e b) ?_ ?_
    · rintro i x H1 yes no hi e1 hx ky
      obtain ⟨r0, hr0, rfl⟩ : ∃ r0, r0 ∈ rs0 ∧ x = .ref r0 := by
        rw [List.getElem?_map] at hx
        cases q : rs0[i]? with
        | none => rw [q] at hx; cases hx
        | some c => rw [q] at hx; exact ⟨c, List.mem_of_getElem? q, (Option.some.inj hx).symm⟩
      obtain ⟨bs, z1, z2⟩ := q3 r0 hr0
      exact ⟨rfl, iteT (B := no H1) ⟨_, rfl, r0, _, rfl, Or.inl (sq_of (e1 _ _ z1)), fun r hr1 => ky r bs _ (Ex.new hr1) hr1 upd_same z2⟩⟩
    intro rs H1 e1 hrs hrl hrr
    rw [List.length_map, q2] at hrl
    have hS1 : SeenAt H1 D n := ⟨rs, hrs, hrl, fun r hr1 => (hrr r hr1).2⟩
    refine ⟨_, rfl, D, _, rfl, Or.inl (sq_of hrs), ?_⟩
    rw [show V.int ((rs.map V.ref).length : Int) = nV n by rw [List.length_map, hrl]; rfl]
    have hP1 := hP.mono e1
    refine ⟨_, rfl, _, rfl, p, l, n, rfl, hP1, t6, by omega, fun tw H2 s2 hP2 htw => ?_⟩
    have hR2 := (hR.mono e1).sbp hP1 (by omega) s2
    obtain ⟨rs, r1, r2, r3⟩ := hS1.sbp hP1 (by omega) s2
    clear hrs hrl hrr hS1
    have cat : ∀ (bs : List Bool) (c : Bool), bs.map V.bl ++ [V.bl c] = (bs ++ [c]).map V.bl := fun bs c => by rw [List.map_append]; rfl
    -- one world more
    refine ⟨_, rfl, D, rfl, ⟨_, sq_of r1⟩, fun D2 hD2 => ?_⟩
    have nDD : D ≠ D2 := ne_of_none r1 hD2
    refine (Wk.list D (rs.map V.ref)).rows (n + 1) hD2 (by rw [List.length_map]; omega) (sq_of r1) (fun _ _ e b => ex_l e b) ?_ ?_
    · rintro i x H3 yes no hi e3 hx ky
      obtain ⟨r0, hr0, rfl⟩ : ∃ r0, r0 ∈ rs ∧ x = .ref r0 := by
        rw [List.getElem?_map] at hx
        cases q : rs[i]? with
        | none => rw [q] at hx; cases hx
        | some c => rw [q] at hx; exact ⟨c, List.mem_of_getElem? q, (Option.some.inj hx).symm⟩
      obtain ⟨bs, z1, z2⟩ := r3 r0 hr0
      obtain ⟨c, hc⟩ := cell_at z2 htw
      have z3 := e3 _ _ z1
      refine ⟨rfl, iteT (B := no H3) ⟨_, rfl, _, rfl, _, rfl, r0, _, _, _, rfl, rfl, sq_of z3, hc, (by show 1 ≤ sizeLine; decide), fun q hq => ?_⟩⟩
      have e4 := Ex.new (o := HO.lst [.bl c]) hq
      refine ⟨r0, q, _, _, rfl, rfl, e4 _ _ z3, upd_same, ?_, fun r2' hr2 => ?_⟩
      · rw [List.length_map]
        show bs.length + 1 ≤ sizeLine
        exact Nat.le_of_lt (small1000 (by omega))
      · refine ky r2' (bs ++ [c]) _ (e4.trans (Ex.new hr2)) (fresh_back e4 hr2) ?_ (by rw [List.length_append, z2]; rfl)
        rw [upd_same]
        exact congrArg (fun z => some (HO.lst z)) (cat bs c)
    intro rs2 H3 e3 g1 g2 g3
    rw [List.length_map, r2] at g2
    have hP3 := hP2.mono e3
    -- the twin's row
    obtain ⟨rt, mt, att⟩ := row_at r2 htw
    obtain ⟨bt, w1, w2⟩ := r3 rt mt
    obtain ⟨ct, hct⟩ := cell_at w2 htw
    have r1' := e3 _ _ r1
    have w1' := e3 _ _ w1
    refine ⟨_, rfl, Or.inl ⟨rfl, _, sq_of g1⟩, _, rfl, _, rfl, D, _, _, _, rfl, rfl, sq_of r1', att, _, rfl, _, rfl, D, _, _, _, rfl, rfl, sq_of r1', att, _, rfl, rt, _, _, _, rfl, rfl, sq_of w1', hct, (by show 1 ≤ sizeLine; decide), fun q hq => ?_⟩
    have e4 := Ex.new (o := HO.lst [.bl ct]) hq
    refine ⟨rt, q, _, _, rfl, rfl, e4 _ _ w1', upd_same, ?_, fun r4 hr4 => ?_⟩
    · rw [List.length_map]
      show bt.length + 1 ≤ sizeLine
      exact Nat.le_of_lt (small1000 (by omega))
    have e5 := Ex.new (o := HO.lst (bt.map V.bl ++ [V.bl ct])) hr4
    have hr4v : upd (upd H3 q (.lst [.bl ct])) r4 (.lst (bt.map V.bl ++ [V.bl ct])) r4 = some (.lst ((bt ++ [ct]).map V.bl)) := by rw [upd_same, cat]
    generalize upd (upd H3 q (.lst [.bl ct])) r4 (.lst (bt.map V.bl ++ [V.bl ct])) = H4 at e5 hr4v ⊢
    have e45 := e4.trans e5
    have g1' := e45 _ _ g1
    refine ⟨D2, _, _, rfl, rfl, g1', by rw [List.length_map]; exact small1000 (by omega), ?_⟩
    have n42 : r4 ≠ D2 := fun z => by
      have := e4 _ _ g1
      rw [← z, hr4] at this
      cases this
    have s5 : Sb D2 H4 (upd H4 D2 (.lst (rs2.map V.ref ++ [.ref r4]))) := Sb.upd
    have hS5 : SeenAt (upd H4 D2 (.lst (rs2.map V.ref ++ [.ref r4]))) D2 (n + 1) := by
      refine ⟨rs2 ++ [r4], by rw [upd_same, List.map_append]; rfl, by rw [List.length_append, g2]; rfl, fun r hr1 => ?_⟩
      rcases List.mem_append.mp hr1 with hr1 | hr1
      · obtain ⟨y1, cs, y2, y3⟩ := g3 r hr1
        exact ⟨cs, s5 _ _ y1 (e45 _ _ y2), y3⟩
      · rw [List.mem_singleton.mp hr1]
        exact ⟨bt ++ [ct], s5 _ _ n42 hr4v, by rw [List.length_append, w2]; rfl⟩
    obtain ⟨np2, nl2⟩ := hP2.np hD2
    have hP5 := (hP3.mono e45).sb s5 np2 nl2
    have eH5 : Ex H2 (upd H4 D2 (.lst (rs2.map V.ref ++ [.ref r4]))) := fun b o z => s5 _ _ (ne_of_none z hD2) (e45 _ _ (e3 _ _ z))
    have sH5 : Sb p H (upd H4 D2 (.lst (rs2.map V.ref ++ [.ref r4]))) := (Sb.pre e1 s2).ex eH5
    have hR5 := hR2.mono eH5
    generalize upd H4 D2 (.lst (rs2.map V.ref ++ [.ref r4])) = H5 at s5 hS5 hP5 eH5 sH5 hR5 ⊢
    clear s5 g1 g1' g2 g3 w1 w1' r1' hr4v
    -- the values
    intro d hd
    have ed := Ex.new (o := HO.dK []) hd
    obtain ⟨npd, nld⟩ := hP5.np hd
    have hd0 : H d = none := by
      cases z : H d with
      | none => rfl
      | some o => have := sH5 _ _ npd.symm z; rw [hd] at this; cases this
    have hP6 := hP5.mono ed
    have hS6 := hS5.mono ed
    have hR6 := hR5.mono ed
    have d6 : upd H5 d (.dK []) d = some (.dK []) := upd_same
    have sH6 := sH5.ex ed
    have hfr : H5 d = none := hd
    obtain ⟨t', sa', da', kvs', hte, t1', t2', t3', t4', t5', _⟩ := hR5
    injection hte with hte
    subst hte
    have ndd : da' ≠ d := ne_of_none t3' hfr
    have n1 := ed _ _ t1'
    have n3 := ed _ _ t3'
    have n4 : All2 (KfAt (upd H5 d (.dK []))) kvs' raw := t4'.mono fun _ _ z => z.mono ed
    generalize upd H5 d (.dK []) = H6 at ed hP6 hS6 hR6 d6 sH6 n1 n3 n4 ⊢
    have ndk := kv_nodup (K := K) (KfAt.kvs n4) t5.nd
    have ntd : t ≠ da' := ne_of n1 n3 (by intro z; cases z)
    have ntd2 : t ≠ d := ne_of n1 d6 (by intro z; cases z)
    refine ⟨da', _, n3, trivial, fun od => ?_⟩
    have ht0 : upd H6 da' (.frz od (.dK kvs')) t = some (.tup [.ref sa', .ref da']) := by rw [upd_ne ntd]; exact n1
    refine ⟨_, rfl, t, _, 1, _, rfl, rfl, st_of ht0, rfl, da', od, rfl, Or.inl ⟨kvs', upd_same, ?_⟩⟩
    refine Wk.for_ (Wk.keys da' od kvs') (fun i σ H7 => ∃ z8 : Option V, σ = [some (.ref p), some (.ref t), some (.ref D), none, some (nV n), some (nV tw), some (.ref D2), some (.ref d), z8] ∧ H7 da' = some (.frz od (.dK kvs')) ∧ (∀ b o, b ≠ da' → b ≠ d → H6 b = some o → H7 b = some o) ∧ ∃ es, H7 d = some (.dK es) ∧ All2 (KfAt H7) es ((raw.map (twin n tw)).take i))
      ⟨none, rfl, upd_same, fun b o h1 h2 z => by rw [upd_ne h1]; exact z, [], by rw [upd_ne ndd.symm]; exact d6, All2.nil⟩ (fun i σ H2 _ ⟨_, _, h, _⟩ => h) ?_ ?_
    · rintro i x σ H7 hi ⟨key, v, hk, rfl⟩ ⟨z8, rfl, b1, b2, es, b3, b4⟩
      obtain ⟨e, he, hq1, a2, hq2, hq3⟩ := n4.at hk
      simp only at hq1 hq2
      subst hq1; subst hq2
      have hem := List.mem_of_getElem? he
      have hv2 : valV kvs' (.inr e.1) = some (.ref a2) := valV_mem ndk (List.mem_of_getElem? hk)
      have ha2 : H7 a2 = some (.lst (e.2.map nV)) := b2 _ _ (ne_of hq3 n3 (by intro z; cases z)) (ne_of hq3 d6 (by intro z; cases z)) hq3
      have ht7 := b2 _ _ ntd ntd2 n1
      have hl3 := t5.len e hem
      have hraw : (raw.map (twin n tw))[i]? = some (twin n tw e) := by rw [List.getElem?_map, he]; rfl
      refine ⟨_, rfl, t, _, 1, _, rfl, rfl, st_of ht7, rfl, _, rfl, da', _, rfl, dget_frz b1 hv2, a2, _, rfl, Or.inl (sq_of ha2), fun q hq => ?_⟩
      have ec := Ex.new (o := HO.lst (e.2.map nV)) hq
      refine ⟨_, rfl, (by show 1 ≤ sizeLine; decide), fun q2 hq2 => ?_⟩
      have ec2 := Ex.new (o := HO.lst [nV n]) hq2
      have e12 := ec.trans ec2
      refine ⟨_, rfl, _, rfl, t, _, 1, _, rfl, rfl, st_of (e12 _ _ ht7), rfl, _, rfl, da', _, rfl, dget_frz (e12 _ _ b1) hv2, a2, _, rfl, Or.inl (sq_of (e12 _ _ ha2)), rfl, flat_nats _, Or.inr ⟨_, rfl, ?_⟩⟩
      rw [if_neg Bool.false_ne_true]
      refine ⟨q2, _, _, rfl, rfl, upd_same, ?_, ?_, ?_, fun q3' hq3' => ?_⟩
      · split <;> omega
      · split <;> omega
      · show 1 * _ ≤ sizeLine
        refine Nat.le_of_lt (small1000 ?_)
        split
        · show 1 * 1 ≤ 1000
          omega
        · show 1 * 0 ≤ 1000
          omega
      have hx : (List.replicate (if inV (nV tw) (e.2.map nV) = true then (1 : Int) else 0).toNat [nV n]).flatten = (if inV (nV tw) (e.2.map nV) = true then [n] else []).map nV := by
        split
        · rfl
        · rfl
      have ec3 := Ex.new (o := HO.lst (List.replicate (if inV (nV tw) (e.2.map nV) = true then (1 : Int) else 0).toNat [nV n]).flatten) hq3'
      have hq3v : upd (upd (upd H7 q (.lst (e.2.map nV))) q2 (.lst [nV n])) q3' (.lst (List.replicate (if inV (nV tw) (e.2.map nV) = true then (1 : Int) else 0).toNat [nV n]).flatten) q3' = some (.lst ((if inV (nV tw) (e.2.map nV) = true then [n] else []).map nV)) := by rw [upd_same, hx]
      have hqv := ec3 _ _ (ec2 _ _ (show upd H7 q (.lst (e.2.map nV)) q = some (.lst (e.2.map nV)) from upd_same))
      have e13 := e12.trans ec3
      refine ⟨q, q3', _, _, rfl, rfl, hqv, hq3v, ?_, fun q4 hq4 => ?_⟩
      · rw [List.length_map, List.length_map]
        refine Nat.le_of_lt (small1000 ?_)
        split
        · simp; omega
        · simp; omega
      have ec4 := Ex.new (o := HO.lst (e.2.map nV ++ (if inV (nV tw) (e.2.map nV) = true then [n] else []).map nV)) hq4
      have e14 := e13.trans ec4
      have b3' := e14 _ _ b3
      have hq4v : upd (upd (upd (upd H7 q (.lst (e.2.map nV))) q2 (.lst [nV n])) q3' (.lst (List.replicate (if inV (nV tw) (e.2.map nV) = true then (1 : Int) else 0).toNat [nV n]).flatten)) q4 (.lst (e.2.map nV ++ (if inV (nV tw) (e.2.map nV) = true then [n] else []).map nV)) q4 = some (.lst ((twin n tw e).2.map nV)) := by
        rw [upd_same]
        show _ = some (HO.lst ((e.2 ++ _).map nV))
        rw [List.map_append]
      have esl : es.length ≤ 3 := by
        have h1 := b4.1
        have h2 := List.length_take (i := i) (l := raw.map (twin n tw))
        have h3 := t5.three
        rw [List.length_map] at h2
        omega
      have hnew : e.1 ∉ ((raw.map (twin n tw)).take i).map (·.1) := names_take (e := twin n tw e) (twin_raw t5).nd hraw
      refine ⟨_, rfl, _, rfl, d, _, rfl, DPut.k (k := Sum.inr e.1) b3' (small1000 (n := es.length) (by omega)), ?_⟩
      rw [putK_new _ (kv_none (K := K) (KfAt.kvs b4) hnew)]
      generalize upd (upd (upd (upd H7 q (.lst (e.2.map nV))) q2 (.lst [nV n])) q3' (.lst (List.replicate (if inV (nV tw) (e.2.map nV) = true then (1 : Int) else 0).toNat [nV n]).flatten)) q4 (.lst (e.2.map nV ++ (if inV (nV tw) (e.2.map nV) = true then [n] else []).map nV)) = H8 at e14 b3' hq4v ⊢
      have sd : Sb d H8 (upd H8 d (.dK (es ++ [(.inr e.1, .ref q4)]))) := Sb.upd
      refine ⟨_, rfl, sd _ _ ndd (e14 _ _ b1), fun b o h1 h2 h3 => sd _ _ h2 (e14 _ _ (b2 b o h1 h2 h3)), _, upd_same, ?_⟩
      rw [take_snoc hraw]
      exact All2.snoc (b4.mono fun _ _ z => (z.mono e14).sb b3' noSq_dK sd) ⟨rfl, q4, rfl, sd _ _ (ne_of b3' hq4v (by intro z; cases z)).symm hq4v⟩
    · rintro σ H7 ⟨z8, rfl, b1, b2, es, b3, b4⟩
      have hlen : kvs'.length = (raw.map (twin n tw)).length := by rw [List.length_map]; exact n4.1
      rw [hlen, List.take_length] at b4
      refine ⟨b1, ?_⟩
      have sF : Sb da' H7 (upd H7 da' (.dK kvs')) := Sb.upd
      have sB : Sb d H6 (upd H7 da' (.dK kvs')) := fun b o hb z => by
        by_cases hbd : b = da'
        · rw [hbd, upd_same, ← n3, ← hbd]
          exact z
        · exact sF _ _ hbd (b2 _ _ hbd hb z)
      have f3 : upd H7 da' (.dK kvs') d = some (.dK es) := by rw [upd_ne ndd.symm]; exact b3
      have f4 : All2 (KfAt (upd H7 da' (.dK kvs'))) es (raw.map (twin n tw)) := b4.mono fun _ _ z => z.sb b1 noSq_fK sF
      have hPF := hP6.sb sB npd nld
      have hSF := hS6.sb d6 noSq_dK sB
      generalize upd H7 da' (.dK kvs') = HF at sB f3 f4 hPF hSF ⊢
      refine ⟨_, rfl, _, rfl, (by show 2 ≤ sizeLine; decide), fun t2 ht2 => ?_⟩
      have e5 := Ex.new (o := HO.tup [.ref D2, .ref d]) ht2
      refine k _ _ (raw.map (twin n tw)) (fun b o hb z => e5 _ _ (sB _ _ (ne_of_none z hd0) (sH6 _ _ hb z))) (hPF.mono e5) ⟨t2, D2, d, es, rfl, upd_same, hSF.mono e5, e5 _ _ f3, f4.mono fun _ _ z => z.mono e5, twin_raw t5, Nat.succ_le_succ (Nat.zero_le _)⟩
end
end Q
/-! The law -/
namespace Q
open PySem PySem.Spec PyProof.Rows L2 Evl Rl Bi
section
variable {X : Cx} {k : Nat} {x : Str} {ps : List Str} {sp : Sp} {p pos : Pos} {e : Expr} {es : List Expr} {t : TA} {W : WX}
theorem pe_ownS (c : Cal X.prog X.w X.K X.mg X.base (L2.CX X.prog X.w) k x ps sp) (tk : Takes X W) (hr : Room k X.A) (hg : Gl X x) (ha : PA X (e :: es) t) (hdb : (x == ("__debug__" : Str)) = false := by decide)
    (he : starEach (e :: es) X.env = (false, eval e X.env) :: starEach es X.env := by rfl) (hpl : (backTo pos (starEach es X.env)).any (·.1) = false := by rfl) : PE X (.Call (.Name x p) (e :: es) [] pos) (tCallS sp (WE W) t) := by
  obtain ⟨f, fd, F, hm, hk, hb⟩ := c.ex
  exact pe_callS F hr hg hm hk hb (fun σ => passAt tk σ) ha hdb he hpl
end
def spLaw (K : PySem.W.Frag) : Sp := fun vs H Q _ => ∃ (a : Addr) (ns : List Int), vs = [.ref a] ∧ SqL K H a (ns.map V.int) ∧ ∀ H', Q (.bl true) H'
theorem mk_model {K : PySem.W.Frag} {C : Addr} {H : Hp} {Q : VK} {E : XK} {fa d x dx : Addr} {n : Nat} {ps : List (Nat × Nat)} {kvs : List (Key × V)} {raw : List (Str × List Nat)} (hfr : FrAt K H fa n ps) (h1 : 1 ≤ n) (h4 : n ≤ 4) (asc : ps.Pairwise plt) (rng : ∀ p, p ∈ ps → p.1 < n ∧ p.2 < n)
    (hd : H d = some (.dK kvs)) (hkv : All2 (KfAt H) kvs raw) (hraw : RawOk n raw) (hx : H x = none) (hdx : H dx = none) (k : ∀ H' M, Ex H H' → MdAt K C H' x M → M.n = n → (∀ e, e ∈ M.vs → e.1 ∈ pqr) → Q .non H') :
    spMinit K C [.ref x, .ref fa, .ref d] (upd (upd H dx (.own x)) x (.ins C dx [])) Q E := by
  have e : Ex H (upd (upd H dx (.own x)) x (.ins C dx [])) := fun b o z => by
    rw [upd_ne (ne_of_none z hx), upd_ne (ne_of_none z hdx)]
    exact z
  have hl := ps_len asc rng
  have hnn : n * n ≤ 4 * 4 := Nat.mul_le_mul h4 h4
  refine ⟨x, dx, fa, d, n, ps, kvs, raw, rfl, upd_same, hfr.mono e, ⟨h1, by omega, asc, rng, by omega⟩, e _ _ hd, (KfAt.kvs hkv).mono fun _ _ z => z.mono e, hraw.nd, by rw [hraw.three]; omega,
    fun q hq => ⟨hraw.sok q hq, by have := hraw.len q hq; omega, hraw.rng q hq⟩, fun H' M sb hn _ hval hM => k H' M (fun b o z => sb _ _ (ne_of_none z hx) (e _ _ z)) hM hn fun q hq => ?_⟩
  obtain ⟨w, hw⟩ := List.exists_mem_of_ne_nil q.2 (hM.ok.ls q hq).1
  obtain ⟨l, hl, _⟩ := (hval q.1 w).mp ⟨q.2, hq, hw⟩
  rw [← hraw.names]
  exact List.mem_map.mpr ⟨_, hl, rfl⟩
theorem any_grid {n m v w : Nat} {g : Nat → Nat → Bool} (hv : v < n) (hw : w < m) : ((((grid n m).filter fun p => g p.1 p.2).map prP).any fun z => PyData.eqv z (prP (v, w))) = g v w := by
  cases q : g v w with
  | true =>
    rw [List.any_eq_true]
    exact ⟨prP (v, w), List.mem_map.mpr ⟨(v, w), List.mem_filter.mpr ⟨mem_grid.mpr ⟨hv, hw⟩, q⟩, rfl⟩, by rw [prP_eqv]; exact decide_eq_true rfl⟩
  | false =>
    rw [List.any_eq_false]
    intro z hz c
    obtain ⟨⟨a, b⟩, hp, rfl⟩ := List.mem_map.mp hz
    rw [prP_eqv] at c
    have c := of_decide_eq_true c
    injection c with c1 c2
    subst c1; subst c2
    have := (List.mem_filter.mp hp).2
    simp only at this
    rw [q] at this
    cases this
section
variable {P : Program} {w : World} {K : PySem.W.Frag} {mg : Str → Option Value} {base : Heap} {CM CR CN aF : Addr}
abbrev N_law : List Str := ["_law_script", "_law_pool_here", "_law_first", "_law_second", "_law_one", "_law_two", "_law_both", "_law_number", "_law_small", "_law_alike", "_law_by", "_law_v", "_law_w", "_law_step", "_law_a", "_law_there"]
theorem sc_law : FnScope N_law ["_law_script"] (defScope s_law) := ⟨rfl, rfl, rfl, by decide +kernel, rfl, by decide +kernel, by decide +kernel⟩
theorem ok_law {f : Addr} {fd : FuncData} (F : Fun K "law" "law" s_law f fd) (T : Tx K mg CM CR aF) (N : Nt K mg CN) (c_pool : Cal P w K mg base CX0 1 "_law_pool" ["_law_script"] (spPool K)) (c_any_model : Cal P w K mg base CX0 5 "_law_any_model" ["_law_pool_here", "_law_most"] spWide)
    (c_draw : Cal P w K mg base CX0 2 "_law_draw" ["_law_pool_here", "_law_many"] spDraw) (c_twisted : Cal P w K mg base CX0 3 "_law_twisted" ["_law_pool_here", "_law_model_here"] spTwisted) (c_program_model : Cal P w K mg base CX0 3 "_law_program_model" ["_law_model_here"] (spPm K))
    (c_minit : Mak P w K mg base CM 3 "Model" ["self", "frame", "values"] (spMinit K CM)) (c_disjoint : Cal P w K mg base CX0 5 "disjoint" ["first", "second"] (spDisj K CM)) (c_class_of : Cal P w K mg base CX0 7 "class_of" ["model"] (spClass K CM))
    (c_smallest : Cal P w K mg base CX0 8 "smallest" ["model"] (spSmallest K CM)) (c_greatest : Cal P w K mg base CX0 6 "greatest_bisimulation" ["first", "second"] (spGreatest K CM)) (c_round_of : Cal P w K mg base CX0 6 "round_of" ["first", "v", "second", "w"] (spRound K CM))
    (c_telling : Cal P w K mg base (L2.CX P w) 21 "telling" ["first", "v", "second", "w"] (spTelling K CM CN 13)) (c_truth : Cal P w K mg base CX0 125 "truth" ["model", "a"] (spTruth K CM 122)) (c_modal_depth : Cal P w K mg base CX0 123 "modal_depth" ["a"] (spMd K 122)) :
    FnOk P w K mg base CX0 126 f fd ["_law_script"] (spLaw K) := by
  refine F.ok sc_law (fun vs H Q E h => ?_) (fun cdv A outer s H vs Q E hr h => ?_)
  · obtain ⟨_, _, rfl, _⟩ := h
    rfl
  · obtain ⟨a, ns, rfl, ha, k⟩ := h
    have hu := hu_of hr
    have hu65 : (A.deeper (envOfC "law" (defScope s_law) s.heap.objs.size f cdv)).units + 65 < cLine := by have := hr.un; omega
    refine ⟨_, (pss_cons (ps_set (i := 1) sc_law.nd rfl (Or.inl rfl) (pe_own c_pool (hr.mono (by omega)) rfl (pa_cons (pv 0) pa_nil)))
      (pss_cons (ps_set (i := 2) sc_law.nd rfl (Or.inl rfl) (pe_own c_any_model (hr.mono (by omega)) rfl (pa_cons (pv 1) (pa_cons pe_int pa_nil))))
      (pss_cons (ps_set (i := 3) sc_law.nd rfl (Or.inl rfl) (pe_ifExp (pt_cmpR op_eq (pe_own c_draw (hr.mono (by omega)) rfl (pa_cons (pv 1) (pa_cons pe_int pa_nil))) pe_int (nomark _)) (pe_own c_any_model (hr.mono (by omega)) rfl (pa_cons (pv 1) (pa_cons pe_int pa_nil))) (pe_own c_twisted (hr.mono (by omega)) rfl (pa_cons (pv 1) (pa_cons (pv 2) pa_nil)))))
      (pss_cons (ps_set (i := 4) sc_law.nd rfl (Or.inl rfl) (pe_own c_program_model (hr.mono (by omega)) rfl (pa_cons (pv 2) pa_nil)))
      (pss_cons (ps_set (i := 5) sc_law.nd rfl (Or.inl rfl) (pe_own c_program_model (hr.mono (by omega)) rfl (pa_cons (pv 3) pa_nil)))
      (pss_cons (ps_set (i := 4) sc_law.nd rfl (Or.inl rfl) (pe_mak c_minit (hr.mono (by omega)) rfl (pa_cons (pe_ix ix_tup (pv 4) pe_int (fun _ _ => rfl)) (pa_cons (pe_ix ix_tup (pv 4) pe_int (fun _ _ => rfl)) pa_nil))))
      (pss_cons (ps_set (i := 5) sc_law.nd rfl (Or.inl rfl) (pe_mak c_minit (hr.mono (by omega)) rfl (pa_cons (pe_ix ix_tup (pv 5) pe_int (fun _ _ => rfl)) (pa_cons (pe_ix ix_tup (pv 5) pe_int (fun _ _ => rfl)) pa_nil))))
      (pss_cons (ps_set (i := 6) sc_law.nd rfl (Or.inl rfl) (pe_own c_disjoint (hr.mono (by omega)) rfl (pa_cons (pv 4) (pa_cons (pv 5) pa_nil))))
      (pss_cons (ps_set (i := 7) sc_law.nd rfl (Or.inl rfl) (pe_own c_class_of (hr.mono (by omega)) rfl (pa_cons (pv 6) pa_nil)))
      (pss_cons (ps_set (i := 8) sc_law.nd rfl (Or.inl rfl) (pe_own c_smallest (hr.mono (by omega)) rfl (pa_cons (pv 6) pa_nil)))
      (pss_cons (ps_set (i := 9) sc_law.nd rfl (Or.inl rfl) (pe_own c_greatest (hr.mono (by omega)) rfl (pa_cons (pv 4) (pa_cons (pv 5) pa_nil))))
      (pss_cons (ps_set (i := 10) sc_law.nd rfl (Or.inl rfl) (pe_callB call_len_seq rfl T.n_len boot_len (pa_cons (pe_ix ix_tup (pv 2) pe_int (fun _ _ => rfl)) pa_nil)))
      (pss_cons (ps_for PassesOwn.never rfl (pi_range1 rfl T.n_range (pa_cons (pv 10) pa_nil)) (pg_name (i := 11) sc_law.nd rfl (Or.inl rfl))
      (pss_one (ps_for PassesOwn.never rfl (pi_range1 rfl T.n_range (pa_cons (pe_callB call_len_seq rfl T.n_len boot_len (pa_cons (pe_ix ix_tup (pv 3) pe_int (fun _ _ => rfl)) pa_nil)) pa_nil)) (pg_name (i := 12) sc_law.nd rfl (Or.inl rfl))
      (pss_cons (ps_set (i := 13) sc_law.nd rfl (Or.inl rfl) (pe_own c_round_of (hr.mono (by omega)) rfl (pa_cons (pv 4) (pa_cons (pv 11) (pa_cons (pv 5) (pa_cons (pv 12) pa_nil))))))
      (pss_cons (ps_if (PW.pt (pw_or (pt_cmpR op_ne (pe_cmpR (op_inD hu65) (pe_tup (pa_cons (pv 11) (pa_cons (pv 12) pa_nil))) (pv 9) (by rfl)) (pe_cmpR op_lt (pv 13) pe_int (nomark _)) (nomark _)) (pw_or1 (pt_cmpR op_ne (pe_cmpR op_eq (pe_ix ix_list (pv 7) (pv 11) (fun _ _ => rfl)) (pe_ix ix_list (pv 7) (pe_op op_add (pv 12) (pv 10)) (fun _ _ => rfl)) (nomark _)) (pe_cmpR op_lt (pv 13) pe_int (nomark _)) (nomark _)))))
      (pss_one (ps_ret pe_bl))
      pss_nil)
      (pss_one (ps_try_onlyE (Wout := fun _ _ _ _ => False) (pss_cons (ps_set (i := 15) sc_law.nd rfl (Or.inl rfl) (pe_own c_truth (hr.mono (by omega)) rfl (pa_cons (pv 8) (pa_cons (pv 14) pa_nil))))
      (pss_one (ps_if (PW.pt (pw_or (pt_cmpR op_ne (pe_own c_modal_depth (hr.mono (by omega)) rfl (pa_cons (pv 14) pa_nil)) (pv 13) (nomark _)) (pw_or (pt_cmpR op_notIn_seq (pe_ix ix_list (pv 7) (pv 11) (fun _ _ => rfl)) (pv 15) (by rfl)) (pw_or1 (pt_cmpR op_in_seq (pe_ix ix_list (pv 7) (pe_op op_add (pv 12) (pv 10)) (fun _ _ => rfl)) (pv 15) (by rfl))))))
      (pss_one (ps_ret pe_bl))
      pss_nil))) rfl rfl ⟨rfl, by decide, Or.inl N.g⟩ takes0 (fun W pn xe tk _ => (pss_one (ps_set (i := 14) sc_law.nd rfl (Or.inl rfl) (pe_ownS c_telling tk (hr.mono (by omega)) rfl (pa_cons (pv 4) (pa_cons (pv 11) (pa_cons (pv 5) (pa_cons (pv 12) pa_nil)))))))) (fun _ _ _ _ _ _ _ => (pss_one (ps_if (pt_cmpR op_ge (pv 13) pe_int (nomark _))
      (pss_one (ps_ret pe_bl))
      pss_nil))))))))))
      (pss_one (ps_ret pe_bl))))))))))))))), ?_⟩
    refine ⟨_, rfl, a, ns, rfl, ha, fun u H1 e1 ⟨p, l, hu1, hP1⟩ => ?_⟩
    subst hu1
    refine ⟨_, rfl, p, l, 3, rfl, hP1, by decide, by decide, fun H2 u1 n1 raw1 s2 hP2 hR1 hn1 => ?_⟩
    dsimp only [gName]
    refine seq_with (I := fun σ H3 => ∃ (u2 : V) (n2 : Nat) (raw2 : List (Str × List Nat)), σ = [some (.ref a), some (.ref p), some u1, some u2, none, none, none, none, none, none, none, none, none, none, none, none] ∧ RawAt H3 u1 n1 raw1 ∧ RawAt H3 u2 n2 raw2 ∧ n2 ≤ 4) ?_ (fun NN hNN => ?_)
    · rintro σ H3 ⟨u2, n2, raw2, rfl, hR1, hR2, hn2⟩
      -- the program's models
      refine ⟨_, rfl, u1, n1, raw1, rfl, hR1, by omega, fun u H5 e5 ⟨t1, fa1, d1, kvs1, ps1, hu5, a1, a2, a3, a4, a5, a6⟩ => ?_⟩
      subst hu5
      refine ⟨_, rfl, u2, n2, raw2, rfl, hR2.mono e5, hn2, fun u H6 e6 ⟨t2, fa2, d2, kvs2, ps2, hu6, b1, b2, b3, b4, b5, b6⟩ => ?_⟩
      subst hu6
      have w1 : RawOk n1 raw1 ∧ 1 ≤ n1 := let ⟨_, _, _, _, _, _, _, _, _, z⟩ := hR1; z
      have w2 : RawOk n2 raw2 ∧ 1 ≤ n2 := let ⟨_, _, _, _, _, _, _, _, _, z⟩ := hR2; z
      have a1' := e6 _ _ a1
      refine ⟨_, rfl, t1, _, 0, _, rfl, rfl, st_of a1', rfl, _, rfl, t1, _, 1, _, rfl, rfl, st_of a1', rfl, fun m1 dm1 hm1 hdm1 hne1 => ?_⟩
      refine mk_model (a2.mono e6) w1.2 (by omega) a3 a4 (e6 _ _ a5) (a6.mono fun _ _ z => z.mono e6) w1.1 hm1 hdm1 fun H7 M e7 hM hMn hMl => ⟨rfl, ?_⟩
      have b1' := e7 _ _ b1
      refine ⟨_, rfl, t2, _, 0, _, rfl, rfl, st_of b1', rfl, _, rfl, t2, _, 1, _, rfl, rfl, st_of b1', rfl, fun m2 dm2 hm2 hdm2 hne2 => ?_⟩
      refine mk_model (b2.mono e7) w2.2 hn2 b3 b4 (e7 _ _ b5) (b6.mono fun _ _ z => z.mono e7) w2.1 hm2 hdm2 fun H8 M' e8 hM' hMn' hMl' => ⟨rfl, ?_⟩
      have hM8 := hM.mono e8
      have okM := hM.ok
      have okM' := hM'.ok
      -- the sum, its classes, the smallest, the alike
      refine ⟨_, rfl, _, rfl, m1, m2, M, M', pqr, rfl, hM8, hM', by omega, by decide, hMl, hMl', fun u H9 e9 ⟨b, B, hu9, hB, hsum⟩ => ?_⟩
      subst hu9
      refine ⟨_, rfl, b, B, rfl, hB, fun u H10 e10 ⟨nl, hu10, hnl⟩ => ?_⟩
      subst hu10
      refine ⟨_, rfl, b, B, rfl, hB.mono e10, fun u H11 e11 ⟨z, Z, hu11, hZ, hq, hzn⟩ => ?_⟩
      subst hu11
      have e911 := e9.trans (e10.trans e11)
      refine ⟨_, rfl, _, rfl, m1, m2, M, M', rfl, hM8.mono e911, hM'.mono e911, fun u H12 e12 ⟨al, ys, g, hu12, hal, hys, hg⟩ => ?_⟩
      subst hu12
      have eA : Ex H8 H12 := e911.trans e12
      have hR1' := hR1.mono (e5.trans (e6.trans (e7.trans (e8.trans eA))))
      have hR2' := hR2.mono (e5.trans (e6.trans (e7.trans (e8.trans eA))))
      have hMA := hM8.mono eA
      have hMA' := hM'.mono eA
      have hZA := hZ.mono e12
      have hnlA := (e11.trans e12) _ _ hnl
      obtain ⟨t0, s0, d0, kv0, hu0, g1, ⟨rs0, g2, g3, _⟩, _⟩ := hR1'
      obtain ⟨t9, s9, d9, kv9, hu9, i1, ⟨rs9, i2, i3, _⟩, _⟩ := hR2'
      subst hu0; subst hu9
      have hB' : In B := hB.ok.inn
      clear hM hM8 hM' hB hZ hnl hR1 hR2
      refine ⟨_, rfl, t0, _, 0, _, rfl, rfl, st_of g1, rfl, s0, _, rfl, Or.inl (sq_of g2), ?_⟩
      rw [show V.int ((rs0.map V.ref).length : Int) = nV n1 by rw [List.length_map, g3]; rfl]
      refine ⟨_, rfl, n1, rfl, by omega, by omega, ?_⟩
      refine Wk.for_ (Wk.range n1) (fun i σ H' => ∃ z11 z12 z13 z14 z15 : Option V, σ = [some (.ref a), some (.ref p), some (.ref t0), some (.ref t9), some (.ref m1), some (.ref m2), some (.ref b), some (.ref nl), some (.ref z), some (.ref al), some (nV n1), z11, z12, z13, z14, z15] ∧ Ex H12 H') ⟨_, _, _, _, _, rfl, Ex.refl _⟩ (fun _ _ _ _ _ => trivial) ?_ (fun σ H' ⟨_, _, _, _, _, e, _⟩ => by
        subst e
        exact k H')
      rintro v x σ Hv hv rfl ⟨z11, z12, z13, z14, z15, rfl, ev⟩
      refine ⟨_, rfl, t9, _, 0, _, rfl, rfl, st_of (ev _ _ i1), rfl, s9, _, rfl, Or.inl (sq_of (ev _ _ i2)), n2, ?_, by omega, by omega, ?_⟩
      · rw [List.length_map, i3]
      refine Wk.for_ (Wk.range n2) (fun i σ H' => ∃ z12 z13 z14 z15 : Option V, σ = [some (.ref a), some (.ref p), some (.ref t0), some (.ref t9), some (.ref m1), some (.ref m2), some (.ref b), some (.ref nl), some (.ref z), some (.ref al), some (nV n1), some (nV v), z12, z13, z14, z15] ∧ Ex H12 H') ⟨_, _, _, _, rfl, ev⟩ (fun _ _ _ _ _ => trivial) ?_ (fun σ H' ⟨z12, z13, z14, z15, e, e'⟩ => ⟨_, z12, z13, z14, z15, e, e'⟩)
      rintro w' x σ Hw hw rfl ⟨z12, z13, z14, z15, rfl, ew⟩
      have hwB : w' + n1 < B.n := by rw [hsum.n, hMn, hMn']; omega
      have hvB : v < B.n := by rw [hsum.n, hMn, hMn']; omega
      have hvM : v < M.n := by rw [hMn]; exact hv
      have hwM : w' < M'.n := by rw [hMn']; exact hw
      have hTB : Told B B v (w' + n1) ↔ Told M M' v w' := by
        rw [← hMn]
        exact hsum.Told okM.inn okM'.inn hvM hwM
      have hnum : num B v = num B (w' + n1) ↔ ¬ Told M M' v w' := by rw [num_iff hvB hwB, hTB]
      have hgv : g v w' = true ↔ ¬ Told M M' v w' := hg v w' hvM hwM
      refine ⟨_, rfl, _, rfl, _, rfl, _, rfl, m1, m2, M, M', v, w', rfl, hMA.mono ew, hMA'.mono ew, hvM, hwM, fun u Ha ea hstep => ?_⟩
      have eb := ew.trans ea
      obtain ⟨st, hust, hst0, hstn⟩ : ∃ st : Int, u = .int st ∧ (decide (st < 0) = true ↔ ¬ Told M M' v w') ∧ (∀ r, R M M' v w' r → st = (r : Int)) := by
        rcases hstep with ⟨r, hr1, rfl⟩ | ⟨hn, rfl⟩
        · refine ⟨r, rfl, ⟨fun c => absurd (of_decide_eq_true c) (by omega), fun c => absurd ⟨r, hr1.1⟩ c⟩, fun r' hr' => by rw [R_uniq hr1 hr']⟩
        · refine ⟨-1, rfl, ⟨fun _ => hn, fun _ => by decide⟩, fun r' hr' => absurd ⟨r', hr'.1⟩ hn⟩
      subst hust
      clear hstep
      have boolEq : ∀ {x y : Bool}, (x = true ↔ ¬ Told M M' v w') → (y = true ↔ ¬ Told M M' v w') → (!decide (V.bl x = V.bl y)) = false := fun {x y} h1 h2 => by
        have : x = y := by
          cases x with
          | true => exact (h2.mpr (h1.mp rfl)).symm
          | false =>
            cases y with
            | false => rfl
            | true => exact absurd (h1.mpr (h2.mp rfl)) Bool.false_ne_true
        rw [this, decide_eq_true rfl]
        rfl
      refine ⟨_, rfl, _, rfl, (by show 2 ≤ sizeLine; decide), fun q hq1 => ?_⟩
      have eq1 := Ex.new (o := HO.tup [nV v, nV w']) hq1
      have ec := eb.trans eq1
      have hys' : All2 (PrAt K (upd Ha q (.tup [nV v, nV w']))) ys ((grid M.n M'.n).filter fun p => g p.1 p.2) := hys.mono fun _ _ y => (y.mono ec).pr
      refine ⟨_, rfl, prP (v, w'), ((grid M.n M'.n).filter fun p : Nat × Nat => g p.1 p.2).map prP, dp_pr ⟨q, rfl, st_of upd_same⟩, .lst (sq_of (ec _ _ hal)) (dp_prs hys'), prP_shaped _, prPs_shaped _, _, rfl, _, _, rfl, rfl, rfl, _, rfl, ?_⟩
      rw [any_grid hvM hwM, boolEq hgv hst0]
      generalize upd Ha q (.tup [nV v, nV w']) = Hq at ec eq1 ⊢
      refine iteF ?_
      have nlq := ec _ _ hnlA
      have ixw : atI ((List.range B.n).map fun v => nV (num B v)) ((w' : Int) + (n1 : Int)) = some (nV (num B (w' + n1))) := num_ls (v := w' + n1) hwB
      have hdn : decide (nV (num B v) = nV (num B (w' + n1))) = true ↔ ¬ Told M M' v w' := by
        rw [decide_eq_true_eq, ← hnum]
        constructor
        · intro h
          injection h with h
          omega
        · intro h
          rw [h]
      refine ⟨_, rfl, _, rfl, nl, _, _, _, rfl, rfl, sq_of nlq, num_ls hvB, _, rfl, _, rfl, _, rfl, _, _, rfl, rfl, nl, _, _, _, rfl, rfl, sq_of nlq, ixw, rfl, _, rfl, _, _, rfl, rfl, rfl, _, rfl, ?_⟩
      rw [boolEq hdn hst0]
      refine iteF ?_
      -- telling
      have hn12 : M.n * M'.n ≤ 3 * 4 := Nat.mul_le_mul (by omega) (by omega)
      refine ⟨_, rfl, _, rfl, _, rfl, _, rfl, m1, m2, M, M', v, w', rfl, hMA.mono ec, hMA'.mono ec, by omega, by omega, by omega, hvM, hwM, fun r hrk hrle => ?_, fun hnt Hb eb2 => ⟨true, N.e, fun _ a0 ha0 => ?_, fun q => (nomatch q)⟩⟩
      · intro u Hb eb2 hφ
        obtain ⟨φ, hφ, tl⟩ := hφ
        have hstr := hstn r hrk
        have htold : Told M M' v w' := ⟨r, hrk.1⟩
        have hht : φ.ht ≤ 122 := by have := tl.ht; omega
        have ed := ec.trans eb2
        have okZ := hZA.ok
        refine ⟨_, rfl, _, rfl, z, Z, φ, u, rfl, hZA.mono ed, hφ, hht, fun u2 Hc ec2 ⟨ls, ⟨la, hu2, hla⟩, _, hls⟩ => ?_⟩
        subst hu2
        have ee := ed.trans ec2
        refine ⟨_, rfl, φ, u, rfl, hφ.mono ec2, hht, fun u3 Hd ed2 hu3 => ?_⟩
        subst hu3
        have hla' := ex_l ed2 hla
        have nld := (ee.trans ed2) _ _ hnlA
        refine ⟨_, rfl, rfl, _, rfl, ?_⟩
        have e1 : (!decide (nV φ.md = V.int st)) = false := by
          rw [tl.md, hstr]
          show (!decide (V.int (r : Int) = V.int (r : Int))) = false
          rw [decide_eq_true rfl]
          rfl
        rw [e1]
        refine iteF ?_
        refine ⟨_, rfl, _, rfl, nl, _, _, _, rfl, rfl, sq_of nld, num_ls hvB, _, rfl, la, _, rfl, Or.inl hla', rfl, flat_nats _, _, rfl, ?_⟩
        have m1' : num B v ∈ ls := (hls _).mpr ⟨hzn v hvB, (hq.sat hB' hvB).mpr ((hsum.satL okM.inn hvM).mpr tl.yes)⟩
        have m2' : num B (w' + n1) ∉ ls := fun h => tl.no (by
          have h2 := (hq.sat hB' hwB).mp ((hls _).mp h).2
          rw [← hMn] at h2
          exact (hsum.satR okM.inn).mp h2)
        rw [if_pos rfl, inV_nats, decide_eq_true m1']
        refine iteF ?_
        refine ⟨_, rfl, _, rfl, _, rfl, _, _, rfl, rfl, nl, _, _, _, rfl, rfl, sq_of nld, ixw, _, rfl, la, _, rfl, Or.inl hla', rfl, flat_nats _, _, rfl, ?_⟩
        rw [if_neg Bool.false_ne_true, inV_nats, decide_eq_false m2']
        refine iteF ⟨_, _, _, _, rfl, ee.trans ed2⟩
      · refine ⟨_, rfl, _, _, rfl, rfl, _, rfl, ?_⟩
        have := of_decide_eq_true (hst0.mpr hnt)
        rw [show decide ((0 : Int) ≤ st) = false from decide_eq_false (by omega)]
        exact iteF ⟨_, _, _, _, rfl, ec.trans eb2⟩
    · refine ⟨_, rfl, p, l, 2, rfl, hP2, by decide, by decide, fun m H3 s3 hP3 hm => ⟨rfl, _, rfl, ite2 (fun _ => ?_) (fun _ => ?_)⟩⟩
      · refine ⟨_, rfl, p, l, 3, rfl, hP3, by decide, by decide, fun H4 u2 n2 raw2 s4 hP4 hR2 hn2 => ?_⟩
        exact hNN _ _ ⟨u2, n2, raw2, rfl, (hR1.sbp hP2 (by omega) s3).sbp hP3 (by omega) s4, hR2, by omega⟩
      · refine ⟨_, rfl, _, rfl, p, l, u1, n1, raw1, rfl, hP3, hR1.sbp hP2 (by omega) s3, hn1, fun H4 u2 raw2 s4 hP4 hR2 => ?_⟩
        exact hNN _ _ ⟨u2, n1 + 1, raw2, rfl, (hR1.sbp hP2 (by omega) s3).sbp hP3 (by omega) s4, hR2, by omega⟩
end
end Q
/-! What the top has written, and all promises joined -/
namespace Q
open PySem PySem.Spec PyProof.Rows L2 Evl Rl Bi
/-- a def of the text stands at its name; a method at its class -/
structure Gf (K : PySem.W.Frag) (mg : Str → Option Value) (x : Str) (st : Stmt) : Prop where
  ex : ∃ (f : Addr) (fd : FuncData), Fun K x x st f fd ∧ mg x = some (.ref f)
structure Mf (K : PySem.W.Frag) (C : Addr) (x qual : Str) (st : Stmt) : Prop where
  ex : ∃ (f : Addr) (fd : FuncData), Fun K x qual st f fd ∧ PySem.W.findIn K (.ref C) x = some (some (.ref f)) ∧ PySem.W.isFn K (.ref f) = true
structure Cf (K : PySem.W.Frag) (mg : Str → Option Value) (C : Addr) (x : Str) : Prop where
  cls : Cls K C
  made : PySem.W.makesIn K C = true
  kp : PySem.W.keepIn K (.ref C) = true
  at_ : mg x = some (.ref C)
section
variable {K : PySem.W.Frag} {h : Heap} {mg : Str → Option Value} {C f : Addr} {x qual : Str} {st : Stmt} {od an : Option Addr} {sl : Array (Option Value)} {oc kV dc pm cd ct : Value}
theorem mk_gf (X : K.In h) (G : h.Ns mainGlobals mg) (a : PySem.W.nsIn K mainGlobals x = some (some (.ref f))) (l : K.lookup f = some ⟨oc, od, .func (PySem.W.fnOf x x (defArgs st) (defBody st) (defScope st) .none kV dc pm an cd ct), sl⟩)
    (c : PySem.W.codeIn K cd x = true) (k : PySem.W.keepIn K (.ref f) = true) : Gf K mg x st := ⟨⟨f, _, fun_mk l c k, PySem.W.mg_of X G a⟩⟩
theorem mk_mf (a : PySem.W.findIn K (.ref C) x = some (some (.ref f))) (i : PySem.W.isFn K (.ref f) = true) (l : K.lookup f = some ⟨oc, od, .func (PySem.W.fnOf x qual (defArgs st) (defBody st) (defScope st) .none kV dc pm an cd ct), sl⟩)
    (c : PySem.W.codeIn K cd qual = true) (k : PySem.W.keepIn K (.ref f) = true) : Mf K C x qual st := ⟨⟨f, _, fun_mk l c k, a, i⟩⟩
theorem mk_cf (X : K.In h) (G : h.Ns mainGlobals mg) (a : PySem.W.nsIn K mainGlobals x = some (some (.ref C))) (pg : PySem.W.plainGet K C Str.empty = true) (hd : PySem.W.hasDictIn K C = true) (po : PySem.W.plainOver K C = true) (sa : PySem.W.findIn K (.ref C) "__setattr__" = some (some (.builtin "object.__setattr__")))
    (mk : PySem.W.makesIn K C = true) (kc : PySem.W.keepIn K (.ref C) = true) : Cf K mg C x := ⟨⟨pg, hd, po, sa⟩, mk, kc, PySem.W.mg_of X G a⟩
theorem mk_falsum {a : Addr} {od : Option Addr} {sl : Array (Option Value)} {t n : Nat} (X : K.In h) (G : h.Ns mainGlobals mg) (g : PySem.W.nsIn K mainGlobals "FALSUM" = some (some (.ref a))) (l : K.lookup a = some ⟨.type "tuple", od, .seq #[.str "falsum" t] n, sl⟩) :
    ∃ aF : Addr, mg "FALSUM" = some (.ref aF) ∧ ∀ H, SqT K H aF [.str "falsum"] :=
  ⟨a, PySem.W.mg_of X G g, fun _ => Or.inr ⟨_, _, _, l, rfl, rfl, by show 1 ≤ sizeLine; decide, .cons ⟨t, rfl⟩ .nil⟩⟩
theorem exm_self {S : Addr} (h1 : PySem.W.subIn K (.ref S) (.type "BaseException") = some true) (h2 : PySem.W.isClsIn K S = true) (h3 : PySem.W.typeIn K (.ref S) = some (.type "type")) (h4 : PySem.W.subIn K (.ref S) (.ref S) = some true) : PySem.W.exmOne K (.ref S) (.ref S) = some true := by
  have e1 : (PySem.W.subIn K (.ref S) (.type "BaseException") == some true) = true := by rw [h1] <;> rfl
  have e2 : ((PySem.W.clsIn K S).isSome && PySem.W.typeIn K (.ref S) == some (.type "type")) = true := by
    have h2' : (PySem.W.clsIn K S).isSome = true := h2
    rw [h2', h3] <;> rfl
  show (if (PySem.W.subIn K (.ref S) (.type "BaseException") == some true) = true then (if ((PySem.W.clsIn K S).isSome && PySem.W.typeIn K (.ref S) == some (.type "type")) = true then PySem.W.subIn K (.ref S) (.ref S) else none) else none) = some true
  rw [if_pos e1, if_pos e2]
  exact h4
theorem mk_nt {CN : Addr} (X : K.In h) (G : h.Ns mainGlobals mg) (g : PySem.W.nsIn K mainGlobals "NotTold" = some (some (.ref CN))) (x : PySem.W.excIn K CN [.type "ValueError", .type "Exception", .type "BaseException", .type "object"] "ValueError.__new__" = true) (k : PySem.W.keepIn K (.ref CN) = true)
    (b : PySem.W.subIn K (.ref CN) (.type "BaseException") = some true) (t : PySem.W.typeIn K (.ref CN) = some (.type "type")) (i : PySem.W.isClsIn K CN = true) (s : PySem.W.subIn K (.ref CN) (.ref CN) = some true) : ∃ CN : Addr, Nt K mg CN := ⟨CN, PySem.W.mg_of X G g, x, k, b, t, exm_self b i t s⟩
end
structure CM_ (K : PySem.W.Frag) (mg : Str → Option Value) (C : Addr) : Prop where
  c : Cf K mg C "Model"
  n_frame : NoAttr K C "_frame"
  n_seen : NoAttr K C "_seen"
  n_values : NoAttr K C "_values"
  f_minit : Mf K C "__init__" "Model.__init__" s_minit
  f_frame : Mf K C "frame" "Model.frame" s_frame
  f_true_worlds : Mf K C "true_worlds" "Model.true_worlds" s_true_worlds
  f_seen : Mf K C "seen" "Model.seen" s_seen
structure CR_ (K : PySem.W.Frag) (mg : Str → Option Value) (C : Addr) : Prop where
  c : Cf K mg C "Rounds"
  n_first : NoAttr K C "first"
  n_second : NoAttr K C "second"
  n_found : NoAttr K C "found"
  f_left_witness : Mf K C "left_witness" "Rounds.left_witness" s_left_witness
  f_right_witness : Mf K C "right_witness" "Rounds.right_witness" s_right_witness
  f_is_told : Mf K C "is_told" "Rounds.is_told" s_is_told
  f_rinit : Mf K C "__init__" "Rounds.__init__" s_rinit
  f_early : Mf K C "early" "Rounds.early" s_early
  f_formula : Mf K C "formula" "Rounds.formula" s_formula
structure Bn (K : PySem.W.Frag) (mg : Str → Option Value) : Prop where
  n_len : mg "len" = none
  n_reversed : mg "reversed" = none
  n_int : mg "int" = none
  n_max : mg "max" = none
  n_min : mg "min" = none
  n_isinstance : mg "isinstance" = none
  n_bool : mg "bool" = none
  n_list : mg "list" = none
  n_sorted : mg "sorted" = none
  n_set : mg "set" = none
  n_tuple : mg "tuple" = none
  n_range : mg "range" = none
structure Gs (K : PySem.W.Frag) (mg : Str → Option Value) : Prop where
  g_neg : Gf K mg "neg" s_neg
  g_verum : Gf K mg "verum" s_verum
  g_dia : Gf K mg "dia" s_dia
  g_joined_by : Gf K mg "joined_by" s_joined_by
  g_conjunction : Gf K mg "conjunction" s_conjunction
  g_parts : Gf K mg "parts" s_parts
  g_modal_depth : Gf K mg "modal_depth" s_modal_depth
  g_is_world : Gf K mg "is_world" s_is_world
  g_is_frame : Gf K mg "is_frame" s_is_frame
  g_worlds_of : Gf K mg "worlds_of" s_worlds_of
  g_evaluated : Gf K mg "evaluated" s_evaluated
  g_truth : Gf K mg "truth" s_truth
  g_disjoint : Gf K mg "disjoint" s_disjoint
  g_names_at : Gf K mg "names_at" s_names_at
  g_greatest : Gf K mg "greatest_bisimulation" s_greatest
  g_class_of : Gf K mg "class_of" s_class_of
  g_smallest : Gf K mg "smallest" s_smallest
  g_round_of : Gf K mg "round_of" s_round_of
  g_telling : Gf K mg "telling" s_telling
  g_pool : Gf K mg "_law_pool" s_pool
  g_spread : Gf K mg "_law_spread" s_spread
  g_draw : Gf K mg "_law_draw" s_draw
  g_closed : Gf K mg "_law_closed" s_closed
  g_model : Gf K mg "_law_model" s_model
  g_list : Gf K mg "_law_list" s_list
  g_drawn_model : Gf K mg "_law_drawn_model" s_drawn_model
  g_wide_model : Gf K mg "_law_wide_model" s_wide_model
  g_grid : Gf K mg "_law_grid" s_grid
  g_framed : Gf K mg "_law_framed" s_framed
  g_program_model : Gf K mg "_law_program_model" s_program_model
  g_names : Gf K mg "_law_names" s_names
  g_any_model : Gf K mg "_law_any_model" s_any_model
  g_twisted : Gf K mg "_law_twisted" s_twisted
theorem all_mk {l : PySem.W.OpenLaw} {w : World} {K : PySem.W.Frag} {h : Heap} {mg : Str → Option Value} {fa : Addr} (X : K.In h) (G : h.Ns mainGlobals mg) (hfa : mg "law" = some (.ref fa)) (hB : Bn K mg) (hF : ∃ aF : Addr, mg "FALSUM" = some (.ref aF) ∧ ∀ H, SqT K H aF [.str "falsum"]) (hN : ∃ CN : Addr, Nt K mg CN)
    (hM : ∃ C : Addr, CM_ K mg C) (hR : ∃ C : Addr, CR_ K mg C) (gs : Gs K mg) {f : Addr} {od an : Option Addr} {sl : Array (Option Value)} {oc kV dc pm cd ct : Value} (a : PySem.W.nsIn K mainGlobals "law" = some (some (.ref f)))
    (lk : K.lookup f = some ⟨oc, od, .func (PySem.W.fnOf "law" "law" (defArgs s_law) (defBody s_law) (defScope s_law) .none kV dc pm an cd ct), sl⟩) (c : PySem.W.codeIn K cd "law" = true) (k : PySem.W.keepIn K (.ref f) = true) :
    ∃ fd : FuncData, (∀ (s : Shared) (v : Value), BindsTo s fd ⟨[v], []⟩ [("_law_script", v)]) ∧ ∀ base : Heap, K.In base → base.Ns mainGlobals mg → FnOk l.prog w K mg base CX0 126 fa fd ["_law_script"] (spLaw K) := by
  have e := hfa.symm.trans (PySem.W.mg_of X G a)
  cases e
  have F_law := fun_mk (st := s_law) lk c k
  obtain ⟨aF, gF, fF⟩ := hF
  obtain ⟨CN, hN⟩ := hN
  obtain ⟨CM, hM⟩ := hM
  obtain ⟨CR, hR⟩ := hR
  refine ⟨PySem.W.fnOf "law" "law" (defArgs s_law) (defBody s_law) (defScope s_law) .none kV dc pm an cd ct, fun s v => .of_eq rfl, fun base _ _ => ?_⟩
  have T : Tx K mg CM CR aF := ⟨hM.c.cls, hR.c.cls, hM.n_frame, hM.n_seen, hM.n_values, hR.n_first, hR.n_second, hR.n_found, gF, fF, hB.n_len, hB.n_reversed, hB.n_int, hB.n_max, hB.n_min, hB.n_isinstance, hB.n_bool, hB.n_list, hB.n_sorted, hB.n_set, hB.n_tuple, hB.n_range⟩
  obtain ⟨f_neg, fd_neg, F_neg, m_neg⟩ := gs.g_neg.ex
  have b_neg := F_neg.binds (ps := ["a"]) fun _ _ _ _ _ _ us hl => match us, hl with | [_], _ => rfl
  have c_neg : Cal l.prog w K mg base CX0 1 "neg" ["a"] (spNeg K) := ⟨_, _, (ok_neg F_neg T), m_neg, F_neg.kp, b_neg⟩
  obtain ⟨f_verum, fd_verum, F_verum, m_verum⟩ := gs.g_verum.ex
  have b_verum := F_verum.binds (ps := []) fun _ _ _ _ _ _ us hl => match us, hl with | [], _ => rfl
  have c_verum : Cal l.prog w K mg base CX0 2 "verum" [] (spVerum K) := ⟨_, _, (ok_verum F_verum T c_neg), m_verum, F_verum.kp, b_verum⟩
  obtain ⟨f_dia, fd_dia, F_dia, m_dia⟩ := gs.g_dia.ex
  have b_dia := F_dia.binds (ps := ["a"]) fun _ _ _ _ _ _ us hl => match us, hl with | [_], _ => rfl
  have c_dia : Cal l.prog w K mg base CX0 2 "dia" ["a"] (spDia K) := ⟨_, _, (ok_dia F_dia T c_neg), m_dia, F_dia.kp, b_dia⟩
  obtain ⟨f_joined_by, fd_joined_by, F_joined_by, m_joined_by⟩ := gs.g_joined_by.ex
  have b_joined_by := F_joined_by.binds (ps := ["tag", "formulas", "empty"]) fun _ _ _ _ _ _ us hl => match us, hl with | [_, _, _], _ => rfl
  have c_joined_by : Cal l.prog w K mg base CX0 1 "joined_by" ["tag", "formulas", "empty"] (spJoin K) := ⟨_, _, (ok_joined_by F_joined_by T), m_joined_by, F_joined_by.kp, b_joined_by⟩
  obtain ⟨f_conjunction, fd_conjunction, F_conjunction, m_conjunction⟩ := gs.g_conjunction.ex
  have b_conjunction := F_conjunction.binds (ps := ["formulas"]) fun _ _ _ _ _ _ us hl => match us, hl with | [_], _ => rfl
  have c_conjunction : Cal l.prog w K mg base CX0 3 "conjunction" ["formulas"] (spConj K) := ⟨_, _, (ok_conjunction F_conjunction c_verum c_joined_by), m_conjunction, F_conjunction.kp, b_conjunction⟩
  obtain ⟨f_parts, fd_parts, F_parts, m_parts⟩ := gs.g_parts.ex
  have b_parts := F_parts.binds (ps := ["a"]) fun _ _ _ _ _ _ us hl => match us, hl with | [_], _ => rfl
  have c_parts : Cal l.prog w K mg base CX0 1 "parts" ["a"] (spParts K) := ⟨_, _, (ok_parts F_parts ), m_parts, F_parts.kp, b_parts⟩
  obtain ⟨f_modal_depth, fd_modal_depth, F_modal_depth, m_modal_depth⟩ := gs.g_modal_depth.ex
  have b_modal_depth := F_modal_depth.binds (ps := ["a"]) fun _ _ _ _ _ _ us hl => match us, hl with | [_], _ => rfl
  have c_md : ∀ h : Nat, Cal l.prog w K mg base CX0 (h + 1) "modal_depth" ["a"] (spMd K h) := fun h => by
    induction h with
    | zero => exact ⟨_, _, ok_modal_depth0 F_modal_depth, m_modal_depth, F_modal_depth.kp, b_modal_depth⟩
    | succ h ih => exact ⟨_, _, ok_modal_depth F_modal_depth T c_parts h ih, m_modal_depth, F_modal_depth.kp, b_modal_depth⟩
  obtain ⟨f_is_world, fd_is_world, F_is_world, m_is_world⟩ := gs.g_is_world.ex
  have b_is_world := F_is_world.binds (ps := ["value", "worlds"]) fun _ _ _ _ _ _ us hl => match us, hl with | [_, _], _ => rfl
  have c_is_world : Cal l.prog w K mg base CX0 1 "is_world" ["value", "worlds"] (spIsWorld) := ⟨_, _, (ok_is_world F_is_world T), m_is_world, F_is_world.kp, b_is_world⟩
  obtain ⟨f_is_frame, fd_is_frame, F_is_frame, m_is_frame⟩ := gs.g_is_frame.ex
  have b_is_frame := F_is_frame.binds (ps := ["frame"]) fun _ _ _ _ _ _ us hl => match us, hl with | [_], _ => rfl
  have c_is_frame : Cal l.prog w K mg base CX0 2 "is_frame" ["frame"] (spIsFrame K) := ⟨_, _, (ok_is_frame F_is_frame T c_is_world), m_is_frame, F_is_frame.kp, b_is_frame⟩
  obtain ⟨f_minit, fd_minit, F_minit, a_minit, i_minit⟩ := hM.f_minit.ex
  have b_minit := F_minit.binds (ps := ["self", "frame", "values"]) fun _ _ _ _ _ _ us hl => match us, hl with | [_, _, _], _ => rfl
  have c_minit : Mak l.prog w K mg base CM 3 "Model" ["self", "frame", "values"] (spMinit K CM) := ⟨_, _, ok_minit F_minit T c_is_frame c_is_world, ⟨hM.c.made, a_minit, i_minit, hM.c.kp⟩, b_minit, hM.c.at_⟩
  obtain ⟨f_frame, fd_frame, F_frame, a_frame, i_frame⟩ := hM.f_frame.ex
  have b_frame := F_frame.binds (ps := ["self"]) fun _ _ _ _ _ _ us hl => match us, hl with | [_], _ => rfl
  have c_frame : Mth l.prog w K mg base CM 1 "frame" ["self"] (spFrame K CM) := ⟨_, _, ok_frame F_frame T, ⟨a_frame, i_frame, F_frame.kp⟩, b_frame⟩
  obtain ⟨f_true_worlds, fd_true_worlds, F_true_worlds, a_true_worlds, i_true_worlds⟩ := hM.f_true_worlds.ex
  have b_true_worlds := F_true_worlds.binds (ps := ["self"]) fun _ _ _ _ _ _ us hl => match us, hl with | [_], _ => rfl
  have c_true_worlds : Mth l.prog w K mg base CM 1 "true_worlds" ["self"] (spTw K CM) := ⟨_, _, ok_true_worlds F_true_worlds T, ⟨a_true_worlds, i_true_worlds, F_true_worlds.kp⟩, b_true_worlds⟩
  obtain ⟨f_seen, fd_seen, F_seen, a_seen, i_seen⟩ := hM.f_seen.ex
  have b_seen := F_seen.binds (ps := ["self", "v"]) fun _ _ _ _ _ _ us hl => match us, hl with | [_, _], _ => rfl
  have c_seen : Mth l.prog w K mg base CM 1 "seen" ["self", "v"] (spSeen K CM) := ⟨_, _, ok_seen F_seen T, ⟨a_seen, i_seen, F_seen.kp⟩, b_seen⟩
  obtain ⟨f_worlds_of, fd_worlds_of, F_worlds_of, m_worlds_of⟩ := gs.g_worlds_of.ex
  have b_worlds_of := F_worlds_of.binds (ps := ["model"]) fun _ _ _ _ _ _ us hl => match us, hl with | [_], _ => rfl
  have c_worlds_of : Cal l.prog w K mg base CX0 2 "worlds_of" ["model"] (spWorldsOf K CM) := ⟨_, _, (ok_worlds_of F_worlds_of T c_frame), m_worlds_of, F_worlds_of.kp, b_worlds_of⟩
  obtain ⟨f_evaluated, fd_evaluated, F_evaluated, m_evaluated⟩ := gs.g_evaluated.ex
  have b_evaluated := F_evaluated.binds (ps := ["model", "a", "forced"]) fun _ _ _ _ _ _ us hl => match us, hl with | [_, _, _], _ => rfl
  have c_evaluated : ∀ h : Nat, Cal l.prog w K mg base CX0 (h + 2) "evaluated" ["model", "a", "forced"] (spEval K CM h) := fun h => by
    induction h with
    | zero => exact ⟨_, _, ok_evaluated0 F_evaluated, m_evaluated, F_evaluated.kp, b_evaluated⟩
    | succ h ih => exact ⟨_, _, ok_evaluated F_evaluated T h c_true_worlds c_seen c_worlds_of ih, m_evaluated, F_evaluated.kp, b_evaluated⟩
  obtain ⟨f_truth, fd_truth, F_truth, m_truth⟩ := gs.g_truth.ex
  have b_truth := F_truth.binds (ps := ["model", "a"]) fun _ _ _ _ _ _ us hl => match us, hl with | [_, _], _ => rfl
  have c_truth : Cal l.prog w K mg base CX0 125 "truth" ["model", "a"] (spTruth K CM 122) := ⟨_, _, (ok_truth F_truth 122 (c_evaluated 122)), m_truth, F_truth.kp, b_truth⟩
  obtain ⟨f_disjoint, fd_disjoint, F_disjoint, m_disjoint⟩ := gs.g_disjoint.ex
  have b_disjoint := F_disjoint.binds (ps := ["first", "second"]) fun _ _ _ _ _ _ us hl => match us, hl with | [_, _], _ => rfl
  have c_disjoint : Cal l.prog w K mg base CX0 5 "disjoint" ["first", "second"] (spDisj K CM) := ⟨_, _, (ok_disjoint F_disjoint T c_frame c_true_worlds c_minit), m_disjoint, F_disjoint.kp, b_disjoint⟩
  obtain ⟨f_names_at, fd_names_at, F_names_at, m_names_at⟩ := gs.g_names_at.ex
  have b_names_at := F_names_at.binds (ps := ["model", "v"]) fun _ _ _ _ _ _ us hl => match us, hl with | [_, _], _ => rfl
  have c_names_at : Cal l.prog w K mg base CX0 2 "names_at" ["model", "v"] (spNames K CM) := ⟨_, _, (ok_names_at F_names_at T c_true_worlds), m_names_at, F_names_at.kp, b_names_at⟩
  obtain ⟨f_left_witness, fd_left_witness, F_left_witness, a_left_witness, i_left_witness⟩ := hR.f_left_witness.ex
  have b_left_witness := F_left_witness.binds (ps := ["self", "pair"]) fun _ _ _ _ _ _ us hl => match us, hl with | [_, _], _ => rfl
  have c_left_witness : Mth l.prog w K mg base CR 2 "left_witness" ["self", "pair"] (spWit K CM CR WitL) := ⟨_, _, ok_left_witness F_left_witness T c_seen, ⟨a_left_witness, i_left_witness, F_left_witness.kp⟩, b_left_witness⟩
  obtain ⟨f_right_witness, fd_right_witness, F_right_witness, a_right_witness, i_right_witness⟩ := hR.f_right_witness.ex
  have b_right_witness := F_right_witness.binds (ps := ["self", "pair"]) fun _ _ _ _ _ _ us hl => match us, hl with | [_, _], _ => rfl
  have c_right_witness : Mth l.prog w K mg base CR 2 "right_witness" ["self", "pair"] (spWit K CM CR WitR) := ⟨_, _, ok_right_witness F_right_witness T c_seen, ⟨a_right_witness, i_right_witness, F_right_witness.kp⟩, b_right_witness⟩
  obtain ⟨f_is_told, fd_is_told, F_is_told, a_is_told, i_is_told⟩ := hR.f_is_told.ex
  have b_is_told := F_is_told.binds (ps := ["self", "pair"]) fun _ _ _ _ _ _ us hl => match us, hl with | [_, _], _ => rfl
  have c_is_told : Mth l.prog w K mg base CR 3 "is_told" ["self", "pair"] (spTold K CM CR) := ⟨_, _, ok_is_told F_is_told T c_left_witness c_right_witness, ⟨a_is_told, i_is_told, F_is_told.kp⟩, b_is_told⟩
  obtain ⟨f_rinit, fd_rinit, F_rinit, a_rinit, i_rinit⟩ := hR.f_rinit.ex
  have b_rinit := F_rinit.binds (ps := ["self", "first", "second"]) fun _ _ _ _ _ _ us hl => match us, hl with | [_, _, _], _ => rfl
  have c_rinit : Mak l.prog w K mg base CR 4 "Rounds" ["self", "first", "second"] (spRinit K CM CR) := ⟨_, _, ok_rinit F_rinit T c_frame c_names_at c_is_told, ⟨hR.c.made, a_rinit, i_rinit, hR.c.kp⟩, b_rinit, hR.c.at_⟩
  obtain ⟨f_early, fd_early, F_early, a_early, i_early⟩ := hR.f_early.ex
  have b_early := F_early.binds (ps := ["self", "limit"]) fun _ _ _ _ _ _ us hl => match us, hl with | [_, _], _ => rfl
  have c_early : Mth l.prog w K mg base CR 6 "early" ["self", "limit"] (spEarly K CM CR) := ⟨_, _, ok_early F_early T c_minit c_rinit, ⟨a_early, i_early, F_early.kp⟩, b_early⟩
  obtain ⟨f_formula, fd_formula, F_formula, a_formula, i_formula⟩ := hR.f_formula.ex
  have b_formula := F_formula.binds (ps := ["self", "pair"]) fun _ _ _ _ _ _ us hl => match us, hl with | [_, _], _ => rfl
  have c_formula : ∀ h : Nat, Mth l.prog w K mg base CR (h + 7) "formula" ["self", "pair"] (spForm K CM CR h) := fun h => by
    induction h with
    | zero => exact ⟨_, _, ok_formula0 F_formula, ⟨a_formula, i_formula, F_formula.kp⟩, b_formula⟩
    | succ h ih => exact ⟨_, _, ok_formula F_formula T h c_neg c_dia c_conjunction c_seen c_names_at c_left_witness c_right_witness c_early ih, ⟨a_formula, i_formula, F_formula.kp⟩, b_formula⟩
  obtain ⟨f_greatest, fd_greatest, F_greatest, m_greatest⟩ := gs.g_greatest.ex
  have b_greatest := F_greatest.binds (ps := ["first", "second"]) fun _ _ _ _ _ _ us hl => match us, hl with | [_, _], _ => rfl
  have c_greatest : Cal l.prog w K mg base CX0 6 "greatest_bisimulation" ["first", "second"] (spGreatest K CM) := ⟨_, _, (ok_greatest F_greatest T c_frame c_rinit), m_greatest, F_greatest.kp, b_greatest⟩
  obtain ⟨f_class_of, fd_class_of, F_class_of, m_class_of⟩ := gs.g_class_of.ex
  have b_class_of := F_class_of.binds (ps := ["model"]) fun _ _ _ _ _ _ us hl => match us, hl with | [_], _ => rfl
  have c_class_of : Cal l.prog w K mg base CX0 7 "class_of" ["model"] (spClass K CM) := ⟨_, _, (ok_class_of F_class_of T c_frame c_greatest), m_class_of, F_class_of.kp, b_class_of⟩
  obtain ⟨f_smallest, fd_smallest, F_smallest, m_smallest⟩ := gs.g_smallest.ex
  have b_smallest := F_smallest.binds (ps := ["model"]) fun _ _ _ _ _ _ us hl => match us, hl with | [_], _ => rfl
  have c_smallest : Cal l.prog w K mg base CX0 8 "smallest" ["model"] (spSmallest K CM) := ⟨_, _, (ok_smallest F_smallest T c_frame c_true_worlds c_class_of c_minit), m_smallest, F_smallest.kp, b_smallest⟩
  obtain ⟨f_round_of, fd_round_of, F_round_of, m_round_of⟩ := gs.g_round_of.ex
  have b_round_of := F_round_of.binds (ps := ["first", "v", "second", "w"]) fun _ _ _ _ _ _ us hl => match us, hl with | [_, _, _, _], _ => rfl
  have c_round_of : Cal l.prog w K mg base CX0 6 "round_of" ["first", "v", "second", "w"] (spRound K CM) := ⟨_, _, (ok_round_of F_round_of T c_rinit), m_round_of, F_round_of.kp, b_round_of⟩
  obtain ⟨f_telling, fd_telling, F_telling, m_telling⟩ := gs.g_telling.ex
  have b_telling := F_telling.binds (ps := ["first", "v", "second", "w"]) fun _ _ _ _ _ _ us hl => match us, hl with | [_, _, _, _], _ => rfl
  have c_telling : Cal l.prog w K mg base (L2.CX l.prog w) 21 "telling" ["first", "v", "second", "w"] (spTelling K CM CN 13) := ⟨_, _, (ok_telling F_telling T hN 13 c_rinit (c_formula 13)), m_telling, F_telling.kp, b_telling⟩
  obtain ⟨f_pool, fd_pool, F_pool, m_pool⟩ := gs.g_pool.ex
  have b_pool := F_pool.binds (ps := ["_law_script"]) fun _ _ _ _ _ _ us hl => match us, hl with | [_], _ => rfl
  have c_pool : Cal l.prog w K mg base CX0 1 "_law_pool" ["_law_script"] (spPool K) := ⟨_, _, (ok_pool F_pool T), m_pool, F_pool.kp, b_pool⟩
  obtain ⟨f_spread, fd_spread, F_spread, m_spread⟩ := gs.g_spread.ex
  have b_spread := F_spread.binds (ps := ["_law_cell"]) fun _ _ _ _ _ _ us hl => match us, hl with | [_], _ => rfl
  have c_spread : Cal l.prog w K mg base CX0 1 "_law_spread" ["_law_cell"] (spSpread) := ⟨_, _, (ok_spread F_spread T), m_spread, F_spread.kp, b_spread⟩
  obtain ⟨f_draw, fd_draw, F_draw, m_draw⟩ := gs.g_draw.ex
  have b_draw := F_draw.binds (ps := ["_law_pool_here", "_law_many"]) fun _ _ _ _ _ _ us hl => match us, hl with | [_, _], _ => rfl
  have c_draw : Cal l.prog w K mg base CX0 2 "_law_draw" ["_law_pool_here", "_law_many"] (spDraw) := ⟨_, _, (ok_draw F_draw T c_spread), m_draw, F_draw.kp, b_draw⟩
  obtain ⟨f_closed, fd_closed, F_closed, m_closed⟩ := gs.g_closed.ex
  have b_closed := F_closed.binds (ps := ["_law_seen", "_law_logic"]) fun _ _ _ _ _ _ us hl => match us, hl with | [_, _], _ => rfl
  have c_closed : Cal l.prog w K mg base CX0 1 "_law_closed" ["_law_seen", "_law_logic"] (spClosed) := ⟨_, _, (ok_closed F_closed T), m_closed, F_closed.kp, b_closed⟩
  obtain ⟨f_model, fd_model, F_model, m_model⟩ := gs.g_model.ex
  have b_model := F_model.binds (ps := ["_law_numbers", "_law_logic", "_law_most"]) fun _ _ _ _ _ _ us hl => match us, hl with | [_, _, _], _ => rfl
  have c_model : Cal l.prog w K mg base CX0 2 "_law_model" ["_law_numbers", "_law_logic", "_law_most"] (spModel K) := ⟨_, _, (ok_model F_model T c_closed), m_model, F_model.kp, b_model⟩
  obtain ⟨f_list, fd_list, F_list, m_list⟩ := gs.g_list.ex
  have b_list := F_list.binds (ps := ["_law_pool_here", "_law_many"]) fun _ _ _ _ _ _ us hl => match us, hl with | [_, _], _ => rfl
  have c_list : Cal l.prog w K mg base CX0 3 "_law_list" ["_law_pool_here", "_law_many"] (spList) := ⟨_, _, (ok_list F_list T c_draw), m_list, F_list.kp, b_list⟩
  obtain ⟨f_drawn_model, fd_drawn_model, F_drawn_model, m_drawn_model⟩ := gs.g_drawn_model.ex
  have b_drawn_model := F_drawn_model.binds (ps := ["_law_pool_here", "_law_logic", "_law_most"]) fun _ _ _ _ _ _ us hl => match us, hl with | [_, _, _], _ => rfl
  have c_drawn_model : Cal l.prog w K mg base CX0 4 "_law_drawn_model" ["_law_pool_here", "_law_logic", "_law_most"] (spDrawn) := ⟨_, _, (ok_drawn_model F_drawn_model c_list c_model), m_drawn_model, F_drawn_model.kp, b_drawn_model⟩
  obtain ⟨f_wide_model, fd_wide_model, F_wide_model, m_wide_model⟩ := gs.g_wide_model.ex
  have b_wide_model := F_wide_model.binds (ps := ["_law_pool_here", "_law_most"]) fun _ _ _ _ _ _ us hl => match us, hl with | [_, _], _ => rfl
  have c_wide_model : Cal l.prog w K mg base CX0 3 "_law_wide_model" ["_law_pool_here", "_law_most"] (spWide) := ⟨_, _, (ok_wide_model F_wide_model T c_draw), m_wide_model, F_wide_model.kp, b_wide_model⟩
  obtain ⟨f_grid, fd_grid, F_grid, m_grid⟩ := gs.g_grid.ex
  have b_grid := F_grid.binds (ps := ["_law_first", "_law_second"]) fun _ _ _ _ _ _ us hl => match us, hl with | [_, _], _ => rfl
  have c_grid : Cal l.prog w K mg base CX0 1 "_law_grid" ["_law_first", "_law_second"] (spGrid) := ⟨_, _, (ok_grid F_grid T), m_grid, F_grid.kp, b_grid⟩
  obtain ⟨f_framed, fd_framed, F_framed, m_framed⟩ := gs.g_framed.ex
  have b_framed := F_framed.binds (ps := ["_law_seen"]) fun _ _ _ _ _ _ us hl => match us, hl with | [_], _ => rfl
  have c_framed : Cal l.prog w K mg base CX0 2 "_law_framed" ["_law_seen"] (spFramed K) := ⟨_, _, (ok_framed F_framed T c_grid), m_framed, F_framed.kp, b_framed⟩
  obtain ⟨f_program_model, fd_program_model, F_program_model, m_program_model⟩ := gs.g_program_model.ex
  have b_program_model := F_program_model.binds (ps := ["_law_model_here"]) fun _ _ _ _ _ _ us hl => match us, hl with | [_], _ => rfl
  have c_program_model : Cal l.prog w K mg base CX0 3 "_law_program_model" ["_law_model_here"] (spPm K) := ⟨_, _, (ok_program_model F_program_model T c_framed), m_program_model, F_program_model.kp, b_program_model⟩
  obtain ⟨f_names, fd_names, F_names, m_names⟩ := gs.g_names.ex
  have b_names := F_names.binds (ps := []) fun _ _ _ _ _ _ us hl => match us, hl with | [], _ => rfl
  have c_names : Cal l.prog w K mg base CX0 1 "_law_names" [] (spLnames) := ⟨_, _, (ok_names F_names ), m_names, F_names.kp, b_names⟩
  obtain ⟨f_any_model, fd_any_model, F_any_model, m_any_model⟩ := gs.g_any_model.ex
  have b_any_model := F_any_model.binds (ps := ["_law_pool_here", "_law_most"]) fun _ _ _ _ _ _ us hl => match us, hl with | [_, _], _ => rfl
  have c_any_model : Cal l.prog w K mg base CX0 5 "_law_any_model" ["_law_pool_here", "_law_most"] (spWide) := ⟨_, _, (ok_any_model F_any_model c_draw c_names c_wide_model c_drawn_model), m_any_model, F_any_model.kp, b_any_model⟩
  obtain ⟨f_twisted, fd_twisted, F_twisted, m_twisted⟩ := gs.g_twisted.ex
  have b_twisted := F_twisted.binds (ps := ["_law_pool_here", "_law_model_here"]) fun _ _ _ _ _ _ us hl => match us, hl with | [_, _], _ => rfl
  have c_twisted : Cal l.prog w K mg base CX0 3 "_law_twisted" ["_law_pool_here", "_law_model_here"] (spTwisted) := ⟨_, _, (ok_twisted F_twisted T c_draw), m_twisted, F_twisted.kp, b_twisted⟩
  exact ok_law F_law T hN c_pool c_any_model c_draw c_twisted c_program_model c_minit c_disjoint c_class_of c_smallest c_greatest c_round_of c_telling c_truth (c_md 122)
theorem walk {l : PySem.W.OpenLaw} {q : Program} {loose : List Str} {XP : (Str → Option Value) → Heap → Prop} {YP : World → Heap → Prop} {d : DefRec} {K : Params → PySem.W.Frag} (hn : l.most = some 63) (hdf : d.params.defaults = [])
    (hY : ∀ (w : World) (h : Heap), YP w h → (K w.params).In h)
    (F : ∀ (w : World) (mg : Str → Option Value) (fa : Addr) (h : Heap), (K w.params).In h → h.Ns mainGlobals mg → mg d.name = some (.ref fa) →
      ∃ fd : FuncData, (∀ (s : Shared) (u : Value), BindsTo s fd ⟨[u], []⟩ [("_law_script", u)]) ∧ ∀ base : Heap, (K w.params).In base → base.Ns mainGlobals mg → FnOk l.prog w (K w.params) mg base CX0 126 fa fd ["_law_script"] (spLaw (K w.params))) :
    PySem.W.WalkO q loose XP YP l.row.toRowW d [] (fun f vs => PySem.call f vs) :=
  L2.walk_of (n := 63) (k := 126) (x := "_law_script") (CX := fun _ => CX0) (sp := fun w => spLaw (K w.params)) hn (by decide) hdf ⟨rfl, by decide, by decide⟩ hY F (fun _ _ a ns hl _ hS => ⟨a, ns, rfl, hS, fun _ => rfl⟩) fun _ _ _ _ _ z => z
end Q
open PySem PySem.W PyProof.Rows
set_option maxRecDepth 100000 in
set_option maxHeartbeats 0 in
theorem PySem.Challenge.cw_elsewhere_k27_whole_bisimulations_holds : PySem.Challenge.rw_elsewhere_k27_whole_bisimulations.Holds := by
  w_on; o_law; k_head; (case hw => w_witness2)
  k_fill
  refine Q.walk (l := PySem.Challenge.rw_elsewhere_k27_whole_bisimulations) rfl rfl (fun w h Y => PySem.W.kIn_of Y) ?F
  case F =>
    intro w mg fa h KX G hmg
    refine' Q.all_mk KX G hmg ?zB ?zF ?zN ?zM ?zR ?zG ?a ?l ?c ?k
    (case a => k_is); (case l => k_is); (case c => k_is); (case k => k_is)
    case zB => exact ⟨mg_none_of KX G (by k_is), mg_none_of KX G (by k_is), mg_none_of KX G (by k_is), mg_none_of KX G (by k_is), mg_none_of KX G (by k_is), mg_none_of KX G (by k_is), mg_none_of KX G (by k_is), mg_none_of KX G (by k_is), mg_none_of KX G (by k_is), mg_none_of KX G (by k_is), mg_none_of KX G (by k_is), mg_none_of KX G (by k_is)⟩
    case zF =>
      refine' Q.mk_falsum KX G ?g ?l
      (case g => k_is); (case l => k_is)
    case zN =>
      refine' Q.mk_nt KX G ?g ?x ?k ?b ?t ?i ?s
      (case g => k_is); (case x => k_exc); (case k => k_is); (case b => k_is); (case t => k_is); (case i => k_is); (case s => first | rfl | k_is)
    case zM =>
      refine' ⟨_, ?zc, ?n0, ?n1, ?n2, ?f0, ?f1, ?f2, ?f3⟩
      case zc =>
        refine' Q.mk_cf KX G ?a ?pg ?hd ?po ?sa ?mk ?kc
        (case a => k_is); (case pg => k_is); (case hd => k_is); (case po => k_is); (case sa => k_is); (case mk => k_is); (case kc => k_is)
      case n0 =>
        show PySem.W.findIn _ _ _ = _
        k_is
      case n1 =>
        show PySem.W.findIn _ _ _ = _
        k_is
      case n2 =>
        show PySem.W.findIn _ _ _ = _
        k_is
      case f0 =>
        refine' Q.mk_mf ?a ?i ?l ?c ?k
        (case a => k_is); (case i => k_is); (case l => k_is); (case c => k_is); (case k => k_is)
      case f1 =>
        refine' Q.mk_mf ?a ?i ?l ?c ?k
        (case a => k_is); (case i => k_is); (case l => k_is); (case c => k_is); (case k => k_is)
      case f2 =>
        refine' Q.mk_mf ?a ?i ?l ?c ?k
        (case a => k_is); (case i => k_is); (case l => k_is); (case c => k_is); (case k => k_is)
      case f3 =>
        refine' Q.mk_mf ?a ?i ?l ?c ?k
        (case a => k_is); (case i => k_is); (case l => k_is); (case c => k_is); (case k => k_is)
    case zR =>
      refine' ⟨_, ?zc, ?n0, ?n1, ?n2, ?f0, ?f1, ?f2, ?f3, ?f4, ?f5⟩
      case zc =>
        refine' Q.mk_cf KX G ?a ?pg ?hd ?po ?sa ?mk ?kc
        (case a => k_is); (case pg => k_is); (case hd => k_is); (case po => k_is); (case sa => k_is); (case mk => k_is); (case kc => k_is)
      case n0 =>
        show PySem.W.findIn _ _ _ = _
        k_is
      case n1 =>
        show PySem.W.findIn _ _ _ = _
        k_is
      case n2 =>
        show PySem.W.findIn _ _ _ = _
        k_is
      case f0 =>
        refine' Q.mk_mf ?a ?i ?l ?c ?k
        (case a => k_is); (case i => k_is); (case l => k_is); (case c => k_is); (case k => k_is)
      case f1 =>
        refine' Q.mk_mf ?a ?i ?l ?c ?k
        (case a => k_is); (case i => k_is); (case l => k_is); (case c => k_is); (case k => k_is)
      case f2 =>
        refine' Q.mk_mf ?a ?i ?l ?c ?k
        (case a => k_is); (case i => k_is); (case l => k_is); (case c => k_is); (case k => k_is)
      case f3 =>
        refine' Q.mk_mf ?a ?i ?l ?c ?k
        (case a => k_is); (case i => k_is); (case l => k_is); (case c => k_is); (case k => k_is)
      case f4 =>
        refine' Q.mk_mf ?a ?i ?l ?c ?k
        (case a => k_is); (case i => k_is); (case l => k_is); (case c => k_is); (case k => k_is)
      case f5 =>
        refine' Q.mk_mf ?a ?i ?l ?c ?k
        (case a => k_is); (case i => k_is); (case l => k_is); (case c => k_is); (case k => k_is)
    case zG =>
      refine' ⟨?hq0, ?hq1, ?hq2, ?hq3, ?hq4, ?hq5, ?hq6, ?hq7, ?hq8, ?hq9, ?hq10, ?hq11, ?hq12, ?hq13, ?hq14, ?hq15, ?hq16, ?hq17, ?hq18, ?hq19, ?hq20, ?hq21, ?hq22, ?hq23, ?hq24, ?hq25, ?hq26, ?hq27, ?hq28, ?hq29, ?hq30, ?hq31, ?hq32⟩
      case hq0 =>
        refine' Q.mk_gf KX G ?a ?l ?c ?k
        (case a => k_is); (case l => k_is); (case c => k_is); (case k => k_is)
      case hq1 =>
        refine' Q.mk_gf KX G ?a ?l ?c ?k
        (case a => k_is); (case l => k_is); (case c => k_is); (case k => k_is)
      case hq2 =>
        refine' Q.mk_gf KX G ?a ?l ?c ?k
        (case a => k_is); (case l => k_is); (case c => k_is); (case k => k_is)
      case hq3 =>
        refine' Q.mk_gf KX G ?a ?l ?c ?k
        (case a => k_is); (case l => k_is); (case c => k_is); (case k => k_is)
      case hq4 =>
        refine' Q.mk_gf KX G ?a ?l ?c ?k
        (case a => k_is); (case l => k_is); (case c => k_is); (case k => k_is)
      case hq5 =>
        refine' Q.mk_gf KX G ?a ?l ?c ?k
        (case a => k_is); (case l => k_is); (case c => k_is); (case k => k_is)
      case hq6 =>
        refine' Q.mk_gf KX G ?a ?l ?c ?k
        (case a => k_is); (case l => k_is); (case c => k_is); (case k => k_is)
      case hq7 =>
        refine' Q.mk_gf KX G ?a ?l ?c ?k
        (case a => k_is); (case l => k_is); (case c => k_is); (case k => k_is)
      case hq8 =>
        refine' Q.mk_gf KX G ?a ?l ?c ?k
        (case a => k_is); (case l => k_is); (case c => k_is); (case k => k_is)
      case hq9 =>
        refine' Q.mk_gf KX G ?a ?l ?c ?k
        (case a => k_is); (case l => k_is); (case c => k_is); (case k => k_is)
      case hq10 =>
        refine' Q.mk_gf KX G ?a ?l ?c ?k
        (case a => k_is); (case l => k_is); (case c => k_is); (case k => k_is)
      case hq11 =>
        refine' Q.mk_gf KX G ?a ?l ?c ?k
        (case a => k_is); (case l => k_is); (case c => k_is); (case k => k_is)
      case hq12 =>
        refine' Q.mk_gf KX G ?a ?l ?c ?k
        (case a => k_is); (case l => k_is); (case c => k_is); (case k => k_is)
      case hq13 =>
        refine' Q.mk_gf KX G ?a ?l ?c ?k
        (case a => k_is); (case l => k_is); (case c => k_is); (case k => k_is)
      case hq14 =>
        refine' Q.mk_gf KX G ?a ?l ?c ?k
        (case a => k_is); (case l => k_is); (case c => k_is); (case k => k_is)
      case hq15 =>
        refine' Q.mk_gf KX G ?a ?l ?c ?k
        (case a => k_is); (case l => k_is); (case c => k_is); (case k => k_is)
      case hq16 =>
        refine' Q.mk_gf KX G ?a ?l ?c ?k
        (case a => k_is); (case l => k_is); (case c => k_is); (case k => k_is)
      case hq17 =>
        refine' Q.mk_gf KX G ?a ?l ?c ?k
        (case a => k_is); (case l => k_is); (case c => k_is); (case k => k_is)
      case hq18 =>
        refine' Q.mk_gf KX G ?a ?l ?c ?k
        (case a => k_is); (case l => k_is); (case c => k_is); (case k => k_is)
      case hq19 =>
        refine' Q.mk_gf KX G ?a ?l ?c ?k
        (case a => k_is); (case l => k_is); (case c => k_is); (case k => k_is)
      case hq20 =>
        refine' Q.mk_gf KX G ?a ?l ?c ?k
        (case a => k_is); (case l => k_is); (case c => k_is); (case k => k_is)
      case hq21 =>
        refine' Q.mk_gf KX G ?a ?l ?c ?k
        (case a => k_is); (case l => k_is); (case c => k_is); (case k => k_is)
      case hq22 =>
        refine' Q.mk_gf KX G ?a ?l ?c ?k
        (case a => k_is); (case l => k_is); (case c => k_is); (case k => k_is)
      case hq23 =>
        refine' Q.mk_gf KX G ?a ?l ?c ?k
        (case a => k_is); (case l => k_is); (case c => k_is); (case k => k_is)
      case hq24 =>
        refine' Q.mk_gf KX G ?a ?l ?c ?k
        (case a => k_is); (case l => k_is); (case c => k_is); (case k => k_is)
      case hq25 =>
        refine' Q.mk_gf KX G ?a ?l ?c ?k
        (case a => k_is); (case l => k_is); (case c => k_is); (case k => k_is)
      case hq26 =>
        refine' Q.mk_gf KX G ?a ?l ?c ?k
        (case a => k_is); (case l => k_is); (case c => k_is); (case k => k_is)
      case hq27 =>
        refine' Q.mk_gf KX G ?a ?l ?c ?k
        (case a => k_is); (case l => k_is); (case c => k_is); (case k => k_is)
      case hq28 =>
        refine' Q.mk_gf KX G ?a ?l ?c ?k
        (case a => k_is); (case l => k_is); (case c => k_is); (case k => k_is)
      case hq29 =>
        refine' Q.mk_gf KX G ?a ?l ?c ?k
        (case a => k_is); (case l => k_is); (case c => k_is); (case k => k_is)
      case hq30 =>
        refine' Q.mk_gf KX G ?a ?l ?c ?k
        (case a => k_is); (case l => k_is); (case c => k_is); (case k => k_is)
      case hq31 =>
        refine' Q.mk_gf KX G ?a ?l ?c ?k
        (case a => k_is); (case l => k_is); (case c => k_is); (case k => k_is)
      case hq32 =>
        refine' Q.mk_gf KX G ?a ?l ?c ?k
        (case a => k_is); (case l => k_is); (case c => k_is); (case k => k_is)
