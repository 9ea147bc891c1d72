import PyProof.Rows.All
import PySem.Str
import Wide.All
import OpenK.AllK
import Wide.FinOn
import KE.KeyNested
import KE.KDictKeyed
import HandS.TupSets
import PyProof.WalksMore
import PyProof.FactsAll.subtypes_4
import KE.LtSeq
import KE.LtData
import KE.KSortTup
import HandS.ForMost
import HandS.Evl
import HandS.Deep
import HandS.SortKw
import HandS.TupAny
import HandS.Star
import HandS.Wide
import KE.KStateDown
import Lean
import HandS.Base
import HandS.Call
import HandS.Ends
import HandS.More
import HandS.Words
import HandS.WordsExc
import HandS.Defaults
import HandS.Head0
import HandS.Head1
import HandS.Head2
import HandS.HeadEnd
import HandS.HeadHook1
import HandS.HeadHook2
import HandS.HeadHook3
import HandS.HeadHook4
import PySem.Challenge.RW_elsewhere_k33_whole_rules_keep_refutatio
import HandS.TryOnly
import KE.KDictSum
import HandS.DictComp
import HandS.Iter
import HandS.LawCells
set_option Elab.async false
/-! The plain law: formulas, finite models, the rules' soundness. No program here. -/
namespace K33
open PySem

inductive Fm where
  | fls | var (x : Str) | and (a b : Fm) | or (a b : Fm) | imp (a b : Fm) | box (a : Fm)
  deriving DecidableEq

inductive Lg where
  | K | D | T | K4 | D4 | S4 | S5 | GL | Grz | Int | KC | LC | BD2 | HT | Cl
  deriving DecidableEq

def Lg.forced : Lg → Bool
  | .Int | .KC | .LC | .BD2 | .HT | .Cl => true
  | _ => false
def Lg.reflexive : Lg → Bool
  | .K | .D | .K4 | .D4 | .GL => false
  | _ => true
def Lg.transitive : Lg → Bool
  | .K | .D | .T => false
  | _ => true

structure Md where
  n : Nat
  R : Nat → Nat → Bool
  val : Str → Nat → Bool

/-- true or forced at a world, as the law reckons it -/
def tr (M : Md) (fo : Bool) : Fm → Nat → Bool
  | .fls, _ => false
  | .var x, w => M.val x w
  | .and a b, w => tr M fo a w && tr M fo b w
  | .or a b, w => tr M fo a w || tr M fo b w
  | .box a, w => (List.range M.n).all fun u => !(M.R w u && !tr M fo a u)
  | .imp a b, w => (List.range M.n).all fun u => !((((u == w) && !fo) || (fo && M.R w u)) && (tr M fo a u && !tr M fo b u))

structure Good (l : Lg) (M : Md) : Prop where
  refl : l.reflexive = true → ∀ v, v < M.n → M.R v v = true
  trans : l.transitive = true → ∀ u v w, u < M.n → v < M.n → w < M.n → M.R u v = true → M.R v w = true → M.R u w = true
  serial : l = .D ∨ l = .D4 → ∀ v, v < M.n → ∃ w, w < M.n ∧ M.R v w = true
  sym : l = .S5 → ∀ v w, v < M.n → w < M.n → M.R v w = true → M.R w v = true
  strict : l = .GL → ∀ v w, v < M.n → w < M.n → M.R v w = true → v < w
  ord : l = .Grz ∨ l.forced = true → ∀ v w, v < M.n → w < M.n → M.R v w = true → v ≤ w
  kc : l = .KC → ∀ v, v < M.n → M.R v (M.n - 1) = true
  lc : l = .LC → ∀ v w, v ≤ w → w < M.n → M.R v w = true
  bd : l = .BD2 ∨ l = .HT → ∀ u v w, u < M.n → v < M.n → w < M.n → M.R u v = true → M.R v w = true → u = v ∨ v = w
  ht : l = .HT → ∀ u v w, u < M.n → v < M.n → w < M.n → M.R u v = true → M.R u w = true → u ≠ v → u ≠ w → v = w
  cl : l = .Cl → ∀ v w, v < M.n → w < M.n → M.R v w = true → v = w
  up : l.forced = true → ∀ x v w, v < M.n → w < M.n → M.val x v = true → M.R v w = true → M.val x w = true

abbrev Side := List Fm
def Ref (l : Lg) (M : Md) (L R : Side) (w : Nat) : Prop := (∀ a ∈ L, tr M l.forced a w = true) ∧ ∀ a ∈ R, tr M l.forced a w = false
/-- some premise is refuted where the conclusion is -/
def Snd (l : Lg) (L R : Side) (ps : List (Side × Side)) : Prop := ∀ M, Good l M → ∀ w, w < M.n → Ref l M L R w → ∃ p ∈ ps, ∃ u, u < M.n ∧ Ref l M p.1 p.2 u
abbrev Sub (L K : Side) : Prop := ∀ a, a ∈ L → a ∈ K

section
variable {M : Md} {fo : Bool} {a b : Fm} {w : Nat}
theorem tr_box : tr M fo (.box a) w = true ↔ ∀ u, u < M.n → M.R w u = true → tr M fo a u = true := by
  simp only [tr, List.all_eq_true, List.mem_range]
  constructor
  · intro h u hu hr
    have := h u hu
    simpa [hr] using this
  · intro h u hu
    cases hr : M.R w u with
    | false => simp
    | true => simp [h u hu hr]
theorem tr_box_no (h : tr M fo (.box a) w = false) : ∃ u, u < M.n ∧ M.R w u = true ∧ tr M fo a u = false := by
  apply Classical.byContradiction
  intro hn
  have : tr M fo (.box a) w = true := tr_box.mpr fun u hu hr => by
    cases h2 : tr M fo a u with
    | true => rfl
    | false => exact absurd ⟨u, hu, hr, h2⟩ hn
  rw [h] at this; cases this
theorem tr_impF : tr M true (.imp a b) w = true ↔ ∀ u, u < M.n → M.R w u = true → tr M true a u = true → tr M true b u = true := by
  simp only [tr, List.all_eq_true, List.mem_range]
  constructor
  · intro h u hu hr ha
    have := h u hu
    simpa [hr, ha] using this
  · intro h u hu
    cases hr : M.R w u with
    | false => simp
    | true =>
      cases ha : tr M true a u with
      | false => simp
      | true => simp [h u hu hr ha]
theorem tr_impF_no (h : tr M true (.imp a b) w = false) : ∃ u, u < M.n ∧ M.R w u = true ∧ tr M true a u = true ∧ tr M true b u = false := by
  apply Classical.byContradiction
  intro hn
  have : tr M true (.imp a b) w = true := tr_impF.mpr fun u hu hr ha => by
    cases h2 : tr M true b u with
    | true => rfl
    | false => exact absurd ⟨u, hu, hr, ha, h2⟩ hn
  rw [h] at this; cases this
theorem tr_impT (hw : w < M.n) : tr M false (.imp a b) w = true ↔ (tr M false a w = true → tr M false b w = true) := by
  simp only [tr, List.all_eq_true, List.mem_range]
  constructor
  · intro h ha
    have := h w hw
    simpa [ha] using this
  · intro h u hu
    by_cases e : u = w
    · subst e
      cases ha : tr M false a u with
      | false => simp
      | true => simp [h ha]
    · simp [e]
theorem tr_impT_no (hw : w < M.n) (h : tr M false (.imp a b) w = false) : tr M false a w = true ∧ tr M false b w = false := by
  have hn : ¬ (tr M false a w = true → tr M false b w = true) := fun q => by
    rw [(tr_impT hw).mpr q] at h; cases h
  cases ha : tr M false a w with
  | false => exact absurd (fun z => by rw [ha] at z; cases z) hn
  | true =>
    cases hb : tr M false b w with
    | true => exact absurd (fun _ => hb) hn
    | false => exact ⟨rfl, rfl⟩
theorem tr_fls : tr M fo .fls w = false := by simp [tr]
theorem tr_and : tr M fo (.and a b) w = true ↔ tr M fo a w = true ∧ tr M fo b w = true := by simp [tr]
theorem tr_or : tr M fo (.or a b) w = true ↔ tr M fo a w = true ∨ tr M fo b w = true := by simp [tr]
theorem tr_and_no : tr M fo (.and a b) w = false ↔ tr M fo a w = false ∨ tr M fo b w = false := by
  cases h1 : tr M fo a w <;> cases h2 : tr M fo b w <;> simp [tr, h1, h2]
theorem tr_or_no : tr M fo (.or a b) w = false ↔ tr M fo a w = false ∧ tr M fo b w = false := by
  cases h1 : tr M fo a w <;> cases h2 : tr M fo b w <;> simp [tr, h1, h2]
end

theorem forced_refl {l : Lg} (h : l.forced = true) : l.reflexive = true := by cases l <;> first | rfl | cases h
theorem forced_trans {l : Lg} (h : l.forced = true) : l.transitive = true := by cases l <;> first | rfl | cases h

/-- what is forced stays so -/
theorem persist {l : Lg} {M : Md} (G : Good l M) (hf : l.forced = true) : ∀ (a : Fm) (v w : Nat), v < M.n → w < M.n → M.R v w = true → tr M l.forced a v = true → tr M l.forced a w = true := by
  rw [hf]
  intro a
  induction a with
  | fls => intro v w _ _ _ h; rw [tr_fls] at h; cases h
  | var x =>
    intro v w hv hw hr h
    simp only [tr] at h ⊢
    exact G.up hf x v w hv hw h hr
  | and a b iha ihb =>
    intro v w hv hw hr h
    rw [tr_and] at h ⊢
    exact ⟨iha v w hv hw hr h.1, ihb v w hv hw hr h.2⟩
  | or a b iha ihb =>
    intro v w hv hw hr h
    rw [tr_or] at h ⊢
    rcases h with h | h
    · exact .inl (iha v w hv hw hr h)
    · exact .inr (ihb v w hv hw hr h)
  | imp a b _ _ =>
    intro v w hv hw hr h
    rw [tr_impF] at h ⊢
    exact fun u hu hwu ha => h u hu (G.trans (forced_trans hf) v w u hv hw hu hr hwu) ha
  | box a _ =>
    intro v w hv hw hr h
    rw [tr_box] at h ⊢
    exact fun u hu hwu => h u hu (G.trans (forced_trans hf) v w u hv hw hu hr hwu)

/-- the greatest number below n with a property -/
theorem last_of (p : Nat → Prop) : ∀ (n v : Nat), v < n → p v → ∃ u, u < n ∧ p u ∧ ∀ x, x < n → p x → x ≤ u := by
  intro n
  induction n with
  | zero => intro v h; exact absurd h (Nat.not_lt_zero _)
  | succ n ih =>
    intro v hv hp
    rcases Classical.em (p n) with c | c
    · exact ⟨n, Nat.lt_succ_self _, c, fun x hx _ => Nat.le_of_lt_succ hx⟩
    · have hvn : v < n := by
        rcases Nat.lt_or_ge v n with z | z
        · exact z
        · have : v = n := by omega
          rw [this] at hp; exact absurd hp c
      obtain ⟨u, h1, h2, h3⟩ := ih v hvn hp
      refine ⟨u, Nat.lt_succ_of_lt h1, h2, fun x hx hpx => ?_⟩
      rcases Nat.lt_or_ge x n with z | z
      · exact h3 x z hpx
      · have : x = n := by omega
        rw [this] at hpx; exact absurd hpx c

section
variable {l : Lg} {L R L1 R1 L2 R2 : Side} {a b m : Fm}
theorem ref_left {M : Md} {w : Nat} (h : Ref l M L R w) {K : Side} (hs : Sub K L) : ∀ a ∈ K, tr M l.forced a w = true := fun a ha => h.1 a (hs a ha)

theorem s_axiom (h1 : m ∈ L) (h2 : m ∈ R) : Snd l L R [] := fun M _ w _ h => by
  have e1 := h.1 m h1
  rw [h.2 m h2] at e1; cases e1
theorem s_falsum (h1 : Fm.fls ∈ L) : Snd l L R [] := fun M _ w _ h => by
  have e1 := h.1 _ h1
  rw [tr_fls] at e1; cases e1
theorem s_and_left (hm : Fm.and a b ∈ L) (h1 : Sub L1 (a :: b :: L)) : Snd l L R [(L1, R)] := fun M _ w hw h => by
  have e := tr_and.mp (h.1 _ hm)
  refine ⟨_, List.mem_singleton.mpr rfl, w, hw, fun x hx => ?_, h.2⟩
  rcases List.mem_cons.mp (h1 x hx) with rfl | hx
  · exact e.1
  · rcases List.mem_cons.mp hx with rfl | hx
    · exact e.2
    · exact h.1 x hx
theorem s_and_right (hm : Fm.and a b ∈ R) (h1 : Sub R1 (a :: R)) (h2 : Sub R2 (b :: R)) : Snd l L R [(L, R1), (L, R2)] := fun M _ w hw h => by
  rcases tr_and_no.mp (h.2 _ hm) with e | e
  · refine ⟨(L, R1), by simp, w, hw, h.1, fun x hx => ?_⟩
    rcases List.mem_cons.mp (h1 x hx) with rfl | hx
    · exact e
    · exact h.2 x hx
  · refine ⟨(L, R2), by simp, w, hw, h.1, fun x hx => ?_⟩
    rcases List.mem_cons.mp (h2 x hx) with rfl | hx
    · exact e
    · exact h.2 x hx
theorem s_or_left (hm : Fm.or a b ∈ L) (h1 : Sub L1 (a :: L)) (h2 : Sub L2 (b :: L)) : Snd l L R [(L1, R), (L2, R)] := fun M _ w hw h => by
  rcases tr_or.mp (h.1 _ hm) with e | e
  · refine ⟨(L1, R), by simp, w, hw, fun x hx => ?_, h.2⟩
    rcases List.mem_cons.mp (h1 x hx) with rfl | hx
    · exact e
    · exact h.1 x hx
  · refine ⟨(L2, R), by simp, w, hw, fun x hx => ?_, h.2⟩
    rcases List.mem_cons.mp (h2 x hx) with rfl | hx
    · exact e
    · exact h.1 x hx
theorem s_or_right (hm : Fm.or a b ∈ R) (h1 : Sub R1 (a :: b :: R)) : Snd l L R [(L, R1)] := fun M _ w hw h => by
  have e := tr_or_no.mp (h.2 _ hm)
  refine ⟨_, List.mem_singleton.mpr rfl, w, hw, h.1, fun x hx => ?_⟩
  rcases List.mem_cons.mp (h1 x hx) with rfl | hx
  · exact e.1
  · rcases List.mem_cons.mp hx with rfl | hx
    · exact e.2
    · exact h.2 x hx
/-- at a world: a is false, or b true, where a implies b holds -/
theorem imp_here {M : Md} (G : Good l M) {w : Nat} (hw : w < M.n) (h : tr M l.forced (.imp a b) w = true) (ha : tr M l.forced a w = true) : tr M l.forced b w = true := by
  cases hf : l.forced with
  | true =>
    rw [hf] at h ha
    exact tr_impF.mp h w hw (G.refl (forced_refl hf) w hw) ha
  | false =>
    rw [hf] at h ha
    exact (tr_impT hw).mp h ha
theorem s_implies_left (hm : Fm.imp a b ∈ L) (h1 : Sub R1 (a :: R)) (h2 : Sub L1 (b :: L)) : Snd l L R [(L, R1), (L1, R)] := fun M G w hw h => by
  cases ha : tr M l.forced a w with
  | false =>
    refine ⟨(L, R1), by simp, w, hw, h.1, fun x hx => ?_⟩
    rcases List.mem_cons.mp (h1 x hx) with rfl | hx
    · exact ha
    · exact h.2 x hx
  | true =>
    refine ⟨(L1, R), by simp, w, hw, fun x hx => ?_, h.2⟩
    rcases List.mem_cons.mp (h2 x hx) with rfl | hx
    · exact imp_here G hw (h.1 _ hm) ha
    · exact h.1 x hx
theorem s_implies_right (hl : l.forced = false ∨ l = .Cl) (hm : Fm.imp a b ∈ R) (h1 : Sub L1 (a :: L)) (h2 : Sub R1 (b :: R)) : Snd l L R [(L1, R1)] := fun M G w hw h => by
  have e : tr M l.forced a w = true ∧ tr M l.forced b w = false := by
    have hn := h.2 _ hm
    rcases hl with hf | rfl
    · rw [hf] at hn ⊢
      exact tr_impT_no hw hn
    · obtain ⟨u, hu, hr, e1, e2⟩ := tr_impF_no hn
      rw [G.cl rfl w u hw hu hr]
      exact ⟨e1, e2⟩
  refine ⟨_, List.mem_singleton.mpr rfl, w, hw, fun x hx => ?_, fun x hx => ?_⟩
  · rcases List.mem_cons.mp (h1 x hx) with rfl | hx
    · exact e.1
    · exact h.1 x hx
  · rcases List.mem_cons.mp (h2 x hx) with rfl | hx
    · exact e.2
    · exact h.2 x hx
theorem s_implies_rightF (hf : l.forced = true) (hm : Fm.imp a b ∈ R) (h1 : Sub L1 (a :: L)) : Snd l L R [(L1, [b])] := fun M G w hw h => by
  have hn := h.2 _ hm
  rw [hf] at hn
  obtain ⟨u, hu, hr, e1, e2⟩ := tr_impF_no hn
  refine ⟨_, List.mem_singleton.mpr rfl, u, hu, fun x hx => ?_, fun x hx => ?_⟩
  · rcases List.mem_cons.mp (h1 x hx) with rfl | hx
    · rw [hf]; exact e1
    · exact persist G hf x w u hw hu hr (h.1 x hx)
  · rw [List.mem_singleton.mp hx, hf]
    exact e2
theorem s_cut (h1 : Sub R1 (m :: R)) (h2 : Sub L1 (m :: L)) : Snd l L R [(L, R1), (L1, R)] := fun M G w hw h => by
  cases ha : tr M l.forced m w with
  | false =>
    refine ⟨(L, R1), by simp, w, hw, h.1, fun x hx => ?_⟩
    rcases List.mem_cons.mp (h1 x hx) with rfl | hx
    · exact ha
    · exact h.2 x hx
  | true =>
    refine ⟨(L1, R), by simp, w, hw, fun x hx => ?_, h.2⟩
    rcases List.mem_cons.mp (h2 x hx) with rfl | hx
    · exact ha
    · exact h.1 x hx
theorem s_reflexive (hl : l.reflexive = true) (hm : Fm.box a ∈ L) (h1 : Sub L1 (a :: L)) : Snd l L R [(L1, R)] := fun M G w hw h => by
  have e := tr_box.mp (h.1 _ hm) w hw (G.refl hl w hw)
  refine ⟨_, List.mem_singleton.mpr rfl, w, hw, fun x hx => ?_, h.2⟩
  rcases List.mem_cons.mp (h1 x hx) with rfl | hx
  · exact e
  · exact h.1 x hx

/-! ### the modal rule -/
/-- what the modal rule keeps of the left side -/
def Kept (l : Lg) (L : Side) (x : Fm) : Prop := Fm.box x ∈ L ∨ (l.transitive = true ∧ x ∈ L ∧ ∃ b, x = Fm.box b)
/-- .. but for the reflexive logics, in which the boxes alone are kept (they say as much) -/
theorem kept_true {M : Md} (G : Good l M) {w u : Nat} (hw : w < M.n) (hu : u < M.n) (hr : M.R w u = true) (h : ∀ a ∈ L, tr M l.forced a w = true) {x : Fm} (k : Kept l L x) : tr M l.forced x u = true := by
  rcases k with k | ⟨ht, k, b, rfl⟩
  · exact tr_box.mp (h _ k) u hu hr
  · rw [tr_box]
    exact fun z hz hz2 => tr_box.mp (h _ k) z hz (G.trans ht w u z hw hu hz hr hz2)
theorem s_serial (hl : l = .D ∨ l = .D4) (h1 : ∀ x ∈ L1, Kept l L x) : Snd l L R [(L1, [])] := fun M G w hw h => by
  obtain ⟨u, hu, hr⟩ := G.serial hl w hw
  exact ⟨_, List.mem_singleton.mpr rfl, u, hu, fun x hx => kept_true G hw hu hr h.1 (h1 x hx), fun x hx => nomatch hx⟩
/-- a world that refutes a, the last one -/
theorem last_no {M : Md} {w : Nat} (h : tr M l.forced (.box a) w = false) : ∃ u, u < M.n ∧ M.R w u = true ∧ tr M l.forced a u = false ∧ ∀ x, x < M.n → M.R w x = true → u < x → tr M l.forced a x = true := by
  obtain ⟨v, hv, hr, hn⟩ := tr_box_no h
  obtain ⟨u, h1, ⟨h2, h3⟩, h4⟩ := last_of (fun u => M.R w u = true ∧ tr M l.forced a u = false) M.n v hv ⟨hr, hn⟩
  refine ⟨u, h1, h2, h3, fun x hx hrx hlt => ?_⟩
  cases c : tr M l.forced a x with
  | true => rfl
  | false => exact absurd (h4 x hx ⟨hrx, c⟩) (by omega)
theorem s_modal (hm : Fm.box a ∈ R) (h1 : ∀ x ∈ L1, Kept l L x) : Snd l L R [(L1, [a])] := fun M G w hw h => by
  obtain ⟨u, hu, hr, hn⟩ := tr_box_no (h.2 _ hm)
  exact ⟨_, List.mem_singleton.mpr rfl, u, hu, fun x hx => kept_true G hw hu hr h.1 (h1 x hx), fun x hx => by rw [List.mem_singleton.mp hx]; exact hn⟩
theorem s_modalGL (hl : l = .GL) (hm : Fm.box a ∈ R) (h1 : ∀ x ∈ L1, x = .box a ∨ Kept l L x) : Snd l L R [(L1, [a])] := fun M G w hw h => by
  obtain ⟨u, hu, hr, hn, hlast⟩ := last_no (h.2 _ hm)
  refine ⟨_, List.mem_singleton.mpr rfl, u, hu, fun x hx => ?_, fun x hx => by rw [List.mem_singleton.mp hx]; exact hn⟩
  rcases h1 x hx with rfl | k
  · rw [tr_box]
    intro z hz hrz
    exact hlast z hz (G.trans (by rw [hl]; rfl) w u z hw hu hz hr hrz) (G.strict hl u z hu hz hrz)
  · exact kept_true G hw hu hr h.1 k
theorem s_modalGrz (hl : l = .Grz) (hm : Fm.box a ∈ R) (h1 : ∀ x ∈ L1, x = .box (.imp a (.box a)) ∨ Kept l L x) : Snd l L R [(L1, [a])] := fun M G w hw h => by
  obtain ⟨u, hu, hr, hn, hlast⟩ := last_no (h.2 _ hm)
  have hf : l.forced = false := by rw [hl]; rfl
  have ht : l.transitive = true := by rw [hl]; rfl
  refine ⟨_, List.mem_singleton.mpr rfl, u, hu, fun x hx => ?_, fun x hx => by rw [List.mem_singleton.mp hx]; exact hn⟩
  rcases h1 x hx with rfl | k
  · rw [tr_box]
    intro z hz hrz
    have hwz := G.trans ht w u z hw hu hz hr hrz
    have huz := G.ord (.inl hl) u z hu hz hrz
    rw [hf] at hn hlast ⊢
    refine (tr_impT hz).mpr fun hza => ?_
    rw [tr_box]
    intro y hy hry
    have hwy := G.trans ht w z y hw hz hy hwz hry
    have hzy := G.ord (.inl hl) z y hz hy hry
    refine hlast y hy hwy ?_
    have hne : u ≠ z := fun e => by rw [e, hza] at hn; cases hn
    omega
  · exact kept_true G hw hu hr h.1 k
theorem s_modalS5 (hl : l = .S5) (hm : Fm.box a ∈ R) (h1 : ∀ x ∈ L1, Kept l L x) (h2 : ∀ x ∈ R1, x = a ∨ (x ∈ R ∧ ∃ b, x = .box b)) : Snd l L R [(L1, R1)] := fun M G w hw h => by
  obtain ⟨u, hu, hr, hn⟩ := tr_box_no (h.2 _ hm)
  refine ⟨_, List.mem_singleton.mpr rfl, u, hu, fun x hx => kept_true G hw hu hr h.1 (h1 x hx), fun x hx => ?_⟩
  rcases h2 x hx with rfl | ⟨hx, b, rfl⟩
  · exact hn
  · obtain ⟨z, hz, hrz, hzn⟩ := tr_box_no (h.2 _ hx)
    cases c : tr M l.forced (.box b) u with
    | false => rfl
    | true =>
      have hut : M.R u z = true := G.trans (by rw [hl]; rfl) u w z hu hw hz (G.sym hl w u hw hu hr) hrz
      rw [tr_box.mp c z hz hut] at hzn; cases hzn

/-! ### the rules of the intermediate logics -/
theorem neg_top {M : Md} (G : Good l M) (hf : l.forced = true) {v : Nat} (hv : v < M.n) (hmax : ∀ z, z < M.n → M.R v z = true → z = v) (x : Fm) : tr M l.forced (.or x (.imp x .fls)) v = true := by
  rw [tr_or]
  cases c : tr M l.forced x v with
  | true => exact .inl rfl
  | false =>
    refine .inr ?_
    rw [hf] at c ⊢
    rw [tr_impF]
    intro z hz hrz hx
    rw [hmax z hz hrz, c] at hx; cases hx
theorem s_weak_middle (hl : l = .KC) {x : Fm} (hm : m = .or (.imp x .fls) (.imp (.imp x .fls) .fls)) (h1 : Sub L1 (m :: L)) : Snd l L R [(L1, R)] := fun M G w hw h => by
  have hf : l.forced = true := by rw [hl]; rfl
  have htop : M.n - 1 < M.n := by omega
  have e : tr M l.forced m w = true := by
    rw [hm, tr_or, hf]
    cases c : tr M l.forced x (M.n - 1) with
    | false =>
      refine .inl (tr_impF.mpr fun u hu hru hx => ?_)
      have := persist G hf x u (M.n - 1) hu htop (G.kc hl u hu) (by rw [hf]; exact hx)
      rw [c] at this; cases this
    | true =>
      refine .inr (tr_impF.mpr fun u hu hru hx => ?_)
      rw [hf] at c
      exact tr_impF.mp hx (M.n - 1) htop (G.kc hl u hu) c
  refine ⟨_, List.mem_singleton.mpr rfl, w, hw, fun y hy => ?_, h.2⟩
  rcases List.mem_cons.mp (h1 y hy) with rfl | hy
  · exact e
  · exact h.1 y hy
/-- an implication's last refuting world -/
theorem last_imp {M : Md} (hf : l.forced = true) {w : Nat} (h : tr M l.forced (.imp a b) w = false) :
    ∃ u, u < M.n ∧ M.R w u = true ∧ tr M l.forced a u = true ∧ tr M l.forced b u = false := by
  rw [hf] at h ⊢
  exact tr_impF_no h
/-- of the worlds that refute some implication of a list, each the last for it, the least -/
theorem least_last {M : Md} (hf : l.forced = true) {w : Nat} : ∀ (js : Side), (∀ x ∈ js, ∃ a b, x = Fm.imp a b) → (∀ x ∈ js, tr M l.forced x w = false) → js ≠ [] →
    ∃ a b u, Fm.imp a b ∈ js ∧ u < M.n ∧ M.R w u = true ∧ tr M l.forced a u = true ∧ tr M l.forced b u = false ∧
      ∀ x ∈ js, ∃ c d z, x = Fm.imp c d ∧ z < M.n ∧ M.R w z = true ∧ u ≤ z ∧ tr M l.forced c z = true ∧ tr M l.forced d z = false := by
  intro js
  induction js with
  | nil => intro _ _ h; exact absurd rfl h
  | cons x js ih =>
    intro hi hn _
    obtain ⟨a, b, rfl⟩ := hi x List.mem_cons_self
    obtain ⟨u, hu, hr, h1, h2⟩ := last_imp hf (hn _ List.mem_cons_self)
    by_cases he : js = []
    · subst he
      refine ⟨a, b, u, List.mem_cons_self, hu, hr, h1, h2, fun y hy => ?_⟩
      rw [List.mem_singleton.mp hy]
      exact ⟨a, b, u, rfl, hu, hr, Nat.le_refl _, h1, h2⟩
    · obtain ⟨c, d, z, hm, hz, hrz, e1, e2, e3⟩ := ih (fun y hy => hi y (List.mem_cons_of_mem _ hy)) (fun y hy => hn y (List.mem_cons_of_mem _ hy)) he
      by_cases hlt : u ≤ z
      · refine ⟨a, b, u, List.mem_cons_self, hu, hr, h1, h2, fun y hy => ?_⟩
        rcases List.mem_cons.mp hy with rfl | hy
        · exact ⟨a, b, u, rfl, hu, hr, Nat.le_refl _, h1, h2⟩
        · obtain ⟨c', d', z', q1, q2, q3, q4, q5, q6⟩ := e3 y hy
          exact ⟨c', d', z', q1, q2, q3, by omega, q5, q6⟩
      · refine ⟨c, d, z, List.mem_cons_of_mem _ hm, hz, hrz, e1, e2, fun y hy => ?_⟩
        rcases List.mem_cons.mp hy with rfl | hy
        · exact ⟨a, b, u, rfl, hu, hr, by omega, h1, h2⟩
        · exact e3 y hy
theorem s_linear (hl : l = .LC) {js : Side} {ps : List (Side × Side)} (hj : ∀ x ∈ js, x ∈ R ∧ ∃ a b, x = Fm.imp a b) (hne : js ≠ [])
    (hp : ∀ a b, Fm.imp a b ∈ js → ∃ p ∈ ps, Sub p.1 (a :: L) ∧ Sub p.2 (b :: js)) : Snd l L R ps := fun M G w hw h => by
  have hf : l.forced = true := by rw [hl]; rfl
  obtain ⟨a, b, u, hm, hu, hr, e1, e2, e3⟩ := least_last hf js (fun x hx => (hj x hx).2) (fun x hx => h.2 x (hj x hx).1) hne
  obtain ⟨p, hpm, p1, p2⟩ := hp a b hm
  refine ⟨p, hpm, u, hu, fun x hx => ?_, fun x hx => ?_⟩
  · rcases List.mem_cons.mp (p1 x hx) with rfl | hx
    · exact e1
    · exact persist G hf x w u hw hu hr (h.1 x hx)
  · rcases List.mem_cons.mp (p2 x hx) with rfl | hx
    · exact e2
    · obtain ⟨c, d, z, rfl, hz, hrz, hle, z1, z2⟩ := e3 x hx
      cases q : tr M l.forced (.imp c d) u with
      | false => rfl
      | true =>
        rw [hf] at q z1 z2
        rw [tr_impF.mp q z hz (G.lc hl u z hle hz) z1] at z2; cases z2
/-- a variable's excluded middle -/
def IsMid (x : Fm) : Prop := ∃ n, x = .or (.var n) (.imp (.var n) .fls)
theorem s_depth (hl : l = .BD2) (hm : Fm.imp a b ∈ R) (h1 : Sub L1 (a :: L)) (h2 : Sub R1 (b :: R)) (h3 : ∀ x ∈ L2, x = a ∨ x ∈ L ∨ IsMid x) : Snd l L R [(L1, R1), (L2, [b])] := fun M G w hw h => by
  have hf : l.forced = true := by rw [hl]; rfl
  obtain ⟨u, hu, hr, e1, e2⟩ := last_imp hf (h.2 _ hm)
  by_cases huw : w = u
  · subst huw
    refine ⟨(L1, R1), by simp, w, hw, fun x hx => ?_, fun x hx => ?_⟩
    · rcases List.mem_cons.mp (h1 x hx) with rfl | hx
      · exact e1
      · exact h.1 x hx
    · rcases List.mem_cons.mp (h2 x hx) with rfl | hx
      · exact e2
      · exact h.2 x hx
  · refine ⟨(L2, [b]), by simp, u, hu, fun x hx => ?_, fun x hx => by rw [List.mem_singleton.mp hx]; exact e2⟩
    rcases h3 x hx with rfl | hx | ⟨n, rfl⟩
    · exact e1
    · exact persist G hf x w u hw hu hr (h.1 x hx)
    · refine neg_top G hf hu (fun z hz hrz => ?_) _
      rcases G.bd (.inl hl) w u z hw hu hz hr hrz with q | q
      · exact absurd q huw
      · exact q.symm
theorem s_two (hl : l = .HT) {js : Side} {ps : List (Side × Side)} (hj : ∀ x ∈ js, x ∈ R ∧ ∃ a b, x = Fm.imp a b) (hne : js ≠ [])
    (hp : ∀ a b, Fm.imp a b ∈ js → ∃ p ∈ ps, Sub p.1 (a :: L) ∧ Sub p.2 (b :: R)) (hp2 : ∃ p ∈ ps, (∀ x ∈ p.1, x ∈ L ∨ IsMid x) ∧ Sub p.2 js) : Snd l L R ps := fun M G w hw h => by
  have hf : l.forced = true := by rw [hl]; rfl
  rcases Classical.em (∃ a b, Fm.imp a b ∈ js ∧ tr M l.forced a w = true ∧ tr M l.forced b w = false) with ⟨a, b, hm, e1, e2⟩ | hno
  · obtain ⟨p, hpm, p1, p2⟩ := hp a b hm
    refine ⟨p, hpm, w, hw, fun x hx => ?_, fun x hx => ?_⟩
    · rcases List.mem_cons.mp (p1 x hx) with rfl | hx
      · exact e1
      · exact h.1 x hx
    · rcases List.mem_cons.mp (p2 x hx) with rfl | hx
      · exact e2
      · exact h.2 x hx
  · have up : ∀ x ∈ js, ∃ a b u, x = Fm.imp a b ∧ u < M.n ∧ M.R w u = true ∧ w ≠ u ∧ tr M l.forced a u = true ∧ tr M l.forced b u = false := fun x hx => by
      obtain ⟨hxR, a, b, rfl⟩ := hj x hx
      obtain ⟨u, hu, hr, e1, e2⟩ := last_imp hf (h.2 _ hxR)
      refine ⟨a, b, u, rfl, hu, hr, fun e => ?_, e1, e2⟩
      subst e
      exact hno ⟨a, b, hx, e1, e2⟩
    obtain ⟨x0, hx0⟩ : ∃ x, x ∈ js := by
      cases js with
      | nil => exact absurd rfl hne
      | cons x _ => exact ⟨x, List.mem_cons_self⟩
    obtain ⟨_, _, u, _, hu, hr, hwu, _, _⟩ := up x0 hx0
    obtain ⟨p, hpm, p1, p2⟩ := hp2
    refine ⟨p, hpm, u, hu, fun x hx => ?_, fun x hx => ?_⟩
    · rcases p1 x hx with hx | ⟨n, rfl⟩
      · exact persist G hf x w u hw hu hr (h.1 x hx)
      · refine neg_top G hf hu (fun z hz hrz => ?_) _
        rcases G.bd (.inr hl) w u z hw hu hz hr hrz with q | q
        · exact absurd q hwu
        · exact q.symm
    · obtain ⟨a, b, v, rfl, hv, hrv, hwv, e1, e2⟩ := up x (p2 x hx)
      have huv : u = v := G.ht hl w u v hw hu hv hr hrv hwu hwv
      subst huv
      cases q : tr M l.forced (.imp a b) u with
      | false => rfl
      | true =>
        rw [imp_here G hu q e1] at e2; cases e2
end
end K33

set_option Elab.async false
set_option linter.all false
set_option maxRecDepth 100000
set_option maxHeartbeats 4000000
/-! Sets of nested tuples whose first item is a text. -/
namespace K33
open PySem PySem.Spec PyProof.Rows L2

/-- a key that is a tuple with a text in front -/
def Tagged (k : NestedKey) : Prop := ∃ t ks, k = .tup (.text t :: ks)
/-- the tuple at a is the key k -/
structure IsN (h : Heap) (k : NestedKey) (a : Addr) : Prop where
  is : NestedIs h k (.ref a)
  dp : k.depth ≤ 8
  tg : Tagged k
abbrev nh (w : World) (k : NestedKey) : Int := k.hash w

section
variable {P : Program} {w : World} {A : Around} {E : Value → Shared → Prop} {s : Shared}
theorem IsN.kept {h h' : Heap} {k : NestedKey} {a : Addr} (x : IsN h k a) (q : ∀ c o, h.get? c = some o → h'.get? c = some o) : IsN h' k a :=
  ⟨NestedIs.at (fun c o _ _ e _ => q c o e) _ _ x.is, x.dp, x.tg⟩
theorem IsN.aside {h h' : Heap} {k : NestedKey} {a b : Addr} {o : Obj} {es : Array (Int × Value)} {ep : Nat} {t : SetTable} (x : IsN h k b) (ho : h.get? a = some o) (hd : o.data = .set es ep t) (hs : Heap.SameBut a h h') : IsN h' k b := by
  refine ⟨NestedIs.at (fun c u vs n e d => ?_) _ _ x.is, x.dp, x.tg⟩
  refine (hs.2 c fun z => ?_).trans e
  rw [z, ho] at e
  cases e
  rw [hd] at d
  cases d
theorem IsN.inj {h : Heap} {k k' : NestedKey} {a : Addr} (x : IsN h k a) (y : IsN h k' a) : k = k' := NestedIs.inj _ _ _ x.is y.is

/-- v is no class statement, n levels down -/
def NotCls (P : Program) (w : World) (n : Nat) (s : Shared) (v : Value) : Prop := ∀ (A : Around) (E : Value → Shared → Prop) (Q : Bool → Shared → Prop), Q false s → wpAny (model P w) A (ofAClassStatement n v) Q E s
theorem NotCls.flat {n : Nat} {v : Value} (h : ∀ m, ofAClassStatement m v = pure false) : NotCls P w n s v := fun A E Q q => by
  rw [h n]
  exact wpAny_pure q
theorem NotCls.tuple {n m : Nat} {a : Addr} {o : Obj} {vs : Array Value} (hg : s.heap.get? a = some o) (hc : o.cls = .type "tuple") (hd : o.data = .seq vs m) (all : ∀ v ∈ vs.toList, NotCls P w n s v) : NotCls P w (n + 1) s (.ref a) := fun A E Q q => by
  unfold ofAClassStatement
  refine wpAny_bind (wpAny_typeOf (T := "tuple") ⟨_, hg, hc⟩ ?_)
  dsimp only
  simp only [show (("tuple" : String) == "tuple") = true from by decide, if_true, Bool.not_true, Bool.false_eq_true, if_false]
  try refine wpAny_bind (wpAny_pure ?_)
  try simp only [Bool.not_true, Bool.false_eq_true, if_false]
  refine wpAny_bind (wpAny_seqItems hg hd ?_)
  dsimp only
  refine wpAny_bind ?_
  show wpAny _ _ (forIn vs _ _) _ _ s
  rw [← Array.forIn_toList]
  refine wpAny_forIn_list _ (fun todo r s' => r.1 = none ∧ s' = s ∧ ∀ v ∈ todo, NotCls P w n s v) _ ?_ ?_ _ _ ⟨rfl, rfl, all⟩
  · rintro v todo r s' ⟨_, rfl, al⟩
    refine wpAny_bind (al v List.mem_cons_self _ _ _ ?_)
    simp only [Bool.false_eq_true, if_false]
    exact wpAny_pure ⟨rfl, rfl, fun u hu => al u (List.mem_cons_of_mem _ hu)⟩
  · rintro ⟨r1, r2⟩ s' ⟨hr, rfl, _⟩
    simp only at hr
    subst hr
    exact wpAny_pure q
mutual
theorem notCls_key : ∀ (k : NestedKey) (v : Value) (n : Nat) (s : Shared), NestedIs s.heap k v → k.depth ≤ n → NotCls P w n s v
  | .none, _, n, s, x, _ => by cases x; exact .flat fun m => by cases m <;> rfl
  | .num _, _, n, s, x, _ => by cases x <;> exact .flat fun m => by cases m <;> rfl
  | .text _, _, n, s, x, _ => by cases x; exact .flat fun m => by cases m <;> rfl
  | .tup ks, _, n, s, x, hn => by
    cases x with
    | tup hg hc hd hk =>
      simp only [NestedKey.depth] at hn
      cases n with
      | zero => omega
      | succ n => exact .tuple hg hc hd (notCls_keys ks _ n s hk (by omega))
theorem notCls_keys : ∀ (ks : List NestedKey) (vs : List Value) (n : Nat) (s : Shared), NestedAll s.heap ks vs → NestedKey.depthAll ks ≤ n → ∀ v ∈ vs, NotCls P w n s v
  | [], _, _, _, x, _, v, hv => by cases x; cases hv
  | k :: ks, _, n, s, x, hn, v, hv => by
    cases x with
    | cons x1 x2 =>
      simp only [NestedKey.depthAll] at hn
      rcases List.mem_cons.mp hv with e | hv
      · rw [e]; exact notCls_key k _ n s x1 (by omega)
      · exact notCls_keys ks _ n s x2 (by omega) v hv
end
theorem IsN.notCls {k : NestedKey} {b : Addr} (x : IsN s.heap k b) {Q : Bool → Shared → Prop} (h : Q false s) : wpAny (model P w) A (ofAClassStatement 8 (.ref b)) Q E s :=
  notCls_key k _ 8 s x.is x.dp A E Q h
theorem IsN.quiet {k : NestedKey} {b : Addr} (x : IsN s.heap k b) {Q : Bool → Shared → Prop} (h : Q true s) : wpAny (model P w) A (eqIsQuiet 8 (.ref b)) Q E s :=
  (nestedKind P w).quiet ⟨x.is, x.dp⟩ h
theorem IsN.hash {k : NestedKey} {b : Addr} (x : IsN s.heap k b) (hu : A.units + 8 < cLine) {Q : Int → Shared → Prop} (h : Q (nh w k) { s with toks := s.toks + k.draws }) : wpAny (model P w) A (pyHash (.ref b)) Q E s :=
  (nestedKind P w).pyHash hu ⟨x.is, x.dp⟩ h
theorem IsN.eq {k k' : NestedKey} {a b : Addr} (x : IsN s.heap k a) (y : IsN s.heap k' b) (hu : A.units + 8 < cLine) {Q : Bool → Shared → Prop} (h : Q (decide (k = k')) s) : wpAny (model P w) A (eqBool (.ref a) (.ref b)) Q E s :=
  (nestedKind P w).eqBool hu ⟨x.is, x.dp⟩ ⟨y.is, y.dp⟩ h
/-- its hash hangs on a text -/
theorem IsN.byHash {k : NestedKey} {b : Addr} (x : IsN s.heap k b) {Q : Bool → Shared → Prop} (h : Q false s) : wpAny (model P w) A (hashByValue 8 (.ref b)) Q E s := by
  obtain ⟨hi, _, t, ks, rfl⟩ := x
  cases hi with
  | @tup _ o vs m _ hg hc hd hk =>
    unfold hashByValue
    refine wpAny_bind (wpAny_specialOf ⟨_, hg, hc⟩ F.slot_tuple_hash.lookup ?_)
    dsimp only
    refine wpAny_bind (wpAny_seqItems hg hd ?_)
    refine wpAny_bind ?_
    show wpAny _ _ (forIn vs _ _) _ _ s
    rw [← Array.forIn_toList]
    generalize vs.toList = l at hk
    cases hk with
    | cons h1 h2 =>
      cases h1
      rw [List.forIn_cons]
      refine wpAny_bind (wpAny_bind (wpAny_pure ?_))
      simp only [Bool.not_false, if_true]
      refine wpAny_pure ?_
      dsimp only
      refine wpAny_pure ?_
      exact wpAny_pure h
/-- a search among such keys tells nothing -/
theorem IsN.unseen {k : NestedKey} {b : Addr} (x : IsN s.heap k b) {ys : List Value} (hy : ∀ y ∈ ys, ∃ k' c, y = Value.ref c ∧ IsN s.heap k' c) {Q : Bool → Shared → Prop} (h : Q false s) : wpAny (model P w) A (searchCouldBeSeen (.ref b) ys) Q E s := by
  unfold searchCouldBeSeen
  refine wpAny_bind ?_
  refine wpAny_forIn_list _ (fun todo r s' => r.1 = none ∧ s' = s ∧ ∀ y ∈ todo, ∃ k' c, y = Value.ref c ∧ IsN s.heap k' c) _ ?_ ?_ _ _ ⟨rfl, rfl, hy⟩
  · rintro v todo r s' ⟨_, rfl, al⟩
    obtain ⟨k', c, rfl, y⟩ := al v List.mem_cons_self
    have al2 : ∀ y ∈ todo, ∃ k' c, y = Value.ref c ∧ IsN s'.heap k' c := fun u hu => al u (List.mem_cons_of_mem _ hu)
    dsimp only
    by_cases c0 : (b == c || (carriedByValue (.ref b) && carriedByValue (.ref c))) = true
    · exact wp_if_pos c0 (wpAny_pure ⟨rfl, rfl, al2⟩)
    · refine wp_if_neg c0 (wpAny_bind (x.quiet ?_))
      simp only [Bool.not_true, Bool.false_eq_true, if_false]
      refine wpAny_bind (y.quiet ?_)
      simp only [Bool.not_true, Bool.false_eq_true, if_false]
      refine wpAny_bind (x.notCls ?_)
      simp only [Bool.false_eq_true, if_false]
      refine wpAny_bind (y.notCls ?_)
      simp only [Bool.false_eq_true, if_false]
      exact wpAny_pure ⟨rfl, rfl, al2⟩
  · rintro ⟨r1, r2⟩ s' ⟨hr, rfl, _⟩
    simp only at hr
    subst hr
    exact wpAny_pure h
end
end K33

set_option Elab.async false
set_option linter.all false
set_option maxRecDepth 100000
set_option maxHeartbeats 4000000
namespace K33
open PySem PySem.Spec PyProof.Rows L2
/-- a member: where it stands, its key -/
abbrev Mem := Addr × NestedKey
def rowsN (w : World) (L : List Mem) : List (Int × Value) := L.map fun p => (nh w p.2, Value.ref p.1)
abbrev hsN (w : World) (L : List Mem) : List Int := L.map fun p => nh w p.2
/-- at a stands a set of the members L -/
structure SetN (w : World) (h : Heap) (a : Addr) (L : List Mem) (es : Array (Int × Value)) (ep : Nat) (t : SetTable) : Prop where
  ob : ∃ o, h.get? a = some o ∧ o.ExactSet ∧ o.data = .set es ep t
  rows : es.toList = rowsN w L
  tab : TabOk t (hsN w L)
  nd : (L.map (·.2)).Nodup
  key : ∀ p ∈ L, IsN h p.2 p.1
  led : w.params.followText "set-order" = true ∨ t.led = true
  room : L.length * 5 < t.mask * 3
  few : L.length < 64
/-- the c-th step of the way from a hash -/
abbrev stp (t : SetTable) (hh : Int) (c : Nat) : SetTable.Probe := nth t.mask (runAt t.mask (SetTable.bits hh % (t.mask + 1)) (SetTable.bits hh)) c
theorem stp_add (t : SetTable) (hh : Int) (c q : Nat) : nth t.mask (stp t hh c) q = stp t hh (c + q) := (nth_add t.mask c _ q).symm
theorem stp_dummy (t : SetTable) (hh : Int) (c : Nat) : (stp t hh c).dummy = none := by
  have all : ∀ (n : Nat) (p : SetTable.Probe), p.dummy = none → (nth t.mask p n).dummy = none := fun n => by
    induction n with
    | zero => exact fun _ h => h
    | succ n ih => exact fun p h => ih _ (by unfold adv; split <;> exact h)
  exact all c _ rfl
section
variable {P : Program} {w : World} {A : Around} {E : Value → Shared → Prop} {s : Shared} {a : Addr} {L : List Mem} {es : Array (Int × Value)} {ep : Nat} {t : SetTable}
theorem rowsN_size (hr : es.toList = rowsN w L) : es.size = L.length := by
  have q := congrArg List.length hr
  simpa [rowsN] using q
theorem SetN.size (R : SetN w s.heap a L es ep t) : es.size = L.length := rowsN_size R.rows
theorem SetN.psize (R : SetN w s.heap a L es ep t) : t.place.toList.length = L.length := by
  have q := R.tab.sz
  simpa [hsN] using q
theorem SetN.fits (R : SetN w s.heap a L es ep t) : t.fits es.size = true := by
  have h1 : t.place.size = L.length := by simpa using R.psize
  have h3 := R.room
  unfold SetTable.fits SetTable.fill
  rw [R.size, R.tab.dm, h1]
  simp
  omega
theorem rowsN_at (hr : es.toList = rowsN w L) {i : Nat} {p : Mem} (h : L[i]? = some p) : es[i]? = some (nh w p.2, Value.ref p.1) := by
  rw [← Array.getElem?_toList, hr, rowsN, List.getElem?_map, h]; rfl
theorem SetN.at_ (R : SetN w s.heap a L es ep t) {i : Nat} {p : Mem} (h : L[i]? = some p) : es[i]? = some (nh w p.2, Value.ref p.1) := rowsN_at R.rows h
theorem SetN.stays (R : SetN w s.heap a L es ep t) : ¬ t.gaveWay = true := by
  unfold SetTable.gaveWay
  rw [mask_odd R.tab.mok]
  decide

/-- the search for a key, from the c-th step of its way on -/
theorem seekN (R : SetN w s.heap a L es ep t) {x : Addr} {k : NestedKey} (hx : IsN s.heap k x) (hu : A.units + 8 < cLine) {N : Nat} (hN : N < 10 * SetTable.turns t.mask)
    (free : way t.mask (nh w k) N ∉ t.place.toList) (full : ∀ c, c < N → way t.mask (nh w k) c ∈ t.place.toList) {Q : SetFound → Shared → Prop}
    (old : k ∈ L.map (·.2) → Q (.there none) s) (new : k ∉ L.map (·.2) → Q (.free (way t.mask (nh w k) N) false) s) :
    ∀ (f c : Nat) (from_ : Option SetTable.Probe), from_.getD (t.probeStart (nh w k)) = stp t (nh w k) c → c ≤ N → N - c < f →
      (∀ (i : Nat) p, L[i]? = some p → p.2 = k → ∃ c', c ≤ c' ∧ c' < N ∧ t.place.toList[i]? = some (way t.mask (nh w k) c')) → wpAny (model P w) A (setSearchFrom a (.ref x) (nh w k) true f from_) Q E s := by
  intro f
  induction f with
  | zero => intro c from_ _ _ hf; exact absurd hf (Nat.not_lt_zero _)
  | succ f ih =>
    intro c from_ hfrom hc hf ahead
    obtain ⟨o, ho, hex, hd⟩ := R.ob
    rw [setSearchFrom_succ]
    refine wpAny_bind (wpAny_setState_of ho hd R.fits ?_)
    dsimp only
    refine wp_if_neg R.stays ?_
    try refine wpAny_bind (wpAny_pure ?_)
    have eN : c + (N - c) = N := by omega
    have sj : ∀ q, (nth t.mask (stp t (nh w k) c) q).j = way t.mask (nh w k) (c + q) := fun q => congrArg SetTable.Probe.j (stp_add t (nh w k) c q)
    have met := go_spec t R.tab.ris R.tab.dm (fun i => (es[i]?.map (·.1)).getD 0) (nh w k) (10 * SetTable.turns t.mask) (N - c) _ (stp_dummy t (nh w k) c) (by omega)
      (fun q hq => by rw [sj]; exact full _ (by omega)) (by rw [sj, eN]; exact free)
    have hashOf : ∀ (i : Nat) p, L[i]? = some p → (es[i]?.map (·.1)).getD 0 = nh w p.2 := fun i p hp => by rw [R.at_ hp]; rfl
    rcases met with ⟨q, i, hq, hi, _, passed, hpr⟩ | ⟨passed, hpr⟩
    · have hpr' : t.probe (fun i => (es[i]?.map (·.1)).getD 0) (nh w k) (from_.getD (t.probeStart (nh w k))) = some (.candidate (way t.mask (nh w k) (c + q)) i (stp t (nh w k) (c + (q + 1)))) := by
        rw [hfrom, ← sj, ← stp_add]
        exact hpr
      rw [hpr']
      dsimp only
      rw [sj] at hi
      have hil : i < L.length := by rw [← R.psize]; exact (List.getElem?_eq_some_iff.mp hi).1
      obtain ⟨p, hp⟩ : ∃ p, L[i]? = some p := ⟨_, List.getElem?_eq_getElem hil⟩
      have hm : p ∈ L := List.mem_of_getElem? hp
      have go : wpAny (model P w) A (searchRest a (.ref x) (nh w k) true f es t (way t.mask (nh w k) (c + q)) i (stp t (nh w k) (c + (q + 1)))) Q E s := by
        unfold searchRest
        rw [R.at_ hp]
        dsimp only
        refine wpAny_bind (wpAny_holding ((R.key p hm).eq hx hu ?_))
        refine wpAny_bind (wpAny_setState_of ho hd R.fits ?_)
        dsimp only
        by_cases same : p.2 = k
        · exact wp_if_pos (by simp [same]) (wpAny_pure (old (List.mem_map.mpr ⟨p, hm, same⟩)))
        · refine wp_if_neg (by simp [same]) ?_
          try refine wpAny_bind (wpAny_pure ?_)
          rw [sameMem]
          dsimp only
          have live : t.slot (way t.mask (nh w k) (c + q)) = .live i := slot_live R.tab.ris hi
          simp only [if_true, live, R.at_ hp]
          refine wpAny_bind (wpAny_isSame_ref_self (wpAny_bind (wpAny_pure ?_)))
          simp only [if_true]
          refine wp_if_neg (by simp [same]) ?_
          refine ih (c + (q + 1)) _ rfl (by omega) (by omega) fun i0 p0 h0 k0 => ?_
          obtain ⟨c', a1, a2, a3⟩ := ahead i0 p0 h0 k0
          refine ⟨c', ?_, a2, a3⟩
          apply Classical.byContradiction
          intro hlt
          rcases Nat.lt_or_ge c' (c + q) with z | z
          · refine passed (c' - c) i0 (by omega) (by rw [sj, show c + (c' - c) = c' by omega]; exact a3) ?_
            rw [hashOf i0 p0 h0, k0]
          · have ec : c' = c + q := by omega
            rw [ec] at a3
            have l2 := slot_live R.tab.ris a3
            rw [live] at l2
            injection l2 with l2
            rw [← l2, hp] at h0
            injection h0 with h0
            exact same (by rw [h0, k0])
      by_cases hl : t.led = true
      · refine wp_if_neg (by simp [hl]) ?_
        try refine wpAny_bind (wpAny_pure ?_)
        exact go
      · refine wp_if_pos (by simp [hl]) ?_
        refine wpAny_bind (hx.unseen (fun y hy => ?_) ?_)
        · obtain ⟨e, he, rfl⟩ := List.mem_map.mp hy
          have he2 : e ∈ es.toList := by
            have q1 : e ∈ es ∧ e.1 = nh w k := by simpa using he
            simpa using q1.1
          rw [R.rows, rowsN] at he2
          obtain ⟨p2, hp2, rfl⟩ := List.mem_map.mp he2
          exact ⟨_, _, rfl, R.key p2 hp2⟩
        · refine wp_if_neg (by decide) ?_
          try refine wpAny_bind (wpAny_pure ?_)
          exact go
    · have hpr' : t.probe (fun i => (es[i]?.map (·.1)).getD 0) (nh w k) (from_.getD (t.probeStart (nh w k))) = some (.empty (way t.mask (nh w k) N) none) := by
        rw [hfrom, show way t.mask (nh w k) N = (nth t.mask (stp t (nh w k) c) (N - c)).j from by rw [sj, eN]]
        exact hpr
      rw [hpr']
      dsimp only
      refine wpAny_pure (new fun hm => ?_)
      obtain ⟨p0, h0, k0⟩ := List.mem_map.mp hm
      obtain ⟨i0, q0⟩ := List.mem_iff_getElem?.mp h0
      obtain ⟨c', a1, a2, a3⟩ := ahead i0 p0 q0 k0
      refine passed (c' - c) i0 (by omega) (by rw [sj, show c + (c' - c) = c' by omega]; exact a3) ?_
      rw [hashOf i0 p0 q0, k0]
/-- the search as adding asks for it -/
theorem findN (R : SetN w s.heap a L es ep t) {x : Addr} {k : NestedKey} (hx : IsN s.heap k x) (hu : A.units + 8 < cLine) {Q : SetFound → Shared → Prop} (old : k ∈ L.map (·.2) → Q (.there none) s)
    (new : ∀ N, k ∉ L.map (·.2) → way t.mask (nh w k) N ∉ t.place.toList → (∀ c, c < N → way t.mask (nh w k) c ∈ t.place.toList) → Q (.free (way t.mask (nh w k) N) false) s) :
    wpAny (model P w) A (setSearch a (.ref x) (nh w k) true) Q E s := by
  have room := R.room
  obtain ⟨N, hN, free, full⟩ := R.tab.first (by simp only [hsN, List.length_map]; omega) (nh w k)
  have big : N < 100000 := by
    have : 10 * SetTable.turns t.mask ≤ 1420 := by
      unfold SetTable.turns
      rcases R.tab.mok with e | e | e <;> omega
    omega
  unfold setSearch
  refine seekN R hx hu hN free full old (fun hn => new N hn free full) 100000 0 none rfl (Nat.zero_le _) (by omega) fun i p hp hk => ?_
  have hi : (hsN w L)[i]? = some (nh w k) := by rw [hsN, List.getElem?_map, hp, ← hk]; rfl
  have hil : i < t.place.toList.length := by rw [R.psize]; exact (List.getElem?_eq_some_iff.mp hp).1
  obtain ⟨c, hc, e⟩ := R.tab.before free hi (List.getElem?_eq_getElem hil)
  exact ⟨c, Nat.zero_le _, hc, by rw [List.getElem?_eq_getElem hil, e]⟩

/-- the rows in another order -/
theorem rowsN_order (order : Array Nat) (hr : es.toList = rowsN w L) (hp : order.toList.Perm (List.range L.length)) :
    ∃ L2, (order.filterMap (es[·]?)).toList = rowsN w L2 ∧ L2.Perm L ∧ hsN w L2 = order.toList.map fun i => (es.map (·.1)).getD i 0 := by
  have key : ∀ l : List Nat, (∀ i ∈ l, i < L.length) → l.filterMap (fun i => es[i]?) = rowsN w (l.filterMap fun i => L[i]?) ∧ hsN w (l.filterMap fun i => L[i]?) = l.map fun i => (es.map (·.1)).getD i 0 := by
    intro l
    induction l with
    | nil => exact fun _ => ⟨rfl, rfl⟩
    | cons i l ih =>
      intro hl
      obtain ⟨e1, e3⟩ := ih fun j hj => hl j (List.mem_cons_of_mem _ hj)
      have hi := List.getElem?_eq_getElem (hl i List.mem_cons_self)
      have ei := rowsN_at (w := w) hr hi
      rw [List.filterMap_cons_some ei, List.filterMap_cons_some hi, e1]
      refine ⟨rfl, ?_⟩
      rw [List.map_cons, ← e3]
      have e4 : (es.map (·.1)).getD i 0 = nh w (L[i]'(hl i List.mem_cons_self)).2 := by simp [Array.getD_eq_getD_getElem?, ei]
      rw [e4]
      rfl
  obtain ⟨e1, e3⟩ := key order.toList fun i hi => List.mem_range.mp (hp.mem_iff.mp hi)
  refine ⟨_, by first | (rw [Array.toList_filterMap]; exact e1) | simpa using e1, ?_, e3⟩
  have all : ∀ n, n ≤ L.length → (List.range n).filterMap (fun i => L[i]?) = L.take n := by
    intro n
    induction n with
    | zero => exact fun _ => rfl
    | succ n ih =>
      intro hn
      have hlt : n < L.length := hn
      rw [List.range_succ, List.filterMap_append, ih (Nat.le_of_lt hlt), List.take_succ, List.getElem?_eq_getElem hlt, List.filterMap_cons_some (List.getElem?_eq_getElem hlt)]
      rfl
  have q := hp.filterMap fun i => L[i]?
  rw [all L.length (Nat.le_refl _), List.take_length] at q
  exact q
end
end K33

set_option Elab.async false
set_option linter.all false
set_option maxRecDepth 100000
set_option maxHeartbeats 4000000
namespace K33
open PySem PySem.Spec PyProof.Rows L2
section
variable {P : Program} {w : World} {A : Around} {E : Value → Shared → Prop} {s : Shared} {a : Addr} {L : List Mem} {es : Array (Int × Value)} {ep : Nat} {t : SetTable}
/-- what stands at a ahead of a relay -/
structure PreN (w : World) (h : Heap) (a : Addr) (L : List Mem) (es : Array (Int × Value)) (ep : Nat) (t : SetTable) : Prop where
  ob : ∃ o, h.get? a = some o ∧ o.ExactSet ∧ o.data = .set es ep t
  rows : es.toList = rowsN w L
  sz : t.place.size = es.size
  dm : t.dummies = #[]
  fill : es.size ≤ t.mask
  nd : (L.map (·.2)).Nodup
  key : ∀ p ∈ L, IsN h p.2 p.1
  led : w.params.followText "set-order" = true ∨ t.led = true
  few : L.length < 64
theorem PreN.fits (R : PreN w s.heap a L es ep t) : t.fits es.size = true := by
  have h1 := R.sz
  have h2 := R.fill
  unfold SetTable.fits SetTable.fill
  rw [R.dm, h1]
  simp
  omega
theorem relayN (R : PreN w s.heap a L es ep t) {wanted M : Nat} (hw : SetTable.sizeAbove wanted - 1 = M) (hM : MaskOk M) (hw2 : SetTable.sizeAbove wanted ≤ 128) (hn : L.length * 5 < M * 3) {Q : Unit → Shared → Prop}
    (hQ : ∀ h' L' es' ep' t', Heap.SameBut a s.heap h' → SetN w h' a L' es' ep' t' → L'.Perm L → Q () { s with heap := h' }) : wpAny (model P w) A (setRelay a wanted) Q E s := by
  obtain ⟨o, ho, hex, hd⟩ := R.ob
  have hsl : es.size = L.length := rowsN_size R.rows
  have few := R.few
  obtain ⟨t', order, e, hp, T, em, el, _, _⟩ := relaid_ok t (hs := es.map (·.1)) (wanted := wanted) hw hM (by rw [Array.size_map, hsl]; omega)
  rw [Array.size_map, hsl] at hp
  obtain ⟨L2, r1, r2, r3⟩ := rowsN_order (w := w) order R.rows hp
  rw [← r3] at T
  have hs2 : (order.filterMap (es[·]?)).size = es.size := by rw [rowsN_size r1, r2.length_eq, hsl]
  rw [setRelay_eq]
  refine wpAny_bind (wpAny_setState_of ho hd R.fits ?_)
  dsimp only
  refine wp_if_neg (by rw [sizeLine_eq]; omega) ?_
  try refine wpAny_bind (wpAny_pure ?_)
  rw [e]
  dsimp only
  refine wpAny_bind (wp_if_neg (by rw [hs2]; simp) ?_)
  try refine wpAny_bind (wpAny_pure ?_)
  refine wpAny_pure ?_
  dsimp only
  refine wpAny_storeSet_of ho hd ?_ (by rw [hs2, hsl, sizeLine_eq]; omega)
  have sb : Heap.SameBut a s.heap (s.heap.update a (Obj.putSet (order.filterMap (es[·]?)) t')) := Heap.SameBut.update ..
  refine hQ _ L2 _ (ep + 1) t' sb ⟨⟨_, store_at ho hd, ⟨hex.1, hex.2.1, hex.2.2⟩, rfl⟩, r1, T, (r2.map (·.2)).nodup_iff.mpr R.nd, fun p hpm => (R.key p (r2.mem_iff.mp hpm)).aside ho hd sb, by rw [el]; exact R.led, ?_, by rw [r2.length_eq]; exact few⟩ r2
  rw [r2.length_eq, em]
  exact hn
theorem rowsN_put (L : List Mem) (p : Nat) (x : Addr) (k : NestedKey) : rowsN w (L.take p ++ (x, k) :: L.drop p) = (rowsN w L).take p ++ (nh w k, Value.ref x) :: (rowsN w L).drop p := by
  simp [rowsN]
/-- a key put in -/
theorem addN (R : SetN w s.heap a L es ep t) {x : Addr} {k : NestedKey} (hx : IsN s.heap k x) (hu : A.units + 8 < cLine) (hfew : L.length + 1 < 64) {Q : Bool → Shared → Prop}
    (hQ : ∀ b h' L' es' ep' t', Heap.SameBut a s.heap h' → SetN w h' a L' es' ep' t' → (L' = L ∨ L'.Perm ((x, k) :: L)) → Q b { s with heap := h' }) : wpAny (model P w) A (setAddHashed a (.ref x) (nh w k)) Q E s := by
  obtain ⟨o, ho, hex, hd⟩ := R.ob
  have hsl := R.size
  have room := R.room
  unfold setAddHashed
  refine wpAny_holding ?_
  rw [show (100000 : Nat) = 99999 + 1 from rfl, setAddHashedIn_succ]
  refine wpAny_bind (wpAny_setState_of ho hd R.fits ?_)
  dsimp only
  refine wp_if_neg (by simp [byScan, Value.scannable]) ?_
  try refine wpAny_bind (wpAny_pure ?_)
  refine wpAny_bind (findN R hx hu (fun _ => ?_) fun N hm free full => ?_)
  · dsimp only
    exact wpAny_pure (hQ false s.heap L es ep t (Heap.SameBut.refl a s.heap) R (.inl rfl))
  dsimp only
  refine wpAny_bind (wpAny_setState_of ho hd R.fits ?_)
  dsimp only
  obtain ⟨q1, q2, q3, q4, q5, _, _, _, q9⟩ := R.tab.put free full
  generalize hpt : t.put (way t.mask (nh w k) N) = pt at q1 q3 q4 q5 q9 ⊢
  obtain ⟨t1, p⟩ := pt
  dsimp only at q1 q3 q4 q5 q9 ⊢
  have hin : (SetTable.insertAt es p (nh w k, Value.ref x)).toList = rowsN w (L.take p ++ (x, k) :: L.drop p) := by rw [SetTable.toList_insertAt, rowsN_put, R.rows]
  have pm := put_perm L p ((x, k) : Mem)
  have hlen : (L.take p ++ (x, k) :: L.drop p).length = L.length + 1 := pm.length_eq
  have hhs : hsN w (L.take p ++ (x, k) :: L.drop p) = (hsN w L).take p ++ nh w k :: (hsN w L).drop p := by simp [hsN]
  rw [← q1, ← hhs] at q3
  have nd1 : ((L.take p ++ (x, k) :: L.drop p).map (·.2)).Nodup := by
    refine (pm.map (·.2)).nodup_iff.mpr ?_
    rw [List.map_cons]
    exact List.nodup_cons.mpr ⟨hm, R.nd⟩
  have hes : (SetTable.insertAt es p (nh w k, Value.ref x)).size = L.length + 1 := by rw [rowsN_size hin, hlen]
  generalize SetTable.insertAt es p (nh w k, Value.ref x) = es1 at hin hes ⊢
  generalize L.take p ++ (x, k) :: L.drop p = L1 at pm hlen q3 nd1 hin
  -- whatever is noted of the hashes, the table is as sound
  have fin : ∀ t2 : SetTable, t2.mask = t1.mask → t2.place = t1.place → t2.dummies = t1.dummies → t2.led = t1.led → wpAny (model P w) A (do
      storeSet a es1 t2
      if (!false && t2.tooFull) = true then setRelay a (SetTable.grown (es.size + 1))
      return true) Q E s := by
    intro t2 m1 m2 m3 m4
    have T2 : TabOk t2 (hsN w L1) := by
      obtain ⟨c1, c2, c3, c4, c5, c6⟩ := q3
      exact ⟨by rw [m2]; exact c1, by rw [m3]; exact c2, by rw [m2]; exact c3, by rw [m1]; exact c4, by rw [m1, m2]; exact c5, by rw [m1, m2]; exact c6⟩
    have full2 : t2.fill = L.length + 1 := by
      have e9 : t2.fill = t1.fill := by unfold SetTable.fill; rw [m2, m3]
      rw [e9, q9]; simp [hsN]
    have hmask : t2.mask = t.mask := m1.trans q4
    have led2 : w.params.followText "set-order" = true ∨ t2.led = true := by rw [m4, q5]; exact R.led
    refine wpAny_bind (wpAny_storeSet_of ho hd ?_ (by rw [hes, sizeLine_eq]; omega))
    have sb : Heap.SameBut a s.heap (s.heap.update a (Obj.putSet es1 t2)) := Heap.SameBut.update ..
    have ho1 := store_at (es' := es1) (t' := t2) ho hd
    generalize s.heap.update a (Obj.putSet es1 t2) = h1 at sb ho1 ⊢
    have key1 : ∀ p ∈ L1, IsN h1 p.2 p.1 := fun p hp => by
      rcases List.mem_cons.mp (pm.mem_iff.mp hp) with e | hp
      · rw [e]; exact hx.aside ho hd sb
      · exact (R.key p hp).aside ho hd sb
    have ob1 : ∃ o, h1.get? a = some o ∧ o.ExactSet ∧ o.data = .set es1 (ep + 1) t2 := ⟨_, ho1, ⟨hex.1, hex.2.1, hex.2.2⟩, rfl⟩
    by_cases hf : t2.tooFull = true
    · have hfull : (L.length + 1) * 5 ≥ t2.mask * 3 := by
        have h := hf
        unfold SetTable.tooFull at h
        rw [decide_eq_true_eq, full2] at h
        exact h
      rw [hmask] at hfull
      have two : (t.mask = 7 ∧ L.length = 4) ∨ (t.mask = 31 ∧ L.length = 18) := by
        rcases R.tab.mok with e | e | e
        · left; rw [e] at hfull room; exact ⟨e, by omega⟩
        · right; rw [e] at hfull room; exact ⟨e, by omega⟩
        · exfalso; rw [e] at hfull; omega
      have sz1 : t2.place.size = es1.size := by rw [T2.sz, hes]; simp [hsN, hlen]
      have go : ∀ M, SetTable.sizeAbove (SetTable.grown (L.length + 1)) - 1 = M → MaskOk M → SetTable.sizeAbove (SetTable.grown (L.length + 1)) ≤ 128 → (L.length + 1) * 5 < M * 3 →
          wpAny (model P w) A (setRelay a (SetTable.grown (L.length + 1))) (fun _ s' => wpAny (model P w) A (pure true) Q E s') E { s with heap := h1 } := fun M a1 a2 a3 a4 => by
        refine relayN (s := { s with heap := h1 }) ⟨ob1, hin, sz1, T2.dm, by rw [hes, hmask]; rcases two with ⟨e, e2⟩ | ⟨e, e2⟩ <;> omega, nd1, key1, led2, by rw [hlen]; exact hfew⟩ a1 a2 a3 (by rw [hlen]; exact a4) ?_
        intro h2 L2 es2 ep2 t2' sb2 R2 pm2
        exact wpAny_pure (hQ true h2 L2 es2 ep2 t2' (sb.trans sb2) R2 (.inr (pm2.trans pm)))
      rw [hsl]
      first
        | (refine wpAny_bind ?_; refine wp_if_pos (by simp [hf]) ?_)
        | (refine wp_if_pos (by simp [hf]) ?_; refine wpAny_bind ?_)
      rcases two with ⟨_, e2⟩ | ⟨_, e2⟩
      · exact go 31 (by rw [e2, size_20]) (.inr (.inl rfl)) (by rw [e2, size_20]; decide) (by omega)
      · exact go 127 (by rw [e2, size_76]) (.inr (.inr rfl)) (by rw [e2, size_76]; decide) (by omega)
    · first
        | refine wp_if_neg (by simp [hf]) ?_
        | (refine wpAny_bind ?_; refine wp_if_neg (by simp [hf]) ?_; refine wpAny_pure ?_)
      refine wpAny_pure (hQ true h1 L1 es1 (ep + 1) t2 sb ⟨ob1, hin, T2, nd1, key1, led2, ?_, by rw [hlen]; exact hfew⟩ (.inr pm))
      have h := hf
      unfold SetTable.tooFull at h
      rw [decide_eq_true_eq, full2] at h
      rw [hlen]
      omega
  by_cases hp1 : t1.plain = true
  · first
      | (refine wpAny_bind ?_; refine wp_if_pos hp1 ?_; refine hx.byHash ?_)
      | refine wp_if_pos hp1 (wpAny_bind (hx.byHash ?_))
    simp only [Bool.false_eq_true, if_false]
    exact fin _ rfl rfl rfl rfl
  · first
      | (refine wpAny_bind ?_; refine wp_if_neg hp1 ?_; refine wpAny_pure ?_)
      | refine wp_if_neg hp1 (wpAny_bind (wpAny_pure ?_))
      | refine wp_if_neg hp1 ?_
    simp only [if_true]
    exact fin _ rfl rfl rfl rfl
end
end K33

set_option Elab.async false
set_option linter.all false
set_option maxRecDepth 100000
set_option maxHeartbeats 8000000
namespace K33
open PySem PySem.Spec PyProof.Rows L2
section
variable {P : Program} {w : World} {A : Around} {E : Value → Shared → Prop} {s : Shared}
theorem SetN.moved {h h' : Heap} {a : Addr} {L : List Mem} {es : Array (Int × Value)} {ep : Nat} {t : SetTable} (R : SetN w h a L es ep t) (ha : ∀ o, h.get? a = some o → h'.get? a = some o) (hk : ∀ p ∈ L, IsN h' p.2 p.1) : SetN w h' a L es ep t := by
  obtain ⟨o, ho, r⟩ := R.ob
  exact ⟨⟨o, ha o ho, r⟩, R.rows, R.tab, R.nd, hk, R.led, R.room, R.few⟩
abbrev newSet (w : World) : Obj := { cls := .type "set", dict := none, data := .set #[] 0 (.fresh 0 0 (!w.params.followText "set-order")) }
theorem SetN.fresh {h : Heap} {a : Addr} (ho : h.get? a = some (newSet w)) : SetN w h a [] #[] 0 (.fresh 0 0 (!w.params.followText "set-order")) where
  ob := ⟨_, ho, ⟨rfl, rfl, rfl⟩, rfl⟩
  rows := rfl
  tab := ⟨List.Pairwise.nil, rfl, rfl, .inl rfl, fun x hx => (by cases hx), fun i h j hi => (by simp at hi)⟩
  nd := List.nodup_nil
  key := fun p hp => (by cases hp)
  led := by
    show _ ∨ (!w.params.followText "set-order") = true
    cases w.params.followText "set-order"
    · exact .inr rfl
    · exact .inl rfl
  room := by show 0 * 5 < 7 * 3; decide
  few := by show 0 < 64; decide
/-- what the set has of the first i items -/
structure Had (ks : List Mem) (i : Nat) (L : List Mem) : Prop where
  sub : ∀ p ∈ L, p ∈ ks
  len : L.length ≤ i
/-- the loop of set.update -/
theorem updateN {I : Addr} {fp wr : List Addr} {G : Array GenState → Array GenState → Prop} {n : Nat} {Pv : Nat → Value → Prop} {St : Nat → Shared → Prop} {R : Result → Shared → Prop} (W : WalksS P w A.in1 I fp wr G n Pv St) (S : Addr) (hS : S ∉ fp)
    (ks : List Mem) (hn : n = ks.length) (hfew : ks.length < 64) (hval : ∀ i v, Pv i v → ∃ p, ks[i]? = some p ∧ v = .ref p.1) (h0 : Heap) (hk : ∀ p ∈ ks, IsN h0 p.2 p.1) (hS0 : h0.get? S = none) (hw0 : ∀ b ∈ wr, h0.get? b = none) (hu : A.in1.units + 8 < cLine) :
    ∀ (k i : Nat) (s : Shared), n - i = k → i ≤ n → St i s → (∀ b o, h0.get? b = some o → s.heap.get? b = some o) → (∃ L es ep t, SetN w s.heap S L es ep t ∧ Had ks i L) →
      (∀ s' L es ep t, Moved (S :: wr) G s s' → SetN w s'.heap S L es ep t → Had ks n L → (∀ b o, h0.get? b = some o → s'.heap.get? b = some o) → R (.ok (.ret .none)) s') →
      codeAny (model P w) A (.builtin "set.update.loop" ⟨[.ref S, .ref I], []⟩) R s := by
  have wider : ∀ b ∈ wr, b ∈ S :: wr := fun b hb => List.mem_cons_of_mem _ hb
  have hSw : S ∉ wr := fun h => hS (W.sub _ h)
  have keep : ∀ {s s' : Shared}, Moved wr G s s' → (∀ b o, h0.get? b = some o → s.heap.get? b = some o) → ∀ b o, h0.get? b = some o → s'.heap.get? b = some o := fun hm q b o e =>
    hm.heap b o (fun hb => by rw [hw0 b hb] at e; cases e) (q b o e)
  intro k
  induction k with
  | zero =>
    intro i s hi0 hi hst hq ⟨L, es, ep, t, R0, had⟩ hR
    obtain rfl : i = n := by omega
    refine codeAny_builtin F.entry_set_update_loop ?_
    rw [Around.under_plainId F.plain_set_update_loop _]
    show wpAny _ A.in1 (pyNext (.ref I) >>= _) _ _ s
    refine wpAny_bind (W.done s _ _ hst fun s' hm => ?_)
    show wpAny _ A.in1 (ret Value.none) _ _ s'
    have hq' := keep hm hq
    exact wpAny_pure (hR s' L es ep t (hm.mono wider) (R0.moved (fun o e => hm.heap S o hSw e) fun p hp => (hk p (had.sub p hp)).kept hq') had hq')
  | succ k ih =>
    intro i s hi0 hi hst hq ⟨L, es, ep, t, R0, had⟩ hR
    have hlt : i < n := by omega
    refine codeAny_builtin F.entry_set_update_loop ?_
    rw [Around.under_plainId F.plain_set_update_loop _]
    show wpAny _ A.in1 (pyNext (.ref I) >>= _) _ _ s
    refine wpAny_bind (W.item i s _ _ hlt hst fun v s' hP hst' hm => ?_)
    obtain ⟨p, hp, rfl⟩ := hval i v hP
    have hq' := keep hm hq
    have hpm : p ∈ ks := List.mem_of_getElem? hp
    have R1 : SetN w s'.heap S L es ep t := R0.moved (fun o e => hm.heap S o hSw e) fun q h => (hk q (had.sub q h)).kept hq'
    have hx : IsN s'.heap p.2 p.1 := (hk p hpm).kept hq'
    show wpAny _ A.in1 (holding [Value.ref p.1] (setAdd S (.ref p.1)) >>= _) _ _ s'
    refine wpAny_bind (wpAny_holding ?_)
    unfold setAdd
    refine wpAny_holding ?_
    refine wpAny_bind (hx.hash hu ?_)
    refine addN (s := { s' with toks := s'.toks + p.2.draws }) R1 hx hu (by have := had.len; omega) fun b h' L' es' ep' t' hsb R2 hL => ?_
    have had' : Had ks (i + 1) L' := by
      rcases hL with rfl | pm
      · exact ⟨had.sub, Nat.le_succ_of_le had.len⟩
      · refine ⟨fun q hq => ?_, by rw [pm.length_eq, List.length_cons]; exact Nat.succ_le_succ had.len⟩
        rcases List.mem_cons.mp (pm.mem_iff.mp hq) with e | z
        · rw [e]; exact hpm
        · exact had.sub q z
    have hq2 : ∀ b o, h0.get? b = some o → h'.get? b = some o := fun b o e => (hsb.2 b (fun z => by rw [z, hS0] at e; cases e)).trans (hq' b o e)
    refine wpAny_pure ⟨plainId_quiet F.plain_set_update_loop _, ih (i + 1) _ (by omega) hlt (W.frame _ s' _ _ hst' (Nat.le_add_right _ _) fun b hb o e => ?_) hq2 ⟨L', es', ep', t', R2, had'⟩ fun s'' L2 es2 ep2 t2 hm'' R3 had2 hq3 => ?_⟩
    · rw [hsb.2 b (fun h : b = S => hS (by rw [← h]; exact hb))]; exact e
    · refine hR s'' L2 es2 ep2 t2 (Moved.trans W.gtrans ((hm.mono wider).then_heap (Nat.le_add_right _ _) fun b o hb e => ?_) hm'') R3 had2 hq3
      rw [hsb.2 b (fun h : b = S => hb (by rw [h]; exact List.mem_cons_self))]; exact e

theorem cutSet {S : Addr} (hT : s.TypeIs (.ref S) "set") {Q : String → Shared → Prop} (h : ∀ n, Q n s) : wpAny (model P w) A (typeNameOfCut 200 (.ref S)) Q E s := by
  unfold typeNameOfCut
  refine wpAny_bind ?_
  have z : wpAny (model P w) A (shownTypeOf (.ref S)) (fun t s' => t = .type "set" ∧ s' = s) E s := by
    wp_walk
    all_goals first | exact ⟨rfl, rfl⟩ | assumption
  refine wpAny_mono z (fun t s' e => ?_) fun _ _ e => e
  obtain ⟨rfl, rfl⟩ := e
  show wpAny _ _ (typeName (.type "set")) _ _ _
  unfold typeName
  exact wpAny_pure (h _)
/-- set's __init__ of one argument, over what the update does -/
theorem initSet {S : Addr} {v : Value} {es : Array (Int × Value)} {ep : Nat} {t : SetTable} {o : Obj} (ho : s.heap.get? S = some o) (hc : o.cls = .type "set") (hd : o.data = .set es ep t) (hf : t.fits es.size = true) (h0 : t.fill = 0) {Q : PySem.Fin → Shared → Prop}
    (hU : wpAny (model P w) A (Builtin.Frozenset.updateFrom "set.__init__" S v) (fun _ s' => Q (.done (.ret .none)) s') E s) : wpAny (model P w) A (Builtin.«set.__init__» ⟨[.ref S, v], []⟩) Q E s := by
  unfold Builtin.«set.__init__» noKeywords
  dsimp only
  refine wpAny_bind (wp_if_pos rfl (wpAny_pure ?_))
  refine wpAny_bind (cutSet ⟨o, ho, hc⟩ fun n => ?_)
  refine wpAny_bind (m := checkCount n 0 1 _) (wpAny_pure ?_)
  refine wpAny_bind (m := Builtin.Frozenset.addrOf (.ref S)) (wpAny_pure ?_)
  have used : wpAny (model P w) A (setUsed S) (fun b s' => b = false ∧ s' = s) E s := by
    unfold setUsed
    refine wpAny_bind (wpAny_setState_of ho hd hf (wpAny_pure ⟨?_, rfl⟩))
    show (t.fill != 0) = false
    rw [h0]
    rfl
  refine wpAny_bind (wpAny_mono used (fun b s' e => ?_) fun _ _ e => e)
  obtain ⟨rfl, rfl⟩ := e
  refine wp_if_neg (by decide) ?_
  refine wpAny_bind (wpAny_mono hU (fun _ s'' q => wpAny_pure q) fun _ _ e => e)
/-- set(v), over what the update does -/
theorem callSet_any {v : Value} {Q : Value → Shared → Prop}
    (hU : wpAny (model P w) A.in1.in1 (Builtin.Frozenset.updateFrom "set.__init__" s.heap.objs.size v) (fun _ s' => Q (.ref s.heap.objs.size) s') E { s with heap := s.heap.push (newSet w) }) : wpAny (model P w) A (call (.type "set") [v]) Q E s := by
  obtain ⟨c, tl, hmro⟩ := F.called_set.mro
  have hmade := F.called_set.made
  have hsub := F.called_set.sub
  refine wpAny_call (codeAny_of_tree ?_)
  show wpAny _ _ (callAny (.type "set") _) _ _ _
  refine wpAny_pure ⟨Code.quiet_builtin _ (by decide +kernel), codeAny_builtin F.entry_type_call ?_⟩
  rw [Around.under_plain (weight_type_call_type "set" [v] []) rfl]
  have h1 := F.called_set.notType
  have h2 := F.called_set.canCreate
  have hct := F.typeCall_set_1 v
  repeat (any_goals (first | assumption | wp_step))
  refine codeAny_mono (code_set_led1 v (E := E) (Q₁ := fun obj s₁ => obj = .ref s.heap.objs.size ∧ s₁ = { s with heap := s.heap.push (newSet w) }) ⟨rfl, rfl⟩) fun r s₁ hr => ?_
  cases r with
  | error e => exact hr
  | ok fl =>
    cases fl with
    | ret obj =>
      obtain ⟨rfl, rfl⟩ := hr
      have hS : (s.heap.push (newSet w)).get? s.heap.objs.size = some (newSet w) := Heap.get?_push_size _ rfl
      have hT : Shared.TypeIs { s with heap := s.heap.push (newSet w) } (.ref s.heap.objs.size) "set" := ⟨_, hS, rfl⟩
      have hli := F.called_set.init.lookup
      have hbi := F.called_set.init.bind (.ref s.heap.objs.size)
      repeat (any_goals (first | assumption | wp_step))
      refine codeAny_mono (codeAny_call_builtin (R := wants (fun r s₂ => r = .none ∧ Q (.ref s.heap.objs.size) s₂) E) F.called_set.init.plain F.entry_set_init (check_set_init_1 hT ?_)) fun r₂ s₂ hr₂ => ?_
      · refine initSet (s := { s with heap := s.heap.push (newSet w) }) hS rfl rfl rfl rfl ?_
        exact wpAny_mono hU (fun _ s' q => ⟨rfl, q⟩) fun _ _ e => e
      · cases r₂ with
        | error e => exact hr₂
        | ok fl₂ =>
          cases fl₂ with
          | ret r =>
            obtain ⟨rfl, q⟩ := hr₂
            repeat (any_goals (first | assumption | wp_step))
          | _ => exact hr₂.elim
    | _ => exact hr.elim

/-- set(xs), xs a list -/
theorem callSet_list {l : Addr} {items : Array Value} (ks : List Mem) {Q : Value → Shared → Prop} (hh : A.handled = none) (hl : s.heap.IsList l items) (hit : items.toList = ks.map fun p => Value.ref p.1) (hk : ∀ p ∈ ks, IsN s.heap p.2 p.1) (hfew : ks.length < 64) (hu : A.units + 16 < cLine)
    (h : ∀ (h' : Heap) (tk : Nat) L es ep t, SetN w h' s.heap.objs.size L es ep t → Had ks ks.length L → (∀ b o, s.heap.get? b = some o → h'.get? b = some o) → Q (.ref s.heap.objs.size) { s with heap := h', toks := tk }) :
    wpAny (model P w) A (call (.type "set") [.ref l]) Q E s := by
  refine callSet_any ?_
  have hisz : items.size = ks.length := by
    have q := congrArg List.length hit
    simpa using q
  have hS : (s.heap.push (newSet w)).get? s.heap.objs.size = some (newSet w) := Heap.get?_push_size _ rfl
  have hl1 : (s.heap.push (newSet w)).IsList l items := hl.push _
  have hT : Shared.TypeIs { s with heap := s.heap.push (newSet w) } (.ref l) "list" := by
    obtain ⟨o, ho, hc, _⟩ := hl1
    exact ⟨o, ho, hc⟩
  have hlS : l < s.heap.objs.size := by
    obtain ⟨o, ho, _⟩ := hl
    exact Heap.lt_size ho
  unfold Builtin.Frozenset.updateFrom Builtin.Frozenset.isAnySet
  refine wpAny_bind ?_
  have no : wpAny (model P w) A.in1.in1 (isInstance (.ref l) (.type "set") <||> isInstance (.ref l) (.type "frozenset")) (fun b s' => b = false ∧ s' = { s with heap := s.heap.push (newSet w) }) E { s with heap := s.heap.push (newSet w) } := by
    refine wpAny_bind (wpAny_isInstance hT F.sub_list_set ?_)
    exact wpAny_isInstance hT F.sub_list_frozenset ⟨rfl, rfl⟩
  refine wpAny_mono no (fun b s' e => ?_) fun _ _ e => e
  obtain ⟨rfl, rfl⟩ := e
  refine wp_if_neg (by decide) ?_
  try refine wpAny_bind (wpAny_pure ?_)
  refine wpAny_bind (wpAny_typeOf hT ?_)
  refine wp_if_neg (by decide) ?_
  try refine wpAny_bind (wpAny_pure ?_)
  refine wpAny_bind (wpAny_pyIter_list hl1 ?_)
  refine wpAny_bind (wpAny_runValue ?_)
  have hh3 : A.in1.in1.in1.handled = none := by simp [hh]
  have hneI : l ≠ (s.heap.push (newSet w)).objs.size := by
    rw [Heap.size_push]; exact Nat.ne_of_lt (Nat.lt_succ_of_lt hlS)
  have hSf : s.heap.objs.size ∉ [(s.heap.push (newSet w)).objs.size, l] := by
    rw [Heap.size_push]; simp only [List.mem_cons, List.mem_singleton, List.not_mem_nil, or_false, not_or]
    exact ⟨Nat.ne_of_lt (Nat.lt_succ_self _), Nat.ne_of_gt hlS⟩
  have hval : ∀ (i : Nat) (v : Value), items[i]? = some v → ∃ p, ks[i]? = some p ∧ v = .ref p.1 := fun i v hv => by
    have q : items.toList[i]? = some v := by rw [Array.getElem?_toList]; exact hv
    rw [hit, List.getElem?_map] at q
    cases hq : ks[i]? with
    | none => rw [hq] at q; cases q
    | some p => rw [hq] at q; exact ⟨p, rfl, (Option.some.inj q).symm⟩
  have none_of : ∀ b, s.heap.objs.size ≤ b → s.heap.get? b = none := fun b hb => by
    cases q : s.heap.get? b with
    | none => rfl
    | some o => exact absurd (Nat.lt_of_lt_of_le (Heap.lt_size q) hb) (Nat.lt_irrefl _)
  refine updateN ((Walks.list hh3 _ l hneI items).toS) s.heap.objs.size hSf ks hisz hfew hval s.heap hk (none_of _ (Nat.le_refl _)) (fun b hb => none_of b (by
      rw [List.mem_singleton.mp hb, Heap.size_push]
      exact Nat.le_succ _)) (by simp only [Around.in1_units]; omega) (items.size - 0) 0 _ (by omega) (Nat.zero_le _)
    ⟨⟨_, Heap.get?_push_size _ rfl, rfl, rfl⟩, (hl1.push _)⟩ (fun b o e => Heap.get?_push_of_some _ (Heap.get?_push_of_some _ e)) ?hS0 ?hR
  case hS0 => exact ⟨[], #[], 0, _, SetN.fresh (Heap.get?_push_of_some _ hS), ⟨fun p hp => (by cases hp), Nat.le_refl _⟩⟩
  case hR =>
    intro s' L es ep t hm hS' g' hkp
    obtain ⟨h', g2, d', tk', os'⟩ := s'
    have eg : g2 = s.gens := hm.gens
    have ed : d' = s.drawn := hm.drawn
    have eo : os' = s.os := hm.os
    subst eg; subst ed; subst eo
    rw [hisz] at g'
    exact wpAny_pure (h _ _ _ _ _ _ hS' g' hkp)

/-- set(xs), xs a tuple -/
theorem callSet_tuple {l : Addr} {items : Array Value} (ks : List Mem) {Q : Value → Shared → Prop} (hh : A.handled = none) (hl : s.heap.IsTuple l items) (hit : items.toList = ks.map fun p => Value.ref p.1) (hk : ∀ p ∈ ks, IsN s.heap p.2 p.1) (hfew : ks.length < 64) (hu : A.units + 16 < cLine)
    (h : ∀ (h' : Heap) (tk : Nat) L es ep t, SetN w h' s.heap.objs.size L es ep t → Had ks ks.length L → (∀ b o, s.heap.get? b = some o → h'.get? b = some o) → Q (.ref s.heap.objs.size) { s with heap := h', toks := tk }) :
    wpAny (model P w) A (call (.type "set") [.ref l]) Q E s := by
  refine callSet_any ?_
  have hisz : items.size = ks.length := by
    have q := congrArg List.length hit
    simpa using q
  have hS : (s.heap.push (newSet w)).get? s.heap.objs.size = some (newSet w) := Heap.get?_push_size _ rfl
  have hl1 : (s.heap.push (newSet w)).IsTuple l items := hl.push _
  have hT : Shared.TypeIs { s with heap := s.heap.push (newSet w) } (.ref l) "tuple" := by
    obtain ⟨o, ho, hc, _⟩ := hl1
    exact ⟨o, ho, hc⟩
  have hlS : l < s.heap.objs.size := by
    obtain ⟨o, ho, _⟩ := hl
    exact Heap.lt_size ho
  unfold Builtin.Frozenset.updateFrom Builtin.Frozenset.isAnySet
  refine wpAny_bind ?_
  have no : wpAny (model P w) A.in1.in1 (isInstance (.ref l) (.type "set") <||> isInstance (.ref l) (.type "frozenset")) (fun b s' => b = false ∧ s' = { s with heap := s.heap.push (newSet w) }) E { s with heap := s.heap.push (newSet w) } := by
    refine wpAny_bind (wpAny_isInstance hT F.sub_tuple_set ?_)
    exact wpAny_isInstance hT F.sub_tuple_frozenset ⟨rfl, rfl⟩
  refine wpAny_mono no (fun b s' e => ?_) fun _ _ e => e
  obtain ⟨rfl, rfl⟩ := e
  refine wp_if_neg (by decide) ?_
  try refine wpAny_bind (wpAny_pure ?_)
  refine wpAny_bind (wpAny_typeOf hT ?_)
  refine wp_if_neg (by decide) ?_
  try refine wpAny_bind (wpAny_pure ?_)
  refine wpAny_bind (wpAny_pyIter_tuple hl1 ?_)
  refine wpAny_bind (wpAny_runValue ?_)
  have hh3 : A.in1.in1.in1.handled = none := by simp [hh]
  have hneI : l ≠ (s.heap.push (newSet w)).objs.size := by
    rw [Heap.size_push]; exact Nat.ne_of_lt (Nat.lt_succ_of_lt hlS)
  have hSf : s.heap.objs.size ∉ [(s.heap.push (newSet w)).objs.size, l] := by
    rw [Heap.size_push]; simp only [List.mem_cons, List.mem_singleton, List.not_mem_nil, or_false, not_or]
    exact ⟨Nat.ne_of_lt (Nat.lt_succ_self _), Nat.ne_of_gt hlS⟩
  have hval : ∀ (i : Nat) (v : Value), items[i]? = some v → ∃ p, ks[i]? = some p ∧ v = .ref p.1 := fun i v hv => by
    have q : items.toList[i]? = some v := by rw [Array.getElem?_toList]; exact hv
    rw [hit, List.getElem?_map] at q
    cases hq : ks[i]? with
    | none => rw [hq] at q; cases q
    | some p => rw [hq] at q; exact ⟨p, rfl, (Option.some.inj q).symm⟩
  have none_of : ∀ b, s.heap.objs.size ≤ b → s.heap.get? b = none := fun b hb => by
    cases q : s.heap.get? b with
    | none => rfl
    | some o => exact absurd (Nat.lt_of_lt_of_le (Heap.lt_size q) hb) (Nat.lt_irrefl _)
  refine updateN ((Walks.tuple hh3 _ l hneI items).toS) s.heap.objs.size hSf ks hisz hfew hval s.heap hk (none_of _ (Nat.le_refl _)) (fun b hb => none_of b (by
      rw [List.mem_singleton.mp hb, Heap.size_push]
      exact Nat.le_succ _)) (by simp only [Around.in1_units]; omega) (items.size - 0) 0 _ (by omega) (Nat.zero_le _)
    ⟨⟨_, Heap.get?_push_size _ rfl, rfl, rfl⟩, (hl1.push _)⟩ (fun b o e => Heap.get?_push_of_some _ (Heap.get?_push_of_some _ e)) ?hS0 ?hR
  case hS0 => exact ⟨[], #[], 0, _, SetN.fresh (Heap.get?_push_of_some _ hS), ⟨fun p hp => (by cases hp), Nat.le_refl _⟩⟩
  case hR =>
    intro s' L es ep t hm hS' g' hkp
    obtain ⟨h', g2, d', tk', os'⟩ := s'
    have eg : g2 = s.gens := hm.gens
    have ed : d' = s.drawn := hm.drawn
    have eo : os' = s.os := hm.os
    subst eg; subst ed; subst eo
    rw [hisz] at g'
    exact wpAny_pure (h _ _ _ _ _ _ hS' g' hkp)
end
end K33

set_option Elab.async false
set_option linter.all false
set_option maxRecDepth 100000
set_option maxHeartbeats 4000000
/-! Formulas as keys; how Python orders them. -/
namespace PySem.SeqAt
open AutoSeq1 (wpAny_loadPart')
open MeetsSeq MeetsSeq2 MeetsSeq3 SeqRoads2
/-- tuple < tuple, where the items are asked for < up to the first difference alone -/
theorem tupLt_first (l b : Addr) (items items2 : Array Value) (n n2 : Nat) (dd dd2 : Option Addr) (sl sl2 : Array (Option Value)) (e r : Nat → Bool) :
    Meets (Builtin.«tuple.__lt__» ⟨[.ref l, .ref b], []⟩)
      (fun A R s => s.heap.get? l = some { cls := .type "tuple", dict := dd, data := .seq items n, slots := sl } ∧ s.heap.get? b = some { cls := .type "tuple", dict := dd2, data := .seq items2 n2, slots := sl2 } ∧
        (∀ j (h1 : j < items.size) (h2 : j < items2.size), (∀ i, i < j → e i = true) → EqAt A.in1 s items[j] items2[j] (e j)) ∧ (∀ j (h1 : j < items.size) (h2 : j < items2.size), (∀ i, i < j → e i = true) → e j = false → RcLt A.in1 s items[j] items2[j] (r j)) ∧
        R (.ok (.ret (.bool (firstLt e r (decide (items.size < items2.size)) (List.range (min items.size items2.size)))))) s) :=
  .of_wp fun prog w A R s h => by
    obtain ⟨hp, g, d, tk, os⟩ := s; obtain ⟨hl, hb, he, hr, h⟩ := h
    have f2 := AutoSeq1.sub_tuple_tuple
    have hZ : (items.toList.zip items2.toList).length = min items.size items2.size := by simp
    wp_walk using wpAny_loadPart' hl, wpAny_loadPart' hb, wpAny_forIn_list _ (fun todo b s' => b.1 = none ∧ s' = ⟨hp, g, d, tk, os⟩ ∧ ∃ i, todo = (items.toList.zip items2.toList).drop i ∧ (∀ j, j < i → e j = true) ∧
      R (.ok (.ret (.bool (firstLt e r (decide (items.size < items2.size)) ((List.range (min items.size items2.size)).drop i))))) ⟨hp, g, d, tk, os⟩) _
    case turn =>
      rintro ⟨y, x⟩ todo b s' ⟨hb', rfl, i, hz, hpre, hR⟩
      have hlt : i < (items.toList.zip items2.toList).length := by
        apply Classical.byContradiction
        intro q
        rw [List.drop_of_length_le (by omega)] at hz; cases hz
      have hm : i < min items.size items2.size := hZ ▸ hlt
      have h1 : i < items.size := by omega
      have h2 : i < items2.size := by omega
      rw [List.drop_eq_getElem_cons hlt] at hz
      injection hz with hyx hrest
      have hy : y = items[i] := by simpa using congrArg Prod.fst hyx
      have hx : x = items2[i] := by simpa using congrArg Prod.snd hyx
      subst hy hx
      rw [show (List.range (min items.size items2.size)).drop i = i :: (List.range (min items.size items2.size)).drop (i + 1) by simp [List.drop_eq_getElem_cons, hm]] at hR
      refine wpAny_bind (he i h1 h2 hpre prog w _ _ ?_)
      cases hy : e i with
      | true =>
        rw [firstLt_yes hy] at hR
        wp_walk
        refine ⟨rfl, rfl, i + 1, hrest, fun j hj => ?_, hR⟩
        rcases Nat.lt_or_ge j i with z | z
        · exact hpre j z
        · rw [show j = i by omega]; exact hy
      | false =>
        rw [firstLt_no hy] at hR
        have less : ∀ (E : Value → Shared → Prop) (Q : Value → Shared → Prop), Q (.bool (r i)) ⟨hp, g, d, tk, os⟩ → wpAny (model prog w) A.in1 (richCompare CmpOp.Lt items[i] items2[i]) Q E ⟨hp, g, d, tk, os⟩ := fun E Q z => hr i h1 h2 hpre hy prog w _ _ z
        generalize richCompare CmpOp.Lt items[i] items2[i] = rc at less ⊢
        wp_walk
        refine less _ _ ?_
        wp_walk
        exact ⟨_, rfl, hR⟩
    case fin =>
      rintro ⟨b1, b2⟩ s' ⟨hb', rfl, i, hz, _, hR⟩
      simp only at hb'
      subst hb'
      have hge : min items.size items2.size ≤ i := by
        apply Classical.byContradiction
        intro q
        have : i < (items.toList.zip items2.toList).length := by omega
        rw [List.drop_eq_getElem_cons this] at hz; cases hz
      rw [List.drop_of_length_le (by simpa using hge)] at hR
      wp_walk
      exact ⟨_, rfl, by simpa [Builtin.Tuple.tupleCompareSizes, firstLt] using hR⟩
    case h => exact ⟨rfl, rfl, 0, rfl, fun j hj => absurd hj (Nat.not_lt_zero _), by simpa using h⟩
theorem RcLt.tuplesF {A : Around} {s : Shared} {l b : Addr} {items items2 : Array Value} {e r : Nat → Bool} (hl : s.heap.IsTuple l items) (hb : s.heap.IsTuple b items2) (hu : A.units < cLine)
    (he : ∀ j (h1 : j < items.size) (h2 : j < items2.size), (∀ i, i < j → e i = true) → EqAt A.in1 s items[j] items2[j] (e j)) (hr : ∀ j (h1 : j < items.size) (h2 : j < items2.size), (∀ i, i < j → e i = true) → e j = false → RcLt A.in1 s items[j] items2[j] (r j)) :
    RcLt A s (.ref l) (.ref b) (firstLt e r (decide (items.size < items2.size)) (List.range (min items.size items2.size))) := fun prog w E Q h => by
  obtain ⟨⟨cls, dd, data, sl⟩, ho, hc, n, hd⟩ := id hl
  obtain ⟨⟨cls2, dd2, data2, sl2⟩, ho2, hc2, n2, hd2⟩ := id hb
  simp only at hc hd hc2 hd2
  subst hc hd hc2 hd2
  refine richCompare_meets_room (op := .Lt) ⟨_, ho, rfl⟩ ⟨_, ho2, rfl⟩ F.slot_tuple_lt F.entry_tuple_lt (F.args_tuple_lt_2 _ _) (tupLt_first l b items items2 n n2 dd dd2 sl sl2 e r) ⟨ho, ho2, he, hr, ?_⟩ hu
  exact show Value.bool _ ≠ Value.notImplemented ∧ Q (.bool _) s from ⟨(fun x => nomatch x), h⟩
end PySem.SeqAt

set_option Elab.async false
set_option linter.all false
set_option maxRecDepth 100000
set_option maxHeartbeats 4000000
namespace K33
open PySem PySem.Spec PyProof.Rows L2 PySem.SeqAt
/-- a formula's tag -/
def tg : Fm → Str
  | .fls => "falsum" | .var _ => "var" | .and _ _ => "and" | .or _ _ => "or" | .imp _ _ => "implies" | .box _ => "box"
/-- a formula as a key -/
def key : Fm → NestedKey
  | .fls => .tup [.text "falsum"]
  | .var x => .tup [.text "var", .text x]
  | .and a b => .tup [.text "and", key a, key b]
  | .or a b => .tup [.text "or", key a, key b]
  | .imp a b => .tup [.text "implies", key a, key b]
  | .box a => .tup [.text "box", key a]
def ht : Fm → Nat
  | .fls => 1 | .var _ => 1
  | .and a b => max (ht a) (ht b) + 1
  | .or a b => max (ht a) (ht b) + 1
  | .imp a b => max (ht a) (ht b) + 1
  | .box a => ht a + 1
theorem key_depth : ∀ a, (key a).depth = ht a := by
  intro a
  induction a <;> simp [key, NestedKey.depth, NestedKey.depthAll, ht, *]
theorem key_tagged (a : Fm) : Tagged (key a) := by cases a <;> exact ⟨_, _, rfl⟩
def rk : Fm → Nat
  | .and _ _ => 0 | .box _ => 1 | .fls => 2 | .imp _ _ => 3 | .or _ _ => 4 | .var _ => 5
/-- Python's < of formulas -/
def flt : Fm → Fm → Bool
  | .and a b, .and c d => if a = c then flt b d else flt a c
  | .or a b, .or c d => if a = c then flt b d else flt a c
  | .imp a b, .imp c d => if a = c then flt b d else flt a c
  | .box a, .box c => flt a c
  | .var x, .var y => decide (x.cps.toList < y.cps.toList)
  | a, b => decide (rk a < rk b)
mutual
def klt : NestedKey → NestedKey → Bool
  | .text x, .text y => decide (x.cps.toList < y.cps.toList)
  | .tup xs, .tup ys => kltAll xs ys
  | .none, _ => false
  | .num _, _ => false
  | .text _, _ => false
  | .tup _, _ => false
def kltAll : List NestedKey → List NestedKey → Bool
  | [], [] => false
  | [], _ :: _ => true
  | _ :: _, [] => false
  | x :: xs, y :: ys => if NestedKey.beq x y = true then kltAll xs ys else klt x y
end
theorem key_inj : ∀ {a b : Fm}, key a = key b → a = b := by
  intro a
  induction a with
  | fls => intro b h; cases b <;> simp [key] at h <;> first | rfl | (exact absurd h (by decide +kernel)) | (exact absurd h.1 (by decide +kernel))
  | var x => intro b h; cases b <;> simp [key] at h <;> first | (rw [h]) | (exact absurd h (by decide +kernel)) | (exact absurd h.1 (by decide +kernel))
  | and a b iha ihb => intro c h; cases c <;> simp [key] at h <;> first | (rw [iha h.1, ihb h.2]) | (exact absurd h (by decide +kernel)) | (exact absurd h.1 (by decide +kernel))
  | or a b iha ihb => intro c h; cases c <;> simp [key] at h <;> first | (rw [iha h.1, ihb h.2]) | (exact absurd h (by decide +kernel)) | (exact absurd h.1 (by decide +kernel))
  | imp a b iha ihb => intro c h; cases c <;> simp [key] at h <;> first | (rw [iha h.1, ihb h.2]) | (exact absurd h (by decide +kernel)) | (exact absurd h.1 (by decide +kernel))
  | box a iha => intro c h; cases c <;> simp [key] at h <;> first | (rw [iha h]) | (exact absurd h (by decide +kernel)) | (exact absurd h.1 (by decide +kernel))
theorem beq_key (a b : Fm) : NestedKey.beq (key a) (key b) = decide (a = b) := by
  rw [← NestedKey.decide_eq]
  by_cases h : a = b
  · subst h; simp
  · rw [decide_eq_false h, decide_eq_false fun e => h (key_inj e)]
def tgn : Nat → Str
  | 0 => "and" | 1 => "box" | 2 => "falsum" | 3 => "implies" | 4 => "or" | _ => "var"
theorem tg_n (a : Fm) : tg a = tgn (rk a) ∧ rk a < 6 := by cases a <;> exact ⟨rfl, by simp [rk]⟩
theorem tgn_all : ∀ i, i < 6 → ∀ j, j < 6 → i ≠ j → decide (tgn i = tgn j) = false ∧ decide ((tgn i).cps.toList < (tgn j).cps.toList) = decide (i < j) := by decide +kernel
/-- the tags' order is the ranks' -/
theorem tg_rk (a b : Fm) (h : rk a ≠ rk b) : NestedKey.beq (.text (tg a)) (.text (tg b)) = false ∧ decide ((tg a).cps.toList < (tg b).cps.toList) = decide (rk a < rk b) := by
  obtain ⟨e1, l1⟩ := tg_n a
  obtain ⟨e2, l2⟩ := tg_n b
  obtain ⟨h1, h2⟩ := tgn_all _ l1 _ l2 h
  rw [e1, e2]
  exact ⟨by rw [NestedKey.beq]; exact h1, h2⟩
theorem key_front (a : Fm) : ∃ ks, key a = .tup (.text (tg a) :: ks) := by cases a <;> exact ⟨_, rfl⟩
theorem klt_off (a b : Fm) (h : rk a ≠ rk b) : klt (key a) (key b) = decide (rk a < rk b) := by
  obtain ⟨xs, ea⟩ := key_front a
  obtain ⟨ys, eb⟩ := key_front b
  obtain ⟨h1, h2⟩ := tg_rk a b h
  rw [ea, eb, klt, kltAll, h1]
  simp only [Bool.false_eq_true, if_false]
  rw [klt]
  exact h2
theorem flt_off (a b : Fm) (h : rk a ≠ rk b) : flt a b = decide (rk a < rk b) := by
  cases a <;> cases b <;> first | (exact absurd rfl h) | rfl
theorem nat_irr (l : List Nat) : ¬ l < l := List.lt_irrefl l
theorem flt_irr : ∀ a, flt a a = false := by
  intro a
  induction a <;> simp [flt, rk, *]
theorem text_same (x : Str) : NestedKey.beq (.text x) (.text x) = true := by simp [NestedKey.beq]
theorem klt_key : ∀ a b : Fm, klt (key a) (key b) = flt a b := by
  intro a
  induction a with
  | fls =>
    intro b
    by_cases h : rk .fls = rk b
    · cases b <;> simp [rk] at h
      simp [key, klt, kltAll, flt, text_same, rk]
    · rw [klt_off _ _ h, flt_off _ _ h]
  | var x =>
    intro b
    by_cases h : rk (.var x) = rk b
    · cases b <;> simp [rk] at h
      rename_i y
      by_cases e : x = y
      · subst e; simp [key, klt, kltAll, flt, text_same]
      · have : NestedKey.beq (.text x) (.text y) = false := by simp [NestedKey.beq, e]
        simp [key, klt, kltAll, flt, text_same, this]
    · rw [klt_off _ _ h, flt_off _ _ h]
  | and a b iha ihb =>
    intro c
    by_cases h : rk (.and a b) = rk c
    · cases c <;> simp [rk] at h
      rename_i c d
      by_cases e : a = c
      · by_cases e2 : b = d
        · simp [key, klt, kltAll, flt, text_same, beq_key, e, e2, flt_irr]
        · simp [key, klt, kltAll, flt, text_same, beq_key, e, e2, ihb]
      · simp [key, klt, kltAll, flt, text_same, beq_key, e, iha]
    · rw [klt_off _ _ h, flt_off _ _ h]
  | or a b iha ihb =>
    intro c
    by_cases h : rk (.or a b) = rk c
    · cases c <;> simp [rk] at h
      rename_i c d
      by_cases e : a = c
      · by_cases e2 : b = d
        · simp [key, klt, kltAll, flt, text_same, beq_key, e, e2, flt_irr]
        · simp [key, klt, kltAll, flt, text_same, beq_key, e, e2, ihb]
      · simp [key, klt, kltAll, flt, text_same, beq_key, e, iha]
    · rw [klt_off _ _ h, flt_off _ _ h]
  | imp a b iha ihb =>
    intro c
    by_cases h : rk (.imp a b) = rk c
    · cases c <;> simp [rk] at h
      rename_i c d
      by_cases e : a = c
      · by_cases e2 : b = d
        · simp [key, klt, kltAll, flt, text_same, beq_key, e, e2, flt_irr]
        · simp [key, klt, kltAll, flt, text_same, beq_key, e, e2, ihb]
      · simp [key, klt, kltAll, flt, text_same, beq_key, e, iha]
    · rw [klt_off _ _ h, flt_off _ _ h]
  | box a iha =>
    intro c
    by_cases h : rk (.box a) = rk c
    · cases c <;> simp [rk] at h
      rename_i c
      by_cases e : a = c
      · simp [key, klt, kltAll, flt, text_same, beq_key, e, flt_irr]
      · simp [key, klt, kltAll, flt, text_same, beq_key, e, iha]
    · rw [klt_off _ _ h, flt_off _ _ h]
theorem flt_rk {a b : Fm} (h : flt a b = true) : rk a ≤ rk b := by
  by_cases e : rk a = rk b
  · omega
  · rw [flt_off _ _ e] at h
    have := of_decide_eq_true h
    omega
theorem flt_trans : ∀ {a b c : Fm}, flt a b = true → flt b c = true → flt a c = true := by
  intro a
  have pair : ∀ (f : Fm → Fm → Fm) (a1 a2 : Fm), (∀ x y z w, flt (f x y) (f z w) = if x = z then flt y w else flt x z) → (∀ {b c : Fm}, flt a1 b = true → flt b c = true → flt a1 c = true) → (∀ {b c : Fm}, flt a2 b = true → flt b c = true → flt a2 c = true) →
      ∀ b1 b2 c1 c2, flt (f a1 a2) (f b1 b2) = true → flt (f b1 b2) (f c1 c2) = true → flt (f a1 a2) (f c1 c2) = true := by
    intro f a1 a2 hf i1 i2 b1 b2 c1 c2 h1 h2
    rw [hf] at h1 h2 ⊢
    by_cases e1 : a1 = b1
    · subst e1
      rw [if_pos rfl] at h1
      by_cases e2 : a1 = c1
      · rw [if_pos e2] at h2 ⊢; exact i2 h1 h2
      · rw [if_neg e2] at h2 ⊢; exact h2
    · rw [if_neg e1] at h1
      by_cases e2 : b1 = c1
      · subst e2
        rw [if_neg e1]; exact h1
      · rw [if_neg e2] at h2
        have h3 := i1 h1 h2
        rw [if_neg (fun e => by rw [e, flt_irr] at h3; cases h3)]
        exact h3
  have off : ∀ {a b c : Fm}, flt a b = true → flt b c = true → rk a ≠ rk c → flt a c = true := by
    intro a b c h1 h2 h
    rw [flt_off _ _ h]
    have := flt_rk h1
    have := flt_rk h2
    exact decide_eq_true (by omega)
  have same : ∀ {a b c : Fm}, flt a b = true → flt b c = true → rk a = rk c → rk a = rk b := by
    intro a b c h1 h2 h
    have := flt_rk h1
    have := flt_rk h2
    omega
  induction a with
  | fls =>
    intro b c h1 h2
    by_cases h : rk .fls = rk c
    · have hb := same h1 h2 h
      cases b <;> simp [rk] at hb
      rw [flt_irr] at h1; cases h1
    · exact off h1 h2 h
  | var x =>
    intro b c h1 h2
    by_cases h : rk (.var x) = rk c
    · have hb := same h1 h2 h
      cases b <;> simp [rk] at hb
      cases c <;> simp [rk] at h
      simp only [flt, decide_eq_true_eq] at *
      exact List.lt_trans h1 h2
    · exact off h1 h2 h
  | box a ih =>
    intro b c h1 h2
    by_cases h : rk (.box a) = rk c
    · have hb := same h1 h2 h
      cases b <;> simp [rk] at hb
      cases c <;> simp [rk] at h
      simp only [flt] at *
      exact ih h1 h2
    · exact off h1 h2 h
  | and a1 a2 i1 i2 =>
    intro b c h1 h2
    by_cases h : rk (.and a1 a2) = rk c
    · have hb := same h1 h2 h
      cases b <;> simp [rk] at hb
      cases c <;> simp [rk] at h
      exact pair .and a1 a2 (fun _ _ _ _ => by rw [flt]) i1 i2 _ _ _ _ h1 h2
    · exact off h1 h2 h
  | or a1 a2 i1 i2 =>
    intro b c h1 h2
    by_cases h : rk (.or a1 a2) = rk c
    · have hb := same h1 h2 h
      cases b <;> simp [rk] at hb
      cases c <;> simp [rk] at h
      exact pair .or a1 a2 (fun _ _ _ _ => by rw [flt]) i1 i2 _ _ _ _ h1 h2
    · exact off h1 h2 h
  | imp a1 a2 i1 i2 =>
    intro b c h1 h2
    by_cases h : rk (.imp a1 a2) = rk c
    · have hb := same h1 h2 h
      cases b <;> simp [rk] at hb
      cases c <;> simp [rk] at h
      exact pair .imp a1 a2 (fun _ _ _ _ => by rw [flt]) i1 i2 _ _ _ _ h1 h2
    · exact off h1 h2 h
theorem str_ext {x y : Str} (h : x.cps.toList = y.cps.toList) : x = y := by
  obtain ⟨⟨x⟩⟩ := x
  obtain ⟨⟨y⟩⟩ := y
  have : x = y := h
  rw [this]
theorem flt_total : ∀ a b : Fm, a = b ∨ flt a b = true ∨ flt b a = true := by
  intro a
  have off : ∀ {a b : Fm}, rk a ≠ rk b → a = b ∨ flt a b = true ∨ flt b a = true := by
    intro a b h
    rw [flt_off _ _ h, flt_off _ _ (Ne.symm h), decide_eq_true_eq, decide_eq_true_eq]
    omega
  have pair : ∀ (f : Fm → Fm → Fm) (a1 a2 : Fm), (∀ x y z w, flt (f x y) (f z w) = if x = z then flt y w else flt x z) → (∀ b, a1 = b ∨ flt a1 b = true ∨ flt b a1 = true) → (∀ b, a2 = b ∨ flt a2 b = true ∨ flt b a2 = true) →
      ∀ b1 b2, f a1 a2 = f b1 b2 ∨ flt (f a1 a2) (f b1 b2) = true ∨ flt (f b1 b2) (f a1 a2) = true := by
    intro f a1 a2 hf i1 i2 b1 b2
    rw [hf, hf]
    by_cases e : a1 = b1
    · subst e
      rw [if_pos rfl, if_pos rfl]
      rcases i2 b2 with h | h
      · exact .inl (by rw [h])
      · exact .inr h
    · rw [if_neg e, if_neg (Ne.symm e)]
      rcases i1 b1 with h | h
      · exact absurd h e
      · exact .inr h
  induction a with
  | fls => intro b; by_cases h : rk .fls = rk b; (cases b <;> simp [rk] at h; exact .inl rfl); exact off h
  | var x =>
    intro b
    by_cases h : rk (.var x) = rk b
    · cases b <;> simp [rk] at h
      rename_i y
      simp only [flt, decide_eq_true_eq]
      by_cases h1 : x.cps.toList < y.cps.toList
      · exact .inr (.inl h1)
      · by_cases h2 : y.cps.toList < x.cps.toList
        · exact .inr (.inr h2)
        · exact .inl (by rw [str_ext (List.le_antisymm h2 h1)])
    · exact off h
  | box a ih =>
    intro b
    by_cases h : rk (.box a) = rk b
    · cases b <;> simp [rk] at h
      rename_i b
      simp only [flt]
      rcases ih b with h | h
      · exact .inl (by rw [h])
      · exact .inr h
    · exact off h
  | and a1 a2 i1 i2 =>
    intro b
    by_cases h : rk (.and a1 a2) = rk b
    · cases b <;> simp [rk] at h
      exact pair .and a1 a2 (fun _ _ _ _ => by rw [flt]) i1 i2 _ _
    · exact off h
  | or a1 a2 i1 i2 =>
    intro b
    by_cases h : rk (.or a1 a2) = rk b
    · cases b <;> simp [rk] at h
      exact pair .or a1 a2 (fun _ _ _ _ => by rw [flt]) i1 i2 _ _
    · exact off h
  | imp a1 a2 i1 i2 =>
    intro b
    by_cases h : rk (.imp a1 a2) = rk b
    · cases b <;> simp [rk] at h
      exact pair .imp a1 a2 (fun _ _ _ _ => by rw [flt]) i1 i2 _ _
    · exact off h
/-- how many of a list are below -/
def below (l : List Fm) (a : Fm) : Int := ((l.countP fun b => flt b a : Nat) : Int)
theorem count_le {p q : Fm → Bool} (l : List Fm) (h : ∀ x, p x = true → q x = true) : l.countP p ≤ l.countP q := List.countP_mono_left fun x _ => h x
theorem count_lt {p q : Fm → Bool} (h : ∀ x, p x = true → q x = true) : ∀ (l : List Fm) (a : Fm), a ∈ l → p a = false → q a = true → l.countP p < l.countP q
  | [], a, hm, _, _ => by cases hm
  | b :: l, a, hm, h1, h2 => by
    rw [List.countP_cons, List.countP_cons]
    have le := count_le l h
    rcases List.mem_cons.mp hm with e | hm
    · subst e
      rw [h1, h2]; simp; omega
    · have := count_lt h l a hm h1 h2
      cases hp : p b with
      | false => cases q b <;> simp <;> omega
      | true => rw [h b hp]; simp; omega
theorem below_lt {l : List Fm} {a b : Fm} (ha : a ∈ l) (hb : b ∈ l) : decide (below l a < below l b) = flt a b := by
  have up : ∀ {a b : Fm}, a ∈ l → flt a b = true → below l a < below l b := fun {a b} ha h =>
    Int.ofNat_lt.mpr (count_lt (fun x hx => flt_trans hx h) l a ha (flt_irr a) h)
  rcases flt_total a b with e | h | h
  · subst e; simp [flt_irr]
  · rw [h]; exact decide_eq_true (up ha h)
  · have h1 := up hb h
    have h2 : flt a b = false := by
      cases q : flt a b with
      | false => rfl
      | true => have := flt_trans q h; rw [flt_irr] at this; cases this
    rw [h2]; exact decide_eq_false (by omega)
end K33

set_option Elab.async false
set_option linter.all false
set_option maxRecDepth 100000
set_option maxHeartbeats 4000000
namespace K33
open PySem PySem.Spec PyProof.Rows L2 PySem.SeqAt
/-- u < v of two keys is what klt says -/
def RcK (x y : NestedKey) : Prop := ∀ (A : Around) (s : Shared) (a b : Value), NestedIs s.heap x a → NestedIs s.heap y b → A.units + x.depth < cLine → RcLt A s a b (klt x y)
theorem rcK_text (x y : Str) : RcK (.text x) (.text y) := by
  intro A s a b ha hb hu
  cases ha
  cases hb
  rename_i t u
  have e : klt (.text x) (.text y) = PySem.W.dataLt (.str x) (.str y) := by rw [klt, PySem.W.dataLt_str]
  rw [e]
  refine PySem.W.rcLt_alike (.str x) (.str y) A s _ _ [] [] (.str _ _) (.str _ _) (by simp [PySem.W.alike]) (by simp) ?_
  simp only [NestedKey.depth, PyData.depth] at hu ⊢
  omega
theorem kltAll_first : ∀ xs ys : List NestedKey, firstLt (keyEqAt xs ys) (fun j => klt (xs.getD j .none) (ys.getD j .none)) (decide (xs.length < ys.length)) (List.range (min xs.length ys.length)) = kltAll xs ys
  | [], [] => rfl
  | [], _ :: _ => by simp [firstLt, kltAll]
  | _ :: _, [] => by simp [firstLt, kltAll]
  | x :: xs, y :: ys => by
    have ih := kltAll_first xs ys
    rw [show min (x :: xs).length (y :: ys).length = min xs.length ys.length + 1 by simp only [List.length_cons]; omega, List.range_succ_eq_map]
    cases hb : NestedKey.beq x y with
    | true =>
      rw [firstLt_yes (by simpa [keyEqAt] using hb), PySem.W.firstLt_map, kltAll, hb, if_pos rfl, ← ih]
      congr 1
      simp
    | false =>
      rw [firstLt_no (by simpa [keyEqAt] using hb), kltAll, hb]
      simp
theorem depth_le : ∀ (ks : List NestedKey) (j : Nat), (ks.getD j .none).depth ≤ NestedKey.depthAll ks
  | [], j => by simp [NestedKey.depth]
  | k :: ks, 0 => by simp [NestedKey.depthAll]; omega
  | k :: ks, j + 1 => by
    have := depth_le ks j
    simp only [List.getD_cons_succ, NestedKey.depthAll]
    omega
theorem nestedAll_at {h : Heap} : ∀ (ks : List NestedKey) (vs : List Value) (j : Nat) (hj : j < vs.length), NestedAll h ks vs → NestedIs h (ks.getD j .none) vs[j]
  | [], _, _, hj, x => by cases x; exact absurd hj (Nat.not_lt_zero _)
  | k :: ks, _, 0, _, .cons x _ => by simpa using x
  | k :: ks, _, j + 1, hj, .cons _ x => by simpa using nestedAll_at ks _ j (Nat.lt_of_succ_lt_succ hj) x
theorem rcK_tup {xs ys : List NestedKey} (h : ∀ j, j < xs.length → j < ys.length → (∀ i, i < j → keyEqAt xs ys i = true) → keyEqAt xs ys j = false → RcK (xs.getD j .none) (ys.getD j .none)) : RcK (.tup xs) (.tup ys) := by
  intro A s a b ha hb hu
  cases ha with
  | @tup l o vs n _ h1 h2 h3 h4 =>
    cases hb with
    | @tup l' o' ws n' _ k1 k2 k3 k4 =>
      simp only [NestedKey.depth] at hu
      have n1 : vs.size = xs.length := by simpa using NestedAll.length _ _ h4
      have n2 : ws.size = ys.length := by simpa using NestedAll.length _ _ k4
      rw [klt, ← kltAll_first, ← n1, ← n2]
      refine RcLt.tuplesF ⟨_, h1, h2, _, h3⟩ ⟨_, k1, k2, _, k3⟩ (by omega) (fun j j1 j2 _ => ?_) fun j j1 j2 pre hj => ?_
      · have := eqAt_keys xs ys A.in1 s vs.toList ws.toList h4 k4 (by simp only [Around.in1_units]; omega) j (by simpa using j1) (by simpa using j2)
        simpa using this
      · have e1 := nestedAll_at xs vs.toList j (by simpa using j1) h4
        have e2 := nestedAll_at ys ws.toList j (by simpa using j2) k4
        have := depth_le xs j
        exact h j (by omega) (by omega) pre hj A.in1 s _ _ (by simpa using e1) (by simpa using e2) (by simp only [Around.in1_units]; omega)
theorem rcK_off {a b : Fm} (h : rk a ≠ rk b) : RcK (key a) (key b) := by
  obtain ⟨xs, ea⟩ := key_front a
  obtain ⟨ys, eb⟩ := key_front b
  rw [ea, eb]
  refine rcK_tup fun j _ _ pre _ => ?_
  cases j with
  | zero => exact rcK_text _ _
  | succ j =>
    have := pre 0 (Nat.succ_pos _)
    simp [keyEqAt, (tg_rk a b h).1] at this
theorem rcK_fm : ∀ a b : Fm, RcK (key a) (key b) := by
  intro a
  have two : ∀ {t : Str} {a1 a2 b1 b2 : Fm}, RcK (key a1) (key b1) → RcK (key a2) (key b2) → RcK (.tup [.text t, key a1, key a2]) (.tup [.text t, key b1, key b2]) := by
    intro t a1 a2 b1 b2 h1 h2
    refine rcK_tup fun j j1 _ _ hj => ?_
    match j, j1, hj with
    | 0, _, hj => simp [keyEqAt, text_same] at hj
    | 1, _, _ => exact h1
    | 2, _, _ => exact h2
  induction a with
  | fls =>
    intro b
    by_cases h : rk .fls = rk b
    · cases b <;> simp [rk] at h
      refine rcK_tup fun j j1 _ _ hj => ?_
      match j, j1, hj with
      | 0, _, hj => simp [keyEqAt, text_same] at hj
    · exact rcK_off h
  | var x =>
    intro b
    by_cases h : rk (.var x) = rk b
    · cases b <;> simp [rk] at h
      refine rcK_tup fun j j1 _ _ hj => ?_
      match j, j1, hj with
      | 0, _, hj => simp [keyEqAt, text_same] at hj
      | 1, _, _ => exact rcK_text _ _
    · exact rcK_off h
  | box a ih =>
    intro b
    by_cases h : rk (.box a) = rk b
    · cases b <;> simp [rk] at h
      rename_i b
      refine rcK_tup fun j j1 _ _ hj => ?_
      match j, j1, hj with
      | 0, _, hj => simp [keyEqAt, text_same] at hj
      | 1, _, _ => exact ih b
    · exact rcK_off h
  | and a1 a2 i1 i2 =>
    intro b
    by_cases h : rk (.and a1 a2) = rk b
    · cases b <;> simp [rk] at h
      exact two (i1 _) (i2 _)
    · exact rcK_off h
  | or a1 a2 i1 i2 =>
    intro b
    by_cases h : rk (.or a1 a2) = rk b
    · cases b <;> simp [rk] at h
      exact two (i1 _) (i2 _)
    · exact rcK_off h
  | imp a1 a2 i1 i2 =>
    intro b
    by_cases h : rk (.imp a1 a2) = rk b
    · cases b <;> simp [rk] at h
      exact two (i1 _) (i2 _)
    · exact rcK_off h

/-! ### as sorting compares -/
open PySem.W in
theorem katLexK {prog : Program} {w : World} {A : Around} {s : Shared} {fin : Bool} {Q : Bool → Shared → Prop} : ∀ (xs ys : List NestedKey) (i : Nat) (vs ws : List Value), NestedAll s.heap xs vs → NestedAll s.heap ys ws → A.units + NestedKey.depthAll xs < cLine →
    (∀ j, j < xs.length → j < ys.length → (∀ i, i < j → keyEqAt xs ys i = true) → keyEqAt xs ys j = false → RcK (xs.getD j .none) (ys.getD j .none)) → fin = decide (xs.length < ys.length) → Q (kltAll xs ys) s → KatLex prog w A true fin Q (vs.zip ws) (i + 1) s
  | [], ys, i, _, ws, hx, hy, _, _, hf, hq => by
    cases hx
    cases ys with
    | nil => cases hy; exact kat_nil (by rw [hf]; exact hq)
    | cons y ys => rw [List.zip_nil_left]; exact kat_nil (by rw [hf]; simpa [kltAll] using hq)
  | x :: xs, [], i, vs, _, hx, hy, _, _, hf, hq => by
    cases hy
    rw [List.zip_nil_right]
    exact kat_nil (by rw [hf]; simpa [kltAll] using hq)
  | x :: xs, y :: ys, i, _, _, hx, hy, hu, hr, hf, hq => by
    cases hx with
    | @cons _ v _ vs x1 x2 =>
      cases hy with
      | @cons _ u _ us y1 y2 =>
        simp only [NestedKey.depthAll] at hu
        rw [List.zip_cons_cons]
        refine kat_cons (eqAt_key x y A s v u x1 y1 (by omega) prog w _ _ ?_)
        rw [kltAll] at hq
        cases hb : NestedKey.beq x y with
        | true =>
          rw [hb, if_pos rfl] at hq
          refine kat_yes (katLexK xs ys (i + 1) vs us x2 y2 (by omega) (fun j j1 j2 pre hj => ?_) (by rw [hf]; simp only [List.length_cons, Nat.add_lt_add_iff_right]) hq)
          have := hr (j + 1) (by simpa using j1) (by simpa using j2) (fun i hi => ?_) (by simpa [keyEqAt] using hj)
          · simpa using this
          · cases i with
            | zero => simpa [keyEqAt] using hb
            | succ i => simpa [keyEqAt] using pre i (by omega)
        | false =>
          rw [hb] at hq
          simp only [Bool.false_eq_true, if_false] at hq
          refine kat_no ?_
          have e : (true && i + 1 == 0) = false := by simp
          rw [e]
          refine kat_one _ _ ?_
          have := hr 0 (by simp) (by simp) (fun i hi => absurd hi (Nat.not_lt_zero _)) (by simpa [keyEqAt] using hb) A s v u (by simpa using x1) (by simpa using y1) (by simp; omega)
          exact this prog w _ _ (show Q _ s from by simpa using hq)
/-- two formulas as list.sort compares them -/
theorem katFm {prog : Program} {w : World} {A : Around} {E : Value → Shared → Prop} {s : Shared} {a b : Fm} {x y : Addr} {Q : Bool → Shared → Prop} (ha : NestedIs s.heap (key a) (.ref x)) (hb : NestedIs s.heap (key b) (.ref y)) (hu : A.units + ht a < cLine) (hq : Q (flt a b) s) :
    wpAny (model prog w) A (keyLt' (tuples' true) (.ref x) (.ref y)) Q E s := by
  have hd := key_depth a
  rw [← klt_key] at hq
  have rc := rcK_fm a b
  obtain ⟨xs, ea⟩ := key_front a
  obtain ⟨ys, eb⟩ := key_front b
  have parts : ∀ j, j < (NestedKey.text (tg a) :: xs).length → j < (NestedKey.text (tg b) :: ys).length → (∀ i, i < j → keyEqAt (.text (tg a) :: xs) (.text (tg b) :: ys) i = true) → keyEqAt (.text (tg a) :: xs) (.text (tg b) :: ys) j = false → RcK ((NestedKey.text (tg a) :: xs).getD j .none) ((NestedKey.text (tg b) :: ys).getD j .none) := by
    intro j j1 j2 pre hj
    by_cases hr : rk a = rk b
    · have fin : ∀ {t : Str} {u v : List Fm}, NestedKey.text (tg a) :: xs = .text t :: u.map key → NestedKey.text (tg b) :: ys = .text t :: v.map key → RcK ((NestedKey.text (tg a) :: xs).getD j .none) ((NestedKey.text (tg b) :: ys).getD j .none) := by
        intro t u v e1 e2
        rw [e1, e2] at hj ⊢
        rw [e1] at j1
        rw [e2] at j2
        cases j with
        | zero => simp [keyEqAt, text_same] at hj
        | succ j =>
          have q1 : j < u.length := by simpa using j1
          have q2 : j < v.length := by simpa using j2
          have := rcK_fm u[j] v[j]
          simpa [q1, q2] using this
      cases a <;> cases b <;> simp [rk] at hr <;> simp [key, tg] at ea eb <;> subst ea <;> subst eb
      · exact fin (t := "falsum") (u := []) (v := []) rfl rfl
      · cases j with
        | zero => simp [keyEqAt, tg, text_same] at hj
        | succ j =>
          have : j = 0 := by simp at j1; omega
          subst this
          exact rcK_text _ _
      · exact fin (t := "and") (u := [_, _]) (v := [_, _]) rfl rfl
      · exact fin (t := "or") (u := [_, _]) (v := [_, _]) rfl rfl
      · exact fin (t := "implies") (u := [_, _]) (v := [_, _]) rfl rfl
      · exact fin (t := "box") (u := [_]) (v := [_]) rfl rfl
    · cases j with
      | zero => exact rcK_text _ _
      | succ j =>
        have := pre 0 (Nat.succ_pos _)
        simp [keyEqAt, (tg_rk a b hr).1] at this
  rw [ea] at ha hq hd
  rw [eb] at hb hq
  simp only [NestedKey.depth, NestedKey.depthAll] at hd
  cases ha with
  | @tup _ o vs n _ h1 h2 h3 h4 =>
    cases hb with
    | @tup _ o' ws n' _ k1 k2 k3 k4 =>
      have n1 : vs.size = xs.length + 1 := by simpa using NestedAll.length _ _ h4
      have n2 : ws.size = ys.length + 1 := by simpa using NestedAll.length _ _ k4
      refine PySem.W.kat_lt h1 h3 k1 k3 ?_
      rw [n1, n2]
      generalize vs.toList = vl at h4
      generalize ws.toList = wl at k4
      cases h4 with
      | @cons _ v _ vl x1 x2 =>
        cases k4 with
        | @cons _ u _ wl y1 y2 =>
          rw [klt, kltAll] at hq
          rw [List.zip_cons_cons]
          refine PySem.W.kat_cons (eqAt_key _ _ A s v u x1 y1 (by simp [NestedKey.depth]; omega) prog w _ _ ?_)
          cases hbq : NestedKey.beq (.text (tg a)) (.text (tg b)) with
          | true =>
            rw [hbq, if_pos rfl] at hq
            refine PySem.W.kat_yes (katLexK xs ys 0 vl wl x2 y2 (by omega) (fun j j1 j2 pre hj => ?_) (by simp only [Nat.add_lt_add_iff_right]) hq)
            have := parts (j + 1) (by simpa using j1) (by simpa using j2) (fun i hi => ?_) (by simpa [keyEqAt] using hj)
            · simpa using this
            · cases i with
              | zero => simpa [keyEqAt] using hbq
              | succ i => simpa [keyEqAt] using pre i (by omega)
          | false =>
            rw [hbq] at hq
            simp only [Bool.false_eq_true, if_false] at hq
            refine PySem.W.kat_no ?_
            cases x1
            cases y1
            rw [klt] at hq
            exact oneLt_str hq
/-! ### sorted -/
open Classical in
/-- the formula that stands at a value -/
noncomputable def fmAt (h : Heap) (v : Value) : Fm := if q : ∃ a, NestedIs h (key a) v then q.choose else .fls
theorem fmAt_eq {h : Heap} {v : Value} {a : Fm} (x : NestedIs h (key a) v) : fmAt h v = a := by
  have q : ∃ a, NestedIs h (key a) v := ⟨a, x⟩
  unfold fmAt
  rw [dif_pos q]
  exact key_inj (NestedIs.inj _ _ _ q.choose_spec x)
/-- a value is a formula of a height of at most 8 -/
def IsF (h : Heap) (v : Value) : Prop := ∃ b a, v = .ref b ∧ NestedIs h (key a) v ∧ ht a ≤ 8
theorem IsF.keeps {h h' : Heap} {v : Value} (x : IsF h v) (k : ∀ b o, h.get? b = some o → o.cls = .type "tuple" → h'.get? b = some o) : IsF h' v := by
  obtain ⟨b, a, e, i, d⟩ := x
  refine ⟨b, a, e, ?_, d⟩
  have go : ∀ n, (∀ (x : NestedKey) (v : Value), x.depth ≤ n → NestedIs h x v → NestedIs h' x v) ∧ (∀ (xs : List NestedKey) (vs : List Value), NestedKey.depthAll xs ≤ n → NestedAll h xs vs → NestedAll h' xs vs) := by
    intro n
    induction n with
    | zero =>
      have one : ∀ (x : NestedKey) (v : Value), x.depth ≤ 0 → NestedIs h x v → NestedIs h' x v := by
        intro x v hd hx
        cases hx with
        | none => exact .none
        | bool e => exact .bool e
        | int i t => exact .int i t
        | text x t => exact .text x t
        | tup _ _ _ _ => simp [NestedKey.depth] at hd
      refine ⟨one, fun xs => ?_⟩
      induction xs with
      | nil => intro vs _ hx; cases hx; exact .nil
      | cons x xs ih =>
        intro vs hd hx
        simp only [NestedKey.depthAll] at hd
        cases hx with
        | cons h1 h2 => exact .cons (one _ _ (by omega) h1) (ih _ (by omega) h2)
    | succ n ih =>
      have one : ∀ (x : NestedKey) (v : Value), x.depth ≤ n + 1 → NestedIs h x v → NestedIs h' x v := by
        intro x v hd hx
        cases hx with
        | none => exact .none
        | bool e => exact .bool e
        | int i t => exact .int i t
        | text x t => exact .text x t
        | tup h1 h2 h3 h4 =>
          simp only [NestedKey.depth] at hd
          exact .tup (k _ _ h1 h2) h2 h3 (ih.2 _ _ (by omega) h4)
      refine ⟨one, fun xs => ?_⟩
      induction xs with
      | nil => intro vs _ hx; cases hx; exact .nil
      | cons x xs ih2 =>
        intro vs hd hx
        simp only [NestedKey.depthAll] at hd
        cases hx with
        | cons h1 h2 => exact .cons (one _ _ (by omega) h1) (ih2 _ (by omega) h2)
  exact (go _).1 _ _ (Nat.le_refl _) i
section
variable {prog : Program} {w : World} {A : Around} {E : Value → Shared → Prop} {s : Shared}
/-- the kind of keys that the sort finds -/
theorem kindFm {vs : List Value} (h2 : 2 ≤ vs.length) (x : ∀ v ∈ vs, IsF s.heap v) (hu : A.units + 16 < cLine) (r : Value → Int) (hr : ∀ v ∈ vs, r v = below (vs.map (fmAt s.heap)) (fmAt s.heap v)) (Q : SortKind → Shared → Prop)
    (h : ∀ κ, TS.Cmp prog w A s κ (pairsOf vs) r → Q κ s) : wpAny (model prog w) A (keyKind' vs.toArray) Q E s := by
  have firsts : ∀ vs : List Value, (∀ v ∈ vs, IsF s.heap v) → ∃ fs : List Value, PySem.W.KatTups s.heap vs fs ∧ fs.length = vs.length ∧ ∀ f ∈ fs, ∃ y t, f = Value.str y t := by
    intro vs
    induction vs with
    | nil => exact fun _ => ⟨[], PySem.W.KatTups.nil, rfl, fun _ hf => nomatch hf⟩
    | cons v vs ih =>
      intro hv
      obtain ⟨fs, k, l, i⟩ := ih fun u hu => hv u (List.mem_cons_of_mem _ hu)
      obtain ⟨b, a, rfl, hi, _⟩ := hv v List.mem_cons_self
      obtain ⟨ks, ea⟩ := key_front a
      rw [ea] at hi
      cases hi with
      | @tup _ o items n _ h1 h2 h3 h4 =>
        generalize hl : items.toList = l4 at h4
        cases h4 with
        | @cons _ u _ us x1 x2 =>
          cases x1
          rename_i t
          refine ⟨.str (tg a) t :: fs, PySem.W.KatTups.cons h1 h2 h3 (by rw [← Array.getElem?_toList, hl]; rfl) k, by simp [l], fun f hf => ?_⟩
          rcases List.mem_cons.mp hf with e | hf
          · exact ⟨_, _, e⟩
          · exact i f hf
  obtain ⟨fs, k, hl, hi⟩ := firsts vs x
  refine PySem.W.kat_kind (T := Value.type "str") k (by omega) (fun f hf => ?_) rfl (h _ ?_)
  · obtain ⟨y, t, rfl⟩ := hi f hf
    exact PySem.W.Looks.of_pure rfl
  · intro p q hp hq Q' E' hQ
    rw [pairsOf_toList] at hp hq
    have mp := mem_zip_self hp
    have mq := mem_zip_self hq
    have m2 : p.1 ∈ vs := mp.2
    have m3 : q.1 ∈ vs := mq.2
    obtain ⟨b, a, e1, i1, d1⟩ := x _ m2
    obtain ⟨c, d, e2, i2, d2⟩ := x _ m3
    have z : decide (r p.1 < r q.1) = flt a d := by
      rw [hr _ m2, hr _ m3, below_lt (List.mem_map.mpr ⟨_, m2, rfl⟩) (List.mem_map.mpr ⟨_, m3, rfl⟩), fmAt_eq i1, fmAt_eq i2]
    rw [z] at hQ
    rw [e1, e2]
    rw [e1] at i1
    rw [e2] at i2
    exact katFm i1 i2 (by omega) hQ
/-- list.sort() of formulas -/
theorem sortFm {a : Addr} {vs : List Value} {n : Nat} {Q : Value → Shared → Prop} (ho : s.heap.get? a = some (seqObj "list" vs.toArray n)) (h64 : vs.length < 64) (hu : A.units + 32 < cLine) (x : ∀ v ∈ vs, IsF s.heap v)
    (h : ∀ out : Array Value, out.toList.Perm vs → Q .none { s with heap := sortedHeap s.heap a vs out }) : wpAny (model prog w) A (call (.builtin "list.sort") [.ref a]) Q E s := by
  have keep : ∀ b o, s.heap.get? b = some o → o.cls = .type "tuple" → (TS.midHeap s.heap a vs).get? b = some o := fun b o e hc => by
    refine TS.midHeap_old ?_ e
    rintro rfl
    rw [ho] at e
    cases e
    have c' : Value.type "list" = Value.type "tuple" := hc
    injection c' with c''
    exact absurd c'' (by decide)
  have x' : ∀ v ∈ vs, IsF (TS.midHeap s.heap a vs) v := fun v hv => (x v hv).keeps keep
  refine wpAny_call_entry slot_list_sort ⟨_, ho, rfl⟩ entry_list_sort (SK.plain_sort (r := fun v => below (vs.map (fmAt (TS.midHeap s.heap a vs))) (fmAt (TS.midHeap s.heap a vs) v)) ho h64 (fun h2 Q' hQ => ?_) fun ps out h1 h2 h3 => ?_) (args_list_sort _)
  · exact kindFm (s := { s with heap := TS.midHeap s.heap a vs }) h2 x' (by have := hu; simp only [Around.in1_units]; omega) _ (fun _ _ => rfl) Q' hQ
  · exact ⟨_, rfl, h out (TS.out_rank (r := fun v => below (vs.map (fmAt (TS.midHeap s.heap a vs))) (fmAt (TS.midHeap s.heap a vs) v)) h1 h2 h3).1⟩
/-- sorted(v), over what gathering v gives -/
theorem sorted_any {v : Value} {Q : Value → Shared → Prop} (hu : A.units + 40 < cLine)
    (hC : wpAny (model prog w) A.in1 (collect v) (fun vs s1 => vs.length < 64 ∧ (∀ u ∈ vs, IsF s1.heap u) ∧
      ∀ (h' : Heap) (out : Array Value) (c : Nat), (∀ b o, s1.heap.get? b = some o → h'.get? b = some o) → h'.get? s1.heap.objs.size = some (seqObj "list" out c) → out.toList.Perm vs → Q (.ref s1.heap.objs.size) { s1 with heap := h' }) E s) :
    wpAny (model prog w) A (call (.builtin "sorted") [v]) Q E s := by
  refine Calls.call_function_entry kind_sorted plain_sorted entry_sorted (args_sorted1 _) ?_
  unfold Builtin.«sorted»
  refine wpAny_bind (m := checkCount "sorted" 1 1 _) (wpAny_pure ?_)
  refine wpAny_bind (wpAny_mono hC (fun vs s1 q => ?_) fun _ _ e => e)
  obtain ⟨h64, x, hQ⟩ := q
  refine wpAny_bind (wpAny_newList ?_ (by rw [sizeLine_eq]; omega))
  have hoL : (s1.heap.push (seqObj "list" vs.toArray 0)).get? s1.heap.objs.size = some (seqObj "list" vs.toArray 0) := Heap.get?_push_size _ rfl
  refine wpAny_bind (wpAny_holding (sortFm (s := { s1 with heap := s1.heap.push (seqObj "list" vs.toArray 0) }) hoL h64 (by simp only [Around.in1_units]; omega) (fun v hv => (x v hv).keeps fun b o e _ => Heap.get?_push_of_some _ e) fun out pm => ?_))
  obtain ⟨c, hc⟩ := sortedHeap_at (vs := vs) (out := out) hoL
  refine wpAny_pure ⟨_, rfl, hQ _ out c (fun b o e => ?_) hc pm⟩
  have hlt := Heap.lt_size e
  rw [sortedHeap_old (Nat.ne_of_lt hlt) (by rw [size_push']; exact Nat.lt_succ_of_lt hlt)]
  exact Heap.get?_push_of_some _ e
end
/-- a set of formulas -/
abbrev FM := Addr × Fm
def asMem (L : List FM) : List Mem := L.map fun p => (p.1, key p.2)
section
variable {P : Program} {w : World} {A : Around} {E : Value → Shared → Prop} {s : Shared}
theorem sorted_setN {a : Addr} {L : List Mem} {es : Array (Int × Value)} {ep : Nat} {t : SetTable} {Q : Value → Shared → Prop} (R : SetN w s.heap a L es ep t) (hh : A.handled = none) (hu : A.units + 40 < cLine) (hF : ∀ p ∈ L, ∃ f, p.2 = key f)
    (hQ : ∀ s' p (out : Array Value) (c : Nat), (∀ b o, s.heap.get? b = some o → s'.heap.get? b = some o) → s'.gens = s.gens → s'.os = s.os → s.heap.objs.size ≤ p → s'.heap.get? p = some (seqObj "list" out c) → out.toList.length = L.length →
      (∀ u ∈ out.toList, ∃ q ∈ L, u = .ref q.1) → Q (.ref p) s') : wpAny (model P w) A (call (.builtin "sorted") [.ref a]) Q E s := by
  obtain ⟨o, ho, hex, hd⟩ := R.ob
  have hsz := R.size
  have hfew := R.few
  refine sorted_any hu (collect_set (A := A.in1) hh ⟨o, ho, hex.1, hd⟩ R.fits (by unfold scanBound; omega) R.tab.ris R.led fun s1 vs k1 hz g1 o1 pm => ?_)
  have hes : es.toList.map (·.2) = L.map fun q => Value.ref q.1 := by
    rw [R.rows, rowsN, List.map_map]; rfl
  rw [hes] at pm
  have from_ : ∀ u ∈ vs, ∃ q ∈ L, u = .ref q.1 := fun u hu => by
    obtain ⟨q, hq, e⟩ := List.mem_map.mp (pm.mem_iff.mp hu)
    exact ⟨q, hq, e.symm⟩
  have hl : vs.length = L.length := by rw [pm.length_eq, List.length_map]
  refine ⟨by omega, fun u hu => ?_, fun h' out c k2 hc pm2 => ?_⟩
  · obtain ⟨q, hq, rfl⟩ := from_ u hu
    obtain ⟨f, ef⟩ := hF q hq
    have x := (R.key q hq).kept k1
    refine ⟨q.1, f, rfl, by rw [← ef]; exact x.is, ?_⟩
    have := x.dp
    rw [ef, key_depth] at this
    exact this
  · exact hQ _ _ out c (fun b u e => k2 b u (k1 b u e)) g1 o1 hz hc (by rw [pm2.length_eq, hl]) fun u hu => from_ u (pm2.mem_iff.mp hu)
end
end K33

set_option Elab.async false
set_option linter.all false
set_option maxRecDepth 100000
set_option maxHeartbeats 4000000
/-! Formulas, sides, sequents in the abstract heap; rules over them. -/
namespace K33
open PySem PySem.Spec PyProof.Rows L2 Evl
/-- the value is the formula -/
def FmH (K : PySem.W.Frag) (H : Hp) : Fm → V → Prop
  | .fls, v => ∃ a, v = .ref a ∧ SqT K H a [.str "falsum"]
  | .var x, v => ∃ a, v = .ref a ∧ SqT K H a [.str "var", .str x] ∧ PyData.strOk x = true
  | .and p q, v => ∃ a u t, v = .ref a ∧ SqT K H a [.str "and", u, t] ∧ FmH K H p u ∧ FmH K H q t
  | .or p q, v => ∃ a u t, v = .ref a ∧ SqT K H a [.str "or", u, t] ∧ FmH K H p u ∧ FmH K H q t
  | .imp p q, v => ∃ a u t, v = .ref a ∧ SqT K H a [.str "implies", u, t] ∧ FmH K H p u ∧ FmH K H q t
  | .box p, v => ∃ a u, v = .ref a ∧ SqT K H a [.str "box", u] ∧ FmH K H p u
theorem FmH.ex {K : PySem.W.Frag} {H H' : Hp} (e : Ex H H') : ∀ {f : Fm} {v : V}, FmH K H f v → FmH K H' f v := by
  intro f
  induction f with
  | fls => rintro v ⟨a, rfl, h⟩; exact ⟨a, rfl, ex_t e h⟩
  | var x => rintro v ⟨a, rfl, h, k⟩; exact ⟨a, rfl, ex_t e h, k⟩
  | and p q ip iq => rintro v ⟨a, u, t, rfl, h, h1, h2⟩; exact ⟨a, u, t, rfl, ex_t e h, ip h1, iq h2⟩
  | or p q ip iq => rintro v ⟨a, u, t, rfl, h, h1, h2⟩; exact ⟨a, u, t, rfl, ex_t e h, ip h1, iq h2⟩
  | imp p q ip iq => rintro v ⟨a, u, t, rfl, h, h1, h2⟩; exact ⟨a, u, t, rfl, ex_t e h, ip h1, iq h2⟩
  | box p ip => rintro v ⟨a, u, rfl, h, h1⟩; exact ⟨a, u, rfl, ex_t e h, ip h1⟩
theorem FmH.ref {K : PySem.W.Frag} {H : Hp} {f : Fm} {v : V} (h : FmH K H f v) : ∃ a, v = .ref a := by
  cases f with
  | fls => obtain ⟨a, e, _⟩ := h; exact ⟨a, e⟩
  | var x => obtain ⟨a, e, _⟩ := h; exact ⟨a, e⟩
  | and p q => obtain ⟨a, _, _, e, _⟩ := h; exact ⟨a, e⟩
  | or p q => obtain ⟨a, _, _, e, _⟩ := h; exact ⟨a, e⟩
  | imp p q => obtain ⟨a, _, _, e, _⟩ := h; exact ⟨a, e⟩
  | box p => obtain ⟨a, _, e, _⟩ := h; exact ⟨a, e⟩
/-- its tuple: the tag, the parts -/
def restV : Fm → List V → Prop
  | .fls, r => r = []
  | .var x, r => r = [.str x]
  | .box _, r => ∃ u, r = [u]
  | _, r => ∃ u t, r = [u, t]
theorem FmH.tup {K : PySem.W.Frag} {H : Hp} {f : Fm} {v : V} (h : FmH K H f v) : ∃ a r, v = .ref a ∧ SqT K H a (.str (tg f) :: r) := by
  cases f with
  | fls => obtain ⟨a, e, q⟩ := h; exact ⟨a, _, e, q⟩
  | var x => obtain ⟨a, e, q, _⟩ := h; exact ⟨a, _, e, q⟩
  | and p q => obtain ⟨a, _, _, e, q, _⟩ := h; exact ⟨a, _, e, q⟩
  | or p q => obtain ⟨a, _, _, e, q, _⟩ := h; exact ⟨a, _, e, q⟩
  | imp p q => obtain ⟨a, _, _, e, q, _⟩ := h; exact ⟨a, _, e, q⟩
  | box p => obtain ⟨a, _, e, q, _⟩ := h; exact ⟨a, _, e, q⟩
/-- as data -/
def dataF : Fm → PyData
  | .fls => .tuple [.str "falsum"]
  | .var x => .tuple [.str "var", .str x]
  | .and p q => .tuple [.str "and", dataF p, dataF q]
  | .or p q => .tuple [.str "or", dataF p, dataF q]
  | .imp p q => .tuple [.str "implies", dataF p, dataF q]
  | .box p => .tuple [.str "box", dataF p]
theorem FmH.dp {K : PySem.W.Frag} {H : Hp} : ∀ {f : Fm} {v : V}, FmH K H f v → Dp K H v (dataF f) := by
  intro f
  induction f with
  | fls => rintro v ⟨a, rfl, h⟩; exact .tup h (.cons (.str _) .nil)
  | var x => rintro v ⟨a, rfl, h, _⟩; exact .tup h (.cons (.str _) (.cons (.str _) .nil))
  | and p q ip iq => rintro v ⟨a, u, t, rfl, h, h1, h2⟩; exact .tup h (.cons (.str _) (.cons (ip h1) (.cons (iq h2) .nil)))
  | or p q ip iq => rintro v ⟨a, u, t, rfl, h, h1, h2⟩; exact .tup h (.cons (.str _) (.cons (ip h1) (.cons (iq h2) .nil)))
  | imp p q ip iq => rintro v ⟨a, u, t, rfl, h, h1, h2⟩; exact .tup h (.cons (.str _) (.cons (ip h1) (.cons (iq h2) .nil)))
  | box p ip => rintro v ⟨a, u, rfl, h, h1⟩; exact .tup h (.cons (.str _) (.cons (ip h1) .nil))
theorem lay_tup (xs : List PyData) : PyData.canLay0 (.tuple xs) = PyData.canLayAll0 xs := by simp only [PyData.canLay0]
theorem lay_cons (x : PyData) (xs : List PyData) : PyData.canLayAll0 (x :: xs) = (x.canLay0 && PyData.canLayAll0 xs) := by simp only [PyData.canLayAll0]
theorem lay_nil : PyData.canLayAll0 [] = true := by simp only [PyData.canLayAll0]
theorem lay_str (x : Str) : PyData.canLay0 (.str x) = PyData.strOk x := by simp only [PyData.canLay0]
theorem tags_ok : PyData.strOk "falsum" = true ∧ PyData.strOk "var" = true ∧ PyData.strOk "and" = true ∧ PyData.strOk "or" = true ∧ PyData.strOk "implies" = true ∧ PyData.strOk "box" = true := by decide +kernel
theorem FmH.lay {K : PySem.W.Frag} {H : Hp} : ∀ {f : Fm} {v : V}, FmH K H f v → (dataF f).canLay0 = true := by
  obtain ⟨o1, o2, o3, o4, o5, o6⟩ := tags_ok
  intro f
  induction f with
  | fls => intro v _; simp only [dataF, lay_tup, lay_cons, lay_nil, lay_str, o1, Bool.and_self]
  | var x => rintro v ⟨a, rfl, _, k⟩; simp only [dataF, lay_tup, lay_cons, lay_nil, lay_str, o2, k, Bool.and_self]
  | and p q ip iq => rintro v ⟨_, _, _, _, _, h1, h2⟩; simp only [dataF, lay_tup, lay_cons, lay_nil, lay_str, o3, ip h1, iq h2, Bool.and_self]
  | or p q ip iq => rintro v ⟨_, _, _, _, _, h1, h2⟩; simp only [dataF, lay_tup, lay_cons, lay_nil, lay_str, o4, ip h1, iq h2, Bool.and_self]
  | imp p q ip iq => rintro v ⟨_, _, _, _, _, h1, h2⟩; simp only [dataF, lay_tup, lay_cons, lay_nil, lay_str, o5, ip h1, iq h2, Bool.and_self]
  | box p ip => rintro v ⟨_, _, _, _, h1⟩; simp only [dataF, lay_tup, lay_cons, lay_nil, lay_str, o6, ip h1, Bool.and_self]
theorem dataF_depth : ∀ f, (dataF f).depth = ht f := by
  intro f
  induction f <;> simp [dataF, PyData.depth, PyData.depthAll, ht, *]
theorem FmH.shaped {K : PySem.W.Frag} {H : Hp} {f : Fm} {v : V} (q : FmH K H f v) (h : ht f ≤ 60) : SeqAt.shaped (dataF f) = true := by
  show ((dataF f).canLay0 && decide ((dataF f).depth ≤ 64)) = true
  rw [q.lay, dataF_depth, Bool.true_and]
  exact decide_eq_true (by omega)
theorem eqv_tup (xs ys : List PyData) : PyData.eqv (.tuple xs) (.tuple ys) = PyData.eqvAll xs ys := by simp only [PyData.eqv]
theorem eqv_str (x y : Str) : PyData.eqv (.str x) (.str y) = (x == y) := by simp only [PyData.eqv]
theorem eqv_nil : PyData.eqvAll [] [] = true := by simp only [PyData.eqvAll]
theorem dataF_front (a : Fm) : ∃ r, dataF a = .tuple (.str (tg a) :: r) := by cases a <;> exact ⟨_, rfl⟩
theorem dataF_off (a b : Fm) (h : rk a ≠ rk b) : PyData.eqv (dataF a) (dataF b) = false := by
  obtain ⟨xs, ea⟩ := dataF_front a
  obtain ⟨ys, eb⟩ := dataF_front b
  have h1 := (tg_rk a b h).1
  have h2 : (tg a == tg b) = false := beq_eq_false_iff_ne.mpr fun e => by rw [e, text_same] at h1; cases h1
  rw [ea, eb, eqv_tup, PySem.W.eqv_all_cons, eqv_str, h2, Bool.false_and]
theorem dataF_eqv : ∀ a b : Fm, PyData.eqv (dataF a) (dataF b) = decide (a = b) := by
  have no : ∀ {a b : Fm}, rk a ≠ rk b → PyData.eqv (dataF a) (dataF b) = decide (a = b) := fun {a b} h => by
    rw [dataF_off _ _ h, decide_eq_false fun e => h (by rw [e])]
  intro a
  induction a with
  | fls =>
    intro b
    by_cases h : rk .fls = rk b
    · cases b <;> simp [rk] at h
      simp only [dataF, eqv_tup, PySem.W.eqv_all_cons, eqv_str, eqv_nil, beq_self_eq_true, Bool.and_self, decide_true]
    · exact no h
  | var x =>
    intro b
    by_cases h : rk (.var x) = rk b
    · cases b <;> simp [rk] at h
      rename_i y
      simp only [dataF, eqv_tup, PySem.W.eqv_all_cons, eqv_str, eqv_nil, beq_self_eq_true, Bool.and_true, Bool.true_and, Fm.var.injEq]
      exact Bool.beq_eq_decide_eq x y
    · exact no h
  | box a ih =>
    intro b
    by_cases h : rk (.box a) = rk b
    · cases b <;> simp [rk] at h
      simp only [dataF, eqv_tup, PySem.W.eqv_all_cons, eqv_str, eqv_nil, beq_self_eq_true, Bool.and_true, Bool.true_and, ih, Fm.box.injEq]
    · exact no h
  | and a1 a2 i1 i2 =>
    intro b
    by_cases h : rk (.and a1 a2) = rk b
    · cases b <;> simp [rk] at h
      simp only [dataF, eqv_tup, PySem.W.eqv_all_cons, eqv_str, eqv_nil, beq_self_eq_true, Bool.and_true, Bool.true_and, i1, i2, Fm.and.injEq, Bool.decide_and]
    · exact no h
  | or a1 a2 i1 i2 =>
    intro b
    by_cases h : rk (.or a1 a2) = rk b
    · cases b <;> simp [rk] at h
      simp only [dataF, eqv_tup, PySem.W.eqv_all_cons, eqv_str, eqv_nil, beq_self_eq_true, Bool.and_true, Bool.true_and, i1, i2, Fm.or.injEq, Bool.decide_and]
    · exact no h
  | imp a1 a2 i1 i2 =>
    intro b
    by_cases h : rk (.imp a1 a2) = rk b
    · cases b <;> simp [rk] at h
      simp only [dataF, eqv_tup, PySem.W.eqv_all_cons, eqv_str, eqv_nil, beq_self_eq_true, Bool.and_true, Bool.true_and, i1, i2, Fm.imp.injEq, Bool.decide_and]
    · exact no h
section
variable {X : Cx} {pins : List (Addr × Obj)} {σ : L2.St} {H : Hp} {s : Shared}
theorem FmH.nested (I : Inv X pins σ H s) : ∀ {f : Fm} {v : V} {u : Value}, FmH X.K H f v → RelV v u → NestedIs s.heap (key f) u := by
  have one : ∀ {a : Addr} {xs : List V} {ks : List NestedKey}, SqT X.K H a xs → (∀ us, Vals xs us → NestedAll s.heap ks us) → NestedIs s.heap (.tup ks) (.ref a) := by
    intro a xs ks h q
    obtain ⟨its, r, ⟨o, ho, hc, n, hd⟩, _⟩ := I.tuple h
    exact .tup ho hc hd (by simpa using q its r)
  have txt : ∀ {x : Str} {u : Value}, RelV (.str x) u → NestedIs s.heap (.text x) u := by
    rintro x u ⟨t, rfl⟩
    exact .text _ _
  have two : ∀ {a : Addr} {t : Str} {u w : V} {p q : Fm}, SqT X.K H a [.str t, u, w] → (∀ {z}, RelV u z → NestedIs s.heap (key p) z) → (∀ {z}, RelV w z → NestedIs s.heap (key q) z) → NestedIs s.heap (.tup [.text t, key p, key q]) (.ref a) := by
    intro a t u w p q h h1 h2
    refine one h fun us r => ?_
    cases r with
    | cons r1 r => cases r with
      | cons r2 r => cases r with
        | cons r3 r => cases r; exact .cons (txt r1) (.cons (h1 r2) (.cons (h2 r3) .nil))
  intro f
  induction f with
  | fls =>
    rintro v u ⟨a, rfl, h⟩ r
    cases r
    refine one h fun us r => ?_
    cases r with
    | cons r1 r => cases r; exact .cons (txt r1) .nil
  | var x =>
    rintro v u ⟨a, rfl, h, _⟩ r
    cases r
    refine one h fun us r => ?_
    cases r with
    | cons r1 r => cases r with
      | cons r2 r => cases r; exact .cons (txt r1) (.cons (txt r2) .nil)
  | and p q ip iq => rintro v u ⟨a, _, _, rfl, h, h1, h2⟩ r; cases r; exact two h (ip h1) (iq h2)
  | or p q ip iq => rintro v u ⟨a, _, _, rfl, h, h1, h2⟩ r; cases r; exact two h (ip h1) (iq h2)
  | imp p q ip iq => rintro v u ⟨a, _, _, rfl, h, h1, h2⟩ r; cases r; exact two h (ip h1) (iq h2)
  | box p ip =>
    rintro v u ⟨a, z, rfl, h, h1⟩ r
    cases r
    refine one h fun us r => ?_
    cases r with
    | cons r1 r => cases r with
      | cons r2 r => cases r; exact .cons (txt r1) (.cons (ip h1 r2) .nil)
theorem FmH.isN (I : Inv X pins σ H s) {f : Fm} {a : Addr} (h : FmH X.K H f (.ref a)) (hh : ht f ≤ 8) : IsN s.heap (key f) a := ⟨h.nested I rfl, by rw [key_depth]; exact hh, key_tagged f⟩
end
/-- the values of a side -/
abbrev refs (L : List FM) : List V := L.map fun p => V.ref p.1
def AllF (K : PySem.W.Frag) (H : Hp) (L : List FM) : Prop := ∀ p ∈ L, FmH K H p.2 (.ref p.1)
theorem AllF.ex {K : PySem.W.Frag} {H H' : Hp} {L : List FM} (e : Ex H H') (h : AllF K H L) : AllF K H' L := fun p hp => (h p hp).ex e
theorem refs_vals : ∀ (L : List FM), Vals (refs L) (L.map fun p => Value.ref p.1)
  | [] => .nil
  | p :: L => .cons rfl (refs_vals L)
theorem vals_refs : ∀ {L : List FM} {us : List Value}, Vals (refs L) us → us = L.map fun p => Value.ref p.1
  | [], _, .nil => rfl
  | p :: L, _, .cons r t => by
    cases r
    rw [vals_refs t]; rfl
/-- out of members of a list's image, the members -/
theorem pick {α β : Type} {f : α → β} {L : List α} : ∀ (us : List β), (∀ u ∈ us, ∃ q ∈ L, u = f q) → ∃ N : List α, us = N.map f ∧ ∀ q ∈ N, q ∈ L
  | [], _ => ⟨[], rfl, fun _ h => nomatch h⟩
  | u :: us, h => by
    obtain ⟨q, hq, e⟩ := h u List.mem_cons_self
    obtain ⟨N, e1, hs⟩ := pick us fun v hv => h v (List.mem_cons_of_mem _ hv)
    refine ⟨q :: N, by rw [List.map_cons, e, e1], fun r hr => ?_⟩
    rcases List.mem_cons.mp hr with z | z
    · rw [z]; exact hq
    · exact hs r z
/-- a set of formulas stands at a: what its own object says -/
def SetF0 (w : World) (a : Addr) (L : List FM) (h : Heap) : Prop := ∃ (es : Array (Int × Value)) (ep : Nat) (t : SetTable), (∃ o, h.get? a = some o ∧ o.ExactSet ∧ o.data = .set es ep t) ∧ es.toList = rowsN w (asMem L) ∧ TabOk t (hsN w (asMem L)) ∧ ((asMem L).map (·.2)).Nodup ∧
  (w.params.followText "set-order" = true ∨ t.led = true) ∧ (asMem L).length * 5 < t.mask * 3 ∧ (asMem L).length < 64
def SetFO (w : World) (a : Addr) (L : List FM) : HO := .ext (SetF0 w a L)
theorem setFO_ok {P : Program} {w : World} {H : Hp} {h : Heap} {a : Addr} {L : List FM} (R : SetF0 w a L h) : ObjOk P w H h a (SetFO w a L) := by
  refine ⟨R, ?_, fun h1 h2 p k => ?_⟩
  · obtain ⟨_, _, _, ⟨o, ho, _⟩, _⟩ := R; exact ⟨o, ho⟩
  · obtain ⟨es, ep, t, ⟨o, ho, r⟩, q⟩ := p
    exact ⟨es, ep, t, ⟨o, k o ho, r⟩, q⟩
theorem asMem_pick {L0 : List FM} {L : List Mem} (h : ∀ p ∈ L, p ∈ asMem L0) : ∃ M, L = asMem M ∧ ∀ q ∈ M, q ∈ L0 :=
  pick (f := fun p : FM => ((p.1, key p.2) : Mem)) L fun u hu => by
    obtain ⟨q, hq, e⟩ := List.mem_map.mp (h u hu)
    exact ⟨q, hq, e.symm⟩
/-- set(xs), xs a list or a tuple of formulas -/
def rSetF (K : PySem.W.Frag) (w : World) : List V → Hp → VK → Prop := fun xs H Q => ∃ (l : Addr) (L : List FM), xs = [V.ref l] ∧ (SqL K H l (refs L) ∨ SqT K H l (refs L)) ∧ AllF K H L ∧ (∀ p ∈ L, ht p.2 ≤ 8) ∧ L.length < 64 ∧
  ∀ a M, H a = none → (∀ p ∈ M, p ∈ L) → M.length ≤ L.length → Q (.ref a) (upd H a (SetFO w a M))
section
variable {X : Cx}
theorem cr_setF (hc : X.calm = true) (hu : X.A.units + 64 < cLine) : CallR X (.type "set") (rSetF X.K X.w) := by
  intro pins s σ H xs us Q I r h
  obtain ⟨l, L, rfl, hl, hF, hh, hf, q⟩ := h
  rw [Vals.ref1 r]
  have hn : H s.heap.objs.size = none := I.hok.fresh (Nat.le_refl _)
  have hk : ∀ p ∈ asMem L, IsN s.heap p.2 p.1 := fun p hp => by
    obtain ⟨q, hq, e⟩ := List.mem_map.mp hp
    subst e
    exact (hF q hq).isN I (hh q hq)
  have hlen : (asMem L).length = L.length := by simp [asMem]
  have fin : ∀ (h' : Heap) (tk : Nat) L' es ep t, SetN X.w h' s.heap.objs.size L' es ep t → Had (asMem L) (asMem L).length L' → (∀ b o, s.heap.get? b = some o → h'.get? b = some o) → EP X pins σ Q (.ref s.heap.objs.size) { s with heap := h', toks := tk } := by
    intro h' tk L' es ep t R g k
    obtain ⟨M, rfl, hM⟩ := asMem_pick g.sub
    have R0 : SetF0 X.w s.heap.objs.size M h' := ⟨es, ep, t, R.ob, R.rows, R.tab, R.nd, R.led, R.room, R.few⟩
    have hlM : M.length ≤ L.length := by
      have h1 := g.len
      rw [hlen] at h1
      simpa [asMem] using h1
    exact ⟨.ref s.heap.objs.size, _, I.laid (t' := tk) k (Nat.le_refl _) (setFO_ok R0), rfl, q _ M hn hM hlM⟩
  rcases hl with hl | hl
  · obtain ⟨its, rv, pl, hz⟩ := I.list hl
    exact callSet_list (P := X.prog) (w := X.w) (asMem L) (I.ok.hd hc) pl.isList (by simp [vals_refs rv, asMem, Function.comp_def]) hk (by omega) (by omega) fin
  · obtain ⟨its, rv, pl, hz⟩ := I.tuple hl
    exact callSet_tuple (P := X.prog) (w := X.w) (asMem L) (I.ok.hd hc) (show s.heap.IsTuple l its.toArray from pl) (by simp [vals_refs rv, asMem, Function.comp_def]) hk (by omega) (by omega) fin
/-- sorted(set) of formulas: a list of its members -/
def rSortedF (K : PySem.W.Frag) (w : World) : List V → Hp → VK → Prop := fun vs H Q => ∃ (a : Addr) (M : List FM), vs = [V.ref a] ∧ H a = some (SetFO w a M) ∧ AllF K H M ∧ (∀ p ∈ M, ht p.2 ≤ 8) ∧
  ∀ N p, (∀ q ∈ N, q ∈ M) → N.length = M.length → H p = none → Q (.ref p) (upd H p (.lst (refs N)))
theorem cr_sortedF (hc : X.calm = true) (hu : X.A.units + 64 < cLine) : CallR X (.builtin "sorted") (rSortedF X.K X.w) := by
  intro pins s σ H vs us Q I r h
  obtain ⟨a, M, rfl, ha, hF, hh, q⟩ := h
  obtain ⟨es, ep, t, ob, rows, tab, nd, led, room, few⟩ := (show ObjOk X.prog X.w H s.heap a (SetFO X.w a M) from I.hok a _ ha).1
  have R : SetN X.w s.heap a (asMem M) es ep t := ⟨ob, rows, tab, nd, fun p hp => by
    obtain ⟨q, hq, e⟩ := List.mem_map.mp hp
    subst e
    exact (hF q hq).isN I (hh q hq), led, room, few⟩
  rw [Vals.ref1 r]
  refine sorted_setN R (I.ok.hd hc) (by omega) (fun p hp => ?_) fun s' p out c k g o hp hg hlen hout => ?_
  · obtain ⟨q, hq, e⟩ := List.mem_map.mp hp
    exact ⟨q.2, by rw [← e]⟩
  · obtain ⟨N, eN, hN⟩ := pick (f := fun q : FM => Value.ref q.1) (L := M) out.toList fun u hu => by
      obtain ⟨q, hq, e⟩ := hout u hu
      obtain ⟨q', hq', e'⟩ := List.mem_map.mp hq
      exact ⟨q', hq', by rw [e, ← e']⟩
    have hl2 : N.length = M.length := by
      have h1 := hlen
      rw [eN] at h1
      simpa [asMem] using h1
    have hfew : M.length < 64 := by simpa [asMem] using few
    have hn : H p = none := I.hok.fresh hp
    have hv : Vals (refs N) out.toList := by rw [eN]; exact refs_vals N
    have hz : (refs N).length ≤ sizeLine := by rw [List.length_map, sizeLine_eq]; omega
    have J : Inv X pins σ (upd H p (.lst (refs N))) { s with heap := s'.heap, gens := s'.gens, drawn := s'.drawn, toks := s'.toks } :=
      I.call (ch := []) (Un.laid k hp hn) (I.hok.laid k hp ⟨hz, out.toList, c, hv, hg⟩) (by rw [g]; exact I.bare) (fun _ z => nomatch z)
    have e : s' = { s with heap := s'.heap, gens := s'.gens, drawn := s'.drawn, toks := s'.toks } := by
      cases s'; cases s; cases o; rfl
    rw [e]
    exact ⟨.ref p, _, J, rfl, q N p hN hl2 hn⟩
end
end K33

set_option Elab.async false
set_option linter.all false
set_option maxRecDepth 100000
set_option maxHeartbeats 4000000
namespace K33
open PySem PySem.Spec PyProof.Rows L2 Evl
/-! ### max(ints, default=0) -/
theorem args_maxD (a d : Value) : argsOk "max" ⟨[a], [("default", d)]⟩ := by unfold argsOk; kernel_rfl
theorem cmp_gt_int {prog : Program} {w : World} {A : Around} {E : Value → Shared → Prop} {s : Shared} {a b : Int} {t u : Tok} {Q : Value → Shared → Prop} (h : Q (.bool (decide (a > b))) s) : wpAny (model prog w) A (richCompare .Gt (.int a t) (.int b u)) Q E s := gt_int h
/-- an int that is not negative -/
def NatV (v : Value) : Prop := ∃ (n : Int) (t : Tok), v = .int n t ∧ 0 ≤ n
section
variable {prog : Program} {w : World} {A : Around} {R : Result → Shared → Prop} {I : Addr} {fp wr : List Addr} {n : Nat} {P : Nat → Value → Prop} {St : Nat → Heap → Prop}
theorem maxLoopD (W : Walks prog w A.in1 I fp wr n P St) (hP : ∀ i v, P i v → NatV v) (S : Addr) (hSf : S ∉ fp) (d : Value) (hd : NatV d) :
    ∀ (k j : Nat) (s : Shared) (items : Array Value) (c : Nat), n - j = k → j ≤ n → St j s.heap → (items = #[] ∨ ∃ v, NatV v ∧ items = #[v, v]) → s.heap.get? S = some { cls := .type "list", dict := none, data := .seq items c, slots := #[] } →
    (∀ v h' tk, NatV v → (∀ b o, b ∉ wr → b ≠ S → s.heap.get? b = some o → h'.get? b = some o) → R (.ok (.ret v)) { s with heap := h', toks := tk }) →
    codeAny (model prog w) A (.builtin "max.loop" ⟨[.ref I, .none, .ref S], [("default", d)]⟩) R s := by
  have hSw : S ∉ wr := fun h => hSf (W.sub _ h)
  have hname : (toString "max" ++ toString ".loop" : String) = "max.loop" := by decide
  intro k
  induction k with
  | zero =>
    intro j s items c hk hj hst hit hS hR
    obtain rfl : j = n := by omega
    refine codeAny_builtin F.entry_max_loop ?_
    rw [Around.under_plainId F.plain_max_loop _]
    show wpAny _ A.in1 (seqItems? (.ref S) >>= _) _ _ s
    refine wpAny_bind (wpAny_seqItems hS rfl ?_)
    show wpAny _ A.in1 (tryCatch (pyNext (.ref I)) _ >>= _) _ _ s
    refine wpAny_bind (wpAny_tryCatch (W.done s _ _ hst fun h' tk hk' => ?_))
    have hS' := hk' S _ hSw hS
    rcases hit with rfl | ⟨vb, hv, rfl⟩
    · exact wpAny_bind (wpAny_rule (wpAny_pure (hR d _ tk hd fun b o hbw _ e => hk' b o hbw e)))
    · show wpAny _ A.in1 (updateSeq S (fun _ => #[]) >>= _) _ _ _
      refine wpAny_bind ?_
      refine wpAny_updateSeq hS' rfl (wpAny_bind (wpAny_letGo (wpAny_pure ?_)))
      exact hR vb _ tk hv fun b o hbw hbS e => (Heap.get?_update_other _ _ (Ne.symm hbS)).trans (hk' b o hbw e)
  | succ k ih =>
    intro j s items c hk hj hst hit hS hR
    have hlt : j < n := by omega
    refine codeAny_builtin F.entry_max_loop ?_
    rw [Around.under_plainId F.plain_max_loop _]
    show wpAny _ A.in1 (seqItems? (.ref S) >>= _) _ _ s
    refine wpAny_bind (wpAny_seqItems hS rfl ?_)
    show wpAny _ A.in1 (tryCatch (pyNext (.ref I)) _ >>= _) _ _ s
    refine wpAny_bind (wpAny_tryCatch (W.item j s _ _ hlt hst fun v h' tk hPv hst' hk' => ?_))
    have hS' := hk' S _ hSw hS
    have nv := hP j v hPv
    have frame : ∀ {x : Array Value → Array Value}, St (j + 1) (h'.update S (Obj.mapSeq x)) := fun {x} => W.frame _ _ _ hst' fun b hbf o e => (Heap.get?_update_other _ _ (fun h : S = b => hSf (by rw [h]; exact hbf))).trans e
    rcases hit with rfl | ⟨vb, hv, rfl⟩
    · show wpAny _ A.in1 (updateSeq S (fun _ => #[v, v]) >>= _) _ _ _
      refine wpAny_bind ?_
      refine wpAny_updateSeq hS' rfl ?_
      rw [hname]
      refine wpAny_pure ⟨plainId_quiet F.plain_max_loop _, ih (j + 1) _ #[v, v] _ (by omega) hlt frame (.inr ⟨v, nv, rfl⟩) (Heap.get?_update_self _ hS' rfl) fun v' h'' tk'' hP' hk'' => ?_⟩
      exact hR v' h'' tk'' hP' fun b o hbw hbS e => hk'' b o hbw hbS ((Heap.get?_update_other _ _ (Ne.symm hbS)).trans (hk' b o hbw e))
    · show wpAny _ A.in1 (tryCatch (holding [v, v] (richCompare .Gt v vb >>= _)) _ >>= _) _ _ _
      obtain ⟨x, t, rfl, hx⟩ := id nv
      obtain ⟨y, u, rfl, hy⟩ := id hv
      refine wpAny_bind (wpAny_tryCatch (wpAny_holding (wpAny_bind ?_)))
      refine cmp_gt_int ?_
      refine wpAny_bind (wpAny_holding (wpAny_truthy_bool ?_))
      refine wpAny_bind (wpAny_letGo (wpAny_pure ?_))
      cases hb : decide (y < x) with
      | true =>
        simp only [if_true]
        refine wpAny_bind ?_
        refine wpAny_updateSeq hS' rfl (wpAny_bind (wpAny_letGo ?_))
        rw [hname]
        refine wpAny_pure ⟨plainId_quiet F.plain_max_loop _, ih (j + 1) _ _ _ (by omega) hlt frame (.inr ⟨_, nv, rfl⟩) (Heap.get?_update_self _ hS' rfl) fun v' h'' tk'' hP' hk'' => ?_⟩
        exact hR v' h'' tk'' hP' fun b o hbw hbS e => hk'' b o hbw hbS ((Heap.get?_update_other _ _ (Ne.symm hbS)).trans (hk' b o hbw e))
      | false =>
        simp only [Bool.false_eq_true, if_false]
        refine wpAny_bind (wpAny_letGo ?_)
        rw [hname]
        refine wpAny_pure ⟨plainId_quiet F.plain_max_loop _, ih (j + 1) _ _ c (by omega) hlt hst' (.inr ⟨_, hv, rfl⟩) hS' fun v' h'' tk'' hP' hk'' => ?_⟩
        exact hR v' h'' tk'' hP' fun b o hbw hbS e => hk'' b o hbw hbS (hk' b o hbw e)
end
section
variable {prog : Program} {w : World} {A : Around} {E : Value → Shared → Prop} {s : Shared}
theorem call_function_treeK {id : String} {b : Builtin} {args : List Value} {kw : List (Str × Value)} {Q : Value → Shared → Prop} (hk : builtinKind id = none) (hp : plainId id = true)
    (hb : entryFor table id = some b) (ha : argsOk id ⟨args, kw⟩)
    (hc : wpAny (model prog w) A.in1 (b ⟨args, kw⟩) (fun fin s' => match fin with
      | .done f => (match (Except.ok f : Result) with | .ok (.ret v) => Q v s' | .ok _ => False | .error e => E e s')
      | .again c' => c'.quiet = true ∧ codeAny (model prog w) A c' (fun r s' => match r with | .ok (.ret v) => Q v s' | .ok _ => False | .error e => E e s') s') E s) :
    wpAny (model prog w) A (call (.builtin id) args kw) Q E s := by
  refine wpAny_call (codeAny_call_builtin hp hb ?_)
  simp only [checkBuiltinCall, hk]
  cases hsig : Manifest.signature? id with
  | none => exact wpAny_pure hc
  | some sig =>
    simp only [argsOk, hsig] at ha
    have h2 : Bind.checkArgs id sig ⟨args, kw⟩ = pure () := ha
    show wpAny _ A.in1 (Bind.checkArgs id sig ⟨args, kw⟩) _ _ s
    rw [h2]; exact wpAny_pure hc
theorem call_maxD {l : Addr} {items : Array Value} {d : Value} {Q : Value → Shared → Prop} (hh : A.handled = none) (hl : s.heap.IsList l items) (hi : ∀ v ∈ items.toList, NatV v) (hd : NatV d)
    (hQ : ∀ v h' tk, NatV v → (∀ b o, s.heap.get? b = some o → h'.get? b = some o) → Q v { s with heap := h', toks := tk }) : wpAny (model prog w) A (call (.builtin "max") [.ref l] [("default", d)]) Q E s := by
  have hname : (toString "max" ++ toString ".loop" : String) = "max.loop" := by decide
  refine call_function_treeK F.kind_max F.plain_max F.entry_max (args_maxD _ _) ?_
  show wpAny _ A.in1 (Builtin.Builtins.bindParams "max" ["key", "default"] 0 ⟨[], [("default", d)]⟩ >>= _) _ _ s
  refine wpAny_bind (wpAny_of_eq (show Builtin.Builtins.bindParams "max" ["key", "default"] 0 ⟨[], [("default", d)]⟩ = pure [none, some d] from rfl) ?_)
  refine wpAny_bind (wpAny_pure ?_)
  have hlS : l < s.heap.objs.size := by obtain ⟨o, ho, _⟩ := hl; exact Heap.lt_size ho
  refine wpAny_bind (wpAny_pyIter_list hl ?_)
  refine wpAny_bind (wpAny_newObj_type ?_)
  rw [hname]
  have W := Walks.list (prog := prog) (w := w) (A := A.in1) (by simp [hh]) s.heap.objs.size l (Nat.ne_of_lt hlS) items
  refine wpAny_pure ⟨plainId_quiet F.plain_max_loop _, maxLoopD (A := A) (St := fun i h => h.IsListIter s.heap.objs.size l i ∧ h.IsList l items) (wr := [s.heap.objs.size]) (P := fun i v => items[i]? = some v) W (fun i v hv => hi v (List.mem_of_getElem? (by rw [Array.getElem?_toList]; exact hv))) _ ?_ d hd (items.size - 0) 0 _ #[] 0 rfl (Nat.zero_le _) ⟨⟨_, Heap.get?_push_of_some _ (Heap.get?_push_size _ rfl), rfl, rfl⟩, (hl.push _).push _⟩ (.inl rfl) (Heap.get?_push_size _ rfl) fun v h' tk hv hk => ?_⟩
  · intro hm
    simp only [List.mem_cons, List.not_mem_nil, or_false] at hm
    have e : (s.heap.push { cls := .type "list_iterator", data := .fields #[.ref l, .int 0 0] }).objs.size = s.heap.objs.size + 1 := Heap.size_push _ _
    rcases hm with hm | hm
    · exact Nat.succ_ne_self _ (e.symm.trans hm)
    · exact Nat.not_succ_lt_self (show s.heap.objs.size + 1 < s.heap.objs.size from (hm.symm.trans e) ▸ hlS)
  · have e0 : (s.heap.push { cls := .type "list_iterator", data := .fields #[.ref l, .int 0 0] }).objs.size = s.heap.objs.size + 1 := Heap.size_push _ _
    refine hQ v h' tk hv fun b o e => hk b o ?_ ?_ (Heap.get?_push_of_some _ (Heap.get?_push_of_some _ e))
    · intro hm
      simp only [List.mem_singleton] at hm
      exact Nat.lt_irrefl _ (hm ▸ Heap.lt_size e)
    · intro hm
      have h1 := Heap.lt_size e
      exact Nat.not_succ_lt_self (show s.heap.objs.size + 1 < s.heap.objs.size from (hm.trans e0) ▸ h1)
end
/-- max(l, default=d) of ints that are not negative -/
def rMaxD (K : PySem.W.Frag) : List V → List V → Hp → VK → Prop := fun xs zs H Q => ∃ (l : Addr) (ns : List Int) (d : Int), xs = [.ref l] ∧ zs = [.int d] ∧ 0 ≤ d ∧ SqL K H l (ns.map V.int) ∧ (∀ n ∈ ns, 0 ≤ n) ∧ ∀ n, 0 ≤ n → Q (.int n) H
theorem cr_maxD {X : Cx} (hc : X.calm = true) : CallRK X (.builtin "max") ["default"] (rMaxD X.K) := by
  intro pins s σ H xs zs us ws Q I r r' h
  obtain ⟨l, ns, d, rfl, rfl, hd, hl, hn, q⟩ := h
  rw [Vals.ref1 r]
  cases r' with
  | cons rd rn =>
    rename_i dv _
    cases rn
    obtain ⟨td, rfl⟩ := rd
    obtain ⟨its, rv, pl, hz⟩ := I.list hl
    refine call_maxD (I.ok.hd hc) pl.isList (fun v hv => ?_) ⟨d, td, rfl, hd⟩ fun v h' tk hv k => ?_
    · have hv' : v ∈ its := by simpa using hv
      obtain ⟨i, hi⟩ := List.mem_iff_getElem?.mp hv'
      have hil : i < (ns.map V.int).length := by rw [rv.length]; exact (List.getElem?_eq_some_iff.mp hi).1
      have e1 : (ns.map V.int)[i]? = some (V.int (ns[i]'(by simpa using hil))) := by rw [List.getElem?_map, List.getElem?_eq_getElem (by simpa using hil)]; rfl
      obtain ⟨u, hu, ru⟩ := rv.get e1
      rw [hi] at hu
      cases hu
      obtain ⟨t, rfl⟩ := ru
      exact ⟨_, t, rfl, hn _ (List.getElem_mem _)⟩
    · obtain ⟨n, t, rfl, h0⟩ := hv
      exact ⟨.int n, H, I.kept (t' := tk) k, ⟨t, rfl⟩, q n h0⟩
/-! ### x in a side -/
section
variable {X : Cx}
def rInF (K : PySem.W.Frag) : R2 := fun x y H Q => ∃ (f : Fm) (a : Addr) (L : List FM), FmH K H f x ∧ y = .ref a ∧ SqT K H a (refs L) ∧ AllF K H L ∧ ht f ≤ 40 ∧ Q (.bl (decide (f ∈ L.map (·.2)))) H
theorem dpAll_refs {K : PySem.W.Frag} {H : Hp} : ∀ {L : List FM}, AllF K H L → DpAll K H (refs L) (L.map fun p => dataF p.2)
  | [], _ => .nil
  | p :: L, h => .cons (h p List.mem_cons_self).dp (dpAll_refs fun q hq => h q (List.mem_cons_of_mem _ hq))
theorem lay_refs {K : PySem.W.Frag} {H : Hp} : ∀ {L : List FM}, AllF K H L → PyData.canLayAll0 (L.map fun p => dataF p.2) = true
  | [], _ => lay_nil
  | p :: L, h => by rw [List.map_cons, lay_cons, (h p List.mem_cons_self).lay, lay_refs fun q hq => h q (List.mem_cons_of_mem _ hq)]; rfl
theorem any_refs (f : Fm) : ∀ L : List FM, ((L.map fun p => dataF p.2).any fun y => PyData.eqv y (dataF f)) = decide (f ∈ L.map (·.2))
  | [] => by simp
  | p :: L => by
    rw [List.map_cons, List.any_cons, any_refs f L, dataF_eqv]
    by_cases e : p.2 = f
    · simp [e]
    · by_cases e2 : f ∈ L.map (·.2)
      · simp [e2]
      · have : ¬ f = p.2 := fun h => e h.symm
        simp [e, e2, this]
theorem op_inF (hu : X.A.units + 64 < cLine) : OpR X (compareOp .In) (rInF X.K) := by
  intro pins s σ H x y v u Q I rx ry h
  obtain ⟨f, a, L, hf, rfl, hL, hA, hh, q⟩ := h
  obtain ⟨as, r1⟩ := Dp.reads I (dataF f) x v hf.dp rx
  obtain ⟨bs, r2⟩ := Dp.reads I (.tuple (L.map fun p => dataF p.2)) (.ref a) u (.tup hL (dpAll_refs hA)) ry
  refine SeqAt.in_tuple_reads r2 r1 (lay_refs hA) hf.lay (by rw [dataF_depth]; omega) ?_
  rw [any_refs]
  exact ⟨.bl _, H, I, rfl, q⟩
/-- == and != of formulas -/
def rEqF (K : PySem.W.Frag) : R2 := fun x y H Q => ∃ f g : Fm, FmH K H f x ∧ FmH K H g y ∧ ht f ≤ 40 ∧ ht g ≤ 40 ∧ Q (.bl (decide (f = g))) H
def rNeF (K : PySem.W.Frag) : R2 := fun x y H Q => ∃ f g : Fm, FmH K H f x ∧ FmH K H g y ∧ ht f ≤ 40 ∧ ht g ≤ 40 ∧ Q (.bl (!decide (f = g))) H
theorem op_eqF (hu : X.A.units + 64 < cLine) : OpR X (compareOp .Eq) (rEqF X.K) := by
  intro pins s σ H x y v u Q I rx ry h
  obtain ⟨f, g, hf, hg, h1, h2, q⟩ := h
  exact op_eqD hu pins s σ H x y v u Q I rx ry ⟨_, _, hf.dp, hg.dp, hf.shaped (by omega), hg.shaped (by omega), by rw [dataF_eqv]; exact q⟩
theorem op_neF (hu : X.A.units + 64 < cLine) : OpR X (compareOp .NotEq) (rNeF X.K) := by
  intro pins s σ H x y v u Q I rx ry h
  obtain ⟨f, g, hf, hg, h1, h2, q⟩ := h
  exact op_neD hu pins s σ H x y v u Q I rx ry ⟨_, _, hf.dp, hg.dp, hf.shaped (by omega), hg.shaped (by omega), by rw [dataF_eqv]; exact q⟩
end
end K33

set_option Elab.async false
set_option linter.all false
set_option maxRecDepth 100000
set_option maxHeartbeats 0
/-! The head: what the program's top leaves, told by names. -/
namespace K33
open PySem PySem.Spec PyProof.Rows L2
abbrev P33 : PySem.Program := PySem.Challenge.pw_elsewhere_k33_whole_rules_keep_refutatio
def top (i : Nat) : Stmt := P33.main.body.getD i (.Pass ⟨0, 0, 0, 0⟩)
def dd (n : Str) (i : Nat) : He.DefD := ⟨(n, none), n, n, defArgs (top i), defBody (top i), defScope (top i), [], []⟩
/-- the defs, in the text's order -/
def fn1 : List He.DefD := [dd "neg" 6, dd "parts" 7, dd "modal_depth" 8, dd "is_plain" 9, dd "collect" 10, dd "subformulas" 11, dd "variables" 12, dd "require_logic" 16, dd "ascending" 18, dd "added" 19,
  dd "require" 23, dd "is_main" 24, dd "axiom" 25, dd "falsum" 26, dd "and_left" 27, dd "and_right" 28, dd "or_left" 29, dd "or_right" 30, dd "implies_left" 31, dd "implies_right" 32, dd "cut" 33, dd "reflexive" 34]
def fn2 : List He.DefD := [dd "kept_left" 35, dd "modal" 36, dd "serial" 37, dd "weak_middle" 38, dd "implications" 39, dd "middles" 40, dd "linear_right" 41, dd "depth_right" 42, dd "two_right" 43, dd "premises_of" 45,
  dd "_law_cell" 47, dd "_law_numbers" 48, dd "_law_formula" 49, dd "_law_goal" 50, dd "_law_logic" 51, dd "_law_closed" 52, dd "_law_model" 53, dd "_law_true" 55, dd "_law_refuted" 56, dd "law" 57]
def fn : List He.DefD := fn1 ++ fn2
def gloNames1 : List Str := ["neg", "parts", "modal_depth", "is_plain", "collect", "subformulas", "variables", "require_logic", "ascending", "added",
  "require", "is_main", "axiom", "falsum", "and_left", "and_right", "or_left", "or_right", "implies_left", "implies_right", "cut", "reflexive"]
def gloNames2 : List Str := ["kept_left", "modal", "serial", "weak_middle", "implications", "middles", "linear_right", "depth_right", "two_right", "premises_of",
  "_law_cell", "_law_numbers", "_law_formula", "_law_goal", "_law_logic", "_law_closed", "_law_model", "_law_true", "_law_refuted", "law",
  "FALSUM", "MODAL", "INTERMEDIATE", "KEEPS_INNER", "KEEPS_BOXES", "RULES", "NoFit", "UnknownLogic"]
def gloNames : List Str := gloNames1 ++ gloNames2
def freeNames : List Str := ["int", "max", "set", "sorted", "tuple", "range", "len", "abs", "list"]
def fa : List He.Fa := gloNames.map He.Fa.glo ++ freeNames.map He.Fa.free ++ [.exc "NoFit", .exc "UnknownLogic", .exm "NoFit" "NoFit" true]
def modalNames : List Str := ["K", "D", "T", "K4", "D4", "S4", "S5", "GL", "Grz"]
def interNames : List Str := ["Int", "KC", "LC", "BD2", "HT", "Cl"]
def ruleTab : List (Str × Str × List Str) := [("axiom", "axiom", modalNames ++ interNames), ("falsum", "falsum", modalNames ++ interNames), ("and_left", "and_left", modalNames ++ interNames),
  ("and_right", "and_right", modalNames ++ interNames), ("or_left", "or_left", modalNames ++ interNames), ("or_right", "or_right", modalNames ++ interNames), ("implies_left", "implies_left", modalNames ++ interNames),
  ("implies_right", "implies_right", modalNames ++ interNames), ("cut", "cut", modalNames ++ interNames), ("reflexive", "reflexive", ["T", "S4", "S5", "Grz"]), ("modal", "modal", modalNames), ("serial", "serial", ["D", "D4"]),
  ("weak_middle", "weak_middle", ["KC"]), ("linear_right", "linear_right", ["LC"]), ("depth_right", "depth_right", ["BD2"]), ("two_right", "two_right", ["HT"])]
/-- the items of the tuple at an address -/
def tupAt (K : PySem.W.Frag) (a : Addr) : Option (List Value) := match K.lookup a with
  | some ⟨.type c, _, .seq its _, _⟩ => (match decide (c = "tuple") && decide (its.size ≤ 1000) with
    | true => some its.toList
    | false => none)
  | _ => none
def ruleB (K : PySem.W.Frag) (r : Str × Str × List Str) : Bool := match PySem.W.nsIn K (He.ga K "RULES") r.1 with
  | some (some (.ref T)) => (match tupAt K T with
    | some [.ref f, .ref U] => Nat.beq f (He.ga K r.2.1) && (match tupAt K U with
      | some us => He.relAll (r.2.2.map V.str) us
      | none => false)
    | _ => false)
  | _ => false
def strTupB (K : PySem.W.Frag) (x : Str) (ns : List Str) : Bool := match tupAt K (He.ga K x) with
  | some us => He.relAll (ns.map V.str) us
  | none => false
def ex (K : PySem.W.Frag) : Bool := strTupB K "FALSUM" ["falsum"] && (strTupB K "MODAL" modalNames && (strTupB K "INTERMEDIATE" interNames && (strTupB K "KEEPS_INNER" ["K", "D", "T", "K4", "D4", "GL"] && (strTupB K "KEEPS_BOXES" ["K4", "D4", "S4", "S5", "GL", "Grz"] &&
  ruleTab.all (ruleB K)))))
def ts : List He.Tab := [(fun K => He.ga K "RULES", ruleTab.map (·.1))]
abbrev R33 : PySem.W.OpenRow := PySem.W.OpenLaw.row PySem.Challenge.rw_elsewhere_k33_whole_rules_keep_refutatio
abbrev hk : PySem.W.Hook := He.hookX 5 fa fn ts [] ex
def ob (s : PySem.W.SharedT) : He.AlX := He.obsX 5 fa fn ts [] ex (HandSHeadRun.getT s)
theorem ob_eq (s : PySem.W.SharedT) : ob s = hk.obs s.abs := He.obsX_eq (HandSHeadRun.getT_eq s)
def loose1 : List Str := ["ElsewhereError", "UnknownLogic", "NoFit", "FALSUM", "neg", "parts", "modal_depth", "is_plain", "collect", "subformulas", "variables", "MODAL", "INTERMEDIATE", "require_logic", "ascending", "added", "KEEPS_INNER", "KEEPS_BOXES", "require", "is_main"]
def loose2 : List Str := ["axiom", "falsum", "and_left", "and_right", "or_left", "or_right", "implies_left", "implies_right", "cut", "reflexive", "kept_left", "modal", "serial", "weak_middle", "implications", "middles", "linear_right", "depth_right", "two_right", "RULES", "premises_of"]
def loose3 : List Str := ["_law_cell", "_law_numbers", "_law_formula", "_law_goal", "_law_logic", "_law_closed", "_law_model", "_law_pairs", "_law_true", "_law_refuted"]
def loose : List Str := loose1 ++ (loose2 ++ loose3)
end K33

set_option Elab.async false
set_option maxRecDepth 100000
set_option maxHeartbeats 0
namespace K33
open PySem PySem.W PySem.Spec PyProof.Rows L2 HandSHeadRun
theorem run (w : World) : HandSHeadRun.RunEq R33 (PySem.W.view R33.prog [57]) hk ob 4000 loose w := by
  refine byRow2 "special-get-raises" (P := fun w => HandSHeadRun.RunEq R33 (PySem.W.view R33.prog [57]) hk ob 4000 loose w) (fun w => ?_) (fun w => ?_) w
  · intro os
    kernel_rfl
  · intro os
    kernel_rfl
end K33

set_option Elab.async false
set_option linter.all false
set_option maxRecDepth 100000
set_option maxHeartbeats 4000000
/-! What the top leaves, as the walks use it; calls of own defs by their promise. -/
namespace K33
open PySem PySem.Spec PyProof.Rows L2 Evl
def nm : Lg → Str
  | .K => "K" | .D => "D" | .T => "T" | .K4 => "K4" | .D4 => "D4" | .S4 => "S4" | .S5 => "S5" | .GL => "GL" | .Grz => "Grz" | .Int => "Int" | .KC => "KC" | .LC => "LC" | .BD2 => "BD2" | .HT => "HT" | .Cl => "Cl"
structure TX (w : World) (K : PySem.W.Frag) (mg : Str → Option Value) : Prop where
  d : ∀ (i : Nat) (n : Str) (j : Nat), fn[i]? = some (dd n j) → ∃ f fd, mg n = some (.ref f) ∧ FunD K n n (defArgs (top j)) (defBody (top j)) (defScope (top j)) [] [] f fd
  free : ∀ x ∈ freeNames, mg x = none
  tup : ∀ p ∈ ([("FALSUM", ["falsum"]), ("MODAL", modalNames), ("INTERMEDIATE", interNames), ("KEEPS_INNER", ["K", "D", "T", "K4", "D4", "GL"]), ("KEEPS_BOXES", ["K4", "D4", "S4", "S5", "GL", "Grz"])] : List (Str × List Str)), ∃ a, mg p.1 = some (.ref a) ∧ ∀ H, SqT K H a (p.2.map V.str)
  rules : ∃ a es n, mg "RULES" = some (.ref a) ∧ KDict K w a es n ∧ ∀ r ∈ ruleTab, ∃ T f U, PySem.W.nsIn K a r.1 = some (some (.ref T)) ∧ (∀ H, SqT K H T [.ref f, .ref U]) ∧ mg r.2.1 = some (.ref f) ∧ ∀ H, SqT K H U (r.2.2.map V.str)
  exc : ∀ x ∈ (["NoFit", "UnknownLogic"] : List Str), ∃ a, mg x = some (.ref a) ∧ PySem.W.excIn K a He.veBase "ValueError.__new__" = true ∧ PySem.W.keepIn K (.ref a) = true ∧ PySem.W.subIn K (.ref a) (.type "BaseException") = some true ∧ PySem.W.typeIn K (.ref a) = some (.type "type")
  exm : ∃ a, mg "NoFit" = some (.ref a) ∧ PySem.W.exmOne K (.ref a) (.ref a) = some true
/-- a def of the module, by its promise -/
def Cal (P : Program) (w : World) (K : PySem.W.Frag) (mg : Str → Option Value) (base : Heap) (x : Str) (k : Nat) (sp : Sp) : Prop := ∃ f, mg x = some (.ref f) ∧ PySem.W.keepIn K (.ref f) = true ∧ FnR P w K mg base (L2.CX P w) k f sp
theorem Cal.mono {P : Program} {w : World} {K : PySem.W.Frag} {mg : Str → Option Value} {base : Heap} {x : Str} {j k : Nat} {sp : Sp} (c : Cal P w K mg base x j sp) (h : j ≤ k) : Cal P w K mg base x k sp := by
  obtain ⟨f, a, b, c⟩ := c
  exact ⟨f, a, b, c.mono h⟩
theorem Cal.imp {P : Program} {w : World} {K : PySem.W.Frag} {mg : Str → Option Value} {base : Heap} {x : Str} {k : Nat} {sp sp' : Sp} (c : Cal P w K mg base x k sp) (h : ∀ vs H Q E, sp' vs H Q E → sp vs H Q E) : Cal P w K mg base x k sp' := by
  obtain ⟨f, a, b, c⟩ := c
  exact ⟨f, a, b, c.imp h⟩
def tCal (sp : Sp) (E : L2.St → XK) (t : TA) : TE := fun σ H Q => t σ H fun vs H1 => sp vs H1 Q (E σ)
section
variable {X : Cx} {CX : CXT} {k : Nat} {f : Addr} {sp : Sp} {E : XK} {x : Str} {p pos : Pos} {e : Expr} {es : List Expr} {t : TA}
theorem run_calS {pins : List (Addr × Obj)} {σ : L2.St} {H : Hp} {s : Shared} {Q : VK} {us : List Value} {vs : List V} (F : FnR X.prog X.w X.K X.mg X.base CX k f sp) (hr : Room k X.A) (hx : PassesAt CX X σ E) (I : Inv X pins σ H s) (r : Vals vs us) (h : sp vs H Q E) :
    wpAny (model X.prog X.w) X.A (call (.ref f) us) (EP X pins σ Q) X.xe s := by
  refine wpAny_call (codeAny_mono (F X.A X.stack s H us vs Q E hr I.env0 r h) fun r s' hq => ?_)
  cases r with
  | error e => exact hx pins H s e s' I hq
  | ok fl =>
    cases fl with
    | ret u => exact I.after hq
    | next => exact False.elim hq
    | brk => exact False.elim hq
    | cont => exact False.elim hq
/-- f(e, ..) -/
theorem pe_f {E : L2.St → XK} (c : Cal X.prog X.w X.K X.mg X.base x k sp) (hr : Room k X.A) (hg : Gl X x) (hx : ∀ σ, PassesAt (L2.CX X.prog X.w) X σ (E σ)) (ha : PA X (e :: es) t) (hdb : (x == ("__debug__" : Str)) = false := by decide)
    (he : starEach (e :: es) X.env = (false, eval e X.env) :: starEach es X.env := by rfl) (hpl : (backTo pos (starEach es X.env)).any (·.1) = false := by rfl) : PE X (.Call (.Name x p) (e :: es) [] pos) (tCal sp E t) := by
  obtain ⟨f, hm, hk, F⟩ := c
  refine ⟨fun pins s σ H Q I h => ?_⟩
  refine wpAny_Call_Name_kw (ld_glob I hg hm ?_ hdb)
  refine PySem.W.callWith_K (h₀ := X.base) I.ok.mod.kin hk (thn (ha.run pos pins s σ H _ I h) fun us s1 ⟨vs, H1, I1, r, q⟩ => ⟨I1.kIn, ?_⟩) he hpl
  exact run_calS F hr (hx σ) I1 r q
/-- .. that lets nothing out -/
theorem pe_f0 (c : Cal X.prog X.w X.K X.mg X.base x k sp) (hr : Room k X.A) (hg : Gl X x) (ha : PA X (e :: es) t) (hdb : (x == ("__debug__" : Str)) = false := by decide)
    (he : starEach (e :: es) X.env = (false, eval e X.env) :: starEach es X.env := by rfl) (hpl : (backTo pos (starEach es X.env)).any (·.1) = false := by rfl) : PE X (.Call (.Name x p) (e :: es) [] pos) (tCal sp (fun _ => E0) t) :=
  pe_f c hr hg (fun σ pins H s e s' I h => passL pins σ H s e s' I h) ha hdb he hpl
/-- f(e, .., *y) -/
theorem pe_fs (c : Cal X.prog X.w X.K X.mg X.base x k sp) (hr : Room k X.A) (hg : Gl X x) (ha : PA X (e :: es) t) (hd : (x == ("__debug__" : Str)) = false := by decide)
    (he : starEach (e :: es) X.env = (false, eval e X.env) :: starEach es X.env := by rfl) (hst : (backTo pos (starEach es X.env)).any (·.1) = true := by rfl) :
    PE X (.Call (.Name x p) (e :: es) [] pos) (tCal sp (fun _ => E0) t) := by
  obtain ⟨f, hm, hk, F⟩ := c
  refine ⟨fun pins s σ H Q I h => (StX.pe_callS2 F hr hk hg hm passL ha hd he hst).run pins s σ H Q I h⟩
end
section
variable {P : Program} {w : World} {K : PySem.W.Frag} {mg : Str → Option Value} {base : Heap}
/-- THE RULE for a def of the module -/
theorem cal_of (T : TX w K mg) (i : Nat) {n : Str} {j : Nat} (h : fn[i]? = some (dd n j)) {N ps : List Str} {k : Nat} {sp : Sp} (S : FnScope N ps (defScope (top j))) (len : ∀ vs H Q E, sp vs H Q E → vs.length = ps.length)
    (hb : ∀ (kV doc pm : Value) (an : Option Addr) (cdv ct : Value) (us : List Value), us.length = ps.length → bindArgs (PySem.W.fnOf n n (defArgs (top j)) (defBody (top j)) (defScope (top j)) .none kV doc pm an cdv ct) ⟨us, []⟩ = pure (ps.zip us))
    (hbody : ∀ (f : Addr) (cdv : Value) (A : Around) (outer : List Env) (s : Shared) (H : Hp) (vs : List V) (Q : VK) (E : XK), Room k (A.deeper (envOfC n (defScope (top j)) s.heap.objs.size f cdv)) → sp vs H Q E →
      ∃ t, PSs (cxOf (L2.CX P w) P w K mg base N n (defScope (top j)) f cdv A outer s H E) (defBody (top j)) t ∧ t { nx := fun _ H' => Q .non H', rt := Q } (start N vs) H) : Cal P w K mg base n (k + 1) sp := by
  obtain ⟨f, fd, hm, F⟩ := T.d i n j h
  have b := F.bindsN hb
  refine ⟨f, hm, F.kp, ?_⟩
  have G : FnOk P w K mg base (L2.CX P w) (k + 1) f fd ps sp := F.ok S len (hbody f)
  have R := G.raw b .nil
  exact R.imp fun vs H Q E h => by rw [List.append_nil]; exact h
end
abbrev fms (L : List FM) : List Fm := L.map (·.2)
/-- a side: a tuple of formulas -/
def SideV (K : PySem.W.Frag) (H : Hp) (v : V) (L : List FM) : Prop := ∃ a, v = .ref a ∧ SqT K H a (refs L) ∧ AllF K H L
theorem SideV.ex {K : PySem.W.Frag} {H H' : Hp} {v : V} {L : List FM} (e : Ex H H') (h : SideV K H v L) : SideV K H' v L := by
  obtain ⟨a, rfl, h1, h2⟩ := h
  exact ⟨a, rfl, ex_t e h1, h2.ex e⟩
def OptF (K : PySem.W.Frag) (H : Hp) (v : V) : Option Fm → Prop
  | none => v = .non
  | some f => FmH K H f v
theorem OptF.ex {K : PySem.W.Frag} {H H' : Hp} {v : V} {m : Option Fm} (e : Ex H H') (h : OptF K H v m) : OptF K H' v m := by
  cases m with
  | none => exact h
  | some f => exact FmH.ex e h
/-! ### neg -/
theorem sc_neg : FnScope ["a"] ["a"] (defScope (top 6)) := ⟨rfl, rfl, rfl, by decide +kernel, rfl, by decide +kernel, by decide +kernel⟩
def spNeg (K : PySem.W.Frag) : Sp := fun vs H Q _ => ∃ v f, vs = [v] ∧ FmH K H f v ∧ ∀ u H', Ex H H' → FmH K H' (.imp f .fls) u → Q u H'
section
variable {P : Program} {w : World} {K : PySem.W.Frag} {mg : Str → Option Value} {base : Heap}
theorem cal_neg (T : TX w K mg) : Cal P w K mg base "neg" 1 (spNeg K) := by
  obtain ⟨aF, gF, hF⟩ := T.tup _ (List.mem_cons_self ..)
  refine cal_of T 0 rfl sc_neg (fun vs H Q E h => ?_) (fun _ _ _ _ _ _ us hl => match us, hl with | [_], _ => rfl) fun f cdv A outer s H vs Q E hr h => ⟨_, pss_one (ps_ret (pe_tup (pa_cons pe_str (pa_cons (pv 0) (pa_cons (pe_glob (v := .ref aF) rfl gF rfl) pa_nil))))), ?_⟩
  · obtain ⟨v, f, rfl, _⟩ := h; rfl
  · obtain ⟨v, f, rfl, hf, q⟩ := h
    refine ⟨v, rfl, sz_of (by simp), fun p hp => q _ _ (Ex.new hp) ⟨p, v, .ref aF, rfl, st_of upd_same, hf.ex (Ex.new hp), aF, rfl, hF _⟩⟩
end
end K33

set_option Elab.async false
set_option linter.all false
set_option maxRecDepth 100000
set_option maxHeartbeats 4000000
namespace K33
open PySem PySem.Spec PyProof.Rows L2 Evl
section
variable {K : PySem.W.Frag} {H H' : Hp} {σ : L2.St} {v u t : V} {f p q : Fm} {i : Nat}
/-- a[0] -/
theorem ev_tag (hσ : σ[i]? = some (some v)) (h : FmH K H f v) : Ev (tOp (rIxT K) (tVar i) (tC (.int 0))) σ H (.str (tg f)) := by
  obtain ⟨a, r, rfl, hs⟩ := h.tup
  exact ev_op (ev_var hσ) ev_c (rv_ixT hs (at_of (j := 0) rfl rfl))
end
def partsF : Fm → List Fm
  | .fls => []
  | .var _ => []
  | .and a b => [a, b]
  | .or a b => [a, b]
  | .imp a b => [a, b]
  | .box a => [a]
def spParts (K : PySem.W.Frag) : Sp := fun vs H Q _ => ∃ v f, vs = [v] ∧ FmH K H f v ∧ ∀ u H' L, Ex H H' → SideV K H' u L → fms L = partsF f → Q u H'
theorem sc_parts : FnScope ["a"] ["a"] (defScope (top 7)) := ⟨rfl, rfl, rfl, by decide +kernel, rfl, by decide +kernel, by decide +kernel⟩
/-- what two parts are -/
theorem two_parts {K : PySem.W.Frag} {H : Hp} {p q : Fm} {u t : V} (h1 : FmH K H p u) (h2 : FmH K H q t) : ∃ L : List FM, [u, t] = refs L ∧ AllF K H L ∧ fms L = [p, q] := by
  obtain ⟨a, rfl⟩ := h1.ref
  obtain ⟨b, rfl⟩ := h2.ref
  exact ⟨[(a, p), (b, q)], rfl, fun z hz => by
    rcases List.mem_cons.mp hz with rfl | hz
    · exact h1
    · rw [List.mem_singleton.mp hz]; exact h2, rfl⟩
theorem one_part {K : PySem.W.Frag} {H : Hp} {p : Fm} {u : V} (h1 : FmH K H p u) : ∃ L : List FM, [u] = refs L ∧ AllF K H L ∧ fms L = [p] := by
  obtain ⟨a, rfl⟩ := h1.ref
  exact ⟨[(a, p)], rfl, fun z hz => by rw [List.mem_singleton.mp hz]; exact h1, rfl⟩
def rNoFit (gN : Addr) : Sp := fun vs H Q E => ∃ b, vs = [.bl b] ∧ (b = true → Q .non H) ∧ (b = false → E (.ref gN) none H)
theorem sc_require : FnScope ["fits"] ["fits"] (defScope (top 23)) := ⟨rfl, rfl, rfl, by decide +kernel, rfl, by decide +kernel, by decide +kernel⟩
section
variable {P : Program} {w : World} {K : PySem.W.Frag} {mg : Str → Option Value} {base : Heap}
theorem cal_parts (T : TX w K mg) : Cal P w K mg base "parts" 1 (spParts K) := by
  refine cal_of T 1 rfl sc_parts (fun vs H Q E h => ?_) (fun _ _ _ _ _ _ us hl => match us, hl with | [_], _ => rfl) fun f cdv A outer s H vs Q E hr h =>
    ⟨_, pss_one (ps_ret (pe_ifExp (pt_cmpR op_in_seq (pe_ix ix_tup (pv 0) pe_int (fun _ _ => rfl)) (pe_tup (pa_cons pe_str (pa_cons pe_str pa_nil))) rfl) (pe_tup pa_nil) (pe_slice sl_tupA (pv 0) (po_some pe_int) po_none))), ?_⟩
  · obtain ⟨v, f, rfl, _⟩ := h; rfl
  · obtain ⟨v, f, rfl, hf, q⟩ := h
    have ht : ∀ {b : Bool}, inV (.str (tg f)) [.str "var", .str "falsum"] = b → EvT (tTest (tOp (rIn K false) (tOp (rIxT K) (tVar 0) (tC (.int 0))) (tTup (tCons (tC (.str "var")) (tCons (tC (.str "falsum")) tNil))))) (start ["a"] [v]) H b := fun {b} e =>
      et_is (et_test (ev_inU (ev_tag rfl hf) (eu_tup (ea_cons ev_c (ea_cons ev_c ea_nil)) (by simp)) rfl rfl)) e
    have leaf : inV (.str (tg f)) [.str "var", .str "falsum"] = true → partsF f = [] → (tRet (tIf (tTest (tOp (rIn K false) (tOp (rIxT K) (tVar 0) (tC (.int 0))) (tTup (tCons (tC (.str "var")) (tCons (tC (.str "falsum")) tNil))))) (tTup tNil) (tSl (rSlA K) (tVar 0) (tPart (tC (.int 1))) tNoPart))) { nx := fun _ H' => Q .non H', rt := Q } (start ["a"] [v]) H := fun e ep =>
      ht e H (Ex.refl H) _ fun H1 e1 => iteT ⟨sz_of (by simp), fun p hp => q _ _ [] (e1.trans (Ex.new hp)) ⟨p, rfl, st_of upd_same, fun _ z => nomatch z⟩ ep.symm⟩
    have node : ∀ {a : Addr} {t0 : V} {us : List V}, inV (.str (tg f)) [.str "var", .str "falsum"] = false → v = .ref a → SqT K H a (t0 :: us) → us ≠ [] → (∀ H1, Ex H H1 → ∃ L, us = refs L ∧ AllF K H1 L ∧ fms L = partsF f) →
        (tRet (tIf (tTest (tOp (rIn K false) (tOp (rIxT K) (tVar 0) (tC (.int 0))) (tTup (tCons (tC (.str "var")) (tCons (tC (.str "falsum")) tNil))))) (tTup tNil) (tSl (rSlA K) (tVar 0) (tPart (tC (.int 1))) tNoPart))) { nx := fun _ H' => Q .non H', rt := Q } (start ["a"] [v]) H := fun {a t0 us} e ev hs hne hL =>
      ht e H (Ex.refl H) _ fun H1 e1 => iteF ⟨v, rfl, 1, rfl, a, _, ev, ex_t e1 hs, fun hw => by
        have := hw.1
        simp [HT.sIx] at this, fun _ p hp => by
          obtain ⟨L, eL, hA, eF⟩ := hL _ (e1.trans (Ex.new hp))
          refine q _ _ L (e1.trans (Ex.new hp)) ⟨p, rfl, ?_, hA⟩ eF
          rw [← eL]
          refine st_of (upd_same.trans ?_)
          simp [cutV, HT.sIx]⟩
    cases f with
    | fls => exact leaf (by show inV (.str "falsum") [.str "var", .str "falsum"] = true; decide +kernel) rfl
    | var x => exact leaf (by show inV (.str "var") [.str "var", .str "falsum"] = true; decide +kernel) rfl
    | and p q => obtain ⟨a, u, t, ea, hs, h1, h2⟩ := hf; exact node (by show inV (.str "and") [.str "var", .str "falsum"] = false; decide +kernel) ea hs (by simp) fun H1 e => two_parts (h1.ex e) (h2.ex e)
    | or p q => obtain ⟨a, u, t, ea, hs, h1, h2⟩ := hf; exact node (by show inV (.str "or") [.str "var", .str "falsum"] = false; decide +kernel) ea hs (by simp) fun H1 e => two_parts (h1.ex e) (h2.ex e)
    | imp p q => obtain ⟨a, u, t, ea, hs, h1, h2⟩ := hf; exact node (by show inV (.str "implies") [.str "var", .str "falsum"] = false; decide +kernel) ea hs (by simp) fun H1 e => two_parts (h1.ex e) (h2.ex e)
    | box p => obtain ⟨a, u, ea, hs, h1⟩ := hf; exact node (by show inV (.str "box") [.str "var", .str "falsum"] = false; decide +kernel) ea hs (by simp) fun H1 e => one_part (h1.ex e)
theorem cal_require (T : TX w K mg) : ∃ gN, mg "NoFit" = some (.ref gN) ∧ PySem.W.exmOne K (.ref gN) (.ref gN) = some true ∧ Cal P w K mg base "require" 1 (rNoFit gN) := by
  obtain ⟨gN, gP, bP, kP, sP, tP⟩ := T.exc "NoFit" (by simp)
  obtain ⟨gN', gP', mP⟩ := T.exm
  obtain rfl : gN' = gN := by rw [gP] at gP'; cases gP'; rfl
  refine ⟨gN', gP, mP, ?_⟩
  refine cal_of T 10 rfl sc_require (fun vs H Q E h => ?_) (fun _ _ _ _ _ _ us hl => match us, hl with | [_], _ => rfl) fun f cdv A outer s H vs Q E hr h =>
    ⟨_, pss_one (ps_if (pt_not (pt_val (pv 0))) (pss_one (ps_raise rfl (takes_of rfl rfl rfl rfl) (pmk_own PySem.F.excBase_ValueError bP gP kP (raises_own sP tP) rfl))) pss_nil), ?_⟩
  · obtain ⟨b, rfl, _⟩ := h; rfl
  · obtain ⟨b, rfl, h1, h2⟩ := h
    refine ⟨_, rfl, b, rfl, ?_⟩
    cases b with
    | true => exact iteF (h1 rfl)
    | false => exact iteT (h2 rfl)
end
end K33

set_option Elab.async false
set_option linter.all false
set_option maxRecDepth 100000
set_option maxHeartbeats 4000000
namespace K33
open PySem PySem.Spec PyProof.Rows L2 Evl
theorem boot_set : bootBuiltins "set" = some (.type "set") := by decide +kernel
theorem boot_sorted : bootBuiltins "sorted" = some (.builtin "sorted") := by decide +kernel
theorem boot_tuple : bootBuiltins "tuple" = some (.type "tuple") := by decide +kernel
theorem boot_list : bootBuiltins "list" = some (.type "list") := by decide +kernel
theorem boot_int : bootBuiltins "int" = some (.type "int") := by decide +kernel
theorem boot_len : bootBuiltins "len" = some (.builtin "len") := by decide +kernel
theorem boot_abs : bootBuiltins "abs" = some (.builtin "abs") := by decide +kernel
theorem boot_max : bootBuiltins "max" = some (.builtin "max") := by decide +kernel
def spMain (K : PySem.W.Frag) : Sp := fun vs H Q _ => ∃ lv mv L m t, vs = [lv, mv, .str t] ∧ SideV K H lv L ∧ OptF K H mv m ∧ (∀ f, m = some f → ht f ≤ 40) ∧ ∀ b, (b = true → ∃ f, m = some f ∧ f ∈ fms L ∧ tg f = t) → Q (.bl b) H
def spAsc (K : PySem.W.Frag) : Sp := fun vs H Q _ => ∃ l L, vs = [.ref l] ∧ (SqL K H l (refs L) ∨ SqT K H l (refs L)) ∧ AllF K H L ∧ (∀ p ∈ L, ht p.2 ≤ 8) ∧ L.length < 64 ∧
  ∀ u H' N, Ex H H' → SideV K H' u N → (∀ p ∈ N, p ∈ L) → N.length ≤ L.length → Q u H'
def spAdd (K : PySem.W.Frag) : Sp := fun vs H Q _ => ∃ v L M, vs = v :: refs M ∧ SideV K H v L ∧ AllF K H M ∧ (∀ p ∈ L ++ M, ht p.2 ≤ 8) ∧ L.length + M.length < 64 ∧
  ∀ u H' N, Ex H H' → SideV K H' u N → (∀ p ∈ N, p ∈ L ++ M) → N.length ≤ L.length + M.length → Q u H'
theorem sc_main : FnScope ["side", "main", "tag"] ["side", "main", "tag"] (defScope (top 24)) := ⟨rfl, rfl, rfl, by decide +kernel, rfl, by decide +kernel, by decide +kernel⟩
theorem sc_asc : FnScope ["formulas"] ["formulas"] (defScope (top 18)) := ⟨rfl, rfl, rfl, by decide +kernel, rfl, by decide +kernel, by decide +kernel⟩
theorem sc_add : FnScope ["side", "formulas"] (([("side" : Str)] : List Str) ++ ([("formulas" : Str)] : List Str)) (defScope (top 19)) := ⟨rfl, rfl, rfl, by decide +kernel, rfl, by decide +kernel, by decide +kernel⟩
theorem hu64 {A : Around} {k : Nat} (hr : Room k A) : A.units + 64 < cLine := hr.units
section
variable {P : Program} {w : World} {K : PySem.W.Frag} {mg : Str → Option Value} {base : Heap}
theorem cal_main (T : TX w K mg) : Cal P w K mg base "is_main" 1 (spMain K) := by
  refine cal_of T 11 rfl sc_main (fun vs H Q E h => ?_) (fun _ _ _ _ _ _ us hl => match us, hl with | [_, _, _], _ => rfl) fun f cdv A outer s H vs Q E hr h =>
    ⟨_, pss_one (ps_ret (pe_and (pe_cmpR op_notN (pv 1) pe_non (nomark _)) (pe_and (pe_cmpR (op_inF (hu64 hr)) (pv 1) (pv 0) rfl) (pe_one (pe_cmpR op_eq (pe_ix ix_tup (pv 1) pe_int (fun _ _ => rfl)) (pv 2) (nomark _)))))), ?_⟩
  · obtain ⟨_, _, _, _, _, rfl, _⟩ := h; rfl
  · obtain ⟨lv, mv, L, m, t, rfl, ⟨a, rfl, hs, hL⟩, hm, hh, q⟩ := h
    cases m with
    | none =>
      obtain rfl : mv = .non := hm
      exact ⟨_, rfl, rfl, false, rfl, iteF (q false fun z => nomatch z)⟩
    | some f =>
      have hm : FmH K H f mv := hm
      obtain ⟨b, r, rfl, ht'⟩ := hm.tup
      refine ⟨_, rfl, rfl, true, rfl, iteT ⟨_, rfl, _, rfl, f, a, L, hm, rfl, hs, hL, hh f rfl, _, rfl, ?_⟩⟩
      by_cases c : f ∈ fms L
      · rw [decide_eq_true c]
        refine iteT ⟨_, rfl, b, _, 0, _, rfl, rfl, ht', at_of (j := 0) rfl rfl, _, rfl, rfl, q _ fun z => ⟨f, rfl, c, ?_⟩⟩
        have := of_decide_eq_true z
        injection this
      · rw [decide_eq_false c]
        exact iteF (q false fun z => nomatch z)
theorem cal_asc (T : TX w K mg) : Cal P w K mg base "ascending" 1 (spAsc K) := by
  refine cal_of T 8 rfl sc_asc (fun vs H Q E h => ?_) (fun _ _ _ _ _ _ us hl => match us, hl with | [_], _ => rfl) fun f cdv A outer s H vs Q E hr h =>
    ⟨_, pss_one (ps_ret (pe_callTy call_tuple_of rfl (T.free "tuple" (by decide +kernel)) boot_tuple (pa_cons (pe_callB (cr_sortedF rfl (hu64 hr)) rfl (T.free "sorted" (by decide +kernel)) boot_sorted (pa_cons (pe_callTy (cr_setF rfl (hu64 hr)) rfl (T.free "set" (by decide +kernel)) boot_set (pa_cons (pv 0) pa_nil)) pa_nil)) pa_nil))), ?_⟩
  · obtain ⟨_, _, rfl, _⟩ := h; rfl
  · obtain ⟨l, L, rfl, hl, hL, hh, hn, q⟩ := h
    refine ⟨_, rfl, l, L, rfl, hl, hL, hh, hn, fun a M ha hM lM => ?_⟩
    have e1 : Ex H (upd H a (SetFO w a M)) := Ex.new ha
    refine ⟨a, M, rfl, upd_same, fun p hp => ((hL p (hM p hp)).ex e1), fun p hp => hh p (hM p hp), fun N p hN lN hp => ?_⟩
    have e2 := e1.trans (Ex.new (o := .lst (refs N)) hp)
    refine ⟨p, refs N, rfl, .inl ⟨sq_of upd_same, fun z hz => ?_⟩⟩
    have e3 := e2.trans (Ex.new (o := .tup (refs N)) hz)
    exact q _ _ N e3 ⟨z, rfl, st_of upd_same, fun p hp => (hL p (hM p (hN p hp))).ex e3⟩ (fun p hp => hM p (hN p hp)) (by omega)
theorem cal_add (T : TX w K mg) : Cal P w K mg base "added" 2 (spAdd K) := by
  obtain ⟨f, fd, hm, F⟩ := T.d 9 "added" 19 rfl
  obtain ⟨oc, od, dV, kV, doc, pm, an, cdv, ct, osl, rfl, lk, hcd, hdV, _⟩ := F.ex
  obtain rfl : dV = .none := by
    rcases hdV with ⟨_, e⟩ | ⟨e, _⟩
    · exact e
    · exact absurd rfl e
  refine ⟨f, hm, F.kp, ?_⟩
  refine (StX.fn_star (ps := ["side"]) (pv := "formulas") (k := 1) (sp := fun vs H Q E => ∃ v b L M, vs = [v, .ref b] ∧ SqT K H b (refs M) ∧ SideV K H v L ∧ AllF K H M ∧ (∀ p ∈ L ++ M, ht p.2 ≤ 8) ∧ L.length + M.length < 64 ∧
      ∀ u H' N, Ex H H' → SideV K H' u N → (∀ p ∈ N, p ∈ L ++ M) → N.length ≤ L.length + M.length → Q u H') lk hcd sc_add StX.cxUp (StX.bind_star1 (B := fun us => bindArgs (PySem.W.fnOf "added" "added" (defArgs (top 19)) (defBody (top 19)) (defScope (top 19)) .none kV doc pm an cdv ct) ⟨us, []⟩) (p1 := "side") (pv := "formulas") (fun a => rfl) (fun a r rs => rfl)) fun A outer s H vs Q E hr h =>
    ⟨_, pss_one (ps_ret (pe_f0 (cal_asc T) hr rfl (pa_cons (pe_op op_catA (pv 0) (pv 1)) pa_nil))), ?_⟩).imp fun vs H Q E h => ?_
  · obtain ⟨v, b, L, M, rfl, hb, ⟨a, rfl, ha, hL⟩, hM, hh, hn, q⟩ := h
    have fin : ∀ c H', Ex H H' → SqT K H' c (refs (L ++ M)) → spAsc K [.ref c] H' Q E0 := fun c H' e hc =>
      ⟨c, L ++ M, rfl, .inr hc, fun p hp => by
        rcases List.mem_append.mp hp with hp | hp
        · exact (hL p hp).ex e
        · exact (hM p hp).ex e, hh, by rw [List.length_append]; exact hn, fun u H'' N e2 hu hN lN => q u H'' N (e.trans e2) hu hN (by rw [List.length_append] at lN; exact lN)⟩
    refine ⟨_, rfl, _, rfl, a, b, refs L, refs M, rfl, rfl, ha, hb, sz_of (by simp only [refs, List.length_map]; omega), fun e0 => ?_, fun _ e0 => ?_, fun _ _ p hp => ?_⟩
    · have : L = [] := by simpa [refs] using e0
      subst this
      exact fin b H (Ex.refl H) hb
    · have : M = [] := by simpa [refs] using e0
      subst this
      refine fin a H (Ex.refl H) ?_
      rw [List.append_nil]; exact ha
    · refine fin p _ (Ex.new hp) ?_
      rw [show refs (L ++ M) = refs L ++ refs M by simp [refs]]
      exact st_of upd_same
  · obtain ⟨v, L, M, rfl, hv, hM, hh, hn, q⟩ := h
    refine ⟨[v], refs M, rfl, rfl, sz_of (by simp only [refs, List.length_map]; omega), fun p hp => ?_⟩
    have e := Ex.new (o := .tup (refs M)) hp
    exact ⟨v, p, L, M, rfl, st_of upd_same, hv.ex e, hM.ex e, hh, hn, fun u H' N e2 => q u H' N (e.trans e2)⟩
end
/-! ### sides as values of expressions -/
def EvS (K : PySem.W.Frag) (te : TE) (σ : L2.St) (H : Hp) (A : List FM) (n : Nat) : Prop := ∀ H1, Ex H H1 → ∀ Q : VK, (∀ u H2 N, Ex H1 H2 → SideV K H2 u N → (∀ p ∈ N, p ∈ A) → N.length ≤ n → Q u H2) → te σ H1 Q
section
variable {K : PySem.W.Frag} {σ : L2.St} {H : Hp} {te ta tb tc td : TE} {t : TA} {v u : V} {L M A B C D : List FM} {E : L2.St → XK}
theorem evs_var {i : Nat} (hσ : σ[i]? = some (some v)) (h : SideV K H v L) : EvS K (tVar i) σ H L L.length := fun H1 e Q q => ⟨v, hσ, q v H1 L (Ex.refl H1) (h.ex e) (fun _ h => h) (Nat.le_refl _)⟩
theorem evs_add (hA : EvA t σ H (v :: refs M)) (hv : SideV K H v L) (hM : AllF K H M) (hh : ∀ p ∈ L ++ M, ht p.2 ≤ 8) (hn : L.length + M.length < 64) : EvS K (tCal (spAdd K) E t) σ H (L ++ M) (L.length + M.length) := fun H1 e Q q =>
  hA H1 e _ fun H2 e2 => ⟨v, L, M, rfl, hv.ex (e.trans e2), hM.ex (e.trans e2), hh, hn, fun u H' N e3 => q u H' N (e2.trans e3)⟩
theorem evs_one {a : Addr} {f : Fm} (h : Ev te σ H (.ref a)) (hf : FmH K H f (.ref a)) : EvS K (tTup (tCons te tNil)) σ H [(a, f)] 1 := fun H1 e Q q =>
  h H1 e _ fun H2 e2 => ⟨sz_of (by simp), fun p hp => q _ _ [(a, f)] (e2.trans (Ex.new hp)) ⟨p, rfl, st_of upd_same, fun z hz => by rw [List.mem_singleton.mp hz]; exact hf.ex ((e.trans e2).trans (Ex.new hp))⟩ (fun _ h => h) (Nat.le_refl _)⟩
theorem evs_nil : EvS K (tTup tNil) σ H [] 0 := fun H1 e Q q => ⟨sz_of (by simp), fun p hp => q _ _ [] (Ex.new hp) ⟨p, rfl, st_of upd_same, fun z hz => nomatch hz⟩ (fun _ h => h) (Nat.le_refl _)⟩
theorem EvS.mono {H' : Hp} {n : Nat} (e : Ex H H') (h : EvS K te σ H A n) : EvS K te σ H' A n := fun H1 e1 Q q => h H1 (e.trans e1) Q q
abbrev Seqt : Type := List FM × List FM
def GoalV (K : PySem.W.Frag) (H : Hp) (v : V) (p : Seqt) : Prop := ∃ a u t, v = .ref a ∧ SqT K H a [u, t] ∧ SideV K H u p.1 ∧ SideV K H t p.2
theorem GoalV.ex {H' : Hp} {p : Seqt} (e : Ex H H') (h : GoalV K H v p) : GoalV K H' v p := by
  obtain ⟨a, u, t, rfl, h1, h2, h3⟩ := h
  exact ⟨a, u, t, rfl, ex_t e h1, h2.ex e, h3.ex e⟩
inductive Goals (K : PySem.W.Frag) (H : Hp) : List V → List Seqt → Prop
  | nil : Goals K H [] []
  | cons {v p xs ps} : GoalV K H v p → Goals K H xs ps → Goals K H (v :: xs) (p :: ps)
theorem Goals.ex {H' : Hp} (e : Ex H H') : ∀ {xs : List V} {ps : List Seqt}, Goals K H xs ps → Goals K H' xs ps
  | _, _, .nil => .nil
  | _, _, .cons a b => .cons (a.ex e) (b.ex e)
def GoalsV (K : PySem.W.Frag) (H : Hp) (v : V) (ps : List Seqt) : Prop := ∃ a xs, v = .ref a ∧ SqL K H a xs ∧ Goals K H xs ps
/-- (a, b) -/
theorem ev_pair {n m : Nat} (ha : EvS K ta σ H A n) (hb : EvS K tb σ H B m) : ∀ H1, Ex H H1 → ∀ Q : VK, (∀ u H2 N M, Ex H1 H2 → GoalV K H2 u (N, M) → (∀ p ∈ N, p ∈ A) → (∀ p ∈ M, p ∈ B) → Q u H2) → (tTup (tCons ta (tCons tb tNil))) σ H1 Q := fun H1 e Q q =>
  ha H1 e _ fun u H2 N e2 hu hN lN => hb H2 (e.trans e2) _ fun t H3 M e3 ht hM lM => ⟨sz_of (by simp), fun p hp => q _ _ N M ((e2.trans e3).trans (Ex.new hp)) ⟨p, u, t, rfl, st_of upd_same, hu.ex (e3.trans (Ex.new hp)), ht.ex (Ex.new hp)⟩ hN hM⟩
/-- [(a, b)] -/
theorem ev_goal1 {n m : Nat} (ha : EvS K ta σ H A n) (hb : EvS K tb σ H B m) (Q : VK) (q : ∀ u H2 N M, Ex H H2 → GoalsV K H2 u [(N, M)] → (∀ p ∈ N, p ∈ A) → (∀ p ∈ M, p ∈ B) → Q u H2) : (tLst (tCons (tTup (tCons ta (tCons tb tNil))) tNil)) σ H Q := by
  show (tTup (tCons ta (tCons tb tNil))) σ H (fun x H1 => [x].length ≤ sizeLine ∧ ∀ p, H1 p = none → Q (.ref p) (upd H1 p (.lst [x])))
  exact ev_pair ha hb H (Ex.refl H) _ fun u H2 N M e g hN hM => ⟨sz_of (by simp), fun p hp => q _ _ N M (e.trans (Ex.new hp)) ⟨p, [u], rfl, sq_of upd_same, .cons (g.ex (Ex.new hp)) .nil⟩ hN hM⟩
/-- [(a, b), (c, d)] -/
theorem ev_goal2 {n m n' m' : Nat} (ha : EvS K ta σ H A n) (hb : EvS K tb σ H B m) (hc : EvS K tc σ H C n') (hd : EvS K td σ H D m') (Q : VK)
    (q : ∀ u H2 N M N' M', Ex H H2 → GoalsV K H2 u [(N, M), (N', M')] → (∀ p ∈ N, p ∈ A) → (∀ p ∈ M, p ∈ B) → (∀ p ∈ N', p ∈ C) → (∀ p ∈ M', p ∈ D) → Q u H2) : (tLst (tCons (tTup (tCons ta (tCons tb tNil))) (tCons (tTup (tCons tc (tCons td tNil))) tNil))) σ H Q := by
  show (tTup (tCons ta (tCons tb tNil))) σ H (fun x H1 => (tTup (tCons tc (tCons td tNil))) σ H1 fun y H2 => [x, y].length ≤ sizeLine ∧ ∀ p, H2 p = none → Q (.ref p) (upd H2 p (.lst [x, y])))
  exact ev_pair ha hb H (Ex.refl H) _ fun u H2 N M e g hN hM => ev_pair (hc.mono e) (hd.mono e) H2 (Ex.refl H2) _ fun u' H3 N' M' e' g' hN' hM' => ⟨sz_of (by simp), fun p hp =>
    q _ _ N M N' M' ((e.trans e').trans (Ex.new hp)) ⟨p, [u, u'], rfl, sq_of upd_same, .cons (g.ex (e'.trans (Ex.new hp))) (.cons (g'.ex (Ex.new hp)) .nil)⟩ hN hM hN' hM'⟩
theorem ea_star {a : Addr} {xs ys : List V} (h : Ev te σ H (.ref a)) (hx : SqT K H a xs) (ht : EvA t σ H ys) : EvA (StX.tStar K te t) σ H (xs ++ ys) := fun H1 e Q q =>
  h H1 e _ fun H2 e2 => ⟨a, xs, rfl, .inl (ex_t (e.trans e2) hx), ht H2 (e.trans e2) _ fun H3 e3 => q H3 (e2.trans e3)⟩
end
end K33

set_option Elab.async false
set_option linter.all false
set_option maxRecDepth 100000
set_option maxHeartbeats 4000000
namespace K33
open PySem PySem.Spec PyProof.Rows L2 Evl
/-- what a rule is given -/
structure RIn (K : PySem.W.Frag) (H : Hp) (l : Lg) (vs : List V) (lv rv mv : V) (L R : List FM) (m : Option Fm) : Prop where
  vs_ : vs = [.str (nm l), lv, rv, mv]
  left : SideV K H lv L
  right : SideV K H rv R
  main : OptF K H mv m
  lenL : L.length ≤ 3
  lenR : R.length ≤ 3
  hL : ∀ p ∈ L, ht p.2 ≤ 3
  hR : ∀ p ∈ R, ht p.2 ≤ 3
  hM : ∀ f, m = some f → ht f ≤ 5
def sqf (p : Seqt) : Side × Side := (fms p.1, fms p.2)
/-- what it may answer -/
structure ROut (K : PySem.W.Frag) (gN : Addr) (l : Lg) (L R : List FM) (H : Hp) (Q : VK) (E : XK) : Prop where
  no : ∀ H', Ex H H' → E (.ref gN) none H'
  yes : ∀ v H' ps, Ex H H' → GoalsV K H' v ps → Snd l (fms L) (fms R) (ps.map sqf) → (∀ p ∈ ps, (∀ q ∈ p.1, ht q.2 ≤ 8) ∧ ∀ q ∈ p.2, ht q.2 ≤ 8) → ps.length ≤ 8 → Q v H'
def spRule (K : PySem.W.Frag) (gN : Addr) (okl : Lg → Prop) : Sp := fun vs H Q E => ∃ l lv rv mv L R m, RIn K H l vs lv rv mv L R m ∧ okl l ∧ ROut K gN l L R H Q E
abbrev rps : List Str := ["logic", "left", "right", "main"]
theorem len_rule {K : PySem.W.Frag} {gN : Addr} {okl : Lg → Prop} {vs : List V} {H : Hp} {Q : VK} {E : XK} (h : spRule K gN okl vs H Q E) : vs.length = rps.length := by
  obtain ⟨l, lv, rv, mv, L, R, m, h, _⟩ := h
  rw [h.vs_]; rfl
theorem mem_fms {f : Fm} {L : List FM} (h : f ∈ fms L) : ∃ p ∈ L, p.2 = f := by
  obtain ⟨p, hp, e⟩ := List.mem_map.mp h
  exact ⟨p, hp, e⟩
/-- members of a result, as formulas -/
theorem sub_fms {N A : List FM} {G : Side} (h : ∀ p ∈ N, p ∈ A) (hA : ∀ p ∈ A, p.2 ∈ G) : Sub (fms N) G := fun f hf => by
  obtain ⟨p, hp, e⟩ := mem_fms hf
  rw [← e]
  exact hA p (h p hp)
section
variable {K : PySem.W.Frag} {H : Hp} {σ : L2.St} {v : V} {i : Nat} {p q : Fm} {D : Ends} {E : L2.St → XK} {gN : Addr} {tz : TS} {te : TE}
/-- the parts of a two-place formula, by their indexes -/
structure Two (K : PySem.W.Frag) (H : Hp) (v : V) (p q : Fm) : Prop where
  ex : ∃ (a : Addr) (t : Str) (b c : Addr), v = .ref a ∧ SqT K H a [.str t, .ref b, .ref c] ∧ FmH K H p (.ref b) ∧ FmH K H q (.ref c)
theorem two_and (h : FmH K H (.and p q) v) : Two K H v p q := by
  obtain ⟨a, u, t, ea, hs, h1, h2⟩ := h
  obtain ⟨b, rfl⟩ := h1.ref
  obtain ⟨c, rfl⟩ := h2.ref
  exact ⟨a, _, b, c, ea, hs, h1, h2⟩
theorem two_or (h : FmH K H (.or p q) v) : Two K H v p q := by
  obtain ⟨a, u, t, ea, hs, h1, h2⟩ := h
  obtain ⟨b, rfl⟩ := h1.ref
  obtain ⟨c, rfl⟩ := h2.ref
  exact ⟨a, _, b, c, ea, hs, h1, h2⟩
theorem two_imp (h : FmH K H (.imp p q) v) : Two K H v p q := by
  obtain ⟨a, u, t, ea, hs, h1, h2⟩ := h
  obtain ⟨b, rfl⟩ := h1.ref
  obtain ⟨c, rfl⟩ := h2.ref
  exact ⟨a, _, b, c, ea, hs, h1, h2⟩
theorem one_box (h : FmH K H (.box p) v) : ∃ (a b : Addr), v = .ref a ∧ SqT K H a [.str "box", .ref b] ∧ FmH K H p (.ref b) := by
  obtain ⟨a, u, ea, hs, h1⟩ := h
  obtain ⟨b, rfl⟩ := h1.ref
  exact ⟨a, b, ea, hs, h1⟩
theorem ev_ixT {a : Addr} {xs : List V} {k : Nat} {u : V} (hσ : σ[i]? = some (some (.ref a))) (hs : SqT K H a xs) (hk : xs[k]? = some u) : Ev (tOp (rIxT K) (tVar i) (tC (.int (k : Int)))) σ H u := ev_op (ev_var hσ) ev_c (rv_ixT hs (at_of (j := k) rfl hk))
theorem ea2 {ta tb : TE} {x y : V} (h1 : Ev ta σ H x) (h2 : Ev tb σ H y) : EvA (tCons ta (tCons tb tNil)) σ H [x, y] := ea_cons h1 (ea_cons h2 ea_nil)
theorem ea3 {ta tb tc : TE} {x y z : V} (h1 : Ev ta σ H x) (h2 : Ev tb σ H y) (h3 : Ev tc σ H z) : EvA (tCons ta (tCons tb (tCons tc tNil))) σ H [x, y, z] := ea_cons h1 (ea2 h2 h3)
/-- require(is_main(side, main, tag)) -/
theorem q_main {lv mv : V} {L : List FM} {m : Option Fm} {t : Str} {Em : L2.St → XK} {ta : TA} (hA : EvA ta σ H [lv, mv, .str t]) (hl : SideV K H lv L) (hm : OptF K H mv m) (hh : ∀ f, m = some f → ht f ≤ 5) (hno : ∀ H', Ex H H' → E σ (.ref gN) none H')
    (k : ∀ f H', Ex H H' → m = some f → f ∈ fms L → tg f = t → tz D σ H') : tSeq (tDrop (tCal (rNoFit gN) E (tCons (tCal (spMain K) Em ta) tNil))) tz D σ H :=
  hA H (Ex.refl H) _ fun H1 e1 => ⟨lv, mv, L, m, t, rfl, hl.ex e1, hm.ex e1, fun f hf => by have := hh f hf; omega, fun b hb => ⟨b, rfl, fun z => by
    obtain ⟨f, h1, h2, h3⟩ := hb z
    exact k f H1 e1 h1 h2 h3, fun _ => hno H1 e1⟩⟩
theorem tg_and {f : Fm} (h : tg f = "and") : ∃ p q, f = .and p q := by
  cases f with
  | and p q => exact ⟨p, q, rfl⟩
  | _ => exact absurd h (by simp only [tg]; decide +kernel)
theorem tg_or {f : Fm} (h : tg f = "or") : ∃ p q, f = .or p q := by
  cases f with
  | or p q => exact ⟨p, q, rfl⟩
  | _ => exact absurd h (by simp only [tg]; decide +kernel)
theorem tg_imp {f : Fm} (h : tg f = "implies") : ∃ p q, f = .imp p q := by
  cases f with
  | imp p q => exact ⟨p, q, rfl⟩
  | _ => exact absurd h (by simp only [tg]; decide +kernel)
theorem tg_box {f : Fm} (h : tg f = "box") : ∃ p, f = .box p := by
  cases f with
  | box p => exact ⟨p, rfl⟩
  | _ => exact absurd h (by simp only [tg]; decide +kernel)
theorem ht_two {p q : Fm} : ht p < ht (.and p q) ∧ ht q < ht (.and p q) ∧ ht p < ht (.or p q) ∧ ht q < ht (.or p q) ∧ ht p < ht (.imp p q) ∧ ht q < ht (.imp p q) ∧ ht p < ht (.box p) := by
  simp only [ht]; omega
end
end K33

set_option Elab.async false
set_option linter.all false
set_option maxRecDepth 100000
set_option maxHeartbeats 4000000
namespace K33
open PySem PySem.Spec PyProof.Rows L2 Evl
theorem yes_go {σ : L2.St} {H : Hp} {A B : Hp → Prop} (h : A H) : tYes σ H (fun b H1 => if b = true then A H1 else B H1) := by
  show if true = true then A H else B H
  rw [if_pos rfl]
  exact h
/-- gives a truth; true, C holds -/
def EvC (te : TE) (σ : L2.St) (H : Hp) (C : Prop) : Prop := ∀ H1, Ex H H1 → ∀ Q : VK, (∀ (b : Bool) H2, Ex H1 H2 → (b = true → C) → Q (.bl b) H2) → te σ H1 Q
section
variable {K : PySem.W.Frag} {σ : L2.St} {H : Hp} {ta tb te : TE} {C C1 C2 : Prop} {v u : V} {L M : List FM} {m : Option Fm} {f : Fm} {i j : Nat} {D : Ends} {E : L2.St → XK} {gN : Addr} {tz : TS}
theorem EvC.imp (h : EvC te σ H C1) (q : C1 → C2) : EvC te σ H C2 := fun H1 e Q k => h H1 e Q fun b H2 e2 z => k b H2 e2 fun y => q (z y)
theorem evc_ev {b : Bool} (h : Ev te σ H (.bl b)) (q : b = true → C) : EvC te σ H C := fun H1 e Q k => h H1 e Q fun H2 e2 => k b H2 e2 q
theorem EvC.mono {H' : Hp} (e : Ex H H') (h : EvC te σ H C) : EvC te σ H' C := fun H1 e1 Q k => h H1 (e.trans e1) Q k
theorem evc_and (h1 : EvC ta σ H C1) (h2 : C1 → EvC tb σ H C2) : EvC (tAndV ta tb) σ H (C1 ∧ C2) := fun H1 e Q k => h1 H1 e _ fun b H2 e2 z => ⟨b, rfl, by
  cases b with
  | true =>
    show tb σ H2 Q
    exact h2 (z rfl) H2 (e.trans e2) Q fun c H3 e3 y => k c H3 (e2.trans e3) fun x => ⟨z rfl, y x⟩
  | false =>
    show Q (.bl false) H2
    exact k false H2 e2 fun x => nomatch x⟩
theorem evc_or (h1 : EvC ta σ H C1) (h2 : EvC tb σ H C2) : EvC (tOrV ta tb) σ H (C1 ∨ C2) := fun H1 e Q k => h1 H1 e _ fun b H2 e2 z => ⟨b, rfl, by
  cases b with
  | true =>
    show Q (.bl true) H2
    exact k true H2 e2 fun x => .inl (z rfl)
  | false =>
    show tb σ H2 Q
    exact h2 H2 (e.trans e2) Q fun c H3 e3 y => k c H3 (e2.trans e3) fun x => .inr (y x)⟩
/-- main is not None -/
theorem evc_notN (hσ : σ[i]? = some (some v)) (hm : OptF K H v m) : EvC (tOp (fun x y H Q => y = .non ∧ Q (.bl (!decide (x = .non))) H) (tVar i) (tC .non)) σ H (∃ f, m = some f) := fun H1 e Q k => ⟨v, hσ, rfl, k _ _ (Ex.refl _) fun z => by
  cases m with
  | none =>
    obtain rfl : v = .non := hm
    simp at z
  | some f => exact ⟨f, rfl⟩⟩
theorem evc_isN (hσ : σ[i]? = some (some v)) (hm : OptF K H v m) : EvC (tOp (fun x y H Q => y = .non ∧ Q (.bl (decide (x = .non))) H) (tVar i) (tC .non)) σ H (m = none) := fun H1 e Q k => ⟨v, hσ, rfl, k _ _ (Ex.refl _) fun z => by
  cases m with
  | none => rfl
  | some f =>
    obtain ⟨a, rfl⟩ := (show FmH K H f v from hm).ref
    simp at z⟩
/-- x in side -/
theorem evc_in {x : V} (hA : Ev ta σ H x) (hf : FmH K H f x) (hh : ht f ≤ 40) (hσ : σ[j]? = some (some u)) (hs : SideV K H u L) : EvC (tOp (rInF K) ta (tVar j)) σ H (f ∈ fms L) := fun H1 e Q k => hA H1 e _ fun H2 e2 => ⟨u, hσ, by
  obtain ⟨a, rfl, h1, h2⟩ := hs.ex (e.trans e2)
  exact ⟨f, a, L, hf.ex (e.trans e2), rfl, h1, h2, hh, k _ _ e2 fun z => of_decide_eq_true z⟩⟩
/-- f == g -/
theorem evc_eqF {x y : V} {g : Fm} (ha : Ev ta σ H x) (hb : Ev tb σ H y) (hf : FmH K H f x) (hg : FmH K H g y) (h1 : ht f ≤ 40) (h2 : ht g ≤ 40) : EvC (tOp (rEqF K) ta tb) σ H (f = g) := fun H1 e Q k => ha H1 e _ fun H2 e2 => hb H2 (e.trans e2) _ fun H3 e3 =>
  ⟨f, g, hf.ex ((e.trans e2).trans e3), hg.ex ((e.trans e2).trans e3), h1, h2, k _ _ (e2.trans e3) fun z => of_decide_eq_true z⟩
theorem ev_tagT {x : V} (hσ : σ[i]? = some (some x)) (hf : FmH K H f x) (t : Str) : EvC (tOp rEq (tOp (rIxT K) (tVar i) (tC (.int 0))) (tC (.str t))) σ H (tg f = t) := by
  refine evc_ev (ev_op (ev_tag hσ hf) ev_c (rv_eq rfl)) fun z => ?_
  have := of_decide_eq_true z
  injection this
/-- require(c) -/
theorem q_req (h : EvC te σ H C) (hno : ∀ H', Ex H H' → E σ (.ref gN) none H') (k : ∀ H', Ex H H' → C → tz D σ H') : tSeq (tDrop (tCal (rNoFit gN) E (tCons te tNil))) tz D σ H :=
  h H (Ex.refl H) _ fun b H1 e1 z => ⟨b, rfl, fun y => k H1 e1 (z y), fun _ => hno H1 e1⟩
end
theorem passR {P : Program} {w : World} {K : PySem.W.Frag} {mg : Str → Option Value} {base : Heap} {N : List Str} {n : Str} {scope : Scope} {f : Addr} {cdv : Value} {A : Around} {outer : List Env} {s : Shared} {H : Hp} {E : XK} :
    ∀ σ, PassesAt (L2.CX P w) (cxOf (L2.CX P w) P w K mg base N n scope f cdv A outer s H E) σ ((fun _ => E : L2.St → XK) σ) := fun σ pins H' s' e s'' I c =>
  passes_call (X := cxOf (L2.CX P w) P w K mg base N n scope f cdv A outer s H E) (takes_of rfl rfl rfl rfl) (fun _ _ _ _ h => h) pins σ H' s' e s'' I c
/-! ### modal depth (its value is of no weight) -/
def spMd (K : PySem.W.Frag) (n : Nat) : Sp := fun vs H Q _ => ∃ v f, vs = [v] ∧ FmH K H f v ∧ ht f ≤ n ∧ ∀ d H', 0 ≤ d → Ex H H' → Q (.int d) H'
def spPlain (K : PySem.W.Frag) : Sp := fun vs H Q _ => ∃ v f, vs = [v] ∧ FmH K H f v ∧ ht f ≤ 8 ∧ ∀ b H', Ex H H' → Q (.bl b) H'
theorem sc_md : FnScope ["a", "part"] ["a"] (defScope (top 8)) := ⟨rfl, rfl, rfl, by decide +kernel, rfl, by decide +kernel, by decide +kernel⟩
theorem sc_plain : FnScope ["a"] ["a"] (defScope (top 9)) := ⟨rfl, rfl, rfl, by decide +kernel, rfl, by decide +kernel, by decide +kernel⟩
theorem ht_pos : ∀ f, 1 ≤ ht f := by intro f; cases f <;> simp only [ht] <;> omega
theorem parts_ht {f g : Fm} (h : g ∈ partsF f) : ht g < ht f := by
  cases f <;> simp only [partsF, List.mem_cons, List.not_mem_nil, or_false] at h
  all_goals (rcases h with rfl | rfl) <;> simp only [ht] <;> omega
section
variable {P : Program} {w : World} {K : PySem.W.Frag} {mg : Str → Option Value} {base : Heap}
theorem cal_md (T : TX w K mg) : ∀ n, Cal P w K mg base "modal_depth" (n + 2) (spMd K n)
  | 0 => cal_of T 2 rfl sc_md (fun vs H Q E h => by obtain ⟨_, _, rfl, _⟩ := h; rfl) (fun _ _ _ _ _ _ us hl => match us, hl with | [_], _ => rfl) fun f cdv A outer s H vs Q E hr h => by
    obtain ⟨v, f, _, _, h0, _⟩ := h
    have := ht_pos f
    omega
  | n + 1 => by
    have ih := cal_md T n
    refine cal_of T 2 rfl sc_md (fun vs H Q E h => by obtain ⟨_, _, rfl, _⟩ := h; rfl) (fun _ _ _ _ _ _ us hl => match us, hl with | [_], _ => rfl) fun f cdv A outer s H vs Q E hr h =>
      ⟨_, pss_one (ps_ret (pe_op op_add (pe_callTy call_int1 rfl (T.free "int" (by decide +kernel)) boot_int (pa_cons (pe_cmpR op_eq (pe_ix ix_tup (pv 0) pe_int (fun _ _ => rfl)) pe_str (nomark _)) pa_nil))
        (pe_callBK (cr_maxD rfl) rfl (T.free "max" (by decide +kernel)) boot_max (pa_cons (pe_lc (own := [("part", 1)]) (g := gName 1) (tt := tYes) rfl sc_md.nd (pi_tup (pe_f0 ((cal_parts T).mono (by omega)) hr rfl (pa_cons (pv 0) pa_nil))) (blkOk_by (N := ["a", "part"]) (sc := defScope (top 8)) (by decide +kernel))
          (fun _ _ _ _ _ => pg_name (i := 1) sc_md.nd rfl (Or.inl rfl)) (fun _ _ _ _ _ => pts_nil) (fun _ _ _ _ _ => pe_f0 ih hr rfl (pa_cons (pv 1) pa_nil))) pa_nil) (pk_cons pe_int pk_nil)))), ?_⟩
    obtain ⟨v, f, rfl, hf, hh, q⟩ := h
    refine ev_op (z := .bl (decide (V.str (tg f) = .str "box"))) (ev_tag rfl hf) ev_c (rv_eq rfl) H (Ex.refl H) _ fun H1 e1 => .inr ⟨_, rfl, ?_⟩
    refine ⟨v, rfl, v, f, rfl, hf.ex e1, fun u H2 L e2 hu eL => ?_⟩
    obtain ⟨a, rfl, hs, hL⟩ := hu
    refine ⟨a, rfl, ⟨_, hs⟩, fun D hD => ?_⟩
    have e12 := e1.trans e2
    refine lc_tup (xs := refs L) (fun i H' => Ex H2 H' ∧ ∃ ns : List Int, H' D = some (.lst (ns.map V.int)) ∧ ns.length = i ∧ ∀ n ∈ ns, 0 ≤ n) ⟨Ex.new hD, [], upd_same, rfl, fun _ z => nomatch z⟩ (fun i H' hi p => ex_t p.1 hs) (fun i x H' hi p => ?_) fun H' p => ?_
    · obtain ⟨e3, ns, hns, ln, h0⟩ := p
      rw [List.getElem?_map] at hi
      cases hp : L[i]? with
      | none => rw [hp] at hi; cases hi
      | some pr =>
        rw [hp] at hi
        obtain rfl : V.ref pr.1 = x := Option.some.inj hi
        have hpm : pr ∈ L := List.mem_of_getElem? hp
        have hpF : pr.2 ∈ partsF f := by rw [← eL]; exact List.mem_map_of_mem hpm
        refine ⟨rfl, ?_⟩
        refine yes_go ?_
        refine ⟨_, rfl, _, pr.2, rfl, (hL pr hpm).ex e3, by have := parts_ht hpF; omega, fun d H4 d0 e4 => ?_⟩
        have hiL : i < L.length := (List.getElem?_eq_some_iff.mp hp).1
        have hl2 : L.length ≤ 2 := by
          have : (fms L).length = L.length := by simp [fms]
          rw [← this, eL]
          cases f <;> simp [partsF]
        refine ⟨ns.map V.int, e4 _ _ hns, sz_lt (by rw [List.length_map]; omega), Ex.mut (e3.trans e4) hD, ns ++ [d], ?_, by simp [ln], fun z hz => ?_⟩
        · rw [List.map_append]; exact upd_same
        · rcases List.mem_append.mp hz with hz | hz
          · exact h0 z hz
          · rw [List.mem_singleton.mp hz]; exact d0
    · obtain ⟨e3, ns, hns, ln, h0⟩ := p
      exact ⟨D, ns, 0, rfl, rfl, by decide, sq_of hns, h0, fun z hz => ⟨_, _, rfl, rfl, q _ _ (by split <;> omega) (e12.trans e3)⟩⟩
theorem cal_plain (T : TX w K mg) : Cal P w K mg base "is_plain" 11 (spPlain K) := by
  refine cal_of T 3 rfl sc_plain (fun vs H Q E h => by obtain ⟨_, _, rfl, _⟩ := h; rfl) (fun _ _ _ _ _ _ us hl => match us, hl with | [_], _ => rfl) fun f cdv A outer s H vs Q E hr h =>
    ⟨_, pss_one (ps_ret (pe_cmpR op_eq (pe_f0 (cal_md T 8) hr rfl (pa_cons (pv 0) pa_nil)) pe_int (nomark _))), ?_⟩
  obtain ⟨v, f, rfl, hf, hh, q⟩ := h
  exact ⟨v, rfl, v, f, rfl, hf, hh, fun d H' d0 e => ⟨rfl, q _ _ e⟩⟩
end
end K33

set_option Elab.async false
set_option linter.all false
set_option maxRecDepth 100000
set_option maxHeartbeats 4000000
namespace K33
open PySem PySem.Spec PyProof.Rows L2 Evl
/-- the def's promise, its rule's logics -/
abbrev CalR (P : Program) (w : World) (K : PySem.W.Frag) (mg : Str → Option Value) (base : Heap) (gN : Addr) (x : Str) (okl : Lg → Prop) : Prop := Cal P w K mg base x 20 (spRule K gN okl)
abbrev anyL : Lg → Prop := fun _ => True
theorem sc_axiom : FnScope rps rps (defScope (top 25)) := ⟨rfl, rfl, rfl, by decide +kernel, rfl, by decide +kernel, by decide +kernel⟩
theorem sc_falsum : FnScope rps rps (defScope (top 26)) := ⟨rfl, rfl, rfl, by decide +kernel, rfl, by decide +kernel, by decide +kernel⟩
theorem sc_andl : FnScope rps rps (defScope (top 27)) := ⟨rfl, rfl, rfl, by decide +kernel, rfl, by decide +kernel, by decide +kernel⟩
theorem sc_andr : FnScope rps rps (defScope (top 28)) := ⟨rfl, rfl, rfl, by decide +kernel, rfl, by decide +kernel, by decide +kernel⟩
theorem sc_orl : FnScope rps rps (defScope (top 29)) := ⟨rfl, rfl, rfl, by decide +kernel, rfl, by decide +kernel, by decide +kernel⟩
theorem sc_orr : FnScope rps rps (defScope (top 30)) := ⟨rfl, rfl, rfl, by decide +kernel, rfl, by decide +kernel, by decide +kernel⟩
theorem sc_impl : FnScope rps rps (defScope (top 31)) := ⟨rfl, rfl, rfl, by decide +kernel, rfl, by decide +kernel, by decide +kernel⟩
theorem sc_impr : FnScope rps rps (defScope (top 32)) := ⟨rfl, rfl, rfl, by decide +kernel, rfl, by decide +kernel, by decide +kernel⟩
theorem sc_cut : FnScope rps rps (defScope (top 33)) := ⟨rfl, rfl, rfl, by decide +kernel, rfl, by decide +kernel, by decide +kernel⟩
theorem sc_refl : FnScope rps rps (defScope (top 34)) := ⟨rfl, rfl, rfl, by decide +kernel, rfl, by decide +kernel, by decide +kernel⟩
theorem sc_weak : FnScope rps rps (defScope (top 38)) := ⟨rfl, rfl, rfl, by decide +kernel, rfl, by decide +kernel, by decide +kernel⟩
theorem inV_modal : ∀ l : Lg, inV (.str (nm l)) (modalNames.map V.str) = !l.forced := by intro l; cases l <;> decide +kernel
theorem snd_mono {l : Lg} {L R : Side} {ps qs : List (Side × Side)} (h : Snd l L R ps) (q : ∀ p ∈ ps, ∃ p' ∈ qs, Sub p'.1 p.1 ∧ Sub p'.2 p.2) : Snd l L R qs := fun M G w hw hr => by
  obtain ⟨p, hp, u, hu, h1, h2⟩ := h M G w hw hr
  obtain ⟨p', hp', s1, s2⟩ := q p hp
  exact ⟨p', hp', u, hu, fun a ha => h1 a (s1 a ha), fun a ha => h2 a (s2 a ha)⟩
theorem snd1 {l : Lg} {L R A B N M : Side} (h : Snd l L R [(A, B)]) (hN : Sub N A) (hM : Sub M B) : Snd l L R [(N, M)] := snd_mono h fun p hp => ⟨_, List.mem_singleton.mpr rfl, by rw [List.mem_singleton.mp hp]; exact ⟨hN, hM⟩⟩
theorem snd2 {l : Lg} {L R A B A' B' N M N' M' : Side} (h : Snd l L R [(A, B), (A', B')]) (hN : Sub N A) (hM : Sub M B) (hN' : Sub N' A') (hM' : Sub M' B') : Snd l L R [(N, M), (N', M')] := snd_mono h fun p hp => by
  rcases List.mem_cons.mp hp with rfl | hp
  · exact ⟨_, List.mem_cons_self, hN, hM⟩
  · rw [List.mem_singleton.mp hp]
    exact ⟨_, List.mem_cons_of_mem _ (List.mem_singleton.mpr rfl), hN', hM'⟩
theorem sub_refl (A : Side) : Sub A A := fun _ h => h
section
variable {K : PySem.W.Frag} {H : Hp} {gN : Addr} {l : Lg} {vs : List V} {lv rv mv : V} {L R N M N' M' : List FM} {m : Option Fm} {Q : VK} {E : XK}
/-- bounds of what is added -/
theorem b_cons {a : Addr} {f : Fm} (h : ∀ p ∈ L, ht p.2 ≤ 3) (hf : ht f ≤ 8) : ∀ p ∈ L ++ [(a, f)], ht p.2 ≤ 8 := fun p hp => by
  rcases List.mem_append.mp hp with hp | hp
  · have := h p hp; omega
  · rw [List.mem_singleton.mp hp]; exact hf
theorem b_two {a b : Addr} {f g : Fm} (h : ∀ p ∈ L, ht p.2 ≤ 3) (hf : ht f ≤ 8) (hg : ht g ≤ 8) : ∀ p ∈ L ++ [(a, f), (b, g)], ht p.2 ≤ 8 := fun p hp => by
  rcases List.mem_append.mp hp with hp | hp
  · have := h p hp; omega
  · rcases List.mem_cons.mp hp with rfl | hp
    · exact hf
    · rw [List.mem_singleton.mp hp]; exact hg
theorem b_side (h : ∀ p ∈ L, ht p.2 ≤ 3) : ∀ p ∈ L, ht p.2 ≤ 8 := fun p hp => by have := h p hp; omega
/-- what members of L + [a] are -/
theorem s_cons {a : Addr} {f : Fm} (h : ∀ p ∈ N, p ∈ L ++ [(a, f)]) : Sub (fms N) (f :: fms L) := sub_fms h fun p hp => by
  rcases List.mem_append.mp hp with hp | hp
  · exact List.mem_cons_of_mem _ (List.mem_map_of_mem hp)
  · rw [List.mem_singleton.mp hp]; exact List.mem_cons_self
theorem s_two2 {a b : Addr} {f g : Fm} (h : ∀ p ∈ N, p ∈ L ++ [(a, f), (b, g)]) : Sub (fms N) (f :: g :: fms L) := sub_fms h fun p hp => by
  rcases List.mem_append.mp hp with hp | hp
  · exact List.mem_cons_of_mem _ (List.mem_cons_of_mem _ (List.mem_map_of_mem hp))
  · rcases List.mem_cons.mp hp with rfl | hp
    · exact List.mem_cons_self
    · rw [List.mem_singleton.mp hp]; exact List.mem_cons_of_mem _ List.mem_cons_self
theorem s_same (h : ∀ p ∈ N, p ∈ L) : Sub (fms N) (fms L) := sub_fms h fun p hp => List.mem_map_of_mem hp
theorem allF1 {a : Addr} {f : Fm} (h : FmH K H f (.ref a)) : AllF K H [(a, f)] := fun p hp => by rw [List.mem_singleton.mp hp]; exact h
theorem allF2 {a b : Addr} {f g : Fm} (h : FmH K H f (.ref a)) (h2 : FmH K H g (.ref b)) : AllF K H [(a, f), (b, g)] := fun p hp => by
  rcases List.mem_cons.mp hp with rfl | hp
  · exact h
  · rw [List.mem_singleton.mp hp]; exact h2
/-- one sequent | two, answered -/
theorem ROut.one {A B : List FM} (o : ROut K gN l L R H Q E) (hA : ∀ p ∈ A, ht p.2 ≤ 8) (hB : ∀ p ∈ B, ht p.2 ≤ 8) (k : ∀ N M, (∀ p ∈ N, p ∈ A) → (∀ p ∈ M, p ∈ B) → Snd l (fms L) (fms R) [(fms N, fms M)]) {u : V} {H' : Hp} {N M : List FM} (e : Ex H H') (g : GoalsV K H' u [(N, M)]) (hN : ∀ p ∈ N, p ∈ A) (hM : ∀ p ∈ M, p ∈ B) : Q u H' :=
  o.yes u H' [(N, M)] e g (k N M hN hM) (fun p hp => by rw [List.mem_singleton.mp hp]; exact ⟨fun q hq => hA q (hN q hq), fun q hq => hB q (hM q hq)⟩) (by simp)
theorem ROut.two {A B A' B' : List FM} (o : ROut K gN l L R H Q E) (hA : ∀ p ∈ A, ht p.2 ≤ 8) (hB : ∀ p ∈ B, ht p.2 ≤ 8) (hA' : ∀ p ∈ A', ht p.2 ≤ 8) (hB' : ∀ p ∈ B', ht p.2 ≤ 8)
    (k : ∀ N M N' M', (∀ p ∈ N, p ∈ A) → (∀ p ∈ M, p ∈ B) → (∀ p ∈ N', p ∈ A') → (∀ p ∈ M', p ∈ B') → Snd l (fms L) (fms R) [(fms N, fms M), (fms N', fms M')]) {u : V} {H' : Hp} (e : Ex H H') (g : GoalsV K H' u [(N, M), (N', M')]) (hN : ∀ p ∈ N, p ∈ A) (hM : ∀ p ∈ M, p ∈ B)
    (hN' : ∀ p ∈ N', p ∈ A') (hM' : ∀ p ∈ M', p ∈ B') : Q u H' :=
  o.yes u H' [(N, M), (N', M')] e g (k N M N' M' hN hM hN' hM') (fun p hp => by
    rcases List.mem_cons.mp hp with rfl | hp
    · exact ⟨fun q hq => hA q (hN q hq), fun q hq => hB q (hM q hq)⟩
    · rw [List.mem_singleton.mp hp]; exact ⟨fun q hq => hA' q (hN' q hq), fun q hq => hB' q (hM' q hq)⟩) (by simp)
theorem ROut.ex {H' : Hp} (e : Ex H H') (o : ROut K gN l L R H Q E) : ROut K gN l L R H' Q E := ⟨fun H2 e2 => o.no H2 (e.trans e2), fun v H2 ps e2 => o.yes v H2 ps (e.trans e2)⟩
end
section
variable {P : Program} {w : World} {K : PySem.W.Frag} {mg : Str → Option Value} {base : Heap} {gN : Addr}
theorem cal_axiom (T : TX w K mg) (cR : Cal P w K mg base "require" 1 (rNoFit gN)) : CalR P w K mg base gN "axiom" anyL := by
  refine cal_of T 12 rfl sc_axiom (fun vs H Q E h => len_rule h) (fun _ _ _ _ _ _ us hl => match us, hl with | [_, _, _, _], _ => rfl) fun f cdv A outer s H vs Q E hr h =>
    ⟨_, pss_cons (ps_expr (pe_f (E := fun _ => E) (cR.mono (by decide)) hr rfl passR (pa_cons (pe_and (pe_cmpR op_notN (pv 3) pe_non (nomark _)) (pe_and (pe_cmpR (op_inF (hu64 hr)) (pv 3) (pv 1) rfl) (pe_one (pe_cmpR (op_inF (hu64 hr)) (pv 3) (pv 2) rfl)))) pa_nil)))
      (pss_one (ps_ret (pe_lst pa_nil))), ?_⟩
  obtain ⟨l, lv, rv, mv, L, R, m, I, _, o⟩ := h
  obtain rfl := I.vs_
  refine q_req (C := ∃ f, m = some f ∧ f ∈ fms L ∧ f ∈ fms R) ?_ (fun H' e => o.no H' e) fun H1 e1 c => ?_
  · cases m with
    | none => exact (evc_and (C2 := True) (evc_notN rfl I.main) fun c => nomatch c.choose_spec).imp fun c => nomatch c.1.choose_spec
    | some f =>
      have h40 : ht f ≤ 40 := by have := I.hM f rfl; omega
      exact (evc_and (evc_notN rfl I.main) fun _ => evc_and (evc_in (ev_var rfl) I.main h40 rfl I.left) fun _ => evc_in (ev_var rfl) I.main h40 rfl I.right).imp fun c => ⟨f, rfl, c.2.1, c.2.2⟩
  · obtain ⟨f, rfl, h1, h2⟩ := c
    exact ⟨sz_of (by simp), fun p hp => o.yes _ _ [] (e1.trans (Ex.new hp)) ⟨p, [], rfl, sq_of upd_same, .nil⟩ (s_axiom h1 h2) (fun _ z => nomatch z) (by simp)⟩
theorem cal_falsum (T : TX w K mg) (cR : Cal P w K mg base "require" 1 (rNoFit gN)) : CalR P w K mg base gN "falsum" anyL := by
  obtain ⟨aF, gF, hF⟩ := T.tup _ (List.mem_cons_self ..)
  refine cal_of T 13 rfl sc_falsum (fun vs H Q E h => len_rule h) (fun _ _ _ _ _ _ us hl => match us, hl with | [_, _, _, _], _ => rfl) fun f cdv A outer s H vs Q E hr h =>
    ⟨_, pss_cons (ps_expr (pe_f (E := fun _ => E) (cR.mono (by decide)) hr rfl passR (pa_cons (pe_and (pe_cmpR op_isN (pv 3) pe_non (nomark _)) (pe_one (pe_cmpR (op_inF (hu64 hr)) (pe_glob (v := .ref aF) rfl gF rfl) (pv 1) rfl))) pa_nil)))
      (pss_one (ps_ret (pe_lst pa_nil))), ?_⟩
  obtain ⟨l, lv, rv, mv, L, R, m, I, _, o⟩ := h
  obtain rfl := I.vs_
  refine q_req (C := Fm.fls ∈ fms L) ?_ (fun H' e => o.no H' e) fun H1 e1 c => ?_
  · exact (evc_and (evc_isN rfl I.main) fun _ => evc_in (f := .fls) ev_c ⟨aF, rfl, hF _⟩ (by decide) rfl I.left).imp fun c => c.2
  · exact ⟨sz_of (by simp), fun p hp => o.yes _ _ [] (e1.trans (Ex.new hp)) ⟨p, [], rfl, sq_of upd_same, .nil⟩ (s_falsum c) (fun _ z => nomatch z) (by simp)⟩
theorem cal_andl (T : TX w K mg) (cR : Cal P w K mg base "require" 1 (rNoFit gN)) : CalR P w K mg base gN "and_left" anyL := by
  refine cal_of T 14 rfl sc_andl (fun vs H Q E h => len_rule h) (fun _ _ _ _ _ _ us hl => match us, hl with | [_, _, _, _], _ => rfl) fun f cdv A outer s H vs Q E hr h =>
    ⟨_, pss_cons (ps_expr (pe_f (E := fun _ => E) (cR.mono (by decide)) hr rfl passR (pa_cons (pe_f0 ((cal_main T).mono (by decide)) hr rfl (pa_cons (pv 1) (pa_cons (pv 3) (pa_cons pe_str pa_nil)))) pa_nil)))
      (pss_one (ps_ret (pe_lst (pa_cons (pe_tup (pa_cons (pe_f0 ((cal_add T).mono (by decide)) hr rfl (pa_cons (pv 1) (pa_cons (pe_ix ix_tup (pv 3) pe_int (fun _ _ => rfl)) (pa_cons (pe_ix ix_tup (pv 3) pe_int (fun _ _ => rfl)) pa_nil)))) (pa_cons (pv 2) pa_nil))) pa_nil)))), ?_⟩
  obtain ⟨l, lv, rv, mv, L, R, m, I, _, o⟩ := h
  obtain rfl := I.vs_
  refine q_main (ea3 (ev_var rfl) (ev_var rfl) ev_c) I.left I.main I.hM (fun H' e => o.no H' e) fun g H1 e1 hm hin htg => ?_
  subst hm
  obtain ⟨p, q, rfl⟩ := tg_and htg
  obtain ⟨a, t, b, c, rfl, hs, hb, hc⟩ := (two_and (I.main.ex e1)).ex
  have h5 := I.hM _ rfl
  have hh := @ht_two p q
  exact ev_goal1 (evs_add (ea3 (ev_var rfl) (ev_ixT (k := 1) rfl hs rfl) (ev_ixT (k := 2) rfl hs rfl)) (I.left.ex e1) (allF2 hb hc) (b_two (a := b) (b := c) (f := p) (g := q) I.hL (by omega) (by omega)) (by have := I.lenL; simp; omega)) (evs_var rfl (I.right.ex e1)) _ fun u H2 N M e g hN hM =>
    (o.ex e1).one (b_two (a := b) (b := c) (f := p) (g := q) I.hL (by omega) (by omega)) (b_side I.hR) (fun N M hN hM => snd1 (s_and_left hin (sub_refl _)) (s_two2 hN) (s_same hM)) e g hN hM
theorem cal_andr (T : TX w K mg) (cR : Cal P w K mg base "require" 1 (rNoFit gN)) : CalR P w K mg base gN "and_right" anyL := by
  refine cal_of T 15 rfl sc_andr (fun vs H Q E h => len_rule h) (fun _ _ _ _ _ _ us hl => match us, hl with | [_, _, _, _], _ => rfl) fun f cdv A outer s H vs Q E hr h =>
    ⟨_, pss_cons (ps_expr (pe_f (E := fun _ => E) (cR.mono (by decide)) hr rfl passR (pa_cons (pe_f0 ((cal_main T).mono (by decide)) hr rfl (pa_cons (pv 2) (pa_cons (pv 3) (pa_cons pe_str pa_nil)))) pa_nil)))
      (pss_one (ps_ret (pe_lst (pa_cons (pe_tup (pa_cons (pv 1) (pa_cons (pe_f0 ((cal_add T).mono (by decide)) hr rfl (pa_cons (pv 2) (pa_cons (pe_ix ix_tup (pv 3) pe_int (fun _ _ => rfl)) pa_nil))) pa_nil))) (pa_cons (pe_tup (pa_cons (pv 1) (pa_cons (pe_f0 ((cal_add T).mono (by decide)) hr rfl (pa_cons (pv 2) (pa_cons (pe_ix ix_tup (pv 3) pe_int (fun _ _ => rfl)) pa_nil))) pa_nil))) pa_nil))))), ?_⟩
  obtain ⟨l, lv, rv, mv, L, R, m, I, _, o⟩ := h
  obtain rfl := I.vs_
  refine q_main (ea3 (ev_var rfl) (ev_var rfl) ev_c) I.right I.main I.hM (fun H' e => o.no H' e) fun g H1 e1 hm hin htg => ?_
  subst hm
  obtain ⟨p, q, rfl⟩ := tg_and htg
  obtain ⟨a, t, b, c, rfl, hs, hb, hc⟩ := (two_and (I.main.ex e1)).ex
  have h5 := I.hM _ rfl
  have hh := @ht_two p q
  exact ev_goal2 (evs_var rfl (I.left.ex e1)) (evs_add (ea2 (ev_var rfl) (ev_ixT (k := 1) rfl hs rfl)) (I.right.ex e1) (allF1 hb) (b_cons (a := b) (f := p) I.hR (by omega)) (by have := I.lenR; simp; omega)) (evs_var rfl (I.left.ex e1)) (evs_add (ea2 (ev_var rfl) (ev_ixT (k := 2) rfl hs rfl)) (I.right.ex e1) (allF1 hc) (b_cons (a := c) (f := q) I.hR (by omega)) (by have := I.lenR; simp; omega)) _ fun u H2 N M N' M' e g hN hM hN' hM' =>
    (o.ex e1).two (b_side I.hL) (b_cons (a := b) (f := p) I.hR (by omega)) (b_side I.hL) (b_cons (a := c) (f := q) I.hR (by omega)) (fun N M N' M' hN hM hN' hM' => snd2 (s_and_right hin (sub_refl _) (sub_refl _)) (s_same hN) (s_cons hM) (s_same hN') (s_cons hM')) e g hN hM hN' hM'
theorem cal_orl (T : TX w K mg) (cR : Cal P w K mg base "require" 1 (rNoFit gN)) : CalR P w K mg base gN "or_left" anyL := by
  refine cal_of T 16 rfl sc_orl (fun vs H Q E h => len_rule h) (fun _ _ _ _ _ _ us hl => match us, hl with | [_, _, _, _], _ => rfl) fun f cdv A outer s H vs Q E hr h =>
    ⟨_, pss_cons (ps_expr (pe_f (E := fun _ => E) (cR.mono (by decide)) hr rfl passR (pa_cons (pe_f0 ((cal_main T).mono (by decide)) hr rfl (pa_cons (pv 1) (pa_cons (pv 3) (pa_cons pe_str pa_nil)))) pa_nil)))
      (pss_one (ps_ret (pe_lst (pa_cons (pe_tup (pa_cons (pe_f0 ((cal_add T).mono (by decide)) hr rfl (pa_cons (pv 1) (pa_cons (pe_ix ix_tup (pv 3) pe_int (fun _ _ => rfl)) pa_nil))) (pa_cons (pv 2) pa_nil))) (pa_cons (pe_tup (pa_cons (pe_f0 ((cal_add T).mono (by decide)) hr rfl (pa_cons (pv 1) (pa_cons (pe_ix ix_tup (pv 3) pe_int (fun _ _ => rfl)) pa_nil))) (pa_cons (pv 2) pa_nil))) pa_nil))))), ?_⟩
  obtain ⟨l, lv, rv, mv, L, R, m, I, _, o⟩ := h
  obtain rfl := I.vs_
  refine q_main (ea3 (ev_var rfl) (ev_var rfl) ev_c) I.left I.main I.hM (fun H' e => o.no H' e) fun g H1 e1 hm hin htg => ?_
  subst hm
  obtain ⟨p, q, rfl⟩ := tg_or htg
  obtain ⟨a, t, b, c, rfl, hs, hb, hc⟩ := (two_or (I.main.ex e1)).ex
  have h5 := I.hM _ rfl
  have hh := @ht_two p q
  exact ev_goal2 (evs_add (ea2 (ev_var rfl) (ev_ixT (k := 1) rfl hs rfl)) (I.left.ex e1) (allF1 hb) (b_cons (a := b) (f := p) I.hL (by omega)) (by have := I.lenL; simp; omega)) (evs_var rfl (I.right.ex e1)) (evs_add (ea2 (ev_var rfl) (ev_ixT (k := 2) rfl hs rfl)) (I.left.ex e1) (allF1 hc) (b_cons (a := c) (f := q) I.hL (by omega)) (by have := I.lenL; simp; omega)) (evs_var rfl (I.right.ex e1)) _ fun u H2 N M N' M' e g hN hM hN' hM' =>
    (o.ex e1).two (b_cons (a := b) (f := p) I.hL (by omega)) (b_side I.hR) (b_cons (a := c) (f := q) I.hL (by omega)) (b_side I.hR) (fun N M N' M' hN hM hN' hM' => snd2 (s_or_left hin (sub_refl _) (sub_refl _)) (s_cons hN) (s_same hM) (s_cons hN') (s_same hM')) e g hN hM hN' hM'
theorem cal_orr (T : TX w K mg) (cR : Cal P w K mg base "require" 1 (rNoFit gN)) : CalR P w K mg base gN "or_right" anyL := by
  refine cal_of T 17 rfl sc_orr (fun vs H Q E h => len_rule h) (fun _ _ _ _ _ _ us hl => match us, hl with | [_, _, _, _], _ => rfl) fun f cdv A outer s H vs Q E hr h =>
    ⟨_, pss_cons (ps_expr (pe_f (E := fun _ => E) (cR.mono (by decide)) hr rfl passR (pa_cons (pe_f0 ((cal_main T).mono (by decide)) hr rfl (pa_cons (pv 2) (pa_cons (pv 3) (pa_cons pe_str pa_nil)))) pa_nil)))
      (pss_one (ps_ret (pe_lst (pa_cons (pe_tup (pa_cons (pv 1) (pa_cons (pe_f0 ((cal_add T).mono (by decide)) hr rfl (pa_cons (pv 2) (pa_cons (pe_ix ix_tup (pv 3) pe_int (fun _ _ => rfl)) (pa_cons (pe_ix ix_tup (pv 3) pe_int (fun _ _ => rfl)) pa_nil)))) pa_nil))) pa_nil)))), ?_⟩
  obtain ⟨l, lv, rv, mv, L, R, m, I, _, o⟩ := h
  obtain rfl := I.vs_
  refine q_main (ea3 (ev_var rfl) (ev_var rfl) ev_c) I.right I.main I.hM (fun H' e => o.no H' e) fun g H1 e1 hm hin htg => ?_
  subst hm
  obtain ⟨p, q, rfl⟩ := tg_or htg
  obtain ⟨a, t, b, c, rfl, hs, hb, hc⟩ := (two_or (I.main.ex e1)).ex
  have h5 := I.hM _ rfl
  have hh := @ht_two p q
  exact ev_goal1 (evs_var rfl (I.left.ex e1)) (evs_add (ea3 (ev_var rfl) (ev_ixT (k := 1) rfl hs rfl) (ev_ixT (k := 2) rfl hs rfl)) (I.right.ex e1) (allF2 hb hc) (b_two (a := b) (b := c) (f := p) (g := q) I.hR (by omega) (by omega)) (by have := I.lenR; simp; omega)) _ fun u H2 N M e g hN hM =>
    (o.ex e1).one (b_side I.hL) (b_two (a := b) (b := c) (f := p) (g := q) I.hR (by omega) (by omega)) (fun N M hN hM => snd1 (s_or_right hin (sub_refl _)) (s_same hN) (s_two2 hM)) e g hN hM
theorem cal_impl (T : TX w K mg) (cR : Cal P w K mg base "require" 1 (rNoFit gN)) : CalR P w K mg base gN "implies_left" anyL := by
  refine cal_of T 18 rfl sc_impl (fun vs H Q E h => len_rule h) (fun _ _ _ _ _ _ us hl => match us, hl with | [_, _, _, _], _ => rfl) fun f cdv A outer s H vs Q E hr h =>
    ⟨_, pss_cons (ps_expr (pe_f (E := fun _ => E) (cR.mono (by decide)) hr rfl passR (pa_cons (pe_f0 ((cal_main T).mono (by decide)) hr rfl (pa_cons (pv 1) (pa_cons (pv 3) (pa_cons pe_str pa_nil)))) pa_nil)))
      (pss_one (ps_ret (pe_lst (pa_cons (pe_tup (pa_cons (pv 1) (pa_cons (pe_f0 ((cal_add T).mono (by decide)) hr rfl (pa_cons (pv 2) (pa_cons (pe_ix ix_tup (pv 3) pe_int (fun _ _ => rfl)) pa_nil))) pa_nil))) (pa_cons (pe_tup (pa_cons (pe_f0 ((cal_add T).mono (by decide)) hr rfl (pa_cons (pv 1) (pa_cons (pe_ix ix_tup (pv 3) pe_int (fun _ _ => rfl)) pa_nil))) (pa_cons (pv 2) pa_nil))) pa_nil))))), ?_⟩
  obtain ⟨l, lv, rv, mv, L, R, m, I, _, o⟩ := h
  obtain rfl := I.vs_
  refine q_main (ea3 (ev_var rfl) (ev_var rfl) ev_c) I.left I.main I.hM (fun H' e => o.no H' e) fun g H1 e1 hm hin htg => ?_
  subst hm
  obtain ⟨p, q, rfl⟩ := tg_imp htg
  obtain ⟨a, t, b, c, rfl, hs, hb, hc⟩ := (two_imp (I.main.ex e1)).ex
  have h5 := I.hM _ rfl
  have hh := @ht_two p q
  exact ev_goal2 (evs_var rfl (I.left.ex e1)) (evs_add (ea2 (ev_var rfl) (ev_ixT (k := 1) rfl hs rfl)) (I.right.ex e1) (allF1 hb) (b_cons (a := b) (f := p) I.hR (by omega)) (by have := I.lenR; simp; omega)) (evs_add (ea2 (ev_var rfl) (ev_ixT (k := 2) rfl hs rfl)) (I.left.ex e1) (allF1 hc) (b_cons (a := c) (f := q) I.hL (by omega)) (by have := I.lenL; simp; omega)) (evs_var rfl (I.right.ex e1)) _ fun u H2 N M N' M' e g hN hM hN' hM' =>
    (o.ex e1).two (b_side I.hL) (b_cons (a := b) (f := p) I.hR (by omega)) (b_cons (a := c) (f := q) I.hL (by omega)) (b_side I.hR) (fun N M N' M' hN hM hN' hM' => snd2 (s_implies_left hin (sub_refl _) (sub_refl _)) (s_same hN) (s_cons hM) (s_cons hN') (s_same hM')) e g hN hM hN' hM'
end
end K33

set_option Elab.async false
set_option linter.all false
set_option maxRecDepth 100000
set_option maxHeartbeats 4000000
namespace K33
open PySem PySem.Spec PyProof.Rows L2 Evl
theorem branch_imp : ∀ l : Lg, ((!l.forced || decide (V.str (nm l) = V.str "Cl")) = true → l.forced = false ∨ l = .Cl) ∧ ((!l.forced || decide (V.str (nm l) = V.str "Cl")) = false → l.forced = true) := by intro l; cases l <;> decide +kernel
section
variable {K : PySem.W.Frag} {σ : L2.St} {H : Hp} {ta tb te : TE} {v u : V} {f g : Fm} {i j : Nat}
/-- is_plain(x) says nothing that is wanted -/
theorem evc_plain {E : L2.St → XK} {x : V} (h : Ev te σ H x) (hf : FmH K H f x) (hh : ht f ≤ 8) : EvC (tCal (spPlain K) E (tCons te tNil)) σ H True := fun H1 e Q k => h H1 e _ fun H2 e2 => ⟨x, f, rfl, hf.ex (e.trans e2), hh, fun b H3 e3 => k b H3 (e2.trans e3) fun _ => trivial⟩
/-- x == neg(y) -/
theorem evc_eqNeg {E : L2.St → XK} {x y : V} (ha : Ev ta σ H x) (hb : Ev tb σ H y) (hf : FmH K H f x) (hg : FmH K H g y) (h1 : ht f ≤ 40) (h2 : ht (.imp g .fls) ≤ 40) : EvC (tOp (rEqF K) ta (tCal (spNeg K) E (tCons tb tNil))) σ H (f = .imp g .fls) := fun H1 e Q k => ha H1 e _ fun H2 e2 => hb H2 (e.trans e2) _ fun H3 e3 =>
  ⟨y, g, rfl, hg.ex ((e.trans e2).trans e3), fun u H4 e4 hu => ⟨f, .imp g .fls, hf.ex (((e.trans e2).trans e3).trans e4), hu, h1, h2, k _ _ ((e2.trans e3).trans e4) fun z => of_decide_eq_true z⟩⟩
theorem ev_ixE {a : Addr} {xs : List V} {k : Nat} {u : V} (h : Ev te σ H (.ref a)) (hs : SqT K H a xs) (hk : xs[k]? = some u) : Ev (tOp (rIxT K) te (tC (.int (k : Int)))) σ H u := ev_op h ev_c (rv_ixT hs (at_of (j := k) rfl hk))
theorem ev_tagE {v : V} (h : Ev te σ H v) (hf : FmH K H f v) : Ev (tOp (rIxT K) te (tC (.int 0))) σ H (.str (tg f)) := by
  obtain ⟨a, r, rfl, hs⟩ := hf.tup
  exact ev_op h ev_c (rv_ixT hs (at_of (j := 0) rfl rfl))
theorem evc_tagE {v : V} (h : Ev te σ H v) (hf : FmH K H f v) (t : Str) : EvC (tOp rEq (tOp (rIxT K) te (tC (.int 0))) (tC (.str t))) σ H (tg f = t) := by
  refine evc_ev (ev_op (ev_tagE h hf) ev_c (rv_eq rfl)) fun z => ?_
  have := of_decide_eq_true z
  injection this
end
section
variable {P : Program} {w : World} {K : PySem.W.Frag} {mg : Str → Option Value} {base : Heap} {gN : Addr}
theorem cal_refl (T : TX w K mg) (cR : Cal P w K mg base "require" 1 (rNoFit gN)) : CalR P w K mg base gN "reflexive" (fun l => l.reflexive = true) := by
  refine cal_of T 21 rfl sc_refl (fun vs H Q E h => len_rule h) (fun _ _ _ _ _ _ us hl => match us, hl with | [_, _, _, _], _ => rfl) fun f cdv A outer s H vs Q E hr h =>
    ⟨_, pss_cons (ps_expr (pe_f (E := fun _ => E) (cR.mono (by decide)) hr rfl passR (pa_cons (pe_f0 ((cal_main T).mono (by decide)) hr rfl (pa_cons (pv 1) (pa_cons (pv 3) (pa_cons pe_str pa_nil)))) pa_nil)))
      (pss_one (ps_ret (pe_lst (pa_cons (pe_tup (pa_cons (pe_f0 ((cal_add T).mono (by decide)) hr rfl (pa_cons (pv 1) (pa_cons (pe_ix ix_tup (pv 3) pe_int (fun _ _ => rfl)) pa_nil))) (pa_cons (pv 2) pa_nil))) pa_nil)))), ?_⟩
  obtain ⟨l, lv, rv, mv, L, R, m, I, hl, o⟩ := h
  obtain rfl := I.vs_
  refine q_main (ea3 (ev_var rfl) (ev_var rfl) ev_c) I.left I.main I.hM (fun H' e => o.no H' e) fun g H1 e1 hm hin htg => ?_
  subst hm
  obtain ⟨p, rfl⟩ := tg_box htg
  obtain ⟨a, b, rfl, hs, hb⟩ := one_box (I.main.ex e1)
  have h5 := I.hM _ rfl
  have hh := @ht_two p p
  have bL := b_cons (a := b) (f := p) I.hL (by omega)
  exact ev_goal1 (evs_add (ea2 (ev_var rfl) (ev_ixT (k := 1) rfl hs rfl)) (I.left.ex e1) (allF1 hb) bL (by have := I.lenL; simp; omega)) (evs_var rfl (I.right.ex e1)) _ fun u H2 N M e g hN hM =>
    (o.ex e1).one bL (b_side I.hR) (fun N M hN hM => snd1 (s_reflexive hl hin (sub_refl _)) (s_cons hN) (s_same hM)) e g hN hM
theorem cal_impr (T : TX w K mg) (cR : Cal P w K mg base "require" 1 (rNoFit gN)) : CalR P w K mg base gN "implies_right" anyL := by
  obtain ⟨aM, gM, hM⟩ := T.tup ("MODAL", modalNames) (by simp)
  refine cal_of T 19 rfl sc_impr (fun vs H Q E h => len_rule h) (fun _ _ _ _ _ _ us hl => match us, hl with | [_, _, _, _], _ => rfl) fun f cdv A outer s H vs Q E hr h =>
    ⟨_, pss_cons (ps_expr (pe_f (E := fun _ => E) (cR.mono (by decide)) hr rfl passR (pa_cons (pe_f0 ((cal_main T).mono (by decide)) hr rfl (pa_cons (pv 2) (pa_cons (pv 3) (pa_cons pe_str pa_nil)))) pa_nil)))
      (pss_cons (ps_if (PW.pt (pw_or (pt_cmpR op_in_seq (pv 0) (pe_glob (v := .ref aM) rfl gM rfl) rfl) (pw_or1 (pt_cmpR op_eq (pv 0) pe_str (nomark _)))))
        (pss_one (ps_ret (pe_lst (pa_cons (pe_tup (pa_cons (pe_f0 ((cal_add T).mono (by decide)) hr rfl (pa_cons (pv 1) (pa_cons (pe_ix ix_tup (pv 3) pe_int (fun _ _ => rfl)) pa_nil))) (pa_cons (pe_f0 ((cal_add T).mono (by decide)) hr rfl (pa_cons (pv 2) (pa_cons (pe_ix ix_tup (pv 3) pe_int (fun _ _ => rfl)) pa_nil))) pa_nil))) pa_nil)))) pss_nil)
      (pss_one (ps_ret (pe_lst (pa_cons (pe_tup (pa_cons (pe_f0 ((cal_add T).mono (by decide)) hr rfl (pa_cons (pv 1) (pa_cons (pe_ix ix_tup (pv 3) pe_int (fun _ _ => rfl)) pa_nil))) (pa_cons (pe_tup (pa_cons (pe_ix ix_tup (pv 3) pe_int (fun _ _ => rfl)) pa_nil)) pa_nil))) pa_nil))))), ?_⟩
  obtain ⟨l, lv, rv, mv, L, R, m, I, hl, o⟩ := h
  obtain rfl := I.vs_
  refine q_main (ea3 (ev_var rfl) (ev_var rfl) ev_c) I.right I.main I.hM (fun H' e => o.no H' e) fun g H1 e1 hm hin htg => ?_
  subst hm
  obtain ⟨p, q, rfl⟩ := tg_imp htg
  obtain ⟨a, t, b, c, rfl, hs, hb, hc⟩ := (two_imp (I.main.ex e1)).ex
  have h5 := I.hM _ rfl
  have hh := @ht_two p q
  have bL := b_cons (a := b) (f := p) I.hL (by omega)
  have bR := b_cons (a := c) (f := q) I.hR (by omega)
  refine q_when (b := !l.forced || decide (V.str (nm l) = V.str "Cl")) (et_or (et_is (et_test (ev_op (ev_var rfl) ev_c (rv_isT (hM _) rfl (by decide +kernel)))) (inV_modal l)) fun _ => et_test (ev_op (ev_var rfl) ev_c (rv_eq rfl))) (fun hb1 H2 e2 => ?_) fun hb1 H2 e2 => ?_
  · exact ev_goal1 (evs_add (ea2 (ev_var rfl) (ev_ixT (k := 1) rfl (ex_t e2 hs) rfl)) (I.left.ex (e1.trans e2)) (allF1 (hb.ex e2)) bL (by have := I.lenL; simp; omega)) (evs_add (ea2 (ev_var rfl) (ev_ixT (k := 2) rfl (ex_t e2 hs) rfl)) (I.right.ex (e1.trans e2)) (allF1 (hc.ex e2)) bR (by have := I.lenR; simp; omega)) _ fun u H2 N M e g hN hM =>
      (o.ex (e1.trans e2)).one bL bR (fun N M hN hM => snd1 (s_implies_right ((branch_imp l).1 hb1) hin (sub_refl _) (sub_refl _)) (s_cons hN) (s_cons hM)) e g hN hM
  · exact ev_goal1 (evs_add (ea2 (ev_var rfl) (ev_ixT (k := 1) rfl (ex_t e2 hs) rfl)) (I.left.ex (e1.trans e2)) (allF1 (hb.ex e2)) bL (by have := I.lenL; simp; omega)) (evs_one (ev_ixT (k := 2) rfl (ex_t e2 hs) rfl) (hc.ex e2)) _ fun u H2 N M e g hN hM =>
      (o.ex (e1.trans e2)).one bL (fun p hp => by rw [List.mem_singleton.mp hp]; show ht q ≤ 8; omega) (fun N M hN hM => snd1 (s_implies_rightF ((branch_imp l).2 hb1) hin (sub_refl _)) (s_cons hN) (s_same (L := [(c, q)]) hM)) e g hN hM
theorem cal_cut (T : TX w K mg) (cR : Cal P w K mg base "require" 1 (rNoFit gN)) : CalR P w K mg base gN "cut" anyL := by
  obtain ⟨aM, gM, hM⟩ := T.tup ("MODAL", modalNames) (by simp)
  refine cal_of T 20 rfl sc_cut (fun vs H Q E h => len_rule h) (fun _ _ _ _ _ _ us hl => match us, hl with | [_, _, _, _], _ => rfl) fun f cdv A outer s H vs Q E hr h =>
    ⟨_, pss_cons (ps_expr (pe_f (E := fun _ => E) (cR.mono (by decide)) hr rfl passR (pa_cons (pe_and (pe_cmpR op_notN (pv 3) pe_non (nomark _)) (pe_one (pe_or (pe_cmpR op_in_seq (pv 0) (pe_glob (v := .ref aM) rfl gM rfl) rfl) (pe_one (pe_f0 ((cal_plain T).mono (by decide)) hr rfl (pa_cons (pv 3) pa_nil)))))) pa_nil)))
      (pss_one (ps_ret (pe_lst (pa_cons (pe_tup (pa_cons (pv 1) (pa_cons (pe_f0 ((cal_add T).mono (by decide)) hr rfl (pa_cons (pv 2) (pa_cons (pv 3) pa_nil))) pa_nil))) (pa_cons (pe_tup (pa_cons (pe_f0 ((cal_add T).mono (by decide)) hr rfl (pa_cons (pv 1) (pa_cons (pv 3) pa_nil))) (pa_cons (pv 2) pa_nil))) pa_nil))))), ?_⟩
  obtain ⟨l, lv, rv, mv, L, R, m, I, hl, o⟩ := h
  obtain rfl := I.vs_
  refine q_req (C := ∃ f, m = some f) ?_ (fun H' e => o.no H' e) fun H1 e1 c => ?_
  · cases m with
    | none => exact (evc_and (C2 := True) (evc_notN rfl I.main) fun c => nomatch c.choose_spec).imp fun c => c.1
    | some f => exact (evc_and (evc_notN rfl I.main) fun _ => evc_or (C1 := True) (evc_ev (ev_op (ev_var rfl) ev_c (rv_isT (hM _) rfl (by decide +kernel))) fun _ => trivial) (evc_plain (ev_var rfl) I.main (by have := I.hM f rfl; omega))).imp fun c => c.1
  · obtain ⟨f, rfl⟩ := c
    have hm : FmH K H1 f mv := I.main.ex e1
    obtain ⟨b, rfl⟩ := hm.ref
    have h5 := I.hM _ rfl
    have bL := b_cons (a := b) (f := f) I.hL (by omega)
    have bR := b_cons (a := b) (f := f) I.hR (by omega)
    exact ev_goal2 (evs_var rfl (I.left.ex e1)) (evs_add (ea2 (ev_var rfl) (ev_var rfl)) (I.right.ex e1) (allF1 hm) bR (by have := I.lenR; simp; omega)) (evs_add (ea2 (ev_var rfl) (ev_var rfl)) (I.left.ex e1) (allF1 hm) bL (by have := I.lenL; simp; omega)) (evs_var rfl (I.right.ex e1)) _ fun u H2 N M N' M' e g hN hM hN' hM' =>
      (o.ex e1).two (b_side I.hL) bR bL (b_side I.hR) (fun N M N' M' hN hM hN' hM' => snd2 (s_cut (sub_refl _) (sub_refl _)) (s_same hN) (s_cons hM) (s_cons hN') (s_same hM')) e g hN hM hN' hM'
theorem cal_weak (T : TX w K mg) (cR : Cal P w K mg base "require" 1 (rNoFit gN)) : CalR P w K mg base gN "weak_middle" (fun l => l = .KC) := by
  obtain ⟨aF, gF, hF⟩ := T.tup _ (List.mem_cons_self ..)
  refine cal_of T 25 rfl sc_weak (fun vs H Q E h => len_rule h) (fun _ _ _ _ _ _ us hl => match us, hl with | [_, _, _, _], _ => rfl) fun f cdv A outer s H vs Q E hr h =>
    ⟨_, pss_cons (ps_expr (pe_f (E := fun _ => E) (cR.mono (by decide)) hr rfl passR (pa_cons (pe_and (pe_cmpR op_notN (pv 3) pe_non (nomark _)) (pe_one (pe_cmpR op_eq (pe_ix ix_tup (pv 3) pe_int (fun _ _ => rfl)) pe_str (nomark _)))) pa_nil)))
      (pss_cons (ps_expr (pe_f (E := fun _ => E) (cR.mono (by decide)) hr rfl passR (pa_cons (pe_and (pe_cmpR op_eq (pe_ix ix_tup (pe_ix ix_tup (pv 3) pe_int (fun _ _ => rfl)) pe_int (fun _ _ => rfl)) pe_str (nomark _))
        (pe_and (pe_cmpR (op_eqF (hu64 hr)) (pe_ix ix_tup (pe_ix ix_tup (pv 3) pe_int (fun _ _ => rfl)) pe_int (fun _ _ => rfl)) (pe_glob (v := .ref aF) rfl gF rfl) (nomark _))
        (pe_and (pe_cmpR (op_eqF (hu64 hr)) (pe_ix ix_tup (pv 3) pe_int (fun _ _ => rfl)) (pe_f0 ((cal_neg T).mono (by decide)) hr rfl (pa_cons (pe_ix ix_tup (pv 3) pe_int (fun _ _ => rfl)) pa_nil)) (nomark _)) (pe_one (pe_f0 ((cal_plain T).mono (by decide)) hr rfl (pa_cons (pv 3) pa_nil)))))) pa_nil)))
      (pss_one (ps_ret (pe_lst (pa_cons (pe_tup (pa_cons (pe_f0 ((cal_add T).mono (by decide)) hr rfl (pa_cons (pv 1) (pa_cons (pv 3) pa_nil))) (pa_cons (pv 2) pa_nil))) pa_nil))))), ?_⟩
  obtain ⟨l, lv, rv, mv, L, R, m, I, hl, o⟩ := h
  obtain rfl := I.vs_
  refine q_req (C := ∃ f, m = some f ∧ tg f = "or") ?_ (fun H' e => o.no H' e) fun H1 e1 c => ?_
  · cases m with
    | none => exact (evc_and (C2 := True) (evc_notN rfl I.main) fun c => nomatch c.choose_spec).imp fun c => nomatch c.1.choose_spec
    | some f => exact (evc_and (evc_notN rfl I.main) fun _ => evc_tagE (ev_var rfl) I.main "or").imp fun c => ⟨f, rfl, c.2⟩
  · obtain ⟨f, rfl, htg⟩ := c
    obtain ⟨p, q, rfl⟩ := tg_or htg
    have hm := I.main.ex e1
    obtain ⟨a, t, b, c, rfl, hs, hb, hc⟩ := (two_or hm).ex
    have h5 := I.hM _ rfl
    have hh := @ht_two p q
    refine q_req (C := ∃ x, p = .imp x .fls ∧ q = .imp p .fls) ?_ (fun H' e => o.no H' (e1.trans e)) fun H2 e2 c => ?_
    · have key : tg p = "implies" → EvC (tAndV (tOp (rEqF K) (tOp (rIxT K) (tOp (rIxT K) (tVar 3) (tC (.int 1))) (tC (.int 2))) (tC (.ref aF))) (tAndV (tOp (rEqF K) (tOp (rIxT K) (tVar 3) (tC (.int 2))) (tCal (spNeg K) (fun _ => E0) (tCons (tOp (rIxT K) (tVar 3) (tC (.int 1))) tNil))) (tCal (spPlain K) (fun _ => E0) (tCons (tVar 3) tNil)))) (start rps [.str (nm l), lv, rv, .ref a]) H1 (∃ x, p = .imp x .fls ∧ q = .imp p .fls) := fun h1 => by
        obtain ⟨x, y, rfl⟩ := tg_imp h1
        obtain ⟨b', t', bx, cy, eb, hs', hx, hy⟩ := (two_imp hb).ex
        cases eb
        have hh2 := @ht_two x y
        refine (evc_and (evc_eqF (f := y) (g := .fls) (ev_ixE (k := 2) (ev_ixT (k := 1) rfl hs rfl) hs' rfl) ev_c hy ⟨aF, rfl, hF _⟩ (by omega) (by decide)) fun _ =>
          evc_and (evc_eqNeg (f := q) (g := .imp x y) (ev_ixT (k := 2) rfl hs rfl) (ev_ixT (k := 1) rfl hs rfl) hc hb (by omega) (by simp only [ht] at *; omega)) fun _ => evc_plain (ev_var rfl) hm (by omega)).imp fun c => ?_
        obtain ⟨rfl, e, _⟩ := c
        exact ⟨x, rfl, e⟩
      exact (evc_and (evc_tagE (ev_ixT (k := 1) rfl hs rfl) hb "implies") key).imp fun c => c.2
    · obtain ⟨x, ep, eq⟩ := c
      have bL := b_cons (a := a) (f := .or p q) I.hL (by omega)
      exact ev_goal1 (evs_add (ea2 (ev_var rfl) (ev_var rfl)) (I.left.ex (e1.trans e2)) (allF1 (hm.ex e2)) bL (by have := I.lenL; simp; omega)) (evs_var rfl (I.right.ex (e1.trans e2))) _ fun u H2 N M e g hN hM =>
        (o.ex (e1.trans e2)).one bL (b_side I.hR) (fun N M hN hM => snd1 (s_weak_middle hl (x := x) (by rw [eq, ep]) (sub_refl _)) (s_cons hN) (s_same hM)) e g hN hM
end
end K33

set_option Elab.async false
set_option linter.all false
set_option maxRecDepth 100000
set_option maxHeartbeats 4000000
namespace K33
open PySem PySem.Spec PyProof.Rows L2 Evl
/-! ### comprehensions over formulas -/
/-- the tuples stand -/
def Et (K : PySem.W.Frag) (H H' : Hp) : Prop := ∀ a xs, SqT K H a xs → SqT K H' a xs
section
variable {K : PySem.W.Frag} {H H' : Hp}
theorem Et.of (e : Ex H H') : Et K H H' := fun a xs h => ex_t e h
theorem Et.trans {H'' : Hp} (e : Et K H H') (f : Et K H' H'') : Et K H H'' := fun a xs h => f a xs (e a xs h)
theorem et_lst {D : Addr} {ys : List V} {o : HO} (h : H D = some (.lst ys)) : Et K H (upd H D o) := fun a xs hs => by
  rcases hs with (hs | ⟨o', hs⟩) | hs
  · have : a ≠ D := fun e => by rw [e, h] at hs; cases hs
    exact .inl (.inl (by rw [upd_ne this]; exact hs))
  · have : a ≠ D := fun e => by rw [e, h] at hs; cases hs
    exact .inl (.inr ⟨o', by rw [upd_ne this]; exact hs⟩)
  · exact .inr hs
theorem FmH.et (e : Et K H H') : ∀ {f : Fm} {v : V}, FmH K H f v → FmH K H' f v := by
  intro f
  induction f with
  | fls => rintro v ⟨a, rfl, h⟩; exact ⟨a, rfl, e _ _ h⟩
  | var x => rintro v ⟨a, rfl, h, k⟩; exact ⟨a, rfl, e _ _ h, k⟩
  | and p q ip iq => rintro v ⟨a, u, t, rfl, h, h1, h2⟩; exact ⟨a, u, t, rfl, e _ _ h, ip h1, iq h2⟩
  | or p q ip iq => rintro v ⟨a, u, t, rfl, h, h1, h2⟩; exact ⟨a, u, t, rfl, e _ _ h, ip h1, iq h2⟩
  | imp p q ip iq => rintro v ⟨a, u, t, rfl, h, h1, h2⟩; exact ⟨a, u, t, rfl, e _ _ h, ip h1, iq h2⟩
  | box p ip => rintro v ⟨a, u, rfl, h, h1⟩; exact ⟨a, u, rfl, e _ _ h, ip h1⟩
theorem AllF.et {L : List FM} (e : Et K H H') (h : AllF K H L) : AllF K H' L := fun p hp => (h p hp).et e
theorem SideV.et {v : V} {L : List FM} (e : Et K H H') (h : SideV K H v L) : SideV K H' v L := by
  obtain ⟨a, rfl, h1, h2⟩ := h
  exact ⟨a, rfl, e _ _ h1, h2.et e⟩
theorem GoalV.et {v : V} {p : Seqt} (e : Et K H H') (h : GoalV K H v p) : GoalV K H' v p := by
  obtain ⟨a, u, t, rfl, h1, h2, h3⟩ := h
  exact ⟨a, u, t, rfl, e _ _ h1, h2.et e, h3.et e⟩
theorem Goals.et (e : Et K H H') : ∀ {xs : List V} {ps : List Seqt}, Goals K H xs ps → Goals K H' xs ps
  | _, _, .nil => .nil
  | _, _, .cons a b => .cons (a.et e) (b.et e)
theorem Goals.append : ∀ {xs ys : List V} {ps qs : List Seqt}, Goals K H xs ps → Goals K H ys qs → Goals K H (xs ++ ys) (ps ++ qs)
  | _, _, _, _, .nil, h => h
  | _, _, _, _, .cons a b, h => .cons a (b.append h)
end
section
variable {K : PySem.W.Frag} {σ : L2.St} {H : Hp} {tl te : TE} {tt : TT} {a : Addr} {L : List FM} {j : Nat} {vs : List Nat}
/-- values that are formulas of a kind, as a list of formulas -/
theorem pickF {K : PySem.W.Frag} {H : Hp} {P : Fm → Prop} : ∀ (ys : List V), (∀ y ∈ ys, ∃ g, FmH K H g y ∧ P g) → ∃ N : List FM, ys = refs N ∧ ∀ r ∈ N, FmH K H r.2 (.ref r.1) ∧ P r.2
  | [], _ => ⟨[], rfl, fun _ h => nomatch h⟩
  | y :: ys, h => by
    obtain ⟨g, h1, h2⟩ := h y List.mem_cons_self
    obtain ⟨b, rfl⟩ := h1.ref
    obtain ⟨N, e1, hs⟩ := pickF ys fun v hv => h v (List.mem_cons_of_mem _ hv)
    refine ⟨(b, g) :: N, by rw [e1]; rfl, fun r hr => ?_⟩
    rcases List.mem_cons.mp hr with rfl | z
    · exact ⟨h1, h2⟩
    · exact hs r z
theorem lcR_tup (h : Ev tl σ H (.ref a)) (hx : SqT K H a (refs L)) (hn : L.length ≤ 1000) (hw : ∀ x, wipe ((wipe σ vs).set j (some x)) vs = wipe σ vs) (R : FM → Hp → V → Prop) (hR : ∀ p H H' y, Et K H H' → R p H y → R p H' y) (C : FM → Prop) (Full : Prop)
    (ht : ∀ p ∈ L, ∀ H1, Ex H H1 → ∀ Q1 : Bool → Hp → Prop, (∀ b H2, Ex H1 H2 → (b = true → C p) → (Full → b = true) → Q1 b H2) → tt ((wipe σ vs).set j (some (.ref p.1))) H1 Q1)
    (he : ∀ p ∈ L, C p → ∀ H1, Ex H H1 → ∀ Q1 : VK, (∀ y H2, Ex H1 H2 → R p H2 y → Q1 y H2) → te ((wipe σ vs).set j (some (.ref p.1))) H1 Q1)
    (Q : VK) (q : ∀ D H2 ys, H D = none → Ex H H2 → H2 D = some (.lst ys) → ys.length ≤ L.length → (∀ y ∈ ys, ∃ p ∈ L, C p ∧ R p H2 y) → (Full → ∀ p ∈ L, ∃ y ∈ ys, R p H2 y) → Q (.ref D) H2) : tLc (iTup K tl) (gName j) tt te vs σ H Q :=
  h H (Ex.refl H) _ fun H1 e1 => ⟨a, rfl, ⟨_, ex_t e1 hx⟩, fun D hD => lc_tup (xs := refs L) (fun i H' => Ex H1 H' ∧ ∃ ys, H' D = some (.lst ys) ∧ ys.length ≤ i ∧ (∀ y ∈ ys, ∃ p ∈ L, C p ∧ R p H' y) ∧ (Full → ∀ k, k < i → ∀ p, L[k]? = some p → ∃ y ∈ ys, R p H' y))
    ⟨Ex.new hD, [], upd_same, Nat.le_refl _, fun _ z => (nomatch z), fun _ k hk => absurd hk (Nat.not_lt_zero _)⟩ (fun i H' hi p => ex_t (e1.trans p.1) hx) (fun i x H' hi p => by
      obtain ⟨e2, ys, hys, ly, hC, hF⟩ := p
      rw [List.getElem?_map] at hi
      cases hp : L[i]? with
      | none => rw [hp] at hi; cases hi
      | some pr =>
        rw [hp] at hi
        obtain rfl : V.ref pr.1 = x := Option.some.inj hi
        have hpm : pr ∈ L := List.mem_of_getElem? hp
        have hil : i < L.length := (List.getElem?_eq_some_iff.mp hp).1
        refine ⟨hw _, ht pr hpm H' (e1.trans e2) _ fun b H3 e3 hb hb2 => ?_⟩
        have et3 : Et K H' H3 := Et.of e3
        cases b with
        | true =>
          refine iteT ?_
          refine he pr hpm (hb rfl) H3 ((e1.trans e2).trans e3) _ fun y H4 e4 hy => ?_
          have hD4 : H4 D = some (.lst ys) := e4 _ _ (e3 _ _ hys)
          have et4 : Et K H4 (upd H4 D (.lst (ys ++ [y]))) := et_lst hD4
          have et : Et K H' (upd H4 D (.lst (ys ++ [y]))) := (Et.of (e3.trans e4)).trans et4
          refine ⟨ys, hD4, sz_lt (by omega), Ex.mut ((e2.trans e3).trans e4) hD, ys ++ [y], upd_same, by rw [List.length_append]; exact Nat.succ_le_succ ly, fun z hz => ?_, fun hf k hk p hpk => ?_⟩
          · rcases List.mem_append.mp hz with hz | hz
            · obtain ⟨p, h1, h2, h3⟩ := hC z hz
              exact ⟨p, h1, h2, hR _ _ _ _ et h3⟩
            · rw [List.mem_singleton.mp hz]
              exact ⟨pr, hpm, hb rfl, hR _ _ _ _ et4 hy⟩
          · by_cases hki : k < i
            · obtain ⟨z, h1, h2⟩ := hF hf k hki p hpk
              exact ⟨z, List.mem_append_left _ h1, hR _ _ _ _ et h2⟩
            · obtain rfl : k = i := by omega
              rw [hp] at hpk
              obtain rfl := Option.some.inj hpk
              exact ⟨y, List.mem_append_right _ (List.mem_singleton.mpr rfl), hR _ _ _ _ et4 hy⟩
        | false =>
          refine iteF ?_
          exact ⟨e2.trans e3, ys, e3 _ _ hys, by omega, fun z hz => by
            obtain ⟨p, h1, h2, h3⟩ := hC z hz
            exact ⟨p, h1, h2, hR _ _ _ _ et3 h3⟩, fun hf => absurd (hb2 hf) (by decide)⟩) fun H' p => by
      obtain ⟨e2, ys, hys, ly, hC, hF⟩ := p
      exact q D H' ys (fresh_back e1 hD) (e1.trans e2) hys (by rw [List.length_map] at ly; exact ly) hC fun hf p hp => by
        obtain ⟨k, hk, e⟩ := List.mem_iff_getElem.mp hp
        exact hF hf k (by rw [List.length_map]; exact hk) p (by rw [List.getElem?_eq_getElem hk, e])⟩
theorem lcR_lst (h : Ev tl σ H (.ref a)) (hx : SqL K H a (refs L)) (hn : L.length ≤ 1000) (hw : ∀ x, wipe ((wipe σ vs).set j (some x)) vs = wipe σ vs) (R : FM → Hp → V → Prop) (hR : ∀ p H H' y, Et K H H' → R p H y → R p H' y) (C : FM → Prop) (Full : Prop)
    (ht : ∀ p ∈ L, ∀ H1, Ex H H1 → ∀ Q1 : Bool → Hp → Prop, (∀ b H2, Ex H1 H2 → (b = true → C p) → (Full → b = true) → Q1 b H2) → tt ((wipe σ vs).set j (some (.ref p.1))) H1 Q1)
    (he : ∀ p ∈ L, C p → ∀ H1, Ex H H1 → ∀ Q1 : VK, (∀ y H2, Ex H1 H2 → R p H2 y → Q1 y H2) → te ((wipe σ vs).set j (some (.ref p.1))) H1 Q1)
    (Q : VK) (q : ∀ D H2 ys, H D = none → Ex H H2 → H2 D = some (.lst ys) → ys.length ≤ L.length → (∀ y ∈ ys, ∃ p ∈ L, C p ∧ R p H2 y) → (Full → ∀ p ∈ L, ∃ y ∈ ys, R p H2 y) → Q (.ref D) H2) : tLc (iList K tl) (gName j) tt te vs σ H Q :=
  h H (Ex.refl H) _ fun H1 e1 => ⟨a, rfl, ⟨_, ex_l e1 hx⟩, fun D hD => lc_list (xs := refs L) (fun i H' => Ex H1 H' ∧ ∃ ys, H' D = some (.lst ys) ∧ ys.length ≤ i ∧ (∀ y ∈ ys, ∃ p ∈ L, C p ∧ R p H' y) ∧ (Full → ∀ k, k < i → ∀ p, L[k]? = some p → ∃ y ∈ ys, R p H' y))
    ⟨Ex.new hD, [], upd_same, Nat.le_refl _, fun _ z => (nomatch z), fun _ k hk => absurd hk (Nat.not_lt_zero _)⟩ (fun i H' hi p => ex_l (e1.trans p.1) hx) (fun i x H' hi p => by
      obtain ⟨e2, ys, hys, ly, hC, hF⟩ := p
      rw [List.getElem?_map] at hi
      cases hp : L[i]? with
      | none => rw [hp] at hi; cases hi
      | some pr =>
        rw [hp] at hi
        obtain rfl : V.ref pr.1 = x := Option.some.inj hi
        have hpm : pr ∈ L := List.mem_of_getElem? hp
        have hil : i < L.length := (List.getElem?_eq_some_iff.mp hp).1
        refine ⟨hw _, ht pr hpm H' (e1.trans e2) _ fun b H3 e3 hb hb2 => ?_⟩
        have et3 : Et K H' H3 := Et.of e3
        cases b with
        | true =>
          refine iteT ?_
          refine he pr hpm (hb rfl) H3 ((e1.trans e2).trans e3) _ fun y H4 e4 hy => ?_
          have hD4 : H4 D = some (.lst ys) := e4 _ _ (e3 _ _ hys)
          have et4 : Et K H4 (upd H4 D (.lst (ys ++ [y]))) := et_lst hD4
          have et : Et K H' (upd H4 D (.lst (ys ++ [y]))) := (Et.of (e3.trans e4)).trans et4
          refine ⟨ys, hD4, sz_lt (by omega), Ex.mut ((e2.trans e3).trans e4) hD, ys ++ [y], upd_same, by rw [List.length_append]; exact Nat.succ_le_succ ly, fun z hz => ?_, fun hf k hk p hpk => ?_⟩
          · rcases List.mem_append.mp hz with hz | hz
            · obtain ⟨p, h1, h2, h3⟩ := hC z hz
              exact ⟨p, h1, h2, hR _ _ _ _ et h3⟩
            · rw [List.mem_singleton.mp hz]
              exact ⟨pr, hpm, hb rfl, hR _ _ _ _ et4 hy⟩
          · by_cases hki : k < i
            · obtain ⟨z, h1, h2⟩ := hF hf k hki p hpk
              exact ⟨z, List.mem_append_left _ h1, hR _ _ _ _ et h2⟩
            · obtain rfl : k = i := by omega
              rw [hp] at hpk
              obtain rfl := Option.some.inj hpk
              exact ⟨y, List.mem_append_right _ (List.mem_singleton.mpr rfl), hR _ _ _ _ et4 hy⟩
        | false =>
          refine iteF ?_
          exact ⟨e2.trans e3, ys, e3 _ _ hys, by omega, fun z hz => by
            obtain ⟨p, h1, h2, h3⟩ := hC z hz
            exact ⟨p, h1, h2, hR _ _ _ _ et3 h3⟩, fun hf => absurd (hb2 hf) (by decide)⟩) fun H' p => by
      obtain ⟨e2, ys, hys, ly, hC, hF⟩ := p
      exact q D H' ys (fresh_back e1 hD) (e1.trans e2) hys (by rw [List.length_map] at ly; exact ly) hC fun hf p hp => by
        obtain ⟨k, hk, e⟩ := List.mem_iff_getElem.mp hp
        exact hF hf k (by rw [List.length_map]; exact hk) p (by rw [List.getElem?_eq_getElem hk, e])⟩
/-- formulas out of formulas -/
theorem lcF_tup (h : Ev tl σ H (.ref a)) (hx : SqT K H a (refs L)) (hn : L.length ≤ 1000) (hw : ∀ x, wipe ((wipe σ vs).set j (some x)) vs = wipe σ vs) (C : FM → Prop) (P : FM → Fm → Prop)
    (ht : ∀ p ∈ L, ∀ H1, Ex H H1 → ∀ Q1 : Bool → Hp → Prop, (∀ b H2, Ex H1 H2 → (b = true → C p) → Q1 b H2) → tt ((wipe σ vs).set j (some (.ref p.1))) H1 Q1)
    (he : ∀ p ∈ L, C p → ∀ H1, Ex H H1 → ∀ Q1 : VK, (∀ y g H2, Ex H1 H2 → FmH K H2 g y → P p g → Q1 y H2) → te ((wipe σ vs).set j (some (.ref p.1))) H1 Q1)
    (Q : VK) (q : ∀ D H2 N, H D = none → Ex H H2 → H2 D = some (.lst (refs N)) → AllF K H2 N → N.length ≤ L.length → (∀ r ∈ N, ∃ p ∈ L, C p ∧ P p r.2) → Q (.ref D) H2) : tLc (iTup K tl) (gName j) tt te vs σ H Q :=
  lcR_tup h hx hn hw (fun p H y => ∃ g, FmH K H g y ∧ P p g) (fun p H H' y e r => by
    obtain ⟨g, h1, h2⟩ := r
    exact ⟨g, h1.et e, h2⟩) C False (fun p hp H1 e1 Q1 k => ht p hp H1 e1 Q1 fun b H2 e2 z => k b H2 e2 z fun f => f.elim) (fun p hp hc H1 e1 Q1 k => he p hp hc H1 e1 Q1 fun y g H2 e2 hg hP => k y H2 e2 ⟨g, hg, hP⟩) Q fun D H2 ys hD e hys ly hC _ => by
      obtain ⟨N, eN, hN⟩ := pickF (K := K) (H := H2) (P := fun g => ∃ p ∈ L, C p ∧ P p g) ys fun y hy => by
        obtain ⟨p, h1, h2, g, h3, h4⟩ := hC y hy
        exact ⟨g, h3, p, h1, h2, h4⟩
      subst eN
      exact q D H2 N hD e hys (fun r hr => (hN r hr).1) (by rw [List.length_map] at ly; exact ly) fun r hr => (hN r hr).2
/-- formulas out of formulas -/
theorem lcF_lst (h : Ev tl σ H (.ref a)) (hx : SqL K H a (refs L)) (hn : L.length ≤ 1000) (hw : ∀ x, wipe ((wipe σ vs).set j (some x)) vs = wipe σ vs) (C : FM → Prop) (P : FM → Fm → Prop)
    (ht : ∀ p ∈ L, ∀ H1, Ex H H1 → ∀ Q1 : Bool → Hp → Prop, (∀ b H2, Ex H1 H2 → (b = true → C p) → Q1 b H2) → tt ((wipe σ vs).set j (some (.ref p.1))) H1 Q1)
    (he : ∀ p ∈ L, C p → ∀ H1, Ex H H1 → ∀ Q1 : VK, (∀ y g H2, Ex H1 H2 → FmH K H2 g y → P p g → Q1 y H2) → te ((wipe σ vs).set j (some (.ref p.1))) H1 Q1)
    (Q : VK) (q : ∀ D H2 N, H D = none → Ex H H2 → H2 D = some (.lst (refs N)) → AllF K H2 N → N.length ≤ L.length → (∀ r ∈ N, ∃ p ∈ L, C p ∧ P p r.2) → Q (.ref D) H2) : tLc (iList K tl) (gName j) tt te vs σ H Q :=
  lcR_lst h hx hn hw (fun p H y => ∃ g, FmH K H g y ∧ P p g) (fun p H H' y e r => by
    obtain ⟨g, h1, h2⟩ := r
    exact ⟨g, h1.et e, h2⟩) C False (fun p hp H1 e1 Q1 k => ht p hp H1 e1 Q1 fun b H2 e2 z => k b H2 e2 z fun f => f.elim) (fun p hp hc H1 e1 Q1 k => he p hp hc H1 e1 Q1 fun y g H2 e2 hg hP => k y H2 e2 ⟨g, hg, hP⟩) Q fun D H2 ys hD e hys ly hC _ => by
      obtain ⟨N, eN, hN⟩ := pickF (K := K) (H := H2) (P := fun g => ∃ p ∈ L, C p ∧ P p g) ys fun y hy => by
        obtain ⟨p, h1, h2, g, h3, h4⟩ := hC y hy
        exact ⟨g, h3, p, h1, h2, h4⟩
      subst eN
      exact q D H2 N hD e hys (fun r hr => (hN r hr).1) (by rw [List.length_map] at ly; exact ly) fun r hr => (hN r hr).2
end
end K33

set_option Elab.async false
set_option linter.all false
set_option maxRecDepth 100000
set_option maxHeartbeats 4000000
namespace K33
open PySem PySem.Spec PyProof.Rows L2 Evl
def spKept (K : PySem.W.Frag) : Sp := fun vs H Q _ => ∃ l lv L, vs = [.str (nm l), lv] ∧ SideV K H lv L ∧ L.length ≤ 3 ∧ (∀ p ∈ L, ht p.2 ≤ 3) ∧ ∀ u H' N, Ex H H' → SideV K H' u N → (∀ p ∈ N, Kept l (fms L) p.2 ∧ ht p.2 ≤ 3) → N.length ≤ 6 → Q u H'
abbrev nsK : List Str := ["logic", "left", "boxes", "kept", "a"]
theorem sc_kept : FnScope nsK ["logic", "left"] (defScope (top 35)) := ⟨rfl, rfl, rfl, by decide +kernel, rfl, by decide +kernel, by decide +kernel⟩
abbrev innerNames : List Str := ["K", "D", "T", "K4", "D4", "GL"]
abbrev boxNames : List Str := ["K4", "D4", "S4", "S5", "GL", "Grz"]
theorem inV_boxes : ∀ l : Lg, inV (.str (nm l)) (boxNames.map V.str) = true → l.transitive = true := by intro l; cases l <;> decide +kernel
section
variable {te : TE} {i : Nat} {tz : TS} {D : Ends} {σ : L2.St} {H : Hp}
theorem q_as (h : te σ H (fun x H1 => tz D (σ.set i (some x)) H1)) : tSeq (tAsg te (gName i)) tz D σ H := h
theorem q_dr (h : te σ H (fun _ H1 => tz D σ H1)) : tSeq (tDrop te) tz D σ H := h
theorem s_rt (h : te σ H D.rt) : tRet te D σ H := h
theorem one_go {Q : List V → Hp → Prop} (h : te σ H (fun x H1 => Q [x] H1)) : tCons te tNil σ H Q := h
end
/-- what kept holds -/
structure KSt (K : PySem.W.Frag) (H0 : Hp) (l : Lg) (L : List FM) (B D : Addr) (Bx : List FM) (n : Nat) (H : Hp) : Prop where
  ex : Ex H0 H
  box : H B = some (.lst (refs Bx))
  all : AllF K H Bx
  mem : ∀ p ∈ Bx, p.2 ∈ fms L ∧ (∃ b, p.2 = .box b) ∧ ht p.2 ≤ 3
  len : Bx.length ≤ 3
  new : H0 D = none
  ne : B ≠ D
  kept : ∃ N : List FM, H D = some (.lst (refs N)) ∧ AllF K H N ∧ (∀ p ∈ N, Kept l (fms L) p.2 ∧ ht p.2 ≤ 3) ∧ N.length ≤ n
section
variable {P : Program} {w : World} {K : PySem.W.Frag} {mg : Str → Option Value} {base : Heap} {gN : Addr}
/-- kept.extend(N2), done -/
theorem KSt.more {H0 H H' : Hp} {l : Lg} {L Bx N N2 : List FM} {B D : Addr} {n : Nat} (k : KSt K H0 l L B D Bx n H) (hN : H D = some (.lst (refs N))) (aN : AllF K H N) (pN : ∀ p ∈ N, Kept l (fms L) p.2 ∧ ht p.2 ≤ 3) (lN : N.length ≤ n) (e : Ex H H') (a2 : AllF K H' N2) (p2 : ∀ p ∈ N2, Kept l (fms L) p.2 ∧ ht p.2 ≤ 3) (l2 : N2.length ≤ 3) :
    KSt K H0 l L B D Bx (n + 3) (upd H' D (.lst (refs N ++ refs N2))) := by
  have et : Et K H' (upd H' D (.lst (refs N ++ refs N2))) := et_lst (e _ _ hN)
  refine ⟨Ex.mut (k.ex.trans e) k.new, ?_, (k.all.ex e).et et, k.mem, k.len, k.new, k.ne, N ++ N2, ?_, fun p hp => ?_, fun p hp => ?_, by rw [List.length_append]; omega⟩
  · rw [upd_ne k.ne]; exact e _ _ k.box
  · rw [show refs (N ++ N2) = refs N ++ refs N2 by simp [refs]]; exact upd_same
  · rcases List.mem_append.mp hp with hp | hp
    · exact ((aN p hp).ex e).et et
    · exact (a2 p hp).et et
  · rcases List.mem_append.mp hp with hp | hp
    · exact pN p hp
    · exact p2 p hp
theorem KSt.up {H0 H H' : Hp} {l : Lg} {L Bx : List FM} {B D : Addr} {n m : Nat} (k : KSt K H0 l L B D Bx n H) (e : Ex H H') (h : n ≤ m) : KSt K H0 l L B D Bx m H' := by
  obtain ⟨N, h1, h2, h3, h4⟩ := k.kept
  exact ⟨k.ex.trans e, e _ _ k.box, k.all.ex e, k.mem, k.len, k.new, k.ne, N, e _ _ h1, h2.ex e, h3, by omega⟩
theorem cal_kept (T : TX w K mg) : Cal P w K mg base "kept_left" 2 (spKept K) := by
  obtain ⟨aI, gI, hI⟩ := T.tup ("KEEPS_INNER", innerNames) (by simp)
  obtain ⟨aB, gB, hB⟩ := T.tup ("KEEPS_BOXES", boxNames) (by simp)
  refine cal_of T 22 rfl sc_kept (fun vs H Q E h => by obtain ⟨_, _, _, rfl, _⟩ := h; rfl) (fun _ _ _ _ _ _ us hl => match us, hl with | [_, _], _ => rfl) fun f cdv A outer s H vs Q E hr h =>
    ⟨_, pss_cons (ps_setLc (i := 2) (own := [("a", 4)]) (g := gName 4) rfl sc_kept.nd rfl rfl (sw_true rfl rfl rfl (by decide +kernel)) (pi_tup (pv 1)) (blkOk_by (N := nsK) (sc := defScope (top 35)) (by decide +kernel)) (fun _ _ _ _ _ => pg_name (i := 4) sc_kept.nd rfl (Or.inl rfl))
        (fun _ _ _ _ _ => pts_one (pt_cmpR op_eq (pe_ix (r := rIxT K) ix_tup (pv 4) pe_int (fun _ _ => rfl)) pe_str (nomark _))) (fun _ _ _ _ _ => pv 4))
      (pss_cons (ps_set (i := 3) sc_kept.nd rfl (Or.inl rfl) (pe_lst pa_nil))
      (pss_cut (ps_if (pt_cmpR op_in_seq (pv 0) (pe_glob (v := .ref aI) rfl gI rfl) rfl) (pss_one (ps_expr (pe_bm PySem.F.plainAttrs_list PySem.F.slot_list_extend PySem.F.type_list_extend mt_extend (pv 3) (pa_cons
        (pe_lc (own := [("a", 4)]) (g := gName 4) (tt := tYes) rfl sc_kept.nd (pi_list (pv 2)) (blkOk_by (N := nsK) (sc := defScope (top 35)) (by decide +kernel)) (fun _ _ _ _ _ => pg_name (i := 4) sc_kept.nd rfl (Or.inl rfl)) (fun _ _ _ _ _ => pts_nil)
          (fun _ _ _ _ _ => pe_ix (r := rIxT K) ix_tup (pv 4) pe_int (fun _ _ => rfl))) pa_nil)))) pss_nil)
      (pss_cut (ps_if (pt_cmpR op_in_seq (pv 0) (pe_glob (v := .ref aB) rfl gB rfl) rfl) (pss_one (ps_expr (pe_bm PySem.F.plainAttrs_list PySem.F.slot_list_extend PySem.F.type_list_extend mt_extend (pv 3) (pa_cons (pv 2) pa_nil)))) pss_nil)
      (pss_one (ps_ret (pe_f0 (cal_asc T) hr rfl (pa_cons (pv 3) pa_nil))))))), ?_⟩
  obtain ⟨l, lv, L, rfl, ⟨aL, rfl, hs, hL⟩, lL, hh, q⟩ := h
  refine q_as ?_
  refine lcF_tup (C := fun p => tg p.2 = "box") (P := fun p g => g = p.2) (ev_var rfl) hs (by omega) (fun _ => rfl) (fun p hp H1 e1 Q1 k => ?_) (fun p hp hc H1 e1 Q1 k => ⟨_, rfl, k _ p.2 H1 (Ex.refl H1) ((hL p hp).ex e1) rfl⟩) _ fun B H2 Bx hB2 e2 hBx aBx lBx mBx => ?_
  · exact evc_tagE (ev_var rfl) ((hL p hp).ex e1) "box" H1 (Ex.refl _) _ fun b H2 e2 z => ⟨b, rfl, k b H2 e2 z⟩
  · refine ⟨sz_of (by simp), fun D hD => ?_⟩
    have k0 : KSt K H l L B D Bx 0 (upd H2 D (.lst [])) := by
      have hn : B ≠ D := ne_of_none hBx hD
      refine ⟨e2.trans (Ex.new hD), by rw [upd_ne hn]; exact hBx, aBx.ex (Ex.new hD), fun p hp => ?_, by omega, fresh_back e2 hD, hn, [], upd_same, (fun _ z => nomatch z), (fun _ z => nomatch z), Nat.le_refl _⟩
      obtain ⟨p', h1, h2, h3⟩ := mBx p hp
      rw [h3]
      exact ⟨List.mem_map_of_mem h1, tg_box h2, hh p' h1⟩
    refine q_cut (M := fun σ' H' => σ' = ((start nsK [.str (nm l), .ref aL]).set 2 (some (.ref B))).set 3 (some (.ref D)) ∧ KSt K H l L B D Bx 3 H') ?_ ?_
    · refine s_when (et_test (ev_op (ev_var rfl) ev_c (rv_isT (hI _) rfl (by decide +kernel)))) (fun _ H3 e3 => ?_) (fun _ H3 e3 => ⟨rfl, k0.up e3 (by decide)⟩)
      have k1 := k0.up e3 (Nat.le_refl _)
      refine ⟨_, rfl, .inl ⟨rfl, _, SqL.of (e3 _ _ upd_same)⟩, ?_⟩
      refine one_go ?_
      refine lcF_lst (C := fun _ => True) (P := fun p g => p.2 = .box g) (ev_var rfl) (sq_of k1.box) (by omega) (fun _ => rfl) (fun p hp H1 e1 Q1 k => k true H1 (Ex.refl _) fun _ => trivial) (fun p hp hc H1 e1 Q1 k => ?_) _ fun Z H4 N2 hZ e4 hN2 aN2 lN2 mN2 => ?_
      · obtain ⟨_, ⟨b, eb⟩, _⟩ := k1.mem p hp
        have hp1 := (k1.all p hp).ex e1
        rw [eb] at hp1
        obtain ⟨a, c, ea, hs', hc'⟩ := one_box hp1
        cases ea
        exact ev_ixT (k := 1) rfl hs' rfl H1 (Ex.refl _) _ fun H2 e2 => k _ b H2 e2 (hc'.ex e2) eb
      · refine ⟨D, Z, [], refs N2, rfl, rfl, e4 _ _ (e3 _ _ upd_same), hN2, sz_of (by simp only [List.length_map, List.length_nil]; omega), rfl, ?_⟩
        exact k1.more (N := []) (e3 _ _ upd_same) (fun _ z => nomatch z) (fun _ z => nomatch z) (Nat.le_refl _) e4 aN2 (fun p hp => by
          obtain ⟨p', h1, _, h3⟩ := mN2 p hp
          obtain ⟨h4, _, h5⟩ := k1.mem p' h1
          refine ⟨.inl (h3 ▸ h4), ?_⟩
          rw [h3] at h5
          simp only [ht] at h5
          omega) (by omega)
    · rintro _ H3 ⟨rfl, k3⟩
      refine q_cut (M := fun σ' H' => σ' = ((start nsK [.str (nm l), .ref aL]).set 2 (some (.ref B))).set 3 (some (.ref D)) ∧ KSt K H l L B D Bx 6 H') ?_ ?_
      · refine s_when (et_test (ev_op (ev_var rfl) ev_c (rv_isT (hB _) rfl (by decide +kernel)))) (fun hb H4 e4 => ?_) (fun _ H4 e4 => ⟨rfl, k3.up e4 (by decide)⟩)
        have k1 := k3.up e4 (Nat.le_refl _)
        obtain ⟨N, h1, h2, h3, h4⟩ := k1.kept
        refine ⟨_, rfl, .inl ⟨rfl, _, SqL.of h1⟩, _, rfl, D, B, refs N, refs Bx, rfl, rfl, h1, k1.box, sz_of (by have := k1.len; simp only [List.length_map]; omega), rfl, ?_⟩
        exact k1.more h1 h2 h3 h4 (Ex.refl _) k1.all (fun p hp => by
          obtain ⟨m1, m2, m3⟩ := k1.mem p hp
          exact ⟨.inr ⟨inV_boxes l hb, m1, m2⟩, m3⟩) k1.len
      · rintro _ H4 ⟨rfl, k4⟩
        obtain ⟨N, h1, h2, h3, h4⟩ := k4.kept
        exact ⟨_, rfl, D, N, rfl, .inl (sq_of h1), h2, fun p hp => by have := (h3 p hp).2; omega, by omega, fun u H' M e5 hu hM lM => q u H' M (k4.ex.trans e5) hu (fun p hp => h3 p (hM p hp)) (by omega)⟩
end
end K33

set_option Elab.async false
set_option linter.all false
set_option maxRecDepth 100000
set_option maxHeartbeats 4000000
namespace K33
open PySem PySem.Spec PyProof.Rows L2 Evl
section
variable {te ta : TE} {t tr : TA} {σ : L2.St} {H : Hp} {sp : Sp} {E : L2.St → XK} {r : List V → Hp → VK → Prop}
theorem cal_go {Q : VK} (h : t σ H fun vs H1 => sp vs H1 Q (E σ)) : tCal sp E t σ H Q := h
theorem cb_go {Q : VK} (h : t σ H fun vs H1 => r vs H1 Q) : tCB r t σ H Q := h
theorem cons_go {Q : List V → Hp → Prop} (h : ta σ H fun x H1 => tr σ H1 fun xs H2 => Q (x :: xs) H2) : tCons ta tr σ H Q := h
end
theorem sc_serial : FnScope rps rps (defScope (top 37)) := ⟨rfl, rfl, rfl, by decide +kernel, rfl, by decide +kernel, by decide +kernel⟩
abbrev nsM : List Str := ["logic", "left", "right", "main", "kept", "a"]
theorem sc_modal : FnScope nsM rps (defScope (top 36)) := ⟨rfl, rfl, rfl, by decide +kernel, rfl, by decide +kernel, by decide +kernel⟩
theorem nm_inj : ∀ {l m : Lg}, V.str (nm l) = V.str (nm m) → l = m := by
  intro l m h
  injection h with h
  revert h
  cases l <;> cases m <;> decide +kernel
section
variable {K : PySem.W.Frag} {H : Hp} {gN : Addr} {l : Lg} {L R N M : List FM} {Q : VK} {E : XK} {u v : V}
/-- one sequent, told by properties -/
theorem ROut.any (o : ROut K gN l L R H Q E) {H' : Hp} (e : Ex H H') (hN : SideV K H' u N) (hM : SideV K H' v M) (bN : ∀ p ∈ N, ht p.2 ≤ 8) (bM : ∀ p ∈ M, ht p.2 ≤ 8) (k : Snd l (fms L) (fms R) [(fms N, fms M)]) : ([u, v].length ≤ sizeLine ∧ ∀ p, H' p = none → [V.ref p].length ≤ sizeLine ∧ ∀ q, (upd H' p (.tup [u, v])) q = none → Q (.ref q) (upd (upd H' p (.tup [u, v])) q (.lst [.ref p]))) :=
  ⟨sz_of (by simp), fun p hp => ⟨sz_of (by simp), fun q hq => o.yes _ _ [(N, M)] ((e.trans (Ex.new hp)).trans (Ex.new hq)) ⟨q, _, rfl, sq_of upd_same, .cons ⟨p, u, v, rfl, st_of (Ex.new hq _ _ upd_same), (hN.ex (Ex.new hp)).ex (Ex.new hq), (hM.ex (Ex.new hp)).ex (Ex.new hq)⟩ .nil⟩ k (fun z hz => by rw [List.mem_singleton.mp hz]; exact ⟨bN, bM⟩) (by simp)⟩⟩
end
section
variable {P : Program} {w : World} {K : PySem.W.Frag} {mg : Str → Option Value} {base : Heap} {gN : Addr}
theorem cal_serial (T : TX w K mg) (cR : Cal P w K mg base "require" 1 (rNoFit gN)) : CalR P w K mg base gN "serial" (fun l => l = .D ∨ l = .D4) := by
  refine cal_of T 24 rfl sc_serial (fun vs H Q E h => len_rule h) (fun _ _ _ _ _ _ us hl => match us, hl with | [_, _, _, _], _ => rfl) fun f cdv A outer s H vs Q E hr h =>
    ⟨_, pss_cons (ps_expr (pe_f (E := fun _ => E) (cR.mono (by decide)) hr rfl passR (pa_cons (pe_cmpR op_isN (pv 3) pe_non (nomark _)) pa_nil)))
      (pss_one (ps_ret (pe_lst (pa_cons (pe_tup (pa_cons (pe_f0 ((cal_kept T).mono (by decide)) hr rfl (pa_cons (pv 0) (pa_cons (pv 1) pa_nil))) (pa_cons (pe_tup pa_nil) pa_nil))) pa_nil)))), ?_⟩
  obtain ⟨l, lv, rv, mv, L, R, m, I, hl, o⟩ := h
  obtain rfl := I.vs_
  refine q_req (C := True) ((evc_isN rfl I.main).imp fun _ => trivial) (fun H' e => o.no H' e) fun H1 e1 _ => ?_
  refine ⟨_, rfl, _, rfl, l, lv, L, rfl, I.left.ex e1, I.lenL, I.hL, fun u H2 N e2 hu hN lN => ?_⟩
  refine ⟨sz_of (by simp), fun p hp => ?_⟩
  have e3 := Ex.new (o := .tup []) hp
  exact o.any ((e1.trans e2).trans e3) (hu.ex e3) (M := []) ⟨p, rfl, st_of upd_same, fun _ z => nomatch z⟩ (fun p hp => by have := (hN p hp).2; omega) (fun _ z => nomatch z) (s_serial hl fun x hx => by
    obtain ⟨p, hp, e⟩ := mem_fms hx
    rw [← e]
    exact (hN p hp).1)
/-- what kept holds in modal -/
structure MSt (K : PySem.W.Frag) (H0 : Hp) (l : Lg) (L : List FM) (x : Fm) (bg bz : Bool) (σ0 : L2.St) (n : Nat) (σ : L2.St) (H : Hp) : Prop where
  ex : Ex H0 H
  kept : ∃ u N, σ = σ0.set 4 (some u) ∧ SideV K H u N ∧ N.length ≤ n ∧ ∀ p ∈ N, ht p.2 ≤ 8 ∧ ((Kept l (fms L) p.2) ∨ (bg = true ∧ l = .GL ∧ p.2 = .box x) ∨ (bz = true ∧ l = .Grz ∧ p.2 = .box (.imp x (.box x))))
theorem modal_snd {l : Lg} {L R L1 : Side} {x : Fm} (hm : Fm.box x ∈ R) (h : ∀ y ∈ L1, Kept l L y ∨ (l = .GL ∧ y = .box x) ∨ (l = .Grz ∧ y = .box (.imp x (.box x)))) : Snd l L R [(L1, [x])] := by
  by_cases h1 : l = .GL
  · exact s_modalGL h1 hm fun y hy => by
      rcases h y hy with h | ⟨_, h⟩ | ⟨h2, _⟩
      · exact .inr h
      · exact .inl h
      · rw [h1] at h2; cases h2
  · by_cases h2 : l = .Grz
    · exact s_modalGrz h2 hm fun y hy => by
        rcases h y hy with h | ⟨h3, _⟩ | ⟨_, h⟩
        · exact .inr h
        · exact absurd h3 h1
        · exact .inl h
    · exact s_modal hm fun y hy => by
        rcases h y hy with h | ⟨h3, _⟩ | ⟨h3, _⟩
        · exact h
        · exact absurd h3 h1
        · exact absurd h3 h2
theorem cal_modal (T : TX w K mg) (cR : Cal P w K mg base "require" 1 (rNoFit gN)) : CalR P w K mg base gN "modal" anyL := by
  refine cal_of T 23 rfl sc_modal (fun vs H Q E h => len_rule h) (fun _ _ _ _ _ _ us hl => match us, hl with | [_, _, _, _], _ => rfl) fun f cdv A outer s H vs Q E hr h =>
    ⟨_, pss_cons (ps_expr (pe_f (E := fun _ => E) (cR.mono (by decide)) hr rfl passR (pa_cons (pe_f0 ((cal_main T).mono (by decide)) hr rfl (pa_cons (pv 2) (pa_cons (pv 3) (pa_cons pe_str pa_nil)))) pa_nil)))
      (pss_cons (ps_set (i := 4) sc_modal.nd rfl (Or.inl rfl) (pe_f0 ((cal_kept T).mono (by decide)) hr rfl (pa_cons (pv 0) (pa_cons (pv 1) pa_nil))))
      (pss_cut (ps_if (pt_cmpR op_eq (pv 0) pe_str (nomark _)) (pss_one (ps_set (i := 4) sc_modal.nd rfl (Or.inl rfl) (pe_f0 ((cal_add T).mono (by decide)) hr rfl (pa_cons (pv 4) (pa_cons (pv 3) pa_nil))))) pss_nil)
      (pss_cut (ps_if (pt_cmpR op_eq (pv 0) pe_str (nomark _)) (pss_one (ps_set (i := 4) sc_modal.nd rfl (Or.inl rfl) (pe_f0 ((cal_add T).mono (by decide)) hr rfl (pa_cons (pv 4) (pa_cons (pe_tup (pa_cons pe_str (pa_cons (pe_tup (pa_cons pe_str (pa_cons (pe_ix ix_tup (pv 3) pe_int (fun _ _ => rfl)) (pa_cons (pv 3) pa_nil)))) pa_nil))) pa_nil))))) pss_nil)
      (pss_cons (ps_if (pt_cmpR op_eq (pv 0) pe_str (nomark _)) (pss_one (ps_ret (pe_lst (pa_cons (pe_tup (pa_cons (pv 4) (pa_cons (pe_f0 ((cal_add T).mono (by decide)) hr rfl (pa_cons
          (pe_callTy call_tuple_of rfl (T.free "tuple" (by decide +kernel)) boot_tuple (pa_cons (pe_lc (own := [("a", 5)]) (g := gName 5) rfl sc_modal.nd (pi_tup (pv 2)) (blkOk_by (N := nsM) (sc := defScope (top 36)) (by decide +kernel)) (fun _ _ _ _ _ => pg_name (i := 5) sc_modal.nd rfl (Or.inl rfl))
            (fun _ _ _ _ _ => pts_one (pt_cmpR op_eq (pe_ix (r := rIxT K) ix_tup (pv 5) pe_int (fun _ _ => rfl)) pe_str (nomark _))) (fun _ _ _ _ _ => pv 5)) pa_nil)) (pa_cons (pe_ix ix_tup (pv 3) pe_int (fun _ _ => rfl)) pa_nil))) pa_nil))) pa_nil)))) pss_nil)
      (pss_one (ps_ret (pe_lst (pa_cons (pe_tup (pa_cons (pv 4) (pa_cons (pe_tup (pa_cons (pe_ix ix_tup (pv 3) pe_int (fun _ _ => rfl)) pa_nil)) pa_nil))) pa_nil)))))))), ?_⟩
  obtain ⟨l, lv, rv, mv, L, R, m, I, hl, o⟩ := h
  obtain rfl := I.vs_
  refine q_main (ea3 (ev_var rfl) (ev_var rfl) ev_c) I.right I.main I.hM (fun H' e => o.no H' e) fun g H1 e1 hm hin htg => ?_
  subst hm
  obtain ⟨x, rfl⟩ := tg_box htg
  have hmain : ∀ H2, Ex H H2 → FmH K H2 (.box x) mv := fun H2 e => I.main.ex e
  obtain ⟨a, b, rfl, hs, hb⟩ := one_box (hmain H (Ex.refl H))
  have h5 : ht (.box x) ≤ 5 := I.hM _ rfl
  have h4 : ht x ≤ 4 := by simp only [ht] at h5; omega
  refine ⟨_, rfl, _, rfl, l, lv, L, rfl, I.left.ex e1, I.lenL, I.hL, fun u H2 N e2 hu hN lN => ?_⟩
  have k0 : MSt K H l L x false false (start nsM [.str (nm l), lv, rv, .ref a]) 6 ((start nsM [.str (nm l), lv, rv, .ref a]).set 4 (some u)) H2 := ⟨e1.trans e2, u, N, rfl, hu, lN, fun p hp => ⟨by have := (hN p hp).2; omega, .inl (hN p hp).1⟩⟩
  refine q_cut (M := MSt K H l L x true false (start nsM [.str (nm l), lv, rv, .ref a]) 7) ?_ ?_
  · refine s_when (et_test (ev_op (ev_var rfl) ev_c (rv_eq rfl))) (fun hb1 H3 e3 => ?_) (fun _ H3 e3 => ?_)
    · have e12 := (e1.trans e2).trans e3
      have hl1 : l = .GL := nm_inj (of_decide_eq_true hb1)
      refine ⟨_, rfl, _, rfl, u, N, [(a, .box x)], rfl, hu.ex e3, allF1 (hmain H3 e12), fun p hp => ?_, by simp; omega, fun u' H4 N' e4 hu' hN' lN' => ⟨e12.trans e4, u', N', rfl, hu', by simp at lN'; omega, fun p hp => ?_⟩⟩
      · rcases List.mem_append.mp hp with hp | hp
        · have := (hN p hp).2; omega
        · rw [List.mem_singleton.mp hp]; show ht (.box x) ≤ 8; omega
      · rcases List.mem_append.mp (hN' p hp) with hp | hp
        · exact ⟨by have := (hN p hp).2; omega, .inl (hN p hp).1⟩
        · rw [List.mem_singleton.mp hp]; exact ⟨by show ht (.box x) ≤ 8; omega, .inr (.inl ⟨rfl, hl1, rfl⟩)⟩
    · obtain ⟨u', N', hσ, hs', hl', hp'⟩ := k0.kept
      exact ⟨k0.ex.trans e3, u', N', hσ, hs'.ex e3, by omega, fun p hp => ⟨(hp' p hp).1, by
        rcases (hp' p hp).2 with z | ⟨z, _⟩ | ⟨z, _⟩
        · exact .inl z
        · cases z
        · cases z⟩⟩
  · rintro _ H3 ⟨e3, u3, N3, rfl, hu3, l3, p3⟩
    refine q_cut (M := MSt K H l L x true true (start nsM [.str (nm l), lv, rv, .ref a]) 8) ?_ ?_
    · refine s_when (et_test (ev_op (ev_var rfl) ev_c (rv_eq rfl))) (fun hb1 H4 e4 => ?_) (fun _ H4 e4 => ?_)
      · have hl1 : l = .Grz := nm_inj (of_decide_eq_true hb1)
        have e34 := e3.trans e4
        refine ⟨_, rfl, ?_⟩
        refine ev_ixT (k := 1) rfl (ex_t e34 hs) rfl H4 (Ex.refl _) _ fun H5 e5 => ⟨_, rfl, sz_of (by simp), fun c hc => ⟨sz_of (by simp), fun d hd => ?_⟩⟩
        have e6 : Ex H5 (upd H5 c (.tup [.str "implies", .ref b, .ref a])) := Ex.new hc
        have e7 := Ex.new (o := .tup [.str "box", .ref c]) hd
        have e57 := e6.trans e7
        have hi : FmH K (upd (upd H5 c (.tup [.str "implies", .ref b, .ref a])) d (.tup [.str "box", .ref c])) (.box (.imp x (.box x))) (.ref d) :=
          ⟨d, .ref c, rfl, st_of upd_same, c, .ref b, .ref a, rfl, st_of (e7 _ _ upd_same), hb.ex ((e34.trans e5).trans e57), hmain _ ((e34.trans e5).trans e57)⟩
        have h8 : ht (.box (.imp x (.box x))) ≤ 8 := by simp only [ht] at h5 ⊢; omega
        refine ⟨u3, N3, [(d, _)], rfl, hu3.ex ((e4.trans e5).trans e57), allF1 hi, fun p hp => ?_, by simp; omega, fun u' H6 N' e8 hu' hN' lN' => ⟨((e34.trans e5).trans e57).trans e8, u', N', rfl, hu', by simp at lN'; omega, fun p hp => ?_⟩⟩
        · rcases List.mem_append.mp hp with hp | hp
          · exact (p3 p hp).1
          · rw [List.mem_singleton.mp hp]; exact h8
        · rcases List.mem_append.mp (hN' p hp) with hp | hp
          · refine ⟨(p3 p hp).1, ?_⟩
            rcases (p3 p hp).2 with z | z | ⟨z, _⟩
            · exact .inl z
            · exact .inr (.inl z)
            · cases z
          · rw [List.mem_singleton.mp hp]; exact ⟨h8, .inr (.inr ⟨rfl, hl1, rfl⟩)⟩
      · exact ⟨e3.trans e4, u3, N3, rfl, hu3.ex e4, by omega, fun p hp => ⟨(p3 p hp).1, by
          rcases (p3 p hp).2 with z | z | ⟨z, _⟩
          · exact .inl z
          · exact .inr (.inl z)
          · cases z⟩⟩
    · rintro _ H4 ⟨e4, u4, N4, rfl, hu4, l4, p4⟩
      have b4 : ∀ p ∈ N4, ht p.2 ≤ 8 := fun p hp => (p4 p hp).1
      refine q_when (et_test (ev_op (ev_var rfl) ev_c (rv_eq rfl))) (fun hb1 H5 e5 => ?_) (fun _ H5 e5 => ?_)
      · have hl1 : l = .S5 := nm_inj (of_decide_eq_true hb1)
        have e45 := e4.trans e5
        obtain ⟨aR, rfl, hsR, hR⟩ := I.right
        refine ⟨_, rfl, ?_⟩
        refine one_go (cal_go (cons_go (cb_go (one_go ?_))))
        refine lcF_tup (C := fun p => tg p.2 = "box") (P := fun p g => g = p.2) (ev_var rfl) (ex_t e45 hsR) (by have := I.lenR; omega) (fun _ => rfl) (fun p hp H1 e1 Q1 k => ?_) (fun p hp hc H1 e1 Q1 k => ⟨_, rfl, k _ p.2 H1 (Ex.refl H1) ((hR p hp).ex (e45.trans e1)) rfl⟩) _ fun Z H6 N6 hZ e6 hN6 aN6 lN6 mN6 => ?_
        · exact evc_tagE (ev_var rfl) ((hR p hp).ex (e45.trans e1)) "box" H1 (Ex.refl _) _ fun b H2 e2 z => ⟨b, rfl, k b H2 e2 z⟩
        · refine ⟨Z, refs N6, rfl, .inl ⟨sq_of hN6, fun t ht' => ?_⟩⟩
          have e7 : Ex H6 (upd H6 t (.tup (refs N6))) := Ex.new ht'
          have e67 := e6.trans e7
          refine ev_ixT (k := 1) rfl (ex_t (e45.trans e67) hs) rfl _ (Ex.refl _) _ fun H8 e8 => ?_
          have lR := I.lenR
          refine ⟨.ref t, N6, [(b, x)], rfl, SideV.ex e8 ⟨t, rfl, st_of upd_same, aN6.ex e7⟩, allF1 (hb.ex ((e45.trans e67).trans e8)), fun p hp => ?_, by simp; omega, fun u' H9 N' e9 hu' hN' lN' => ?_⟩
          · rcases List.mem_append.mp hp with hp | hp
            · obtain ⟨p', h1, _, h3⟩ := mN6 p hp
              rw [h3]; have := I.hR p' h1; omega
            · rw [List.mem_singleton.mp hp]; show ht x ≤ 8; omega
          · have e59 := ((e67.trans e8).trans e9)
            refine o.any (e45.trans e59) (hu4.ex (e5.trans e59)) hu' b4 (fun p hp => ?_) (s_modalS5 hl1 hin (fun y hy => ?_) fun y hy => ?_)
            · rcases List.mem_append.mp (hN' p hp) with hp | hp
              · obtain ⟨p', h1, _, h3⟩ := mN6 p hp
                rw [h3]; have := I.hR p' h1; omega
              · rw [List.mem_singleton.mp hp]; show ht x ≤ 8; omega
            · obtain ⟨p, hp, e⟩ := mem_fms hy
              rw [← e]
              rcases (p4 p hp).2 with z | ⟨_, z, _⟩ | ⟨_, z, _⟩
              · exact z
              · rw [hl1] at z; cases z
              · rw [hl1] at z; cases z
            · obtain ⟨p, hp, e⟩ := mem_fms hy
              rw [← e]
              rcases List.mem_append.mp (hN' p hp) with hp | hp
              · obtain ⟨p', h1, h2, h3⟩ := mN6 p hp
                rw [h3]
                exact .inr ⟨List.mem_map_of_mem h1, tg_box h2⟩
              · rw [List.mem_singleton.mp hp]; exact .inl rfl
      · have e45 := e4.trans e5
        refine ⟨_, rfl, ?_⟩
        refine evs_one (ev_ixT (k := 1) rfl (ex_t e45 hs) rfl) (hb.ex e45) H5 (Ex.refl _) _ fun t H6 M e6 ht' hM lM => ?_
        refine o.any (e45.trans e6) (hu4.ex (e5.trans e6)) ht' b4 (fun p hp => by rw [List.mem_singleton.mp (hM p hp)]; show ht x ≤ 8; omega) (snd1 (modal_snd hin fun y hy => ?_) (sub_refl _) (s_same (L := [(b, x)]) hM))
        obtain ⟨p, hp, e⟩ := mem_fms hy
        rw [← e]
        rcases (p4 p hp).2 with z | ⟨_, z⟩ | ⟨_, z⟩
        · exact .inl z
        · exact .inr (.inl z)
        · exact .inr (.inr z)
end
end K33

set_option Elab.async false
set_option linter.all false
set_option maxRecDepth 100000
set_option maxHeartbeats 4000000
namespace K33
open PySem PySem.Spec PyProof.Rows L2 Evl
/-- a list of implications of R -/
structure Imps (K : PySem.W.Frag) (R : List FM) (H : Hp) (D : Addr) (N : List FM) : Prop where
  at_ : H D = some (.lst (refs N))
  all : AllF K H N
  len : N.length ≤ 3
  mem : ∀ p ∈ N, p.2 ∈ fms R ∧ (∃ a b, p.2 = .imp a b) ∧ ht p.2 ≤ 3
theorem Imps.ex {K : PySem.W.Frag} {R N : List FM} {H H' : Hp} {D : Addr} (e : Ex H H') (h : Imps K R H D N) : Imps K R H' D N := ⟨e _ _ h.at_, h.all.ex e, h.len, h.mem⟩
def spImps (K : PySem.W.Frag) : Sp := fun vs H Q _ => ∃ rv R, vs = [rv] ∧ SideV K H rv R ∧ R.length ≤ 3 ∧ (∀ p ∈ R, ht p.2 ≤ 3) ∧ ∀ D H' N, H D = none → Ex H H' → Imps K R H' D N → Q (.ref D) H'
theorem sc_imps : FnScope ["right", "a"] ["right"] (defScope (top 39)) := ⟨rfl, rfl, rfl, by decide +kernel, rfl, by decide +kernel, by decide +kernel⟩
abbrev nsL : List Str := ["logic", "left", "right", "main", "listed", "premises", "a", "others", "b"]
theorem sc_lin : FnScope nsL rps (defScope (top 41)) := ⟨rfl, rfl, rfl, by decide +kernel, rfl, by decide +kernel, by decide +kernel⟩
section
variable {P : Program} {w : World} {K : PySem.W.Frag} {mg : Str → Option Value} {base : Heap} {gN : Addr}
theorem cal_imps (T : TX w K mg) : Cal P w K mg base "implications" 1 (spImps K) := by
  refine cal_of T 26 rfl sc_imps (fun vs H Q E h => by obtain ⟨_, _, rfl, _⟩ := h; rfl) (fun _ _ _ _ _ _ us hl => match us, hl with | [_], _ => rfl) fun f cdv A outer s H vs Q E hr h =>
    ⟨_, pss_one (ps_ret (pe_lc (own := [("a", 1)]) (g := gName 1) rfl sc_imps.nd (pi_tup (pv 0)) (blkOk_by (N := ["right", "a"]) (sc := defScope (top 39)) (by decide +kernel)) (fun _ _ _ _ _ => pg_name (i := 1) sc_imps.nd rfl (Or.inl rfl))
        (fun _ _ _ _ _ => pts_one (pt_cmpR op_eq (pe_ix (r := rIxT K) ix_tup (pv 1) pe_int (fun _ _ => rfl)) pe_str (nomark _))) (fun _ _ _ _ _ => pv 1))), ?_⟩
  obtain ⟨rv, R, rfl, ⟨a, rfl, hs, hR⟩, lR, hh, q⟩ := h
  refine s_rt ?_
  refine lcF_tup (C := fun p => tg p.2 = "implies") (P := fun p g => g = p.2) (ev_var rfl) hs (by omega) (fun _ => rfl) (fun p hp H1 e1 Q1 k => ?_) (fun p hp hc H1 e1 Q1 k => ⟨_, rfl, k _ p.2 H1 (Ex.refl H1) ((hR p hp).ex e1) rfl⟩) _ fun D H2 N hD e2 hN aN lN mN => ?_
  · exact evc_tagE (ev_var rfl) ((hR p hp).ex e1) "implies" H1 (Ex.refl _) _ fun b H2 e2 z => ⟨b, rfl, k b H2 e2 z⟩
  · exact q D H2 N hD e2 ⟨hN, aN, by omega, fun p hp => by
      obtain ⟨p', h1, h2, h3⟩ := mN p hp
      rw [h3]
      exact ⟨List.mem_map_of_mem h1, tg_imp h2, hh p' h1⟩⟩
/-- what stands ahead of the i-th turn of linear_right -/
structure LSt (K : PySem.W.Frag) (H0 : Hp) (L R N : List FM) (D P0 : Addr) (i : Nat) (H : Hp) : Prop where
  ex : Ex H0 H
  imps : Imps K R H D N
  new : H0 P0 = none
  ne : D ≠ P0
  prem : ∃ (xs : List V) (ps : List Seqt), H P0 = some (.lst xs) ∧ Goals K H xs ps ∧ xs.length = i ∧ ps.length = i ∧ (∀ p ∈ ps, (∀ q ∈ p.1, ht q.2 ≤ 8) ∧ ∀ q ∈ p.2, ht q.2 ≤ 8) ∧
    ∀ k p a b, k < i → N[k]? = some p → p.2 = .imp a b → ∃ s ∈ ps, Sub (fms s.1) (a :: fms L) ∧ Sub (fms s.2) (b :: fms N)
theorem cal_linear (T : TX w K mg) (cR : Cal P w K mg base "require" 1 (rNoFit gN)) : CalR P w K mg base gN "linear_right" (fun l => l = .LC) := by
  refine cal_of T 28 rfl sc_lin (fun vs H Q E h => len_rule h) (fun _ _ _ _ _ _ us hl => match us, hl with | [_, _, _, _], _ => rfl) fun f cdv A outer s H vs Q E hr h =>
    ⟨_, pss_cons (ps_set (i := 4) sc_lin.nd rfl (Or.inl rfl) (pe_f0 ((cal_imps T).mono (by decide)) hr rfl (pa_cons (pv 2) pa_nil)))
      (pss_cons (ps_expr (pe_f (E := fun _ => E) (cR.mono (by decide)) hr rfl passR (pa_cons (pe_and (pe_cmpR op_isN (pv 3) pe_non (nomark _)) (pe_one (pe_cmpR op_gt (pe_callB call_len_seq rfl (T.free "len" (by decide +kernel)) boot_len (pa_cons (pv 4) pa_nil)) pe_int (nomark _)))) pa_nil)))
      (pss_cons (ps_set (i := 5) sc_lin.nd rfl (Or.inl rfl) (pe_lst pa_nil))
      (pss_cons (ps_for (passes_of rfl) rfl (pi_list (pv 4)) (pg_name (i := 6) sc_lin.nd rfl (Or.inr rfl))
        (pss_cons (ps_setLc (i := 7) (own := [("b", 8)]) (g := gName 8) rfl sc_lin.nd rfl rfl (sw_true rfl rfl rfl (by decide +kernel)) (pi_list (pv 4)) (blkOk_by (N := nsL) (sc := defScope (top 41)) (by decide +kernel)) (fun _ _ _ _ _ => pg_name (i := 8) sc_lin.nd rfl (Or.inl rfl))
            (fun _ _ _ _ _ => pts_one (pt_cmpR (r := rNeF K) (op_neF (hu64 hr)) (pv 8) (pv 6) (nomark _))) (fun _ _ _ _ _ => pv 8))
          (pss_one (ps_expr (pe_bm PySem.F.plainAttrs_list PySem.F.slot_list_append PySem.F.type_list_append mt_append (pv 5) (pa_cons (pe_tup (pa_cons (pe_f0 ((cal_add T).mono (by decide)) hr rfl (pa_cons (pv 1) (pa_cons (pe_ix ix_tup (pv 6) pe_int (fun _ _ => rfl)) pa_nil)))
            (pa_cons (pe_f0 ((cal_asc T).mono (by decide)) hr rfl (pa_cons (pe_op op_cat (pv 7) (pe_lst (pa_cons (pe_ix ix_tup (pv 6) pe_int (fun _ _ => rfl)) pa_nil))) pa_nil)) pa_nil))) pa_nil))))))
      (pss_one (ps_ret (pv 5)))))), ?_⟩
  obtain ⟨l, lv, rv, mv, L, R, m, I, hl, o⟩ := h
  obtain rfl := I.vs_
  refine q_as ?_
  refine ⟨_, rfl, rv, R, rfl, I.right, I.lenR, I.hR, fun D H1 N hD e1 hN => ?_⟩
  refine q_req (C := N ≠ []) ?_ (fun H' e => o.no H' (e1.trans e)) fun H2 e2 c => ?_
  · refine (evc_and (C2 := N ≠ []) (evc_isN rfl (I.main.ex e1)) fun _ => ?_).imp fun c => c.2
    intro H2 e2 Q2 k
    refine ⟨_, rfl, D, refs N, rfl, .inl (sq_of (e2 _ _ hN.at_)), _, _, rfl, rfl, k _ _ (Ex.refl _) fun z => ?_⟩
    have := of_decide_eq_true z
    intro hne
    rw [hne] at this
    simp at this
  · refine ⟨sz_of (by simp), fun P0 hP => ?_⟩
    have e12 := e1.trans e2
    have hN2 := hN.ex e2
    have hne : D ≠ P0 := ne_of_none hN2.at_ hP
    refine q_forLn (K := K) (a := D) (xs := refs N) (ev_var rfl) (sq_of (by rw [upd_ne hne]; exact hN2.at_)) (fun i σ' H' => (∃ va vo, σ' = [some (.str (nm l)), some lv, some rv, some mv, some (.ref D), some (.ref P0), va, vo, none]) ∧ LSt K H2 L R N D P0 i H') (fun H3 e3 => ?_) (fun i σ' H' hi p => sq_of p.2.imps.at_) (fun i x σ' H' hi p => ?_) fun σ' H' p => ?_
    · refine ⟨⟨none, none, rfl⟩, (Ex.new hP).trans e3, (hN2.ex (Ex.new hP)).ex e3, hP, hne, [], [], e3 _ _ upd_same, .nil, rfl, rfl, (fun _ z => nomatch z), fun k _ _ _ hk => absurd hk (Nat.not_lt_zero _)⟩
    · obtain ⟨⟨va, vo, rfl⟩, st⟩ := p
      rw [List.getElem?_map] at hi
      cases hp : N[i]? with
      | none => rw [hp] at hi; cases hi
      | some pr =>
        rw [hp] at hi
        obtain rfl : V.ref pr.1 = x := Option.some.inj hi
        have hpm : pr ∈ N := List.mem_of_getElem? hp
        have hil : i < N.length := (List.getElem?_eq_some_iff.mp hp).1
        have lN := hN.len
        obtain ⟨m1, ⟨p, q, m2⟩, m3⟩ := hN.mem pr hpm
        have hpr := st.imps.all pr hpm
        rw [m2] at hpr m3
        obtain ⟨a, t, b, c, ea, hs, hb, hc⟩ := (two_imp hpr).ex
        have hh := @ht_two p q
        refine q_as ?_
        refine lcF_lst (C := fun _ => True) (P := fun p g => g = p.2) (ev_var rfl) (sq_of st.imps.at_) (by omega) (fun _ => rfl) (fun p' hp' H1 e1 Q1 k => ?_) (fun p hp hc H1 e1 Q1 k => ⟨_, rfl, k _ p.2 H1 (Ex.refl H1) ((st.imps.all p hp).ex e1) rfl⟩) _ fun Z H4 N4 hZ e4 hN4 aN4 lN4 mN4 => ?_
        · have m4 := (hN.mem p' hp').2.2
          refine ⟨_, rfl, _, rfl, p'.2, _, (st.imps.all p' hp').ex e1, hpr.ex e1, by omega, by omega, _, rfl, k _ _ (Ex.refl _) fun _ => trivial⟩
        · obtain ⟨xs, ps, hP4, hg, lx, lp, hb8, hk⟩ := st.prem
          have e0 : Ex H H4 := (e12.trans st.ex).trans e4
          have bN : ∀ z ∈ N4, z.2 ∈ fms N ∧ ht z.2 ≤ 3 := fun z hz => by
            obtain ⟨p', h1, _, h3⟩ := mN4 z hz
            rw [h3]; exact ⟨List.mem_map_of_mem h1, (hN.mem p' h1).2.2⟩
          refine ⟨_, rfl, .inl ⟨rfl, _, SqL.of (e4 _ _ hP4)⟩, ?_⟩
          have bL := b_cons (a := b) (f := p) I.hL (by omega)
          refine one_go (cons_go ?_)
          refine evs_add (ea2 (ev_var rfl) (ev_ixT (k := 1) (by rw [← ea]; rfl) (ex_t e4 hs) rfl)) (I.left.ex e0) (allF1 (hb.ex e4)) bL (by have := I.lenL; simp; omega) H4 (Ex.refl _) _ fun u H5 N5 e5 hu h5 l5 => ?_
          refine one_go (cal_go (one_go ?_))
          refine ⟨_, rfl, ?_⟩
          refine one_go ?_
          refine ev_ixT (k := 2) (by rw [← ea]; rfl) (ex_t (e4.trans e5) hs) rfl H5 (Ex.refl _) _ fun H6 e6 => ⟨sz_of (by simp), fun Y hY => ?_⟩
          have e7 := Ex.new (o := .lst [V.ref c]) hY
          have e567 := (e5.trans e6).trans e7
          refine ⟨Z, Y, refs N4, [V.ref c], rfl, rfl, e567 _ _ hN4, upd_same, sz_of (by simp only [List.length_map, List.length_cons, List.length_nil]; omega), fun W hW => ?_⟩
          have e8 := Ex.new (o := .lst (refs N4 ++ [V.ref c])) hW
          have e58 := e567.trans e8
          refine ⟨W, N4 ++ [(c, q)], rfl, .inl (sq_of ?_), fun z hz => ?_, fun z hz => ?_, by rw [List.length_append]; simp; omega, fun u2 H9 N9 e9 hu2 h9 l9 => ?_⟩
          · rw [show refs (N4 ++ [(c, q)]) = refs N4 ++ [V.ref c] by simp [refs]]; exact upd_same
          · rcases List.mem_append.mp hz with hz | hz
            · exact (aN4 z hz).ex e58
            · rw [List.mem_singleton.mp hz]; exact hc.ex (e4.trans e58)
          · rcases List.mem_append.mp hz with hz | hz
            · have := (bN z hz).2; omega
            · rw [List.mem_singleton.mp hz]; show ht q ≤ 8; omega
          · refine ⟨sz_of (by simp), fun g hg' => ?_⟩
            have e10 := Ex.new (o := .tup [u, u2]) hg'
            have e59 := (e58.trans e9).trans e10
            have eA := e4.trans e59
            have hPA := eA _ _ hP4
            refine ⟨P0, xs, .ref g, rfl, rfl, hPA, sz_lt (by omega), ?_⟩
            have et := et_lst (K := K) (o := .lst (xs ++ [V.ref g])) hPA
            have e610 : Ex H5 (upd H9 g (.tup [u, u2])) := (((e6.trans e7).trans e8).trans e9).trans e10
            refine ⟨⟨some (.ref pr.1), some (.ref Z), rfl⟩, Ex.mut (st.ex.trans eA) st.new, ⟨by rw [upd_ne st.ne]; exact eA _ _ st.imps.at_, (st.imps.all.ex eA).et et, st.imps.len, st.imps.mem⟩, st.new, st.ne, xs ++ [V.ref g], ps ++ [(N5, N9)], upd_same,
              ((hg.ex eA).et et).append (.cons ⟨g, u, u2, rfl, et _ _ (st_of upd_same), (hu.ex e610).et et, (hu2.ex e10).et et⟩ .nil), by simp [lx], by simp [lp], fun z hz => ?_, fun k p' a' b' hk' hpk eab => ?_⟩
            · rcases List.mem_append.mp hz with hz | hz
              · exact hb8 z hz
              · rw [List.mem_singleton.mp hz]
                refine ⟨fun y hy => bL y (h5 y hy), fun y hy => ?_⟩
                rcases List.mem_append.mp (h9 y hy) with hy | hy
                · have := (bN y hy).2; omega
                · rw [List.mem_singleton.mp hy]; show ht q ≤ 8; omega
            · by_cases hki : k < i
              · obtain ⟨s, s1, s2⟩ := hk k p' a' b' hki hpk eab
                exact ⟨s, List.mem_append_left _ s1, s2⟩
              · obtain rfl : k = i := by omega
                rw [hp] at hpk
                obtain rfl := Option.some.inj hpk
                rw [m2] at eab
                cases eab
                refine ⟨(N5, N9), List.mem_append_right _ (List.mem_singleton.mpr rfl), s_cons h5, fun y hy => ?_⟩
                obtain ⟨z, hz, e⟩ := mem_fms hy
                rw [← e]
                rcases List.mem_append.mp (h9 z hz) with hz | hz
                · exact List.mem_cons_of_mem _ (bN z hz).1
                · rw [List.mem_singleton.mp hz]; exact List.mem_cons_self
    · obtain ⟨⟨va, vo, rfl⟩, st⟩ := p
      obtain ⟨xs, ps, hP4, hg, lx, lp, hb8, hk⟩ := st.prem
      have lN := hN.len
      rw [List.length_map] at lx lp hk
      refine ⟨_, rfl, o.yes _ H' ps (e12.trans st.ex) ⟨P0, xs, rfl, sq_of hP4, hg⟩ (s_linear hl (js := fms N) (fun y hy => ?_) (fun z => ?_) fun a b hab => ?_) hb8 (by omega)⟩
      · obtain ⟨z, hz, e⟩ := mem_fms hy
        rw [← e]
        exact ⟨(hN.mem z hz).1, (hN.mem z hz).2.1⟩
      · exact c (by simpa using z)
      · obtain ⟨z, hz, e⟩ := mem_fms hab
        obtain ⟨k, hk', ek⟩ := List.mem_iff_getElem.mp hz
        obtain ⟨s, s1, s2, s3⟩ := hk k z a b hk' (by rw [List.getElem?_eq_getElem hk', ek]) e
        exact ⟨sqf s, List.mem_map_of_mem s1, s2, s3⟩
end
end K33

set_option Elab.async false
set_option linter.all false
set_option maxRecDepth 100000
set_option maxHeartbeats 4000000
/-! Dicts whose keys are formulas, each with True. -/
namespace K33
open PySem PySem.Spec PyProof.Rows L2 Evl
abbrev ents (L : List FM) : List (NestedKey × Addr × Value) := L.map fun p => (key p.2, p.1, .bool true)
def DicF0 (w : World) (a : Addr) (L : List FM) (h : Heap) : Prop := (∃ o es ep, h.get? a = some o ∧ o.ExactDict ∧ o.data = .dict es ep ∧ es.toList = L.map fun p => ⟨(key p.2).hash w, .ref p.1, .bool true⟩) ∧ (fms L).Nodup ∧ (a == sysModules) = false
def DicFO (w : World) (a : Addr) (L : List FM) : HO := .ext (DicF0 w a L)
theorem dicFO_ok {P : Program} {w : World} {H : Hp} {h : Heap} {a : Addr} {L : List FM} (R : DicF0 w a L h) : ObjOk P w H h a (DicFO w a L) := by
  refine ⟨R, ?_, fun h1 h2 p k => ?_⟩
  · obtain ⟨⟨o, _, _, ho, _⟩, _⟩ := R; exact ⟨o, ho⟩
  · obtain ⟨⟨o, es, ep, ho, r⟩, q⟩ := p
    exact ⟨⟨o, es, ep, k o ho, r⟩, q⟩
theorem nodup_keys {L : List FM} (h : (fms L).Nodup) : ((ents L).map (·.1)).Nodup := by
  have e : (ents L).map (·.1) = (fms L).map key := by simp [ents, fms]
  rw [e]
  exact List.Pairwise.map key (fun a b hn e => hn (key_inj e)) h
theorem atKey_ents (f : Fm) : ∀ L : List FM, (atKey (ents L) (key f)).isSome = decide (f ∈ fms L)
  | [] => by simp [ents, atKey]
  | p :: L => by
    have ih := atKey_ents f L
    by_cases e : p.2 = f
    · have : key p.2 = key f := by rw [e]
      simp [ents, atKey, this, e]
    · have hk : ¬ key p.2 = key f := fun h => e (key_inj h)
      have e' : ¬ f = p.2 := fun h => e h.symm
      simp only [ents, List.map_cons, atKey, fms, List.mem_cons, e', false_or]
      simpa [hk, ents, fms, atKey] using ih
section
variable {X : Cx} {pins : List (Addr × Obj)} {σ : L2.St} {H : Hp} {s : Shared} {a : Addr} {L : List FM}
theorem dicF_of (I : Inv X pins σ H s) (h : H a = some (DicFO X.w a L)) (hF : AllF X.K H L) (hh : ∀ p ∈ L, ht p.2 ≤ 8) : s.heap.DictOfH (nestedKind X.prog X.w) a (ents L) := by
  obtain ⟨⟨o, es, ep, ho, hx, hd, he⟩, hn, _⟩ := (show ObjOk X.prog X.w H s.heap a (DicFO X.w a L) from I.hok a _ h).1
  refine ⟨o, es, ep, ho, hx, hd, ?_, fun x hx => ?_, nodup_keys hn⟩
  · rw [he, ents, List.map_map]; rfl
  · obtain ⟨p, hp, e⟩ := List.mem_map.mp hx
    subst e
    have q := (hF p hp).isN I (hh p hp)
    exact ⟨q.is, q.dp⟩
/-- {} -/
def tDNewF (w : World) : TE := fun _ H Q => ∀ p, H p = none → Q (.ref p) (upd H p (DicFO w p []))
theorem pe_dnewF {pos : Pos} : PE X (.Dict [] [] pos) (tDNewF X.w) := ⟨fun pins s σ H Q I h =>
  wpAny_Dict_empty ⟨.ref s.heap.objs.size, _, I.laid (a := s.heap.objs.size) (o := DicFO X.w s.heap.objs.size []) (t' := s.toks) (fun _ _ q => Heap.get?_push_of_some _ q) (Nat.le_refl _)
    (dicFO_ok ⟨⟨_, #[], 0, Heap.get?_push_size _ rfl, ⟨rfl, rfl, rfl⟩, rfl, rfl⟩, List.nodup_nil, beq_eq_false_iff_ne.mpr (Ne.symm (Nat.ne_of_lt I.big))⟩), rfl, h _ (I.hok.fresh (Nat.le_refl _))⟩⟩
/-- f not in d -/
def rNotInDF (K : PySem.W.Frag) (w : World) : R2 := fun x y H Q => ∃ f a L, FmH K H f x ∧ ht f ≤ 8 ∧ y = .ref a ∧ H a = some (DicFO w a L) ∧ AllF K H L ∧ (∀ p ∈ L, ht p.2 ≤ 8) ∧ Q (.bl (!decide (f ∈ fms L))) H
theorem op_notInDF (hu : X.A.units + 64 < cLine) : OpR X (compareOp .NotIn) (rNotInDF X.K X.w) := by
  intro pins s σ H x y v u Q I rx ry h
  obtain ⟨f, a, L, hf, hh, rfl, hd, hL, hL8, q⟩ := h
  obtain ⟨b, rfl⟩ := hf.ref
  cases rx
  cases ry
  have n := hf.isN I hh
  have lo := (show ObjOk X.prog X.w H s.heap a (DicFO X.w a L) from I.hok a _ hd).1.2.2
  show wpAny _ _ (do return Value.bool (!(← contains (.ref a) (.ref b)))) _ _ _
  refine wpAny_bind (wpAny_contains_heap (knd := nestedKind X.prog X.w) (k := key f) (by show X.A.in1.units + 8 < cLine; simp only [Around.in1_units]; omega) ⟨n.is, n.dp⟩ lo (dicF_of I hd hL hL8) (wpAny_pure ?_))
  rw [atKey_ents]
  exact ⟨.bl _, H, I.tok _, rfl, q⟩
/-- d[f] = True, f new -/
def sPutF (K : PySem.W.Frag) (w : World) (td ty tv : TE) : TS := fun D σ H => tv σ H fun v H1 => td σ H1 fun x H2 => ty σ H2 fun y H3 => ∃ a L f b, v = .bl true ∧ x = .ref a ∧ y = .ref b ∧ FmH K H3 f (.ref b) ∧ ht f ≤ 8 ∧ H3 a = some (DicFO w a L) ∧ AllF K H3 L ∧ (∀ p ∈ L, ht p.2 ≤ 8) ∧ f ∉ fms L ∧ L.length ≤ 1000 ∧
  D.nx σ (upd H3 a (DicFO w a (L ++ [(b, f)])))
theorem ps_putF {o i value : Expr} {pos pos' : Pos} {td ty tv : TE} (hu : X.A.units + 64 < cLine) (ho : PE X o td) (hi : PE X i ty) (hv : PE X value tv) (hs : swapsWith value (some (.Subscript o i pos')) pos.line X.env = pure false) :
    PS X (.Assign [.Subscript o i pos'] value pos) (sPutF X.K X.w td ty tv) := by
  refine ⟨fun pins s σ H D I h => ?_⟩
  refine wpAny_Assign_Subscript (thn (hv.run pins s σ H _ I h) fun r s1 ⟨v, H1, I1, rv, q1⟩ => thn (ho.run pins s1 σ H1 _ I1 q1) fun u s2 ⟨x, H2, I2, rx, q2⟩ => thn (hi.run pins s2 σ H2 _ I2 q2) fun iv s3 ⟨y, H3, I3, ry, a, L, f, b, ev, ex, ey, hf, hh, hd, hL, hL8, hn, hz, q3⟩ => ?_) hs
  subst ev ex ey
  cases rv
  cases rx
  cases ry
  have n := hf.isN I3 hh
  have R := (show ObjOk X.prog X.w H3 s3.heap a (DicFO X.w a L) from I3.hok a _ hd).1
  have hno : ((ents L).any fun x => decide (x.1 = key f)) = false := by
    rw [List.any_eq_false]
    intro x hx
    obtain ⟨p, hp, e⟩ := List.mem_map.mp hx
    subst e
    simp only [decide_eq_true_eq]
    exact fun h => hn (by rw [← key_inj h]; exact List.mem_map_of_mem hp)
  refine wpAny_setItem_heap (knd := nestedKind X.prog X.w) (k := key f) (hsz := by simp only [ents, List.length_map]; exact Nat.le_trans hz (by decide)) (by show X.A.in1.units + 8 < cLine; simp only [Around.in1_units]; omega) ⟨n.is, n.dp⟩ (dicF_of I3 hd hL hL8) fun h' dd hs' => ?_
  obtain ⟨o', es, ep, ho', hx', hd', he', _, _⟩ := dd
  refine ⟨σ, _, d_write I3 (by rw [hd]; exact True.intro) hs' ⟨o', ho'⟩ (dicFO_ok ⟨⟨o', es, ep, ho', hx', hd', ?_⟩, ?_, R.2.2⟩), q3⟩
  · rw [he']
    have : storedH (ents L) (key f) b (.bool true) = ents (L ++ [(b, f)]) := by
      have hk : (atKey (ents L) (key f)).isSome = false := by rw [atKey_ents]; exact decide_eq_false hn
      simp [storedH, hk, ents]
    rw [this, ents, List.map_map]; rfl
  · rw [show fms (L ++ [(b, f)]) = fms L ++ [f] by simp [fms]]
    exact List.nodup_append.mpr ⟨R.2.1, by simp, fun x hx y hy => by rw [List.mem_singleton.mp hy]; exact fun e => hn (e ▸ hx)⟩
/-- sorted(d) -/
def rSortedDF (K : PySem.W.Frag) (w : World) : List V → Hp → VK → Prop := fun vs H Q => ∃ (a : Addr) (M : List FM), vs = [V.ref a] ∧ H a = some (DicFO w a M) ∧ AllF K H M ∧ (∀ p ∈ M, ht p.2 ≤ 8) ∧ M.length < 64 ∧
  ∀ N p, (∀ q ∈ N, q ∈ M) → N.length = M.length → H p = none → Q (.ref p) (upd H p (.lst (refs N)))
theorem cr_sortedDF (hc : X.calm = true) (hu : X.A.units + 64 < cLine) : CallR X (.builtin "sorted") (rSortedDF X.K X.w) := by
  intro pins s σ H vs us Q I r h
  obtain ⟨a, M, rfl, ha, hF, hh, h64, q⟩ := h
  rw [Vals.ref1 r]
  have lo := (show ObjOk X.prog X.w H s.heap a (DicFO X.w a M) from I.hok a _ ha).1.2.2
  have D := dicF_of I ha hF hh
  obtain ⟨es, ep, hr, hs, he⟩ := D.raw
  have hsz : es.size = M.length := by rw [hs, List.length_map]
  refine sorted_any (by omega) (PySem.W.kdu_collect (A := X.A.in1) (KdlSrc.rawDict lo) (I.ok.hd hc) hr (by rw [hsz]; exact Nat.le_trans (Nat.le_of_lt h64) (by decide)) fun h' tk acc hk hacc => ?_)
  have hlen : acc.toList.length = M.length := by rw [Array.length_toList, hacc.1, hsz]
  have from_ : ∀ j (hj : j < M.length), acc.toList[j]? = some (Value.ref (M[j]).1) := fun j hj => by
    have hj2 : j < acc.toList.length := by rw [hlen]; exact hj
    have e0 : acc[j]? = some acc.toList[j] := by rw [← Array.getElem?_toList, List.getElem?_eq_getElem hj2]
    obtain ⟨hi, ev⟩ := hacc.2 j _ e0
    obtain ⟨y, ey, ek, _⟩ := he j hi
    rw [List.getElem?_map, List.getElem?_eq_getElem hj] at ey
    have ey' := Option.some.inj ey
    rw [List.getElem?_eq_getElem hj2, ev, ek, ← ey']
  have mem_ : ∀ u ∈ acc.toList, ∃ q ∈ M, u = Value.ref q.1 := fun u hu => by
    obtain ⟨j, hj, e⟩ := List.mem_iff_getElem.mp hu
    have hj2 : j < M.length := by rw [← hlen]; exact hj
    have := from_ j hj2
    rw [List.getElem?_eq_getElem hj] at this
    exact ⟨M[j], List.getElem_mem _, by rw [← e]; exact Option.some.inj this⟩
  have I1 : Inv X pins σ H { s with heap := h', toks := tk } := I.kept hk
  refine ⟨by rw [hlen]; exact h64, fun u hu => ?_, fun h2 out c k2 hc2 pm => ?_⟩
  · obtain ⟨q, hq, rfl⟩ := mem_ u hu
    exact ⟨q.1, q.2, rfl, ((hF q hq).isN I1 (hh q hq)).is, hh q hq⟩
  · obtain ⟨N, eN, hN⟩ := pick (f := fun q : FM => Value.ref q.1) (L := M) out.toList fun u hu => mem_ u (pm.mem_iff.mp hu)
    have hl2 : N.length = M.length := by
      have h1 := pm.length_eq
      rw [eN, List.length_map, hlen] at h1
      exact h1
    have hv : Vals (refs N) out.toList := by rw [eN]; exact refs_vals N
    have hz : (refs N).length ≤ sizeLine := by rw [List.length_map, sizeLine_eq]; omega
    have J : Inv X pins σ (upd H h'.objs.size (.lst (refs N))) { s with heap := h2, toks := tk } := I1.laid (t' := tk) k2 (Nat.le_refl _) ⟨hz, out.toList, c, hv, hc2⟩
    exact ⟨.ref h'.objs.size, _, J, rfl, q N _ hN hl2 (I1.hok.fresh (Nat.le_refl _))⟩
end
end K33

set_option Elab.async false
set_option linter.all false
set_option maxRecDepth 100000
set_option maxHeartbeats 4000000
namespace K33
open PySem PySem.Spec PyProof.Rows L2 Evl
def sz : Fm → Nat
  | .fls => 1
  | .var _ => 1
  | .and a b => 1 + (sz a + (sz b + 0))
  | .or a b => 1 + (sz a + (sz b + 0))
  | .imp a b => 1 + (sz a + (sz b + 0))
  | .box a => 1 + (sz a + 0)
def szs (fs : List Fm) : Nat := (fs.map sz).sum
theorem sz_parts (f : Fm) : sz f = 1 + szs (partsF f) := by cases f <;> rfl
theorem szs_take {fs : List Fm} {i : Nat} {g : Fm} (h : fs[i]? = some g) : szs (fs.take (i + 1)) = szs (fs.take i) + sz g := by
  have e : fs.take (i + 1) = fs.take i ++ [g] := by rw [List.take_add_one, h]; rfl
  rw [e]; simp [szs]
theorem szs_le (fs : List Fm) (i : Nat) : szs (fs.take i) ≤ szs fs := by
  have : szs fs = szs (fs.take i) + szs (fs.drop i) := by
    have e := List.take_append_drop i fs
    calc szs fs = szs (fs.take i ++ fs.drop i) := by rw [e]
      _ = _ := by unfold szs; rw [List.map_append, List.sum_append]
  omega
theorem sz_ht : ∀ f, sz f + 1 ≤ 2 ^ ht f := by
  have two : ∀ a b m n : Nat, a + 1 ≤ 2 ^ m → b + 1 ≤ 2 ^ n → 1 + (a + (b + 0)) + 1 ≤ 2 ^ (max m n + 1) := fun a b m n h1 h2 => by
    have e1 : 2 ^ m ≤ 2 ^ max m n := Nat.pow_le_pow_right (by decide) (Nat.le_max_left _ _)
    have e2 : 2 ^ n ≤ 2 ^ max m n := Nat.pow_le_pow_right (by decide) (Nat.le_max_right _ _)
    rw [Nat.pow_succ]; omega
  intro f
  induction f with
  | fls => decide
  | var x => simp [sz, ht]
  | and a b ia ib => exact two _ _ _ _ ia ib
  | or a b ia ib => exact two _ _ _ _ ia ib
  | imp a b ia ib => exact two _ _ _ _ ia ib
  | box a ia => simp only [sz, ht, Nat.pow_succ]; omega
theorem sz7 {f : Fm} (h : ht f ≤ 3) : sz f ≤ 7 := by
  have h1 := sz_ht f
  have h2 : 2 ^ ht f ≤ 2 ^ 3 := Nat.pow_le_pow_right (by decide) h
  omega
/-- all but d stands -/
def ExB (d : Addr) (H H' : Hp) : Prop := ∀ a o, a ≠ d → H a = some o → H' a = some o
theorem ExB.refl {d : Addr} {H : Hp} : ExB d H H := fun _ _ _ h => h
theorem ExB.trans {d : Addr} {H H' H'' : Hp} (a : ExB d H H') (b : ExB d H' H'') : ExB d H H'' := fun x o n h => b x o n (a x o n h)
theorem ExB.of {d : Addr} {H H' : Hp} (e : Ex H H') : ExB d H H' := fun a o _ h => e a o h
theorem ExB.upd {d : Addr} {H : Hp} {o : HO} : ExB d H (upd H d o) := fun a u n h => by rw [upd_ne n]; exact h
theorem ExB.ex {d : Addr} {H H' : Hp} (e : ExB d H H') (h : H d = none) : Ex H H' := fun a o q => e a o (ne_of_none q h) q
theorem ExB.et {K : PySem.W.Frag} {d : Addr} {H H' : Hp} {φ : Heap → Prop} (e : ExB d H H') (h : H d = some (.ext φ)) : Et K H H' := fun a xs hs => by
  rcases hs with (hs | ⟨o', hs⟩) | hs
  · exact .inl (.inl (e _ _ (fun z => by rw [z, h] at hs; cases hs) hs))
  · exact .inl (.inr ⟨o', e _ _ (fun z => by rw [z, h] at hs; cases hs) hs⟩)
  · exact .inr hs
/-- a dict of formulas stands at d -/
structure Dct (K : PySem.W.Frag) (w : World) (d : Addr) (n : Nat) (H : Hp) : Prop where
  ex : ∃ L : List FM, H d = some (DicFO w d L) ∧ AllF K H L ∧ (∀ p ∈ L, ht p.2 ≤ 8) ∧ L.length ≤ n
def spCol (K : PySem.W.Frag) (w : World) (n : Nat) : Sp := fun vs H Q _ => ∃ v d f m, vs = [v, .ref d] ∧ FmH K H f v ∧ ht f ≤ n ∧ ht f ≤ 8 ∧ Dct K w d m H ∧ m + sz f ≤ 60 ∧ ∀ H', ExB d H H' → Dct K w d (m + sz f) H' → Q .non H'
def spSub (K : PySem.W.Frag) : Sp := fun vs H Q _ => ∃ v f, vs = [v] ∧ FmH K H f v ∧ ht f ≤ 3 ∧ ∀ D H' N, H D = none → Ex H H' → H' D = some (.lst (refs N)) → AllF K H' N → N.length ≤ 7 → Q (.ref D) H'
def spVars (K : PySem.W.Frag) : Sp := fun vs H Q _ => ∃ v f, vs = [v] ∧ FmH K H f v ∧ ht f ≤ 3 ∧ ∀ D H' (ns : List Str), H D = none → Ex H H' → H' D = some (.lst (ns.map V.str)) → (∀ x ∈ ns, PyData.strOk x = true) → ns.length ≤ 7 → Q (.ref D) H'
theorem sc_col : FnScope ["a", "found", "part"] ["a", "found"] (defScope (top 10)) := ⟨rfl, rfl, rfl, by decide +kernel, rfl, by decide +kernel, by decide +kernel⟩
theorem sc_sub : FnScope ["a", "found"] ["a"] (defScope (top 11)) := ⟨rfl, rfl, rfl, by decide +kernel, rfl, by decide +kernel, by decide +kernel⟩
theorem sc_vars : FnScope ["a", "b"] ["a"] (defScope (top 12)) := ⟨rfl, rfl, rfl, by decide +kernel, rfl, by decide +kernel, by decide +kernel⟩
section
variable {P : Program} {w : World} {K : PySem.W.Frag} {mg : Str → Option Value} {base : Heap} {gN : Addr}
theorem cal_col (T : TX w K mg) : ∀ n, Cal P w K mg base "collect" (n + 2) (spCol K w n)
  | 0 => cal_of T 4 rfl sc_col (fun vs H Q E h => by obtain ⟨_, _, _, _, rfl, _⟩ := h; rfl) (fun _ _ _ _ _ _ us hl => match us, hl with | [_, _], _ => rfl) fun f cdv A outer s H vs Q E hr h => by
    obtain ⟨v, d, f, m, _, _, h0, _⟩ := h
    have := ht_pos f
    omega
  | n + 1 => by
    have ih := cal_col T n
    refine cal_of T 4 rfl sc_col (fun vs H Q E h => by obtain ⟨_, _, _, _, rfl, _⟩ := h; rfl) (fun _ _ _ _ _ _ us hl => match us, hl with | [_, _], _ => rfl) fun f cdv A outer s H vs Q E hr h =>
      ⟨_, pss_one (ps_if (pt_cmpR (op_notInDF (hu64 hr)) (pv 0) (pv 1) rfl)
        (pss_cons (ps_putF (hu64 hr) (pv 1) (pv 0) pe_bl rfl)
          (pss_one (ps_for (passes_of rfl) rfl (pi_tup (pe_f0 ((cal_parts T).mono (by omega)) hr rfl (pa_cons (pv 0) pa_nil))) (pg_name (i := 2) sc_col.nd rfl (Or.inl rfl)) (pss_one (ps_expr (pe_f0 ih hr rfl (pa_cons (pv 2) (pa_cons (pv 1) pa_nil)))))))) pss_nil), ?_⟩
    obtain ⟨v, d, f, m, rfl, hf, hn, h8, hD, h60, q⟩ := h
    obtain ⟨L, hL, aL, bL, lL⟩ := hD.ex
    obtain ⟨b, rfl⟩ := hf.ref
    refine ⟨_, rfl, _, rfl, f, d, L, hf, h8, rfl, hL, aL, bL, _, rfl, ?_⟩
    by_cases c : f ∈ fms L
    · rw [decide_eq_true c]
      exact iteF (q H ExB.refl ⟨L, hL, aL, bL, by omega⟩)
    · rw [decide_eq_false c]
      refine iteT ⟨_, rfl, _, rfl, d, L, f, b, rfl, rfl, rfl, hf, h8, hL, aL, bL, c, by omega, ?_⟩
      have et1 : Et K H (upd H d (DicFO w d (L ++ [(b, f)]))) := ExB.et ExB.upd hL
      have hf1 := hf.et et1
      refine ⟨_, rfl, .ref b, f, rfl, hf1, fun u H2 Lp e2 hu eL => ?_⟩
      obtain ⟨a, rfl, hs, hLp⟩ := hu
      have hd2 : H2 d = some (DicFO w d (L ++ [(b, f)])) := e2 _ _ upd_same
      have aL2 : AllF K H2 (L ++ [(b, f)]) := fun p hp => by
        rcases List.mem_append.mp hp with hp | hp
        · exact ((aL p hp).et et1).ex e2
        · rw [List.mem_singleton.mp hp]; exact hf1.ex e2
      have bL2 : ∀ p ∈ L ++ [(b, f)], ht p.2 ≤ 8 := fun p hp => by
        rcases List.mem_append.mp hp with hp | hp
        · exact bL p hp
        · rw [List.mem_singleton.mp hp]; exact h8
      have szf := sz_parts f
      show tFor (iTup K (tC (V.ref a))) (gName 2) _ _ _ _
      refine s_forT ev_c hs (fun i σ' H' => (∃ vp, σ' = [some (.ref b), some (.ref d), vp]) ∧ ExB d H2 H' ∧ Dct K w d (m + 1 + szs ((partsF f).take i)) H') (fun H3 e3 => ⟨⟨none, rfl⟩, ExB.of e3, L ++ [(b, f)], e3 _ _ hd2, aL2.ex e3, bL2, by simp; omega⟩)
        (fun i σ' H' hi p => (p.2.1.et hd2) _ _ hs) (fun i x σ' H' hi p => ?_) fun σ' H' p => ?_
      · obtain ⟨⟨vp, rfl⟩, eb, hdc⟩ := p
        rw [List.getElem?_map] at hi
        cases hp : Lp[i]? with
        | none => rw [hp] at hi; cases hi
        | some pr =>
          rw [hp] at hi
          obtain rfl : V.ref pr.1 = x := Option.some.inj hi
          have hpm : pr ∈ Lp := List.mem_of_getElem? hp
          have hpF : pr.2 ∈ partsF f := by rw [← eL]; exact List.mem_map_of_mem hpm
          have hg : (partsF f)[i]? = some pr.2 := by rw [← eL, List.getElem?_map, hp]; rfl
          have hst := szs_take hg
          have hle := szs_le (partsF f) (i + 1)
          refine ⟨_, rfl, _, rfl, .ref pr.1, d, pr.2, m + 1 + szs ((partsF f).take i), rfl, (hLp pr hpm).et (eb.et hd2), by have := parts_ht hpF; omega, by have := parts_ht hpF; omega, hdc, by omega, fun H3 eb3 hd3 => ?_⟩
          refine ⟨⟨some (.ref pr.1), rfl⟩, eb.trans eb3, ?_⟩
          rw [hst, ← Nat.add_assoc]
          exact hd3
      · obtain ⟨_, eb, hdc⟩ := p
        refine q H' ((ExB.upd.trans (ExB.of e2)).trans eb) ?_
        obtain ⟨L', h1, h2, h3, h4⟩ := hdc.ex
        have hle := szs_le (partsF f) (refs Lp).length
        exact ⟨L', h1, h2, h3, by omega⟩
theorem cal_sub (T : TX w K mg) : Cal P w K mg base "subformulas" 11 (spSub K) := by
  refine cal_of T 5 rfl sc_sub (fun vs H Q E h => by obtain ⟨_, _, rfl, _⟩ := h; rfl) (fun _ _ _ _ _ _ us hl => match us, hl with | [_], _ => rfl) fun f cdv A outer s H vs Q E hr h =>
    ⟨_, pss_cons (ps_set (i := 1) sc_sub.nd rfl (Or.inl rfl) pe_dnewF) (pss_cons (ps_expr (pe_f0 (cal_col T 8) hr rfl (pa_cons (pv 0) (pa_cons (pv 1) pa_nil)))) (pss_one (ps_ret (pe_callB (cr_sortedDF rfl (hu64 hr)) rfl (T.free "sorted" (by decide +kernel)) boot_sorted (pa_cons (pv 1) pa_nil))))), ?_⟩
  obtain ⟨v, f, rfl, hf, h3, q⟩ := h
  have h7 := sz7 h3
  refine fun d hd => ⟨_, rfl, _, rfl, v, d, f, 0, rfl, hf.ex (Ex.new hd), by omega, by omega, ⟨[], upd_same, fun _ z => (nomatch z), fun _ z => (nomatch z), Nat.le_refl _⟩, by omega, fun H' eb hdc => ?_⟩
  obtain ⟨L, h1, h2, h3, h4⟩ := hdc.ex
  have e1 : Ex H H' := (ExB.upd.trans eb).ex hd
  refine ⟨_, rfl, d, L, rfl, h1, h2, h3, by omega, fun N p hN lN hp => ?_⟩
  have e2 := Ex.new (o := .lst (refs N)) hp
  exact q p _ N (fresh_back e1 hp) (e1.trans e2) upd_same (fun r hr => (h2 r (hN r hr)).ex e2) (by omega)
theorem cal_vars (T : TX w K mg) : Cal P w K mg base "variables" 12 (spVars K) := by
  refine cal_of T 6 rfl sc_vars (fun vs H Q E h => by obtain ⟨_, _, rfl, _⟩ := h; rfl) (fun _ _ _ _ _ _ us hl => match us, hl with | [_], _ => rfl) fun f cdv A outer s H vs Q E hr h =>
    ⟨_, pss_one (ps_ret (pe_lc (own := [("b", 1)]) (g := gName 1) rfl sc_vars.nd (pi_list (pe_f0 (cal_sub T) hr rfl (pa_cons (pv 0) pa_nil))) (blkOk_by (N := ["a", "b"]) (sc := defScope (top 12)) (by decide +kernel)) (fun _ _ _ _ _ => pg_name (i := 1) sc_vars.nd rfl (Or.inl rfl))
        (fun _ _ _ _ _ => pts_one (pt_cmpR op_eq (pe_ix (r := rIxT K) ix_tup (pv 1) pe_int (fun _ _ => rfl)) pe_str (nomark _))) (fun _ _ _ _ _ => pe_ix (r := rIxT K) ix_tup (pv 1) pe_int (fun _ _ => rfl)))), ?_⟩
  obtain ⟨v, f, rfl, hf, h3, q⟩ := h
  refine ⟨v, rfl, v, f, rfl, hf, h3, fun D H1 N hD e1 hN aN lN => ?_⟩
  show tLc (iList K (tC (V.ref D))) (gName 1) _ _ _ _ _ _
  refine lcR_lst (L := N) ev_c (sq_of hN) (by omega) (fun _ => rfl) (fun p H y => ∃ x : Str, y = .str x ∧ PyData.strOk x = true) (fun _ _ _ _ _ r => r) (fun p => tg p.2 = "var") False (fun p hp H2 e2 Q1 k => ?_) (fun p hp hc H2 e2 Q1 k => ?_) _ fun Z H2 ys hZ e2 hys ly hC _ => ?_
  · exact evc_tagE (ev_var rfl) ((aN p hp).ex e2) "var" H2 (Ex.refl _) _ fun b H3 e3 z => ⟨b, rfl, k b H3 e3 z fun f => f.elim⟩
  · have hv := (aN p hp).ex e2
    have hx : ∃ x, p.2 = .var x := by
      cases hp2 : p.2 with
      | var x => exact ⟨x, rfl⟩
      | _ => rw [hp2] at hc; exact absurd hc (by simp only [tg]; decide +kernel)
    obtain ⟨x, ex⟩ := hx
    rw [ex] at hv
    obtain ⟨a, ea, hs, hok⟩ := hv
    cases ea
    exact ev_ixT (k := 1) rfl hs rfl H2 (Ex.refl _) _ fun H3 e3 => k _ H3 e3 ⟨x, rfl, hok⟩
  · obtain ⟨ns, en, hns⟩ := pick (f := V.str) (L := ys.filterMap fun y => match y with | .str x => some x | _ => none) ys fun y hy => by
      obtain ⟨p, _, _, x, ex, _⟩ := hC y hy
      exact ⟨x, List.mem_filterMap.mpr ⟨y, hy, by rw [ex]⟩, ex⟩
    subst en
    refine q Z H2 ns (fresh_back e1 hZ) (e1.trans e2) hys (fun x hx => ?_) (by simp at ly; omega)
    obtain ⟨p, _, _, x', ex, hok⟩ := hC (.str x) (List.mem_map_of_mem hx)
    cases ex
    exact hok
end
end K33

set_option Elab.async false
set_option linter.all false
set_option maxRecDepth 100000
set_option maxHeartbeats 4000000
/-! {key: val for t0 in i0 for t1 in i1}: the dict comprehension of two clauses, no tests. -/
namespace K33
open PySem PySem.Spec PyProof.Rows L2 Evl
abbrev dc2 (kx vx t0 i0 t1 i1 : Expr) (scope : Scope) (pos : Pos) : Expr := .DictComp kx vx [⟨t0, i0, [], 0⟩, ⟨t1, i1, [], 0⟩] scope pos
section
variable {prog : Program} {w : World} {A : Around} {R : Result → Shared → Prop} {s : Shared} {kx vx t0 i0 t1 i1 : Expr} {scope : Scope} {pos : Pos} {it acc : Value} {env : Env}
theorem dc2_turn0 : compTurn (dc2 kx vx t0 i0 t1 i1 scope pos) 0 it acc env = (do
    standAt i0.pos
    match ← pyNext it with
    | none => pure (.done .next)
    | some v =>
      letOwnedTupleGo t0 it v
      assign t0 env v
      let x ← eval i1 env
      standAt i1.pos
      let x ← foldedSetIterable i1 env x
      let _ ← runOwn (.compStart (dc2 kx vx t0 i0 t1 i1 scope pos) 1 (← holding [x] (pyIter x)) acc env) env
      again (.compLoop (dc2 kx vx t0 i0 t1 i1 scope pos) 0 it acc env)) := by rfl
theorem dc2_turn1 {D : Addr} : compTurn (dc2 kx vx t0 i0 t1 i1 scope pos) 1 it (.ref D) env = (do
    standAt i1.pos
    match ← pyNext it with
    | none => pure (.done .next)
    | some v =>
      letOwnedTupleGo t1 it v
      assign t1 env v
      (do
        let kv ← eval kx env
        let vv ← holding [kv] (eval vx env)
        standAt { kx.pos with endLine := vx.pos.endLine, endCol := vx.pos.endCol }
        holding [kv, vv] (dictSet D kv vv))
      again (.compLoop (dc2 kx vx t0 i0 t1 i1 scope pos) 1 it (.ref D) env)) := by rfl
/-- the outer loop -/
theorem dc2_outer (hf : ∀ x, foldedSetIterable i1 env x = pure x) (J : Nat → Shared → Prop)
    (turn : ∀ n z, J n z → wpAny (model prog w) A (pyNext it) (fun r z1 => match r with
      | none => R (.ok .next) z1
      | some v => wpAny (model prog w) A (letOwnedTupleGo t0 it v) (fun _ z2 => wpAny (model prog w) A (assign t0 env v) (fun _ z3 => wpAny (model prog w) A (eval i1 env) (fun x z4 => wpAny (model prog w) A (pyIter x) (fun y z5 =>
          codeAny (model prog w) A (.compStart (dc2 kx vx t0 i0 t1 i1 scope pos) 1 y acc env) (fun q z6 => match q with
            | .ok _ => ∃ m, m < n ∧ J m z6
            | .error _ => False) z5)
          (notedBy (model prog w) A env fun e z' => R (.error e) z') z4) (notedBy (model prog w) A env fun e z' => R (.error e) z') z3) (notedBy (model prog w) A env fun e z' => R (.error e) z') z2) (notedBy (model prog w) A env fun e z' => R (.error e) z') z1)
      (notedBy (model prog w) A env fun e z' => R (.error e) z') z) (n : Nat) (h : J n s) : codeAny (model prog w) A (.compLoop (dc2 kx vx t0 i0 t1 i1 scope pos) 0 it acc env) R s := by
  refine codeAny_loop rfl J (fun n z hJ => ?_) n h
  show wpAny _ A ((compTurn (dc2 kx vx t0 i0 t1 i1 scope pos) 0 it acc env).onRaise fun x => do noteFrame x env; theTreesLotGoes x) _ _ z
  refine wpAny_noted ?_
  rw [dc2_turn0]
  refine wpAny_bind (wpAny_standAt (wpAny_bind (wpAny_mono (turn n z hJ) (fun r z1 k1 => ?_) fun _ _ y => y)))
  cases r with
  | none => exact wpAny_pure k1
  | some v =>
    refine wpAny_bind (wpAny_mono k1 (fun _ z2 k2 => wpAny_bind (wpAny_mono k2 (fun _ z3 k3 => wpAny_bind (wpAny_mono k3 (fun x z4 k4 => ?_) fun _ _ y => y)) fun _ _ y => y)) fun _ _ y => y)
    refine wpAny_bind (wpAny_standAt (wpAny_bind (wpAny_of_eq (hf x) (wpAny_bind (wpAny_holding (wpAny_mono k4 (fun y z5 k5 => ?_) fun _ _ y => y))))))
    refine wpAny_bind (wpAny_runOwn ?_)
    rw [Around.mark_none]
    refine codeAny_mono k5 fun q z6 k6 => ?_
    cases q with
    | error e => exact k6.elim
    | ok f =>
      first
        | exact wpAny_bind (wpAny_pure (wpAny_pure ⟨rfl, k6⟩))
        | exact wpAny_pure ⟨rfl, k6⟩
/-- the inner one -/
theorem dc2_inner {D : Addr} (J : Nat → Shared → Prop)
    (turn : ∀ n z, J n z → wpAny (model prog w) A (pyNext it) (fun r z1 => match r with
      | none => R (.ok .next) z1
      | some v => wpAny (model prog w) A (letOwnedTupleGo t1 it v) (fun _ z2 => wpAny (model prog w) A (assign t1 env v) (fun _ z3 => wpAny (model prog w) A (eval kx env) (fun kv z4 => wpAny (model prog w) A (eval vx env) (fun vv z5 =>
          wpAny (model prog w) A (dictSet D kv vv) (fun _ z6 => ∃ m, m < n ∧ J m z6) (notedBy (model prog w) A env fun e z' => R (.error e) z') z5)
          (notedBy (model prog w) A env fun e z' => R (.error e) z') z4) (notedBy (model prog w) A env fun e z' => R (.error e) z') z3) (notedBy (model prog w) A env fun e z' => R (.error e) z') z2) (notedBy (model prog w) A env fun e z' => R (.error e) z') z1)
      (notedBy (model prog w) A env fun e z' => R (.error e) z') z) (n : Nat) (h : J n s) : codeAny (model prog w) A (.compLoop (dc2 kx vx t0 i0 t1 i1 scope pos) 1 it (.ref D) env) R s := by
  refine codeAny_loop rfl J (fun n z hJ => ?_) n h
  show wpAny _ A ((compTurn (dc2 kx vx t0 i0 t1 i1 scope pos) 1 it (.ref D) env).onRaise fun x => do noteFrame x env; theTreesLotGoes x) _ _ z
  refine wpAny_noted ?_
  rw [dc2_turn1]
  refine wpAny_bind (wpAny_standAt (wpAny_bind (wpAny_mono (turn n z hJ) (fun r z1 k1 => ?_) fun _ _ y => y)))
  cases r with
  | none => exact wpAny_pure k1
  | some v =>
    refine wpAny_bind (wpAny_mono k1 (fun _ z2 k2 => wpAny_bind (wpAny_mono k2 (fun _ z3 k3 => ?_) fun _ _ y => y)) fun _ _ y => y)
    exact wpAny_bind (wpAny_bind (wpAny_mono k3 (fun kv z4 k4 => wpAny_bind (wpAny_holding (wpAny_mono k4 (fun vv z5 k5 => wpAny_bind (wpAny_standAt (wpAny_holding (wpAny_mono k5 (fun _ z6 k6 => wpAny_pure ⟨rfl, k6⟩) fun _ _ y => y)))) fun _ _ y => y))) fun _ _ y => y))
/-- the inner one's start -/
theorem dc2_start1 {D : Addr} (h0 : codeAny (model prog w) A (.compLoop (dc2 kx vx t0 i0 t1 i1 scope pos) 1 it (.ref D) env) R s)
    (h : wpAny (model prog w) A (pyIter it) (fun y z => codeAny (model prog w) A (.compLoop (dc2 kx vx t0 i0 t1 i1 scope pos) 1 y (.ref D) env) R z) (notedBy (model prog w) A env fun x z => R (.error x) z) s) :
    codeAny (model prog w) A (.compStart (dc2 kx vx t0 i0 t1 i1 scope pos) 1 it (.ref D) env) R s := by
  refine codeAny_of_tree ?_
  show wpAny _ _ ((compStart (dc2 kx vx t0 i0 t1 i1 scope pos) 1 it (.ref D) env).onRaise fun x => do noteFrame x env; standAt theWindowsPlace) _ _ s
  refine wpAny_notedAt ?_
  unfold compStart
  show wpAny _ _ (ask >>= _) _ _ s
  refine wpAny_bind (wpAny_askSetting (wpAny_ite ?_))
  split
  · first
      | exact wpAny_pure ⟨rfl, h0⟩
      | exact wpAny_bind (wpAny_pure (wpAny_pure ⟨rfl, h0⟩))
  · refine wpAny_bind (wpAny_rule ?_)
    first
      | exact wpAny_bind (wpAny_standAt (wpAny_bind (wpAny_mono h (fun y z k => wpAny_pure ⟨rfl, k⟩) fun _ _ x => x)))
      | (show wpAny _ _ (standAt i1.pos >>= _) _ _ s; exact wpAny_bind (wpAny_standAt (wpAny_bind (wpAny_mono h (fun y z k => wpAny_pure ⟨rfl, k⟩) fun _ _ x => x))))
end
section
variable {X : Cx}
/-- behind the first store the second source's loop, from which Nx is reached; vs: the block's names, ws: the second target's -/
def tDc2 (wi : TI) (g : TG) (wj : TI) (gj : TG) (tk tv : TE) (vs ws : List Nat) : TE := fun σ H Q => wi σ H fun J H1 => ∀ D, H1 D = none → ∃ W : Nat → Nat → Hp → Prop, (∃ m, W 0 m (upd H1 D (.dK []))) ∧ ∀ i m H, W i m H →
  (J.stop i H ∧ Q (.ref D) H) ∨ (J.go i H ∧ ∃ Nx : Hp → Prop, (∀ H', Nx H' → ∃ m', m' < m ∧ W (i + 1) m' H') ∧ ∀ x H', J.yld i H x H' → g x (wipe σ vs) H' fun σ2 H2 => wipe σ2 vs = wipe σ vs ∧
    wj σ2 H2 fun J1 H4 => ∃ W1 : Nat → Nat → Hp → Prop, (∃ m, W1 0 m H4) ∧ ∀ j k H, W1 j k H →
      (J1.stop j H ∧ Nx H) ∨ (J1.go j H ∧ ∃ Nx1 : Hp → Prop, (∀ H', Nx1 H' → ∃ k', k' < k ∧ W1 (j + 1) k' H') ∧ ∀ x H', J1.yld j H x H' → gj x (wipe σ2 ws) H' fun σ3 H5 => wipe σ3 ws = wipe σ2 ws ∧
        tk σ3 H5 fun y H6 => tv σ3 H6 fun z H7 => ∃ kvs k, y = kV k ∧ H7 D = some (.dK kvs) ∧ kvs.length < sizeLine ∧ Nx1 (upd H7 D (.dK (putK kvs k z)))))
theorem dc2_core {pins : List (Addr × Obj)} {s : Shared} {σ : L2.St} {H : Hp} {Q : VK} {kx vx t0 i0 t1 i1 : Expr} {scope : Scope} {own : List (Str × Nat)} {ws : List Nat} {pos pos' : Pos} {wi wj : TI} {g gj : TG} {tk tv : TE} {use : Option (Value → Sem Unit)} {Qf : Value → Shared → Prop}
    (calm : X.calm = true) (nd : X.N.Nodup) (I : Inv X pins σ H s) (hi : PI X t0 i0 wi) (ok : BlkOk X.N X.env.scope scope own) (hws : ∀ i ∈ ws, i ∈ own.map (·.2))
    (hg : ∀ (s : Shared) (H : Hp) (C : Addr) (cl : List (Str × Addr)) (fp : List Addr), PG (X.blk s H scope (compEnvC scope cl C X.env) fp) t0 g) (hj : ∀ (s : Shared) (H : Hp) (C : Addr) (cl : List (Str × Addr)) (fp : List Addr), PI (X.blk s H scope (compEnvC scope cl C X.env) fp) t1 i1 wj) (hgj : ∀ (s : Shared) (H : Hp) (C : Addr) (cl : List (Str × Addr)) (fp : List Addr), PG (X.blk s H scope (compEnvC scope cl C X.env) fp) t1 gj) (hk : ∀ (s : Shared) (H : Hp) (C : Addr) (cl : List (Str × Addr)) (fp : List Addr), PE (X.blk s H scope (compEnvC scope cl C X.env) fp) kx tk) (hv : ∀ (s : Shared) (H : Hp) (C : Addr) (cl : List (Str × Addr)) (fp : List Addr), PE (X.blk s H scope (compEnvC scope cl C X.env) fp) vx tv)
    (f0 : ∀ x, foldedSetIterable i0 X.env x = pure x) (f1 : ∀ env x, foldedSetIterable i1 env x = pure x) (h : tDc2 wi g wj gj tk tv (own.map (·.2)) ws σ H Q)
    (post : ∀ D C z m H', Inv X pins σ H' z → Q (.ref D) H' → z.heap.Ns C m → FpOk X pins H' C → compPost (model X.prog X.w) X.A X.xe use Qf (.ref D) C (.ok .next) z) :
    wpAny (model X.prog X.w) X.A (comprehension (dc2 kx vx t0 i0 t1 i1 scope pos) scope X.env pos' newDict false (eval i0 X.env) use) Qf X.xe s := by
  have caps : ∀ y ∈ scope.names, y.2 = .free → ∃ c, X.env.cells.lookup y.1 = some c := fun y hy e => (ok.free y hy e).elim (fun k => I.ok.has _ (.inl k)) fun k => I.ok.has _ (.inr k)
  refine wpAny_comprehension_free (use := use) rfl f0 (closure_ok caps) ok.kind (fun y hy e => by rw [ok.uniq y hy, e]) (thn (hi.run pins s σ H _ I h) fun xv z1 hx => thn hx fun itv z2 hz => ?_)
  obtain ⟨it, fp, tn, J, G, rfl, IG, T, tz, okfp, q⟩ := hz
  refine wpAny_newObj_type (newEnv_comp ?_)
  generalize eD : z2.heap.objs.size = D
  obtain ⟨W, ⟨m0, w0⟩, turn⟩ := q D (IG.hok.fresh (Nat.le_of_eq eD))
  generalize ez : ({ z2 with heap := z2.heap.push { cls := .type "dict", data := .dict #[] } } : Shared) = z3
  have hz3 : z3.heap = z2.heap.push { cls := .type "dict", data := .dict #[] } := by rw [← ez]
  have I3 : Inv X pins σ (upd G D (.dK [])) z3 := by
    rw [← ez]
    refine IG.laid (t' := z2.toks) (fun b o e => Heap.get?_push_of_some _ e) (Nat.le_of_eq eD) ?_
    rw [← eD]; exact dk_empty z2.heap IG.big
  have low : ∀ b ∈ fp, b < z2.heap.objs.size := fun b hb => (T.obj _ _ tz b hb).elim fun o e => Heap.lt_size e.1
  have ok3 : ∀ b ∈ fp, FpOk X pins (upd G D (.dK [])) b ∧ b < z3.heap.objs.size := fun b hb =>
    ⟨⟨by rw [upd_ne (by rw [← eD]; exact Nat.ne_of_lt (low b hb))]; exact (okfp b hb).1, (okfp b hb).2⟩, by rw [hz3, Heap.size_push]; exact Nat.lt_succ_of_lt (low b hb)⟩
  have t3 : tn 0 z3.heap := T.keep _ _ _ tz fun b _ o e => by rw [hz3]; exact Heap.get?_push_of_some _ e
  have I4 := block_start I3 ok nd ok3
  have Pg := hg z3 (upd G D (.dK [])) z3.heap.objs.size (cellsFrom (z3.heap.objs.size + 1) scope.names (cloFrom X.env.cells scope.names [])) fp
  have Pj := hj z3 (upd G D (.dK [])) z3.heap.objs.size (cellsFrom (z3.heap.objs.size + 1) scope.names (cloFrom X.env.cells scope.names [])) fp
  have Pgj := hgj z3 (upd G D (.dK [])) z3.heap.objs.size (cellsFrom (z3.heap.objs.size + 1) scope.names (cloFrom X.env.cells scope.names [])) fp
  have Pk := hk z3 (upd G D (.dK [])) z3.heap.objs.size (cellsFrom (z3.heap.objs.size + 1) scope.names (cloFrom X.env.cells scope.names [])) fp
  have Pv := hv z3 (upd G D (.dK [])) z3.heap.objs.size (cellsFrom (z3.heap.objs.size + 1) scope.names (cloFrom X.env.cells scope.names [])) fp
  show codeAny _ _ (.compStart (dc2 kx vx t0 i0 t1 i1 scope pos) 0 (.ref it) (.ref D) (compEnvC scope (cellsFrom (z3.heap.objs.size + 1) scope.names (cloFrom X.env.cells scope.names [])) z3.heap.objs.size X.env))
    (compPost (model X.prog X.w) X.A X.xe use Qf (.ref D) z3.heap.objs.size) { z3 with heap := pushCells (z3.heap.push { cls := .type "dict", data := .dict #[] }) scope.names }
  have free3 : ∀ b ∈ fp, (upd G D (.dK [])) b = none := fun b hb => (ok3 b hb).1.1
  generalize eE : compEnvC scope (cellsFrom (z3.heap.objs.size + 1) scope.names (cloFrom X.env.cells scope.names [])) z3.heap.objs.size X.env = ev at I4 Pg Pj Pgj Pk Pv ⊢
  have evL : ev.locals = z3.heap.objs.size := by subst eE; rfl
  generalize eH3 : upd G D (.dK []) = H3 at I3 I4 Pg Pj Pgj Pk Pv w0 free3 ok3
  generalize e4 : ({ z3 with heap := pushCells (z3.heap.push { cls := .type "dict", data := .dict #[] }) scope.names } : Shared) = z4 at I4 ⊢
  have t4 : tn 0 z4.heap := T.keep _ _ _ t3 fun b _ o e => by rw [← e4]; exact pushCells_keeps _ _ _ _ (Heap.get?_push_of_some _ e)
  have still : ∀ {σ' : L2.St} {H' : Hp} {z' : Shared}, Inv (X.blk z3 H3 scope ev fp) [] σ' H' z' → (∀ b ∈ fp, H' b = none) → ∀ b ∈ fp, FpOk (X.blk z3 H3 scope ev fp) [] H' b := fun {σ' H' z'} I' no b hb =>
    ⟨no b hb, (I'.ok.exf b hb).1, I'.ok.exfs b hb, .inl hb, fun x c e => (I'.ok.exf b hb).2 x c e, fun p hp => absurd (show p ∈ ([] : List (Addr × Obj)) ++ [] from hp) (by simp)⟩
  have run0 : codeAny (model X.prog X.w) X.A (.compLoop (dc2 kx vx t0 i0 t1 i1 scope pos) 0 (.ref it) (.ref D) ev) (compPost (model X.prog X.w) X.A X.xe use Qf (.ref D) z3.heap.objs.size) z4 := by
    refine dc2_outer (f1 ev) (fun n z => ∃ i H', Inv (X.blk z3 H3 scope ev fp) [] (wipe σ (own.map (·.2))) H' z ∧ tn i z.heap ∧ (∀ b ∈ fp, H' b = none) ∧ W i n H') ?_ m0 ⟨0, H3, I4, t4, free3, w0⟩
    rintro n z5 ⟨i, H5, I5, t5, no5, w5⟩
    rcases turn i n H5 w5 with ⟨stop, qq⟩ | ⟨go, Nx, hNx, step⟩
    · refine thnF (T.done (X.blk z3 H3 scope ev fp) rfl rfl rfl calm i [] z5 _ H5 (fun _ _ => False) I5 (still I5 no5) t5 stop) fun r z6 ⟨hr, I6⟩ => ?_
      subst hr
      have back : Inv X pins σ H5 z6 := I3.call' (ch := fp) I6.os I6.base I6.hok I6.bare fun b hb => ⟨(ok3 b hb).1.2.2.2.1, (ok3 b hb).1.2.1, (ok3 b hb).1.2.2.2.2.1, (ok3 b hb).1.2.2.2.2.2⟩
      have bare : H5 z3.heap.objs.size = none := evL ▸ (show H5 ev.locals = none from I6.free)
      obtain ⟨m, ns6, _⟩ := I6.loc
      have ns6' : z6.heap.Ns z3.heap.objs.size m := evL ▸ (show z6.heap.Ns ev.locals m from ns6)
      exact post D z3.heap.objs.size z6 m H5 back qq ns6' (I3.fpOk (Nat.le_refl _) bare)
    · refine thnF (T.item (X.blk z3 H3 scope ev fp) rfl rfl rfl calm i [] z5 _ H5 (fun _ _ => False) I5 (still I5 no5) t5 go) fun r z6 ⟨u, hr, k6⟩ => ?_
      subst hr
      refine thnF k6 fun _ z7 ⟨x, H7, I7, r7, y7, t7, no7⟩ => ?_
      refine thnF (Pg.run _ z7 _ H7 x u _ (I7.pinned (still I7 no7) (T.obj _ _ t7)) r7 (step x H7 y7)) fun _ z8 ⟨σ8, H8, I8, hw8, q8⟩ => ?_
      have len8 : (wipe σ (own.map (·.2))).length = σ8.length := by rw [← hw8, wipe_length]
      have know : ∀ (j : Nat) v, (wipe σ (own.map (·.2)))[j]? = some (some v) → (wipe σ8 ws)[j]? = some (some v) := fun j v e => by
        obtain ⟨e1, e2⟩ := wipe_some (hw8.symm ▸ e : (wipe σ8 (own.map (·.2)))[j]? = some (some v))
        rw [wipe_out fun y => e2 (hws j y)]; exact e1
      refine thnF (Pj.run _ z8 σ8 H8 _ I8 q8) fun xv z10 hx => thnF hx fun itv z11 k11 => ?_
      obtain ⟨jt, fq, tm, J1, G1, rfl, IG1, T1, tz1, okfq, W1, ⟨m1, w1⟩, turn1⟩ := k11
      have still1 : ∀ {H' : Hp}, (∀ b ∈ fq, H' b = none) → ∀ b ∈ fq, FpOk (X.blk z3 H3 scope ev fp) ([] ++ pinsAt fp z7.heap) H' b := fun no b hb => ⟨no b hb, (okfq b hb).2⟩
      have run1 : codeAny (model X.prog X.w) X.A (.compLoop (dc2 kx vx t0 i0 t1 i1 scope pos) 1 (.ref jt) (.ref D) ev) (fun q z => match q with
          | .ok _ => ∃ m, m < n ∧ ∃ i H', Inv (X.blk z3 H3 scope ev fp) [] (wipe σ (own.map (·.2))) H' z ∧ tn i z.heap ∧ (∀ b ∈ fp, H' b = none) ∧ W i m H'
          | .error _ => False) z11 := by
        refine dc2_inner (fun k z => ∃ j H', Inv (X.blk z3 H3 scope ev fp) ([] ++ pinsAt fp z7.heap) (wipe σ8 ws) H' z ∧ tm j z.heap ∧ (∀ b ∈ fq, H' b = none) ∧ W1 j k H') ?_ m1 ⟨0, G1, IG1.weak (wipe_length _ _) (fun j v e => (wipe_some e).1), tz1, fun b hb => (okfq b hb).1, w1⟩
        rintro k z12 ⟨j, H12, I12, t12, no12, w12⟩
        rcases turn1 j k H12 w12 with ⟨stop1, nx⟩ | ⟨go1, Nx1, hNx1, step1⟩
        · refine thnF (T1.done (X.blk z3 H3 scope ev fp) rfl rfl rfl calm j _ z12 (wipe σ8 ws) H12 (fun _ _ => False) I12 (still1 no12) t12 stop1) fun r z13 ⟨hr, I13⟩ => ?_
          subst hr
          obtain ⟨m', hm, w'⟩ := hNx H12 nx
          have pinned : ∀ b ∈ fp, ∀ o, z7.heap.get? b = some o → z13.heap.get? b = some o ∧ H12 b = none := fun b hb o e =>
            let y := I13.pin (b, o) (List.mem_append_right _ (List.mem_append_right _ (mem_pinsAt hb e)))
            ⟨y.1, y.2.1⟩
          exact ⟨m', hm, i + 1, H12, (I13.unpinned (pins := [])).weak (len8.trans (wipe_length σ8 ws).symm) know, T.keep _ _ _ t7 fun b hb o e => (pinned b hb o e).1, fun b hb => (T.obj _ _ t7 b hb).elim fun o e => (pinned b hb o e.1).2, w'⟩
        · refine thnF (T1.item (X.blk z3 H3 scope ev fp) rfl rfl rfl calm j _ z12 (wipe σ8 ws) H12 (fun _ _ => False) I12 (still1 no12) t12 go1) fun r z13 ⟨u1, hr, k13⟩ => ?_
          subst hr
          refine thnF k13 fun _ z14 ⟨x1, H14, I14, r14, y14, t14, no14⟩ => ?_
          refine thnF (Pgj.run _ z14 (wipe σ8 ws) H14 x1 u1 _ (I14.pinned (still1 no14) (T1.obj _ _ t14)) r14 (step1 x1 H14 y14)) fun _ z15 ⟨σ15, H15, I15, hw15, q15⟩ => ?_
          refine thnF (Pk.run _ z15 σ15 H15 _ I15 q15) fun kv z16 ⟨yk, H16, I16, r16, q16⟩ => ?_
          refine thnF (Pv.run _ z16 σ15 H16 _ I16 q16) fun vv z17 ⟨yv, H17, I17, r17, kvs, key, ek, at17, few, nx⟩ => ?_
          subst ek
          refine d_dictSet (X := X.blk z3 H3 scope ev fp) I17 at17 few r16 r17 fun z18 I18 => ?_
          obtain ⟨m', hm, w'⟩ := hNx1 _ nx
          have pinned : ∀ b ∈ fq, ∀ o, z14.heap.get? b = some o → z18.heap.get? b = some o ∧ (upd H17 D (.dK (putK kvs key yv))) b = none := fun b hb o e =>
            let y := I18.pin (b, o) (List.mem_append_right _ (List.mem_append_right _ (mem_pinsAt hb e)))
            ⟨y.1, y.2.1⟩
          exact ⟨m', hm, j + 1, _, I18.unpinned.weak (by rw [← hw15, wipe_length]) (fun j v e => by rw [← hw15] at e; exact (wipe_some e).1), T1.keep _ _ _ t14 fun b hb o e => (pinned b hb o e).1, fun b hb => (T1.obj _ _ t14 b hb).elim fun o e => (pinned b hb o e.1).2, w'⟩
      exact dc2_start1 run1 (T1.self X.A 0 _ _ _ tz1 run1)
  exact codeAny_compStart_dict run0 (T.self X.A 0 _ _ _ t4 run0)
theorem sw_dict {kx vx : Expr} {gs : List Comprehension} {scope : Scope} {pos py : Pos} {y : Str} {l : Nat} {env : Env} (hk : env.scope.kind = .function) (hy : env.scope.names.lookup y = some .local) (hl : (py.line == pos.line) = true)
    (hn : (scope.names.any fun (n, k) => n == y && (k == .local || k == .cell)) = false) : swapsWith (.DictComp kx vx gs scope pos) (some (.Name y py)) l env = pure true := by
  have ky : env.kindOf y = some .local := hy
  have kb : env.blockKind = .function := by unfold Env.blockKind; rw [hk]; rfl
  unfold swapsWith
  simp only [kb, ky, hn, Expr.pos, hl]
  rfl
/-- y = {..}, y a local, on one line -/
theorem ps_setDc2 {i : Nat} {y : Str} {py : Pos} {kx vx t0 i0 t1 i1 : Expr} {scope : Scope} {own : List (Str × Nat)} {ws : List Nat} {pos spos : Pos} {wi wj : TI} {g gj : TG} {tk tv : TE} (calm : X.calm = true) (nd : X.N.Nodup) (hy : X.N[i]? = some y) (hyl : X.env.scope.names.lookup y = some .local)
    (hsw : swapsWith (dc2 kx vx t0 i0 t1 i1 scope pos) (some (.Name y py)) spos.line X.env = pure true) (hi : PI X t0 i0 wi) (ok : BlkOk X.N X.env.scope scope own) (hws : ∀ i ∈ ws, i ∈ own.map (·.2))
    (hg : ∀ (s : Shared) (H : Hp) (C : Addr) (cl : List (Str × Addr)) (fp : List Addr), PG (X.blk s H scope (compEnvC scope cl C X.env) fp) t0 g) (hj : ∀ (s : Shared) (H : Hp) (C : Addr) (cl : List (Str × Addr)) (fp : List Addr), PI (X.blk s H scope (compEnvC scope cl C X.env) fp) t1 i1 wj) (hgj : ∀ (s : Shared) (H : Hp) (C : Addr) (cl : List (Str × Addr)) (fp : List Addr), PG (X.blk s H scope (compEnvC scope cl C X.env) fp) t1 gj) (hk : ∀ (s : Shared) (H : Hp) (C : Addr) (cl : List (Str × Addr)) (fp : List Addr), PE (X.blk s H scope (compEnvC scope cl C X.env) fp) kx tk) (hv : ∀ (s : Shared) (H : Hp) (C : Addr) (cl : List (Str × Addr)) (fp : List Addr), PE (X.blk s H scope (compEnvC scope cl C X.env) fp) vx tv)
    (f0 : ∀ x, foldedSetIterable i0 X.env x = pure x := by intro _; rfl) (f1 : ∀ env x, foldedSetIterable i1 env x = pure x := by intro _ _; rfl) :
    PS X (.Assign [.Name y py] (dc2 kx vx t0 i0 t1 i1 scope pos) spos) (tAsg (tDc2 wi g wj gj tk tv (own.map (·.2)) ws) (gName i)) := by
  refine ⟨fun pins s σ H D I h => ?_⟩
  rw [exec_Assign_Name_used _ _ _ _ hsw]
  refine wpAny_bind (wpAny_standAt (wpAny_bind ?_))
  show wpAny _ X.A (do let _ ← comprehension (dc2 kx vx t0 i0 t1 i1 scope pos) scope X.env (firstIterPos [⟨t0, i0, [], 0⟩, ⟨t1, i1, [], 0⟩] pos) newDict false (eval i0 X.env) (some (assign (.Name y py) X.env))) _ _ s
  have h : tDc2 wi g wj gj tk tv (own.map (·.2)) ws σ H (fun x H1 => gName i x σ H1 D.nx) := h
  refine wpAny_bind (thn (dc2_core (Qf := fun _ z => SP X pins D .next z) calm nd I hi ok hws hg hj hgj hk hv f0 f1 h fun L C z m H' I' q ns f => ?_) fun _ z hq => wpAny_pure (wpAny_pure hq))
  show wpAny _ _ (assign (.Name y py) X.env (.ref L)) _ _ _
  refine wpAny_assign_Name (store_ok2 (v := V.ref L) I' nd hy (.inl hyl) rfl (fun z2 I2 ⟨a, sb, ha⟩ => ?_) (.inr hyl))
  obtain ⟨g0, g1, g2, g3, g4, g5⟩ := f
  have apart : C ≠ a := ha.elim (fun k => by rw [k]; exact g1) fun k e => g4 y a k e.symm
  exact ⟨m, ns.sameBut sb apart, fun h3 sb3 => ⟨_, H', I2.turned (t' := z2.toks) (fun b o hb e => (sb3.2 b hb).trans e) g0 g1 g3 g4 g5, q⟩⟩
end
end K33

set_option Elab.async false
set_option linter.all false
set_option maxRecDepth 100000
set_option maxHeartbeats 4000000
namespace K33
open PySem PySem.Spec PyProof.Rows L2 Evl
abbrev nsN : List Str := ["left", "right", "names", "a", "name"]
theorem sc_mid : FnScope nsN ["left", "right"] (defScope (top 40)) := ⟨rfl, rfl, rfl, by decide +kernel, rfl, by decide +kernel, by decide +kernel⟩
def spMid (K : PySem.W.Frag) : Sp := fun vs H Q _ => ∃ lv rv L R, vs = [lv, rv] ∧ SideV K H lv L ∧ SideV K H rv R ∧ L.length ≤ 3 ∧ R.length ≤ 3 ∧ (∀ p ∈ L, ht p.2 ≤ 3) ∧ (∀ p ∈ R, ht p.2 ≤ 3) ∧
  ∀ u H' N, Ex H H' → SideV K H' u N → (∀ p ∈ N, IsMid p.2 ∧ ht p.2 ≤ 3) → N.length ≤ 42 → Q u H'
theorem mem_putK {kvs : List (Key × V)} {k : Key} {v : V} {p : Key × V} (h : p ∈ putK kvs k v) : p.1 = k ∨ ∃ q ∈ kvs, q.1 = p.1 := by
  unfold putK at h
  split at h
  · obtain ⟨q, hq, e⟩ := List.mem_map.mp h
    by_cases c : q.1 = k
    · left; rw [← e]; simp [c]
    · right; exact ⟨q, hq, by rw [← e]; simp [c]⟩
  · rcases List.mem_append.mp h with h | h
    · exact .inr ⟨p, h, rfl⟩
    · left; rw [List.mem_singleton.mp h]
/-- a dict of names -/
def Nms (kvs : List (Key × V)) : Prop := ∀ p ∈ kvs, ∃ x : Str, p.1 = .inr x ∧ PyData.strOk x = true
theorem Nms.put {kvs : List (Key × V)} {x : Str} {v : V} (h : Nms kvs) (hx : PyData.strOk x = true) : Nms (putK kvs (.inr x) v) := fun p hp => by
  rcases mem_putK hp with e | ⟨q, hq, e⟩
  · exact ⟨x, e, hx⟩
  · obtain ⟨y, e1, e2⟩ := h q hq
    exact ⟨y, by rw [← e, e1], e2⟩
theorem et_frz {K : PySem.W.Frag} {H : Hp} {d : Addr} {od : Obj} {kvs : List (Key × V)} {o : HO} (h : H d = some (.frz od (.dK kvs))) : Et K H (upd H d o) := fun a xs hs => by
  rcases hs with (hs | ⟨o', hs⟩) | hs
  · have : a ≠ d := fun e => by rw [e, h] at hs; cases hs
    exact .inl (.inl (by rw [upd_ne this]; exact hs))
  · have : a ≠ d := fun e => by rw [e, h] at hs; cases hs
    exact .inl (.inr ⟨o', by rw [upd_ne this]; exact hs⟩)
  · exact .inr hs
section
variable {P : Program} {w : World} {K : PySem.W.Frag} {mg : Str → Option Value} {base : Heap} {gN : Addr}
theorem cal_mid (T : TX w K mg) : Cal P w K mg base "middles" 14 (spMid K) := by
  refine cal_of T 27 rfl sc_mid (fun vs H Q E h => by obtain ⟨_, _, _, _, rfl, _⟩ := h; rfl) (fun _ _ _ _ _ _ us hl => match us, hl with | [_, _], _ => rfl) fun f cdv A outer s H vs Q E hr h =>
    ⟨_, pss_cons (ps_setDc2 (i := 2) (own := [("a", 3), ("name", 4)]) (ws := [4]) (wj := iList K (tCal (spVars K) (fun _ => E0) (tCons (tVar 3) tNil))) (g := gName 3) (gj := gName 4) rfl sc_mid.nd rfl rfl (sw_dict rfl rfl rfl (by decide +kernel)) (pi_tup (pe_op op_catA (pv 0) (pv 1))) (blkOk_by (N := nsN) (sc := defScope (top 40)) (by decide +kernel)) (by decide)
        (fun _ _ _ _ _ => pg_name (i := 3) sc_mid.nd rfl (Or.inl rfl)) (fun _ _ _ _ _ => pi_list (pe_f0 ((cal_vars T).mono (by decide)) hr rfl (pa_cons (pv 3) pa_nil))) (fun _ _ _ _ _ => pg_name (i := 4) sc_mid.nd rfl (Or.inl rfl)) (fun _ _ _ _ _ => pv 4) (fun _ _ _ _ _ => pe_bl))
      (pss_one (ps_ret (pe_callTy call_tuple_of rfl (T.free "tuple" (by decide +kernel)) boot_tuple (pa_cons (pe_lock (pe_lc (own := [("name", 4)]) (g := gName 4) (tt := tYes) rfl sc_mid.nd (pi_keys (pv 2)) (blkOk_by (N := nsN) (sc := defScope (top 40)) (by decide +kernel))
        (fun _ _ _ _ _ => pg_name (i := 4) sc_mid.nd rfl (Or.inl rfl)) (fun _ _ _ _ _ => pts_nil)
        (fun _ _ _ _ _ => pe_tup (pa_cons pe_str (pa_cons (pe_tup (pa_cons pe_str (pa_cons (pv 4) pa_nil))) (pa_cons (pe_f0 ((cal_neg T).mono (by decide)) hr rfl (pa_cons (pe_tup (pa_cons pe_str (pa_cons (pv 4) pa_nil))) pa_nil)) pa_nil)))))) pa_nil)))), ?_⟩
  obtain ⟨lv, rv, L, R, rfl, ⟨aL, rfl, hL, fL⟩, ⟨aR, rfl, hR, fR⟩, lL, lR, bL, bR, q⟩ := h
  refine q_as ?_
  -- left + right
  have sides : ∀ (Q0 : VK), (∀ d kvs H2, H d = none → Ex H H2 → H2 d = some (.dK kvs) → Nms kvs → kvs.length ≤ 42 → Q0 (.ref d) H2) → ∀ c H1, Ex H H1 → SqT K H1 c (refs (L ++ R)) → tDc2 (iTup K (tC (.ref c))) (gName 3) (iList K (tCal (spVars K) (fun _ => E0) (tCons (tVar 3) tNil))) (gName 4) (tVar 4) (tC (.bl true)) [3, 4] [4] (start nsN [.ref aL, .ref aR]) H1 Q0 := by
    intro Q0 k0 c H1 e1 hc
    refine ⟨c, rfl, ⟨_, hc⟩, fun D hD => ?_⟩
    have hlen : (refs (L ++ R)).length ≤ 6 := by simp only [refs, List.length_map, List.length_append]; omega
    refine ⟨fun i m H' => m = (refs (L ++ R)).length - i ∧ i ≤ (refs (L ++ R)).length ∧ Ex H1 H' ∧ ∃ kvs, H' D = some (.dK kvs) ∧ Nms kvs ∧ kvs.length ≤ 7 * i, ⟨_, rfl, Nat.zero_le _, Ex.new hD, [], upd_same, (fun _ z => nomatch z), Nat.le_refl _⟩, ?_⟩
    rintro i m H2 ⟨rfl, hi, e2, kvs, hk, nk, lk⟩
    by_cases hlt : i < (refs (L ++ R)).length
    · refine .inr ⟨⟨_, (refs (L ++ R))[i], ex_t e2 hc, by simp [hlt]⟩, fun H' => Ex H1 H' ∧ ∃ kvs, H' D = some (.dK kvs) ∧ Nms kvs ∧ kvs.length ≤ 7 * (i + 1), fun H' p => ⟨_, by omega, rfl, hlt, p⟩, fun x H' y => ?_⟩
      obtain ⟨rfl, y⟩ := y
      have ex := y _ (ex_t e2 hc)
      rw [List.getElem?_map] at ex
      cases hp : (L ++ R)[i]? with
      | none => rw [hp] at ex; cases ex
      | some pr =>
        rw [hp] at ex
        obtain rfl : V.ref pr.1 = x := Option.some.inj ex
        have hpm : pr ∈ L ++ R := List.mem_of_getElem? hp
        have e02 := e1.trans e2
        have hpr : FmH K H' pr.2 (.ref pr.1) ∧ ht pr.2 ≤ 3 := by
          rcases List.mem_append.mp hpm with h | h
          · exact ⟨(fL pr h).ex e02, bL pr h⟩
          · exact ⟨(fR pr h).ex e02, bR pr h⟩
        refine ⟨rfl, _, rfl, .ref pr.1, pr.2, rfl, hpr.1, hpr.2, fun Z H4 ns hZ e4 hZ4 okn ln => ?_⟩
        refine ⟨Z, rfl, ⟨_, sq_of hZ4⟩, ?_⟩
        refine ⟨fun j k H5 => k = (ns.map V.str).length - j ∧ j ≤ (ns.map V.str).length ∧ Ex H1 H5 ∧ H5 Z = some (.lst (ns.map V.str)) ∧ ∃ kvs, H5 D = some (.dK kvs) ∧ Nms kvs ∧ kvs.length ≤ 7 * i + j, ⟨_, rfl, Nat.zero_le _, e2.trans e4, hZ4, kvs, e4 _ _ hk, nk, lk⟩, ?_⟩
        rintro j k H5 ⟨rfl, hj, e5, hZ5, kv5, hk5, nk5, lk5⟩
        rw [List.length_map] at hj
        by_cases hlt2 : j < ns.length
        · refine .inr ⟨⟨_, (ns.map V.str)[j]'(by simpa using hlt2), sq_of hZ5, by simp [hlt2]⟩, fun H' => Ex H1 H' ∧ H' Z = some (.lst (ns.map V.str)) ∧ ∃ kvs, H' D = some (.dK kvs) ∧ Nms kvs ∧ kvs.length ≤ 7 * i + (j + 1), fun H' p => ⟨_, by rw [List.length_map]; omega, rfl, by rw [List.length_map]; exact hlt2, p⟩, fun x H' y => ?_⟩
          obtain ⟨rfl, y⟩ := y
          have ex := y _ (sq_of hZ5)
          rw [List.getElem?_map, List.getElem?_eq_getElem hlt2] at ex
          obtain rfl : V.str ns[j] = x := Option.some.inj ex
          have hne : Z ≠ D := fun e => by rw [e, hk5] at hZ5; cases hZ5
          have hlk := length_putK kv5 (Sum.inr ns[j]) (V.bl true)
          refine ⟨rfl, _, rfl, kv5, .inr ns[j], rfl, hk5, sz_lt (by omega), Ex.mut e5 hD, by rw [upd_ne hne]; exact hZ5, _, upd_same, nk5.put (okn _ (List.getElem_mem _)), by omega⟩
        · obtain rfl : j = ns.length := by omega
          exact .inl ⟨⟨_, sq_of hZ5, by simp⟩, e5, kv5, hk5, nk5, by omega⟩
    · obtain rfl : i = (refs (L ++ R)).length := by omega
      exact .inl ⟨⟨_, ex_t e2 hc, Nat.le_refl _⟩, k0 D kvs H2 (fresh_back e1 hD) (e1.trans e2) hk nk (by omega)⟩
  -- the rest
  have rest : ∀ d kvs H2, H d = none → Ex H H2 → H2 d = some (.dK kvs) → Nms kvs → kvs.length ≤ 42 → (tLockE (tLc (iKeys (tVar 2)) (gName 4) tYes (tTup (tCons (tC (.str "or")) (tCons (tTup (tCons (tC (.str "var")) (tCons (tVar 4) tNil))) (tCons (tCal (spNeg K) (fun _ => E0) (tCons (tTup (tCons (tC (.str "var")) (tCons (tVar 4) tNil))) tNil)) tNil)))) [4]))
      ((start nsN [.ref aL, .ref aR]).set 2 (some (.ref d))) H2 (fun x H3 => ∃ p ys, [x] = [.ref p] ∧ ((SqL K H3 p ys ∧ ∀ l, H3 l = none → Q (.ref l) (upd H3 l (.tup ys))) ∨ (SqT K H3 p ys ∧ Q (.ref p) H3))) := by
    intro d kvs H2 hd e2 hk nk lk
    refine ⟨d, _, hk, trivial, fun od => ⟨_, rfl, d, od, rfl, .inl ⟨kvs, upd_same, fun D hD => ?_⟩⟩⟩
    have hne : d ≠ D := fun e => by rw [← e, upd_same] at hD; cases hD
    have hD2 : H2 D = none := by rw [← upd_ne (H := H2) (o := .frz od (.dK kvs)) (Ne.symm hne)]; exact hD
    have eF : Ex H (upd H2 d (.frz od (.dK kvs))) := Ex.mut e2 hd
    refine ⟨fun i m H' => m = kvs.length - i ∧ i ≤ kvs.length ∧ Ex (upd H2 d (.frz od (.dK kvs))) H' ∧ ∃ N : List FM, H' D = some (.lst (refs N)) ∧ AllF K H' N ∧ (∀ p ∈ N, IsMid p.2 ∧ ht p.2 ≤ 3) ∧ N.length = i,
      ⟨_, rfl, Nat.zero_le _, Ex.new hD, [], upd_same, (fun _ z => nomatch z), (fun _ z => nomatch z), rfl⟩, ?_⟩
    rintro i m H3 ⟨rfl, hi, e3, N, hN, aN, pN, lN⟩
    have frz := e3 _ _ upd_same
    by_cases hlt : i < kvs.length
    · refine .inr ⟨⟨frz, hlt⟩, fun H' => Ex (upd H2 d (.frz od (.dK kvs))) H' ∧ ∃ N : List FM, H' D = some (.lst (refs N)) ∧ AllF K H' N ∧ (∀ p ∈ N, IsMid p.2 ∧ ht p.2 ≤ 3) ∧ N.length = i + 1, fun H' p => ⟨_, by omega, rfl, hlt, p⟩, fun x H' y => ?_⟩
      obtain ⟨rfl, k, v, ek, rfl⟩ := y
      obtain ⟨x, ex, okx⟩ := nk _ (List.mem_of_getElem? ek)
      have ex : k = .inr x := ex
      subst ex
      refine ⟨rfl, ?_⟩
      refine yes_go ?_
      refine ⟨_, rfl, sz_of (by simp), fun p hp => ⟨_, rfl, sz_of (by simp), fun p2 hp2 => ?_⟩⟩
      have e4 := Ex.new (o := .tup [.str "var", .str x]) hp
      have e5 := Ex.new (o := .tup [.str "var", .str x]) hp2
      have v2 : FmH K (upd (upd H' p (.tup [.str "var", .str x])) p2 (.tup [.str "var", .str x])) (.var x) (.ref p2) := ⟨p2, rfl, st_of upd_same, okx⟩
      refine ⟨.ref p2, .var x, rfl, v2, fun u H6 e6 hu => ⟨sz_of (by simp), fun r hr => ?_⟩⟩
      have e7 := Ex.new (o := .tup [.str "or", .ref p, u]) hr
      have eA := ((e4.trans e5).trans e6).trans e7
      have hD7 := eA _ _ hN
      have et := et_lst (K := K) (o := .lst (refs N ++ [V.ref r])) hD7
      have v1 : FmH K (upd H6 r (.tup [.str "or", .ref p, u])) (.var x) (.ref p) := ⟨p, rfl, st_of (e7 _ _ (e6 _ _ (e5 _ _ upd_same))), okx⟩
      have vr : FmH K (upd H6 r (.tup [.str "or", .ref p, u])) (.or (.var x) (.imp (.var x) .fls)) (.ref r) := ⟨r, .ref p, u, rfl, st_of upd_same, v1, hu.ex e7⟩
      refine ⟨refs N, hD7, sz_lt (by simp only [refs, List.length_map]; omega), Ex.mut (e3.trans eA) hD, N ++ [(r, .or (.var x) (.imp (.var x) .fls))], ?_, fun z hz => ?_, fun z hz => ?_, by rw [List.length_append, lN]; rfl⟩
      · rw [show refs (N ++ [(r, Fm.or (.var x) (.imp (.var x) .fls))]) = refs N ++ [V.ref r] by simp [refs]]; exact upd_same
      · rcases List.mem_append.mp hz with hz | hz
        · exact ((aN z hz).ex eA).et et
        · rw [List.mem_singleton.mp hz]; exact vr.et et
      · rcases List.mem_append.mp hz with hz | hz
        · exact pN z hz
        · rw [List.mem_singleton.mp hz]; exact ⟨⟨x, rfl⟩, by simp [ht]⟩
    · obtain rfl : i = kvs.length := by omega
      refine .inl ⟨⟨frz, Nat.le_refl _⟩, frz, D, refs N, rfl, .inl ⟨sq_of (by rw [upd_ne (Ne.symm hne)]; exact hN), fun l hl => ?_⟩⟩
      have et := et_frz (K := K) (o := .dK kvs) frz
      have eE : Ex H (upd H3 d (.dK kvs)) := Ex.mut (eF.trans e3) hd
      have eL := Ex.new (o := .tup (refs N)) hl
      exact q _ _ N (eE.trans eL) ⟨l, rfl, st_of upd_same, fun z hz => ((aN z hz).et et).ex eL⟩ pN (by omega)
  have start2 : ∀ (Q0 : VK), (∀ d kvs H2, H d = none → Ex H H2 → H2 d = some (.dK kvs) → Nms kvs → kvs.length ≤ 42 → Q0 (.ref d) H2) → tDc2 (iTup K (tOp (rCatA K) (tVar 0) (tVar 1))) (gName 3) (iList K (tCal (spVars K) (fun _ => E0) (tCons (tVar 3) tNil))) (gName 4) (tVar 4) (tC (.bl true)) [3, 4] [4] (start nsN [.ref aL, .ref aR]) H Q0 := by
    intro Q0 k0
    have fin := sides Q0 k0
    refine ⟨_, rfl, _, rfl, aL, aR, refs L, refs R, rfl, rfl, hL, hR, sz_of (by simp only [refs, List.length_map]; omega), fun e0 => ?_, fun _ e0 => ?_, fun _ _ p hp => ?_⟩
    · have : L = [] := by simpa [refs] using e0
      subst this
      exact fin aR H (Ex.refl H) hR
    · have : R = [] := by simpa [refs] using e0
      subst this
      refine fin aL H (Ex.refl H) ?_
      rw [List.append_nil]; exact hL
    · refine fin p _ (Ex.new hp) ?_
      rw [show refs (L ++ R) = refs L ++ refs R by simp [refs]]
      exact st_of upd_same
  refine start2 _ fun d kvs H2 hd e2 hk nk lk => ?_
  exact rest d kvs H2 hd e2 hk nk lk
end
end K33

set_option Elab.async false
set_option linter.all false
set_option maxRecDepth 100000
set_option maxHeartbeats 4000000
namespace K33
open PySem PySem.Spec PyProof.Rows L2 Evl
abbrev nsD : List Str := ["logic", "left", "right", "main", "extra", "above"]
theorem sc_depth : FnScope nsD rps (defScope (top 42)) := ⟨rfl, rfl, rfl, by decide +kernel, rfl, by decide +kernel, by decide +kernel⟩
abbrev nsT : List Str := ["logic", "left", "right", "main", "listed", "premises", "extra", "a"]
theorem sc_two : FnScope nsT rps (defScope (top 43)) := ⟨rfl, rfl, rfl, by decide +kernel, rfl, by decide +kernel, by decide +kernel⟩
/-- position by position -/
inductive Rels (R : FM → Hp → V → Prop) (H : Hp) : List FM → List V → Prop
  | nil : Rels R H [] []
  | cons {p y L ys} : R p H y → Rels R H L ys → Rels R H (p :: L) (y :: ys)
section
variable {K : PySem.W.Frag} {R : FM → Hp → V → Prop} {H H' : Hp}
theorem Rels.to (q : ∀ p y, R p H y → R p H' y) : ∀ {L ys}, Rels R H L ys → Rels R H' L ys
  | _, _, .nil => .nil
  | _, _, .cons a b => .cons (q _ _ a) (b.to q)
theorem Rels.snoc {p : FM} {y : V} (h : R p H y) : ∀ {L ys}, Rels R H L ys → Rels R H (L ++ [p]) (ys ++ [y])
  | _, _, .nil => .cons h .nil
  | _, _, .cons a b => .cons a (b.snoc h)
theorem Rels.len : ∀ {L ys}, Rels R H L ys → ys.length = L.length
  | _, _, .nil => rfl
  | _, _, .cons _ b => by rw [List.length_cons, List.length_cons, b.len]
variable {σ : L2.St} {tl te : TE} {a : Addr} {L : List FM} {j : Nat} {vs : List Nat}
theorem lcM_lst (h : Ev tl σ H (.ref a)) (hx : SqL K H a (refs L)) (hn : L.length ≤ 1000) (hw : ∀ x, wipe ((wipe σ vs).set j (some x)) vs = wipe σ vs) (R : FM → Hp → V → Prop) (hR : ∀ p H H' y, Et K H H' → R p H y → R p H' y)
    (he : ∀ p ∈ L, ∀ H1, Ex H H1 → ∀ Q1 : VK, (∀ y H2, Ex H1 H2 → R p H2 y → Q1 y H2) → te ((wipe σ vs).set j (some (.ref p.1))) H1 Q1)
    (Q : VK) (q : ∀ D H2 ys, H D = none → Ex H H2 → H2 D = some (.lst ys) → Rels R H2 L ys → Q (.ref D) H2) : tLc (iList K tl) (gName j) tYes te vs σ H Q :=
  h H (Ex.refl H) _ fun H1 e1 => ⟨a, rfl, ⟨_, ex_l e1 hx⟩, fun D hD => lc_list (xs := refs L) (fun i H' => Ex H1 H' ∧ ∃ ys, H' D = some (.lst ys) ∧ Rels R H' (L.take i) ys)
    ⟨Ex.new hD, [], upd_same, .nil⟩ (fun i H' hi p => ex_l (e1.trans p.1) hx) (fun i x H' hi p => by
      obtain ⟨e2, ys, hys, rl⟩ := p
      rw [List.getElem?_map] at hi
      cases hp : L[i]? with
      | none => rw [hp] at hi; cases hi
      | some pr =>
        rw [hp] at hi
        obtain rfl : V.ref pr.1 = x := Option.some.inj hi
        have hpm : pr ∈ L := List.mem_of_getElem? hp
        have ly := rl.len
        rw [List.length_take] at ly
        refine ⟨hw _, ?_⟩
        refine yes_go ?_
        refine he pr hpm H' (e1.trans e2) _ fun y H4 e4 hy => ?_
        have hD4 : H4 D = some (.lst ys) := e4 _ _ hys
        have et4 : Et K H4 (upd H4 D (.lst (ys ++ [y]))) := et_lst hD4
        refine ⟨ys, hD4, sz_lt (by omega), Ex.mut (e2.trans e4) hD, ys ++ [y], upd_same, ?_⟩
        rw [List.take_add_one, hp]
        exact Rels.snoc (hR _ _ _ _ et4 hy) (rl.to fun p y r => hR _ _ _ _ ((Et.of e4).trans et4) r)) fun H' p => by
      obtain ⟨e2, ys, hys, rl⟩ := p
      rw [List.take_of_length_le (by simp)] at rl
      exact q D H' ys (fresh_back e1 hD) (e1.trans e2) hys rl⟩
/-- sequents for each -/
theorem Rels.goals {Rl : FM → Seqt → Prop} : ∀ {L : List FM} {ys : List V}, Rels (fun p H y => ∃ s, GoalV K H y s ∧ Rl p s) H L ys → ∃ ps, Goals K H ys ps ∧ ps.length = L.length ∧ (∀ s ∈ ps, ∃ p ∈ L, Rl p s) ∧ ∀ p ∈ L, ∃ s ∈ ps, Rl p s
  | _, _, .nil => ⟨[], .nil, rfl, (fun _ z => nomatch z), fun _ z => nomatch z⟩
  | _, _, .cons (p := p) (L := L) ⟨s, hs, hr⟩ b => by
    obtain ⟨ps, h1, h2, h3, h4⟩ := b.goals
    refine ⟨s :: ps, .cons hs h1, by rw [List.length_cons, List.length_cons, h2], fun t ht => ?_, fun q hq => ?_⟩
    · rcases List.mem_cons.mp ht with rfl | ht
      · exact ⟨p, List.mem_cons_self, hr⟩
      · obtain ⟨q, hq, e⟩ := h3 t ht
        exact ⟨q, List.mem_cons_of_mem _ hq, e⟩
    · rcases List.mem_cons.mp hq with rfl | hq
      · exact ⟨s, List.mem_cons_self, hr⟩
      · obtain ⟨t, ht, e⟩ := h4 q hq
        exact ⟨t, List.mem_cons_of_mem _ ht, e⟩
end
section
variable {P : Program} {w : World} {K : PySem.W.Frag} {mg : Str → Option Value} {base : Heap} {gN : Addr}
theorem cal_depth (T : TX w K mg) (cR : Cal P w K mg base "require" 1 (rNoFit gN)) : CalR P w K mg base gN "depth_right" (fun l => l = .BD2) := by
  refine cal_of T 29 rfl sc_depth (fun vs H Q E h => len_rule h) (fun _ _ _ _ _ _ us hl => match us, hl with | [_, _, _, _], _ => rfl) fun f cdv A outer s H vs Q E hr h =>
    ⟨_, pss_cons (ps_expr (pe_f (E := fun _ => E) (cR.mono (by decide)) hr rfl passR (pa_cons (pe_f0 ((cal_main T).mono (by decide)) hr rfl (pa_cons (pv 2) (pa_cons (pv 3) (pa_cons pe_str pa_nil)))) pa_nil)))
      (pss_cons (ps_set (i := 4) sc_depth.nd rfl (Or.inl rfl) (pe_f0 ((cal_mid T).mono (by decide)) hr rfl (pa_cons (pv 1) (pa_cons (pv 2) pa_nil))))
      (pss_cons (ps_set (i := 5) sc_depth.nd rfl (Or.inl rfl) (pe_fs ((cal_add T).mono (by decide)) hr rfl (pa_cons (pv 1) (pa_cons (pe_ix ix_tup (pv 3) pe_int (fun _ _ => rfl)) (StX.pa_star (pv 4) pa_nil)))))
      (pss_one (ps_ret (pe_lst (pa_cons (pe_tup (pa_cons (pe_f0 ((cal_add T).mono (by decide)) hr rfl (pa_cons (pv 1) (pa_cons (pe_ix ix_tup (pv 3) pe_int (fun _ _ => rfl)) pa_nil))) (pa_cons (pe_f0 ((cal_add T).mono (by decide)) hr rfl (pa_cons (pv 2) (pa_cons (pe_ix ix_tup (pv 3) pe_int (fun _ _ => rfl)) pa_nil))) pa_nil)))
        (pa_cons (pe_tup (pa_cons (pv 5) (pa_cons (pe_tup (pa_cons (pe_ix ix_tup (pv 3) pe_int (fun _ _ => rfl)) pa_nil)) pa_nil))) pa_nil))))))), ?_⟩
  obtain ⟨l, lv, rv, mv, L, R, m, I, hl, o⟩ := h
  obtain rfl := I.vs_
  refine q_main (ea3 (ev_var rfl) (ev_var rfl) ev_c) I.right I.main I.hM (fun H' e => o.no H' e) fun g H1 e1 hm hin htg => ?_
  subst hm
  obtain ⟨p, q, rfl⟩ := tg_imp htg
  obtain ⟨a, t, b, c, rfl, hs, hb, hc⟩ := (two_imp (I.main.ex e1)).ex
  have h5 := I.hM _ rfl
  have hh := @ht_two p q
  have bL := b_cons (a := b) (f := p) I.hL (by omega)
  have bR := b_cons (a := c) (f := q) I.hR (by omega)
  have lL := I.lenL
  have lR := I.lenR
  refine q_as ?_
  refine ⟨_, rfl, _, rfl, lv, rv, L, R, rfl, I.left.ex e1, I.right.ex e1, I.lenL, I.lenR, I.hL, I.hR, fun u H2 X e2 hu pX lX => ?_⟩
  obtain ⟨aX, rfl, hX, fX⟩ := hu
  have e12 := e1.trans e2
  refine q_as ?_
  have bX : ∀ z ∈ L ++ ((b, p) :: X), ht z.2 ≤ 8 := fun z hz => by
    rcases List.mem_append.mp hz with hz | hz
    · have := I.hL z hz; omega
    · rcases List.mem_cons.mp hz with rfl | hz
      · show ht p ≤ 8; omega
      · have := (pX z hz).2; omega
  refine evs_add (M := (b, p) :: X) (ea_cons (ev_var rfl) (ea_cons (ev_ixT (k := 1) rfl (ex_t e2 hs) rfl) (by rw [← List.append_nil (List.map _ X)]; exact ea_star (ev_var rfl) hX ea_nil))) (I.left.ex e12) (fun z hz => ?_) bX (by simp only [List.length_cons]; omega) H2 (Ex.refl _) _ fun u5 H3 N5 e3 hu5 h5' l5 => ?_
  · rcases List.mem_cons.mp hz with rfl | hz
    · exact hb.ex e2
    · exact fX z hz
  · have e23 := e2.trans e3
    have e13 := e1.trans e23
    exact ev_goal2 (evs_add (ea2 (ev_var rfl) (ev_ixT (k := 1) rfl (ex_t e23 hs) rfl)) (I.left.ex e13) (allF1 (hb.ex e23)) bL (by simp; omega)) (evs_add (ea2 (ev_var rfl) (ev_ixT (k := 2) rfl (ex_t e23 hs) rfl)) (I.right.ex e13) (allF1 (hc.ex e23)) bR (by simp; omega))
      (evs_var rfl hu5) (evs_one (ev_ixT (k := 2) rfl (ex_t e23 hs) rfl) (hc.ex e23)) _ fun u H4 N M N' M' e g hN hM hN' hM' =>
      (o.ex e13).two bL bR (fun z hz => bX z (h5' z hz)) (fun z hz => by rw [List.mem_singleton.mp hz]; show ht q ≤ 8; omega) (fun N M N' M' hN hM hN' hM' => snd2 (s_depth hl hin (sub_refl _) (sub_refl _) (L2 := fms N') fun x hx => by
        obtain ⟨z, hz, ez⟩ := mem_fms hx
        rw [← ez]
        rcases List.mem_append.mp (h5' z (hN' z hz)) with hz | hz
        · exact .inr (.inl (List.mem_map_of_mem hz))
        · rcases List.mem_cons.mp hz with rfl | hz
          · exact .inl rfl
          · exact .inr (.inr (pX z hz).1)) (s_cons hN) (s_cons hM) (sub_refl _) (s_same (L := [(c, q)]) hM')) e g hN hM hN' hM'
theorem cal_two (T : TX w K mg) (cR : Cal P w K mg base "require" 1 (rNoFit gN)) : CalR P w K mg base gN "two_right" (fun l => l = .HT) := by
  refine cal_of T 30 rfl sc_two (fun vs H Q E h => len_rule h) (fun _ _ _ _ _ _ us hl => match us, hl with | [_, _, _, _], _ => rfl) fun f cdv A outer s H vs Q E hr h =>
    ⟨_, pss_cons (ps_set (i := 4) sc_two.nd rfl (Or.inl rfl) (pe_f0 ((cal_imps T).mono (by decide)) hr rfl (pa_cons (pv 2) pa_nil)))
      (pss_cons (ps_expr (pe_f (E := fun _ => E) (cR.mono (by decide)) hr rfl passR (pa_cons (pe_and (pe_cmpR op_isN (pv 3) pe_non (nomark _)) (pe_one (pe_cmpR op_gt (pe_callB call_len_seq rfl (T.free "len" (by decide +kernel)) boot_len (pa_cons (pv 4) pa_nil)) pe_int (nomark _)))) pa_nil)))
      (pss_cons (ps_setLc (i := 5) (own := [("a", 7)]) (g := gName 7) (tt := tYes) (te := tTup (tCons (tCal (spAdd K) (fun _ => E0) (tCons (tVar 1) (tCons (tOp (rIxT K) (tVar 7) (tC (.int 1))) tNil))) (tCons (tCal (spAdd K) (fun _ => E0) (tCons (tVar 2) (tCons (tOp (rIxT K) (tVar 7) (tC (.int 2))) tNil))) tNil))) rfl sc_two.nd rfl rfl (sw_true rfl rfl rfl (by decide +kernel)) (pi_list (pv 4)) (blkOk_by (N := nsT) (sc := defScope (top 43)) (by decide +kernel)) (fun _ _ _ _ _ => pg_name (i := 7) sc_two.nd rfl (Or.inl rfl)) (fun _ _ _ _ _ => pts_nil)
          (fun _ _ _ _ _ => pe_tup (pa_cons (pe_f0 ((cal_add T).mono (by decide)) hr rfl (pa_cons (pv 1) (pa_cons (pe_ix (r := rIxT K) ix_tup (pv 7) pe_int (fun _ _ => rfl)) pa_nil))) (pa_cons (pe_f0 ((cal_add T).mono (by decide)) hr rfl (pa_cons (pv 2) (pa_cons (pe_ix (r := rIxT K) ix_tup (pv 7) pe_int (fun _ _ => rfl)) pa_nil))) pa_nil))))
      (pss_cons (ps_set (i := 6) sc_two.nd rfl (Or.inl rfl) (pe_f0 ((cal_mid T).mono (by decide)) hr rfl (pa_cons (pv 1) (pa_cons (pv 2) pa_nil))))
      (pss_one (ps_ret (pe_op op_cat (pv 5) (pe_lst (pa_cons (pe_tup (pa_cons (pe_fs ((cal_add T).mono (by decide)) hr rfl (pa_cons (pv 1) (StX.pa_star (pv 6) pa_nil)))
        (pa_cons (pe_callTy call_tuple_of rfl (T.free "tuple" (by decide +kernel)) boot_tuple (pa_cons (pv 4) pa_nil)) pa_nil))) pa_nil)))))))), ?_⟩
  obtain ⟨l, lv, rv, mv, L, R, m, I, hl, o⟩ := h
  obtain rfl := I.vs_
  have lL := I.lenL
  have lR := I.lenR
  refine q_as ?_
  refine ⟨_, rfl, rv, R, rfl, I.right, I.lenR, I.hR, fun D H1 N hD e1 hN => ?_⟩
  refine q_req (C := N ≠ []) ?_ (fun H' e => o.no H' (e1.trans e)) fun H2 e2 c => ?_
  · refine (evc_and (C2 := N ≠ []) (evc_isN rfl (I.main.ex e1)) fun _ => ?_).imp fun c => c.2
    intro H2 e2 Q2 k
    refine ⟨_, rfl, D, refs N, rfl, .inl (sq_of (e2 _ _ hN.at_)), _, _, rfl, rfl, k _ _ (Ex.refl _) fun z => ?_⟩
    have := of_decide_eq_true z
    intro hne
    rw [hne] at this
    simp at this
  · have e12 := e1.trans e2
    have hN2 := hN.ex e2
    have lN := hN.len
    refine q_as ?_
    refine lcM_lst (ev_var rfl) (sq_of hN2.at_) (by omega) (fun _ => rfl) (fun p H y => ∃ s : Seqt, GoalV K H y s ∧ ((∀ z ∈ s.1, ht z.2 ≤ 8) ∧ (∀ z ∈ s.2, ht z.2 ≤ 8)) ∧ ∀ a b, p.2 = .imp a b → Sub (fms s.1) (a :: fms L) ∧ Sub (fms s.2) (b :: fms R)) (fun p H H' y et r => ?_) (fun pr hpm H3 e3 Q1 k => ?_) _ fun P0 H3 ys hP e3 hys rl => ?_
    · obtain ⟨s, h1, h2⟩ := r
      exact ⟨s, h1.et et, h2⟩
    · obtain ⟨m1, ⟨p, q, m2⟩, m3⟩ := hN.mem pr hpm
      have hpr := (hN2.all pr hpm).ex e3
      rw [m2] at hpr m3
      obtain ⟨a, t, b, c, ea, hs, hb, hc⟩ := (two_imp hpr).ex
      have hh := @ht_two p q
      have bL := b_cons (a := b) (f := p) I.hL (by omega)
      have bR := b_cons (a := c) (f := q) I.hR (by omega)
      refine ev_pair (A := L ++ [(b, p)]) (B := R ++ [(c, q)]) (evs_add (ea2 (ev_var rfl) (ev_ixT (k := 1) (by rw [← ea]; rfl) hs rfl)) (I.left.ex (e12.trans e3)) (allF1 hb) bL (by simp; omega)) (evs_add (ea2 (ev_var rfl) (ev_ixT (k := 2) (by rw [← ea]; rfl) hs rfl)) (I.right.ex (e12.trans e3)) (allF1 hc) bR (by simp; omega)) H3 (Ex.refl _) _ fun u H4 N4 M4 e4 g hN4 hM4 => ?_
      refine k u H4 e4 ⟨(N4, M4), g, ⟨fun z hz => bL z (hN4 z hz), fun z hz => bR z (hM4 z hz)⟩, fun a' b' eab => ?_⟩
      rw [m2] at eab
      cases eab
      exact ⟨s_cons hN4, s_cons hM4⟩
    · refine q_as ?_
      have e13 := e12.trans e3
      refine ⟨_, rfl, _, rfl, lv, rv, L, R, rfl, I.left.ex e13, I.right.ex e13, I.lenL, I.lenR, I.hL, I.hR, fun u H4 X e4 hu pX lX => ?_⟩
      obtain ⟨aX, rfl, hX, fX⟩ := hu
      have e14 := e13.trans e4
      have bX : ∀ z ∈ L ++ X, ht z.2 ≤ 8 := fun z hz => by
        rcases List.mem_append.mp hz with hz | hz
        · have := I.hL z hz; omega
        · have := (pX z hz).2; omega
      refine ⟨_, rfl, ?_⟩
      refine one_go (cons_go ?_)
      refine evs_add (M := X) (ea_cons (ev_var rfl) (by rw [← List.append_nil (refs X)]; exact ea_star (ev_var rfl) hX ea_nil)) (I.left.ex e14) fX bX (by omega) H4 (Ex.refl _) _ fun u5 H5 N5 e5 hu5 h5 l5 => ?_
      have hN5 := (hN2.ex (e3.trans e4)).ex e5
      refine ⟨_, rfl, D, refs N, rfl, .inl ⟨sq_of hN5.at_, fun t ht' => ?_⟩⟩
      have e6 := Ex.new (o := .tup (refs N)) ht'
      refine ⟨sz_of (by simp), fun g hg => ?_⟩
      have e7 := Ex.new (o := .tup [u5, .ref t]) hg
      refine ⟨sz_of (by simp), fun G hG => ?_⟩
      have e8 := Ex.new (o := .lst [V.ref g]) hG
      have e58 := (((e4.trans e5).trans e6).trans e7).trans e8
      have ly := rl.len
      refine ⟨P0, G, ys, [V.ref g], rfl, rfl, e58 _ _ hys, upd_same, sz_of (by simp only [List.length_cons, List.length_nil]; omega), fun Z hZ => ?_⟩
      have e9 := Ex.new (o := .lst (ys ++ [V.ref g])) hZ
      obtain ⟨ps, g1, g2, g3, g4⟩ := rl.goals
      have gv : GoalV K (upd (upd (upd (upd H5 t (.tup (refs N))) g (.tup [u5, .ref t])) G (.lst [V.ref g])) Z (.lst (ys ++ [V.ref g]))) (.ref g) (N5, N) :=
        ⟨g, u5, .ref t, rfl, st_of (e9 _ _ (e8 _ _ upd_same)), (((hu5.ex e6).ex e7).ex e8).ex e9, t, rfl, st_of (e9 _ _ (e8 _ _ (e7 _ _ upd_same))), ((((hN5.all.ex e6).ex e7).ex e8).ex e9)⟩
      refine o.yes _ _ (ps ++ [(N5, N)]) ((e13.trans e58).trans e9) ⟨Z, _, rfl, sq_of upd_same, (g1.ex (e58.trans e9)).append (.cons gv .nil)⟩ (s_two hl (js := fms N) (fun y hy => ?_) (fun z => c (by simpa using z)) (fun a b hab => ?_) ⟨_, List.mem_map_of_mem (List.mem_append_right _ (List.mem_singleton.mpr rfl)), fun x hx => ?_, sub_refl _⟩) (fun s hs => ?_) (by rw [List.length_append, g2]; simp; omega)
      · obtain ⟨z, hz, e⟩ := mem_fms hy
        rw [← e]
        exact ⟨(hN.mem z hz).1, (hN.mem z hz).2.1⟩
      · obtain ⟨z, hz, e⟩ := mem_fms hab
        obtain ⟨s, s1, s2, s3⟩ := g4 z hz
        exact ⟨sqf s, List.mem_map_of_mem (List.mem_append_left _ s1), s3 a b e⟩
      · obtain ⟨z, hz, e⟩ := mem_fms (show x ∈ fms N5 from hx)
        rw [← e]
        rcases List.mem_append.mp (h5 z hz) with hz | hz
        · exact .inl (List.mem_map_of_mem hz)
        · exact .inr (pX z hz).1
      · rcases List.mem_append.mp hs with hs | hs
        · obtain ⟨p, hp, r1, r2⟩ := g3 s hs
          exact r1
        · rw [List.mem_singleton.mp hs]
          exact ⟨fun z hz => bX z (h5 z hz), fun z hz => by have := (hN.mem z hz).2.2; omega⟩
end
end K33

set_option Elab.async false
set_option linter.all false
set_option maxRecDepth 100000
set_option maxHeartbeats 4000000
namespace K33
open PySem PySem.Spec PyProof.Rows L2 Evl
/-- fe(e, ..), fe gives a def that keeps a promise -/
def tCallF (P : Program) (w : World) (K : PySem.W.Frag) (mg : Str → Option Value) (base : Heap) (k : Nat) (E : L2.St → XK) (tf : TE) (t : TA) : TE := fun σ H Q => tf σ H fun y H1 => ∃ f sp, y = .ref f ∧ PySem.W.keepIn K (.ref f) = true ∧ FnR P w K mg base (L2.CX P w) k f sp ∧ t σ H1 fun vs H2 => sp vs H2 Q (E σ)
theorem pe_callF {X : Cx} {k : Nat} {fe e : Expr} {es : List Expr} {pos : Pos} {tf : TE} {t : TA} {E : L2.St → XK} (hf : PE X fe tf) (hr : Room k X.A) (hx : ∀ σ, PassesAt (L2.CX X.prog X.w) X σ (E σ)) (ha : PA X (e :: es) t)
    (ht : eval (.Call fe (e :: es) [] pos) X.env = (do callWith pos (← eval fe X.env) [] (backTo pos (starEach (e :: es) X.env)) (backToKw pos (keywordEach [] X.env))) := by rfl)
    (he : starEach (e :: es) X.env = (false, eval e X.env) :: starEach es X.env := by rfl) (hpl : (backTo pos (starEach es X.env)).any (·.1) = false := by rfl) : PE X (.Call fe (e :: es) [] pos) (tCallF X.prog X.w X.K X.mg X.base k E tf t) := by
  refine ⟨fun pins s σ H Q I h => ?_⟩
  refine Call_ (thn (hf.run pins s σ H _ I h) fun u s1 ⟨y, H1, I1, ry, f, sp, ey, hk, F, q⟩ => ?_) ht
  subst ey
  obtain rfl : u = Value.ref f := ry
  refine PySem.W.callWith_K (h₀ := X.base) I.ok.mod.kin hk (thn (ha.run pos pins s1 σ H1 _ I1 q) fun us s2 ⟨vs, H2, I2, r, q2⟩ => ⟨I2.kIn, ?_⟩) he hpl
  exact run_calS F hr (hx σ) I2 r q2
theorem sc_reql : FnScope ["logic"] ["logic"] (defScope (top 16)) := ⟨rfl, rfl, rfl, by decide +kernel, rfl, by decide +kernel, by decide +kernel⟩
abbrev nsP : List Str := ["logic", "rule", "conclusion", "main"]
theorem sc_prem : FnScope nsP nsP (defScope (top 45)) := ⟨rfl, rfl, rfl, by decide +kernel, rfl, by decide +kernel, by decide +kernel⟩
def spReql : Sp := fun vs H Q _ => ∃ l, vs = [.str (nm l)] ∧ ∀ H', Ex H H' → Q .non H'
def spPrem (K : PySem.W.Frag) (gN : Addr) : Sp := fun vs H Q E => ∃ l r cv mv L R m, vs = [.str (nm l), .str r, cv, mv] ∧ r ∈ ruleTab.map (·.1) ∧ GoalV K H cv (L, R) ∧ OptF K H mv m ∧ L.length ≤ 3 ∧ R.length ≤ 3 ∧ (∀ p ∈ L, ht p.2 ≤ 3) ∧ (∀ p ∈ R, ht p.2 ≤ 3) ∧ (∀ f, m = some f → ht f ≤ 5) ∧ ROut K gN l L R H Q E
theorem all_logics : ∀ l : Lg, inV (.str (nm l)) (modalNames.map V.str ++ interNames.map V.str) = true := by intro l; cases l <;> decide +kernel
section
variable {P : Program} {w : World} {K : PySem.W.Frag} {mg : Str → Option Value} {base : Heap} {gN : Addr}
theorem cal_reql (T : TX w K mg) : Cal P w K mg base "require_logic" 1 spReql := by
  obtain ⟨aM, gM, hM⟩ := T.tup ("MODAL", modalNames) (by simp)
  obtain ⟨aI, gI, hI⟩ := T.tup ("INTERMEDIATE", interNames) (by simp)
  refine cal_of T 7 rfl sc_reql (fun vs H Q E h => by obtain ⟨_, rfl, _⟩ := h; rfl) (fun _ _ _ _ _ _ us hl => match us, hl with | [_], _ => rfl) fun f cdv A outer s H vs Q E hr h =>
    ⟨_, pss_one (ps_if (pt_cmpR op_notIn_seq (pv 0) (pe_op op_catA (pe_glob (v := .ref aM) rfl gM rfl) (pe_glob (v := .ref aI) rfl gI rfl)) rfl) pss_never pss_nil), ?_⟩
  obtain ⟨l, rfl, q⟩ := h
  refine ⟨_, rfl, aM, aI, modalNames.map V.str, interNames.map V.str, rfl, rfl, hM _, hI _, sz_of (by decide), (fun e => nomatch e), (fun _ e => nomatch e), fun _ _ p hp => ?_⟩
  refine ⟨p, _, rfl, .inr (st_of upd_same), rfl, by decide +kernel, _, rfl, ?_⟩
  rw [all_logics l]
  exact iteF (q _ (Ex.new hp))
/-- each row of the table -/
theorem rows (T : TX w K mg) (cR : Cal P w K mg base "require" 1 (rNoFit gN)) : ∀ r ∈ ruleTab, ∃ okl, CalR P w K mg base gN r.2.1 okl ∧ ∀ l, inV (.str (nm l)) (r.2.2.map V.str) = true → okl l := by
  intro r hr
  simp only [ruleTab, List.mem_cons, List.not_mem_nil, or_false] at hr
  rcases hr with rfl | rfl | rfl | rfl | rfl | rfl | rfl | rfl | rfl | rfl | rfl | rfl | rfl | rfl | rfl | rfl
  · exact ⟨_, cal_axiom T cR, fun _ _ => trivial⟩
  · exact ⟨_, cal_falsum T cR, fun _ _ => trivial⟩
  · exact ⟨_, cal_andl T cR, fun _ _ => trivial⟩
  · exact ⟨_, cal_andr T cR, fun _ _ => trivial⟩
  · exact ⟨_, cal_orl T cR, fun _ _ => trivial⟩
  · exact ⟨_, cal_orr T cR, fun _ _ => trivial⟩
  · exact ⟨_, cal_impl T cR, fun _ _ => trivial⟩
  · exact ⟨_, cal_impr T cR, fun _ _ => trivial⟩
  · exact ⟨_, cal_cut T cR, fun _ _ => trivial⟩
  · exact ⟨_, cal_refl T cR, fun l => by cases l <;> decide +kernel⟩
  · exact ⟨_, cal_modal T cR, fun _ _ => trivial⟩
  · exact ⟨_, cal_serial T cR, fun l => by cases l <;> decide +kernel⟩
  · exact ⟨_, cal_weak T cR, fun l => by cases l <;> decide +kernel⟩
  · exact ⟨_, cal_linear T cR, fun l => by cases l <;> decide +kernel⟩
  · exact ⟨_, cal_depth T cR, fun l => by cases l <;> decide +kernel⟩
  · exact ⟨_, cal_two T cR, fun l => by cases l <;> decide +kernel⟩
theorem cal_prem (T : TX w K mg) (cR : Cal P w K mg base "require" 1 (rNoFit gN)) : Cal P w K mg base "premises_of" 21 (spPrem K gN) := by
  obtain ⟨aR, es, n, gR, kd, hrows⟩ := T.rules
  refine cal_of T 31 rfl sc_prem (fun vs H Q E h => by obtain ⟨_, _, _, _, _, _, _, rfl, _⟩ := h; rfl) (fun _ _ _ _ _ _ us hl => match us, hl with | [_, _, _, _], _ => rfl) fun f cdv A outer s H vs Q E hr h =>
    ⟨_, pss_cons (ps_expr (pe_f0 ((cal_reql T).mono (by decide)) hr rfl (pa_cons (pv 0) pa_nil)))
      (pss_cons (ps_expr (pe_f (E := fun _ => E) (cR.mono (by decide)) hr rfl passR (pa_cons (pe_and (pe_cmpR (op_in_kd kd) (pv 1) (pe_glob (v := .ref aR) rfl gR rfl) rfl)
          (pe_one (pe_cmpR op_in_seq (pv 0) (pe_ix ix_tup (pe_ix ix_kdict (pe_glob (v := .ref aR) rfl gR rfl) (pv 1) (fun _ _ => rfl)) pe_int (fun _ _ => rfl)) rfl))) pa_nil)))
      (pss_one (ps_ret (pe_callF (E := fun _ => E) (pe_ix ix_tup (pe_ix ix_kdict (pe_glob (v := .ref aR) rfl gR rfl) (pv 1) (fun _ _ => rfl)) pe_int (fun _ _ => rfl)) hr passR
        (pa_cons (pv 0) (pa_cons (pe_ix ix_tup (pv 2) pe_int (fun _ _ => rfl)) (pa_cons (pe_ix ix_tup (pv 2) pe_int (fun _ _ => rfl)) (pa_cons (pv 3) pa_nil)))))))), ?_⟩
  obtain ⟨l, r, cv, mv, L, R, m, rfl, hrt, hc, hm, lL, lR, bL, bR, bm, o⟩ := h
  obtain ⟨row, hrow, rfl⟩ := List.mem_map.mp hrt
  obtain ⟨T0, f0, U0, nT, hT, mf, hU⟩ := hrows row hrow
  obtain ⟨okl, ⟨f1, mf1, kf1, F1⟩, hok⟩ := rows T cR row hrow
  obtain rfl : f1 = f0 := by rw [mf] at mf1; cases mf1; rfl
  have dct : KDct K w aR row.1 (.ref T0) := ⟨es, n, .ref T0, kd.at_, kd.lit, nT, rfl⟩
  refine ⟨_, rfl, l, rfl, fun H1 e1 => ?_⟩
  refine ⟨_, rfl, row.1, _, rfl, rfl, nT, true, rfl, iteT ⟨_, rfl, _, rfl, aR, row.1, .ref T0, rfl, rfl, dct, T0, _, 1, .ref U0, rfl, rfl, hT _, at_of (j := 1) rfl rfl, U0, _, rfl, .inr (hU _), rfl, List.all_eq_true.mpr (fun z hz => by obtain ⟨x, _, rfl⟩ := List.mem_map.mp hz; rfl), ?_⟩⟩
  refine ⟨_, rfl, fun hb => ?_, fun _ => o.no _ e1⟩
  obtain ⟨a, u, t, rfl, hs, hu, ht'⟩ := hc.ex e1
  refine ⟨_, rfl, aR, row.1, .ref T0, rfl, rfl, dct, T0, _, 0, .ref f1, rfl, rfl, hT _, at_of (j := 0) rfl rfl, f1, _, rfl, kf1, F1, ?_⟩
  exact ⟨_, rfl, _, rfl, a, _, 0, u, rfl, rfl, hs, at_of (j := 0) rfl rfl, _, rfl, a, _, 1, t, rfl, rfl, hs, at_of (j := 1) rfl rfl, _, rfl, l, u, t, mv, L, R, m, ⟨rfl, hu, ht', hm.ex e1, lL, lR, bL, bR, bm⟩, hok l hb, o.ex e1⟩
end
end K33

set_option Elab.async false
set_option linter.all false
set_option maxRecDepth 100000
set_option maxHeartbeats 4000000
namespace K33
open PySem PySem.Spec PyProof.Rows L2 Evl
/-! ### lists of ints and [] -/
theorem lay_ints : ∀ ns : List Int, PyData.canLayAll0 (ns.map PyData.int) = true
  | [] => lay_nil
  | n :: ns => by rw [List.map_cons, lay_cons, lay_ints ns]; simp [PyData.canLay0]
theorem dep_ints : ∀ ns : List Int, PyData.depthAll (ns.map PyData.int) = 0
  | [] => by simp [PyData.depthAll]
  | n :: ns => by rw [List.map_cons]; simp [PyData.depthAll, PyData.depth, dep_ints ns]
theorem shaped_ints (ns : List Int) : SeqAt.shaped (.list (ns.map PyData.int)) = true := by
  show ((PyData.list (ns.map PyData.int)).canLay0 && decide ((PyData.list (ns.map PyData.int)).depth ≤ 64)) = true
  have h1 : (PyData.list (ns.map PyData.int)).canLay0 = true := by simp only [PyData.canLay0]; exact lay_ints ns
  have h2 : (PyData.list (ns.map PyData.int)).depth = 1 := by simp only [PyData.depth]; rw [dep_ints]
  rw [h1, h2]; rfl
theorem dp_ints {K : PySem.W.Frag} {H : Hp} : ∀ ns : List Int, DpAll K H (ns.map V.int) (ns.map PyData.int)
  | [] => .nil
  | n :: ns => .cons (.int n) (dp_ints ns)
theorem eqv_ints (ns : List Int) : PyData.eqv (.list (ns.map PyData.int)) (.list []) = decide (ns = []) := by
  cases ns with
  | nil => simp [PyData.eqv, PyData.eqvAll]
  | cons n ns => simp [PyData.eqv, PyData.eqvAll]
section
variable {K : PySem.W.Frag} {σ : L2.St} {H : Hp} {te : TE} {a : Addr} {ns : List Int}
theorem ev_neNil (h : Ev te σ H (.ref a)) (hs : SqL K H a (ns.map V.int)) : Ev (tOp (rNeD K) te (tLst tNil)) σ H (.bl (!decide (ns = []))) := fun H1 e Q q =>
  h H1 e _ fun H2 e2 => ⟨sz_of (by simp), fun p hp => ⟨.list (ns.map PyData.int), .list [], .lst (ex_l ((e.trans e2).trans (Ex.new hp)) hs) (dp_ints ns), .lst (sq_of (xs := []) upd_same) .nil, shaped_ints ns, shaped_ints [], by rw [eqv_ints]; exact q _ (e2.trans (Ex.new hp))⟩⟩
theorem ev_eqNil (h : Ev te σ H (.ref a)) (hs : SqL K H a (ns.map V.int)) : Ev (tOp (rEqD K) te (tLst tNil)) σ H (.bl (decide (ns = []))) := fun H1 e Q q =>
  h H1 e _ fun H2 e2 => ⟨sz_of (by simp), fun p hp => ⟨.list (ns.map PyData.int), .list [], .lst (ex_l ((e.trans e2).trans (Ex.new hp)) hs) (dp_ints ns), .lst (sq_of (xs := []) upd_same) .nil, shaped_ints ns, shaped_ints [], by rw [eqv_ints]; exact q _ (e2.trans (Ex.new hp))⟩⟩
/-- int(x), abs(x) of ints -/
theorem ev_int1 {i : Int} (h : Ev te σ H (.int i)) : Ev (tCB (fun xs H Q => (∃ i, xs = [.int i] ∧ Q (.int i) H) ∨ ∃ k, xs = [.bl k] ∧ Q (.int (if k then 1 else 0)) H) (tCons te tNil)) σ H (.int i) := fun H1 e Q q => h H1 e _ fun H2 e2 => .inl ⟨i, rfl, q H2 e2⟩
theorem ev_abs {i : Int} (h : Ev te σ H (.int i)) : Ev (tCB (fun xs H Q => ∃ i, xs = [.int i] ∧ Q (.int (if i < 0 then -i else i)) H) (tCons te tNil)) σ H (.int (if i < 0 then -i else i)) := fun H1 e Q q => h H1 e _ fun H2 e2 => ⟨i, rfl, q H2 e2⟩
theorem ev_lenL {xs : List V} (h : Ev te σ H (.ref a)) (hs : SqL K H a xs) : Ev (tCB (fun xs H Q => ∃ p ys, xs = [.ref p] ∧ (SqL K H p ys ∨ SqT K H p ys) ∧ Q (.int ys.length) H) (tCons te tNil)) σ H (.int xs.length) := fun H1 e Q q => h H1 e _ fun H2 e2 => ⟨a, xs, rfl, .inl (ex_l (e.trans e2) hs), q H2 e2⟩
theorem ev_mod {x j : Int} {tb : TE} (h : Ev te σ H (.int x)) (h2 : Ev tb σ H (.int j)) (hj : 0 < j) : Ev (tOp (rI (fun _ j => 0 < j) fun i j => .int (i % j)) te tb) σ H (.int (x % j)) := ev_op h h2 (rv_I hj)
theorem ev_div {x j : Int} {tb : TE} (h : Ev te σ H (.int x)) (h2 : Ev tb σ H (.int j)) (hj : 0 < j ∧ j < 1073741824) : Ev (tOp (rI CDiv fun i j => .int (i / j)) te tb) σ H (.int (x / j)) := ev_op h h2 (rv_I hj)
end
def spCellK (K : PySem.W.Frag) : Sp := fun vs H Q _ => ∃ (a : Addr) (ns : List Int) (k : Int), vs = [.ref a, .int k] ∧ SqL K H a (ns.map V.int) ∧ 0 ≤ k ∧ k < 1000 ∧ ns.length ≤ 1000 ∧ ∀ i H', Ex H H' → Q (.int i) H'
/-- ints below 4096 -/
def Low (ms : List Int) : Prop := ∀ m ∈ ms, 0 ≤ m ∧ m < 4096
def spNum (K : PySem.W.Frag) : Sp := fun vs H Q _ => ∃ (a : Addr) (ns : List Int) (lo most : Int), vs = [.ref a, .int lo, .int most] ∧ SqL K H a (ns.map V.int) ∧ ns.length ≤ 1000 ∧ 0 ≤ lo ∧ lo ≤ 10 ∧ 0 ≤ most ∧ most ≤ 100 ∧ ∀ D H' (ms : List Int), H D = none → Ex H H' → H' D = some (.lst (ms.map V.int)) → Low ms → (ms.length : Int) ≤ most → Q (.ref D) H'
def spLog : Sp := fun vs H Q _ => ∃ n p, vs = [.int n, .bl p] ∧ ∀ l H', Ex H H' → Q (.str (nm l)) H'
theorem sc_cell : FnScope ["_law_script", "_law_k"] ["_law_script", "_law_k"] (defScope (top 47)) := ⟨rfl, rfl, rfl, by decide +kernel, rfl, by decide +kernel, by decide +kernel⟩
abbrev nsNum : List Str := ["_law_script", "_law_first", "_law_most", "_law_found", "_law_at", "_law_cell_here", "_law_k", "_law_mixed"]
theorem sc_num : FnScope nsNum ["_law_script", "_law_first", "_law_most"] (defScope (top 48)) := ⟨rfl, rfl, rfl, by decide +kernel, rfl, by decide +kernel, by decide +kernel⟩
theorem sc_log : FnScope ["_law_number", "_law_plain", "_law_logics"] ["_law_number", "_law_plain"] (defScope (top 51)) := ⟨rfl, rfl, rfl, by decide +kernel, rfl, by decide +kernel, by decide +kernel⟩
theorem atI_logic (names : List V) (i : Int) (h0 : 0 ≤ i) (hi : i < names.length) : ∃ v ∈ names, atI names i = some v := by
  have h1 : i.toNat < names.length := by omega
  exact ⟨names[i.toNat], List.getElem_mem _, at_of (j := i.toNat) (by omega) (List.getElem?_eq_getElem h1)⟩
theorem logic_of : ∀ v ∈ (modalNames ++ interNames).map V.str, ∃ l, v = .str (nm l) := by
  intro v hv
  simp only [modalNames, interNames, List.map_cons, List.map_nil, List.cons_append, List.nil_append, List.mem_cons, List.not_mem_nil, or_false] at hv
  rcases hv with rfl | rfl | rfl | rfl | rfl | rfl | rfl | rfl | rfl | rfl | rfl | rfl | rfl | rfl | rfl
  · exact ⟨.K, rfl⟩
  · exact ⟨.D, rfl⟩
  · exact ⟨.T, rfl⟩
  · exact ⟨.K4, rfl⟩
  · exact ⟨.D4, rfl⟩
  · exact ⟨.S4, rfl⟩
  · exact ⟨.S5, rfl⟩
  · exact ⟨.GL, rfl⟩
  · exact ⟨.Grz, rfl⟩
  · exact ⟨.Int, rfl⟩
  · exact ⟨.KC, rfl⟩
  · exact ⟨.LC, rfl⟩
  · exact ⟨.BD2, rfl⟩
  · exact ⟨.HT, rfl⟩
  · exact ⟨.Cl, rfl⟩
section
variable {P : Program} {w : World} {K : PySem.W.Frag} {mg : Str → Option Value} {base : Heap} {gN : Addr}
theorem cal_cell (T : TX w K mg) : Cal P w K mg base "_law_cell" 1 (spCellK K) := by
  refine cal_of T 32 rfl sc_cell (fun vs H Q E h => by obtain ⟨_, _, _, rfl, _⟩ := h; rfl) (fun _ _ _ _ _ _ us hl => match us, hl with | [_, _], _ => rfl) fun f cdv A outer s H vs Q E hr h =>
    ⟨_, pss_cons (ps_if (pt_cmpR op_lt (pv 1) (pe_callB call_len_seq rfl (T.free "len" (by decide +kernel)) boot_len (pa_cons (pv 0) pa_nil)) (nomark _)) (pss_one (ps_ret (pe_ix ix_list (pv 0) (pv 1) (fun _ _ => rfl)))) pss_nil) (pss_one (ps_ret pe_int)), ?_⟩
  obtain ⟨a, ns, k, rfl, hs, k0, k1, ln, q⟩ := h
  refine q_when (b := decide (k < ((ns.map V.int).length : Int))) (et_test (ev_op (ev_var rfl) (ev_lenL (ev_var rfl) hs) rv_I0)) (fun hb H1 e1 => ?_) fun _ H1 e1 => q _ _ e1
  have hlt := of_decide_eq_true hb
  rw [List.length_map] at hlt
  have hj : k.toNat < ns.length := by omega
  refine ⟨_, rfl, _, rfl, a, ns.map V.int, k, .int ns[k.toNat], rfl, rfl, ex_l e1 hs, at_of (j := k.toNat) (by omega) ?_, q _ _ e1⟩
  rw [List.getElem?_map, List.getElem?_eq_getElem hj]; rfl
theorem cal_log (T : TX w K mg) : Cal P w K mg base "_law_logic" 1 spLog := by
  refine cal_of T 36 rfl sc_log (fun vs H Q E h => by obtain ⟨_, _, rfl, _⟩ := h; rfl) (fun _ _ _ _ _ _ us hl => match us, hl with | [_, _], _ => rfl) fun f cdv A outer s H vs Q E hr h =>
    ⟨_, pss_cons (ps_set (i := 2) sc_log.nd rfl (Or.inl rfl) (pe_lst (pa_cons pe_str (pa_cons pe_str (pa_cons pe_str (pa_cons pe_str (pa_cons pe_str (pa_cons pe_str (pa_cons pe_str (pa_cons pe_str (pa_cons pe_str (pa_cons pe_str (pa_cons pe_str (pa_cons pe_str (pa_cons pe_str (pa_cons pe_str (pa_cons pe_str pa_nil)))))))))))))))))
      (pss_cons (ps_if (pt_val (pv 1)) (pss_one (ps_ret (pe_ix ix_list (pv 2) (pe_op op_mod (pe_callTy call_int1 rfl (T.free "int" (by decide +kernel)) boot_int (pa_cons (pv 0) pa_nil)) pe_int) (fun _ _ => rfl)))) pss_nil)
      (pss_one (ps_ret (pe_ix ix_list (pv 2) (pe_op op_mod (pe_callTy call_int1 rfl (T.free "int" (by decide +kernel)) boot_int (pa_cons (pv 0) pa_nil)) pe_int) (fun _ _ => rfl))))), ?_⟩
  obtain ⟨n, p, rfl, q⟩ := h
  refine ⟨by decide, fun D hD => ?_⟩
  have eD := Ex.new (o := .lst ((modalNames ++ interNames).map V.str)) hD
  have fin : ∀ (m : Int), 0 < m → m ≤ 15 → ∀ H1, Ex (upd H D (.lst ((modalNames ++ interNames).map V.str))) H1 → (tRet (tOp (rIxL K) (tVar 2) (tOp (rI (fun _ j => 0 < j) fun i j => .int (i % j)) (tCB (fun xs H Q => (∃ i, xs = [.int i] ∧ Q (.int i) H) ∨ ∃ k, xs = [.bl k] ∧ Q (.int (if k then 1 else 0)) H) (tCons (tVar 0) tNil)) (tC (.int m)))))
      { nx := fun _ H' => Q .non H', rt := Q } ((start ["_law_number", "_law_plain", "_law_logics"] [.int n, .bl p]).set 2 (some (.ref D))) H1 := fun m h0 h15 H1 e1 => by
    obtain ⟨v, hv, ha⟩ := atI_logic ((modalNames ++ interNames).map V.str) (n % m) (Int.emod_nonneg _ (by omega)) (by have := Int.emod_lt_of_pos n h0; show n % m < 15; omega)
    obtain ⟨l, rfl⟩ := logic_of v hv
    exact ev_op (ev_var rfl) (ev_mod (ev_int1 (ev_var rfl)) ev_c h0) (rv_ixL (sq_of (e1 _ _ upd_same)) ha) H1 (Ex.refl _) _ fun H2 e2 => q l H2 ((eD.trans e1).trans e2)
  refine ⟨_, rfl, p, rfl, ?_⟩
  cases p with
  | true => exact iteT (fin 15 (by decide) (by decide) _ (Ex.refl _))
  | false => exact iteF (fin 9 (by decide) (by decide) _ (Ex.refl _))
/-- what _law_numbers has found -/
structure NSt (H0 : Hp) (D : Addr) (most : Int) (H : Hp) : Prop where
  ex : Ex H0 H
  new : H0 D = none
  ms : ∃ ms : List Int, H D = some (.lst (ms.map V.int)) ∧ Low ms ∧ (ms.length : Int) ≤ most
theorem NSt.up {H0 H H' : Hp} {D : Addr} {most : Int} (h : NSt H0 D most H) (e : Ex H H') : NSt H0 D most H' := by
  obtain ⟨ms, h1, h2, h3⟩ := h.ms
  exact ⟨h.ex.trans e, h.new, ms, e _ _ h1, h2, h3⟩
theorem NSt.put {H0 H H' : Hp} {D : Addr} {most z : Int} {ms : List Int} (h : NSt H0 D most H) (e : Ex H H') (h2 : Low ms) (hz : 0 ≤ z ∧ z < 4096) (hl : (ms.length : Int) < most) : NSt H0 D most (upd H' D (.lst (ms.map V.int ++ [.int z]))) := by
  refine ⟨Ex.mut (h.ex.trans e) h.new, h.new, ms ++ [z], ?_, fun m hm => ?_, by simp; omega⟩
  · rw [List.map_append]; exact upd_same
  · rcases List.mem_append.mp hm with hm | hm
    · exact h2 m hm
    · rw [List.mem_singleton.mp hm]; exact hz
theorem cal_num (T : TX w K mg) : Cal P w K mg base "_law_numbers" 1 (spNum K) := by
  have free := T.free
  refine cal_of T 33 rfl sc_num (fun vs H Q E h => by obtain ⟨_, _, _, _, rfl, _⟩ := h; rfl) (fun _ _ _ _ _ _ us hl => match us, hl with | [_, _, _], _ => rfl) fun f cdv A outer s H vs Q E hr h =>
    ⟨_, pss_cons (ps_set (i := 3) sc_num.nd rfl (Or.inl rfl) (pe_lst pa_nil))
      (pss_cons (ps_for (passes_of rfl) rfl (pi_range2 rfl (free "range" (by decide +kernel)) (pa_cons (pv 1) (pa_cons (pe_callB call_len_seq rfl (free "len" (by decide +kernel)) boot_len (pa_cons (pv 0) pa_nil)) pa_nil))) (pg_name (i := 4) sc_num.nd rfl (Or.inl rfl))
        (pss_cons (ps_set (i := 5) sc_num.nd rfl (Or.inl rfl) (pe_callB call_abs rfl (free "abs" (by decide +kernel)) boot_abs (pa_cons (pe_ix ix_list (pv 0) (pv 4) (fun _ _ => rfl)) pa_nil)))
          (pss_one (ps_if (pt_cmpR op_ge (pv 5) pe_int (nomark _))
            (pss_one (ps_for (passes_of rfl) rfl (pi_range1 rfl (free "range" (by decide +kernel)) (pa_cons pe_int pa_nil)) (pg_name (i := 6) sc_num.nd rfl (Or.inl rfl))
              (pss_one (ps_if (PW.pt (pw_and (pt_cmpR op_gt (pv 5) pe_int (nomark _)) (pw_and1 (pt_cmpR op_lt (pe_callB call_len_seq rfl (free "len" (by decide +kernel)) boot_len (pa_cons (pv 3) pa_nil)) (pv 2) (nomark _)))))
                (pss_cons (ps_expr (pe_bm PySem.F.plainAttrs_list PySem.F.slot_list_append PySem.F.type_list_append mt_append (pv 3) (pa_cons (pe_op op_mod (pe_callTy call_int1 rfl (free "int" (by decide +kernel)) boot_int (pa_cons (pv 5) pa_nil)) pe_int) pa_nil)))
                  (pss_one (ps_set (i := 5) sc_num.nd rfl (Or.inl rfl) (pe_op op_fdiv (pv 5) pe_int)))) pss_nil))))
            (pss_one (ps_if (pt_cmpR op_lt (pe_callB call_len_seq rfl (free "len" (by decide +kernel)) boot_len (pa_cons (pv 3) pa_nil)) (pv 2) (nomark _))
              (pss_cons (ps_set (i := 7) sc_num.nd rfl (Or.inl rfl) (pe_op op_mod (pe_callTy call_int1 rfl (free "int" (by decide +kernel)) boot_int (pa_cons (pe_op op_add (pe_op op_add (pe_op op_mul (pv 5) pe_int) (pe_op op_mul (pv 4) pe_int)) pe_int) pa_nil)) pe_int))
              (pss_cons (ps_set (i := 7) sc_num.nd rfl (Or.inl rfl) (pe_op op_mod (pe_callTy call_int1 rfl (free "int" (by decide +kernel)) boot_int (pa_cons (pe_op op_add (pe_op op_mul (pv 7) pe_int) (pe_op op_fdiv (pv 7) pe_int)) pa_nil)) pe_int))
              (pss_one (ps_expr (pe_bm PySem.F.plainAttrs_list PySem.F.slot_list_append PySem.F.type_list_append mt_append (pv 3) (pa_cons (pe_op op_mod (pe_callTy call_int1 rfl (free "int" (by decide +kernel)) boot_int (pa_cons (pv 7) pa_nil)) pe_int) pa_nil)))))) pss_nil))))))
      (pss_one (ps_ret (pv 3)))), ?_⟩
  obtain ⟨a, ns, lo, most, rfl, hs, ln, l0, l10, m0, m100, q⟩ := h
  refine ⟨sz_of (by simp), fun D hD => ?_⟩
  have eD := Ex.new (o := .lst []) hD
  have hs' := ex_l eD hs
  have low : ∀ x : Int, 0 ≤ x % 4096 ∧ x % 4096 < 4096 := fun x => ⟨Int.emod_nonneg _ (by decide), Int.emod_lt_of_pos _ (by decide)⟩
  have n0 : NSt H D most (upd H D (.lst [])) := ⟨eD, hD, [], upd_same, (fun _ z => nomatch z), by simp; exact m0⟩
  have lenT : ∀ {σ : L2.St} {H1 : Hp} {ms : List Int}, σ[3]? = some (some (.ref D)) → σ[2]? = some (some (.int most)) → H1 D = some (.lst (ms.map V.int)) →
      EvT (tTest (tOp (rI0 fun i j => .bl (decide (i < j))) (tCB (fun xs H Q => ∃ p ys, xs = [.ref p] ∧ (SqL K H p ys ∨ SqT K H p ys) ∧ Q (.int ys.length) H) (tCons (tVar 3) tNil)) (tVar 2))) σ H1 (decide ((ms.length : Int) < most)) := fun {σ H1 ms} h3 h2 hm =>
    et_is (et_test (ev_op (ev_lenL (ev_var h3) (sq_of hm)) (ev_var h2) rv_I0)) (by rw [List.length_map])
  refine q_forR2 (lo := lo) (n := ((ns.map V.int).length : Int)) (ea2 (ev_var rfl) (ev_lenL (ev_var rfl) hs')) (by rw [List.length_map]; omega) (fun i σ' H' => (∃ va vc vk vm, σ' = [some (.ref a), some (.int lo), some (.int most), some (.ref D), va, vc, vk, vm]) ∧ NSt H D most H') (fun H1 e1 => ⟨⟨_, _, _, _, rfl⟩, n0.up e1⟩) (fun i σ' H' hi p => ?_) fun σ' H' p => ?_
  · obtain ⟨⟨va, vc, vk, vm, rfl⟩, st⟩ := p
    rw [List.length_map] at hi
    have hj : (lo + (i : Int)).toNat < ns.length := by omega
    have hx : (ns.map V.int)[(lo + (i : Int)).toNat]? = some (.int ns[(lo + (i : Int)).toNat]) := by rw [List.getElem?_map, List.getElem?_eq_getElem hj]; rfl
    refine q_asg (ev_abs (ev_op (ev_var rfl) (ev_var rfl) (rv_ixL (ex_l st.ex hs) (at_of (j := (lo + (i : Int)).toNat) (by omega) hx)))) fun H1 e1 => ?_
    have st1 := st.up e1
    refine s_if (et_test (ev_op (ev_var rfl) ev_c rv_I0)) (fun _ H2 e2 => ?_) (fun _ H2 e2 => ?_)
    · have st2 := st1.up e2
      refine s_forR1 (n := 60) (ea_cons ev_c ea_nil) (by decide) (fun i2 σ2 H2 => (∃ c vk, σ2 = [some (.ref a), some (.int lo), some (.int most), some (.ref D), some (.int (lo + (i : Int))), some (.int c), vk, vm]) ∧ NSt H D most H2) (fun H3 e3 => ⟨⟨_, _, rfl⟩, st2.up e3⟩) (fun i2 σ2 H3 hi2 p => ?_) fun σ2 H3 p => ?_
      · obtain ⟨⟨c, vk2, rfl⟩, st3⟩ := p
        obtain ⟨ms, h1, h2, h3⟩ := st3.ms
        refine s_when (b := decide (0 < c) && decide ((ms.length : Int) < most)) (et_and (et_test (ev_op (ev_var rfl) ev_c rv_I0)) fun _ => lenT rfl rfl h1) (fun hb H4 e4 => ?_) fun _ H4 e4 => ⟨⟨c, _, rfl⟩, st3.up e4⟩
        have hl := of_decide_eq_true (Bool.and_eq_true_iff.mp hb).2
        refine q_app (e4 _ _ h1) (ev_var rfl) (ev_mod (ev_int1 (ev_var rfl)) ev_c (by decide)) (by simp; omega) fun H5 e5 => ?_
        exact s_asg (ev_div (ev_var rfl) ev_c (by decide)) fun H6 e6 => ⟨⟨_, _, rfl⟩, (st3.put (e4.trans e5) h2 (low c) hl).up e6⟩
      · obtain ⟨⟨c, vk2, rfl⟩, st3⟩ := p
        exact ⟨⟨_, _, _, _, rfl⟩, st3⟩
    · have st2 := st1.up e2
      obtain ⟨ms, h1, h2, h3⟩ := st2.ms
      refine s_when (lenT rfl rfl h1) (fun hb H3 e3 => ?_) fun _ H3 e3 => ⟨⟨_, _, _, _, rfl⟩, st2.up e3⟩
      have hl := of_decide_eq_true hb
      refine q_asg (ev_mod (ev_int1 (ev_op (ev_op (ev_op (ev_var rfl) ev_c (rv_I (.inr (by decide)))) (ev_op (ev_var rfl) ev_c (rv_I (.inr (by decide)))) rv_I0) ev_c rv_I0)) ev_c (by decide)) fun H4 e4 => ?_
      refine q_asg (ev_mod (ev_int1 (ev_op (ev_op (ev_var rfl) ev_c (rv_I (.inr (by decide)))) (ev_div (ev_var rfl) ev_c (by decide)) rv_I0)) ev_c (by decide)) fun H5 e5 => ?_
      refine s_app (((e3.trans e4).trans e5) _ _ h1) (ev_var rfl) (ev_mod (ev_int1 (ev_var rfl)) ev_c (by decide)) (by simp; omega) fun H6 e6 => ?_
      exact ⟨⟨_, _, _, _, rfl⟩, st2.put (((e3.trans e4).trans e5).trans e6) h2 (low _) hl⟩
  · obtain ⟨⟨va, vc, vk, vm, rfl⟩, st⟩ := p
    obtain ⟨ms, h1, h2, h3⟩ := st.ms
    exact ⟨_, rfl, q D H' ms hD st.ex h1 h2 h3⟩
end
end K33

set_option Elab.async false
set_option linter.all false
set_option maxRecDepth 100000
set_option maxHeartbeats 4000000
namespace K33
open PySem PySem.Spec PyProof.Rows L2 Evl
/-- the pool -/
def Pl (p : Addr) (H : Hp) : Prop := ∃ ms : List Int, H p = some (.lst (ms.map V.int)) ∧ Low ms
theorem Pl.ex {p : Addr} {H H' : Hp} (e : Ex H H') (h : Pl p H) : Pl p H' := let ⟨ms, a, b⟩ := h; ⟨ms, e _ _ a, b⟩
theorem Pl.et {K : PySem.W.Frag} {p : Addr} {H H' : Hp} (h : Pl p H) (e : ExB p H H') : Et K H H' := fun a xs hs => by
  obtain ⟨ms, h, _⟩ := h
  rcases hs with (hs | ⟨o', hs⟩) | hs
  · exact .inl (.inl (e _ _ (fun z => by rw [z, h] at hs; cases hs) hs))
  · exact .inl (.inr ⟨o', e _ _ (fun z => by rw [z, h] at hs; cases hs) hs⟩)
  · exact .inr hs
def spFm (K : PySem.W.Frag) (n : Nat) : Sp := fun vs H Q _ => ∃ (p : Addr) (d : Int) (pl : Bool), vs = [.ref p, .int d, .bl pl] ∧ 0 ≤ d ∧ d ≤ n ∧ Pl p H ∧ ∀ v f H', ExB p H H' → Pl p H' → FmH K H' f v → (ht f : Int) ≤ d + 1 → Q v H'
abbrev nsF : List Str := ["_law_pool", "_law_depth", "_law_plain", "_law_number", "_law_kind", "_law_first"]
theorem sc_fm : FnScope nsF ["_law_pool", "_law_depth", "_law_plain"] (defScope (top 49)) := ⟨rfl, rfl, rfl, by decide +kernel, rfl, by decide +kernel, by decide +kernel⟩
theorem inV34 (k : Int) : inV (.int k) [.int 3, .int 4] = decide (k = 3 ∨ k = 4) := by
  by_cases h3 : k = 3
  · subst h3; rfl
  · by_cases h4 : k = 4
    · subst h4; rfl
    · rw [decide_eq_false (by omega)]
      simp [inV, eqV]
      constructor <;> intro h <;> omega
theorem ok_names : PyData.strOk "p" = true ∧ PyData.strOk "q" = true ∧ PyData.strOk "r" = true := by decide +kernel
section
variable {K : PySem.W.Frag} {σ : L2.St} {H : Hp} {tz : TS} {D : Ends} {p : Addr}
/-- x = int(pool.pop(0)) % m, the pool not empty -/
theorem pop_go {ms : List Int} {m : Int} {Q : VK} (hσ : σ[0]? = some (some (.ref p))) (h : H p = some (.lst ((m :: ms).map V.int))) (q : Q (.int m) (upd H p (.lst (ms.map V.int)))) :
    (tCB (fun xs H Q => (∃ i, xs = [.int i] ∧ Q (.int i) H) ∨ ∃ k, xs = [.bl k] ∧ Q (.int (if k then 1 else 0)) H) (tCons (tBM K "list" rPopAt (tVar 0) (tCons (tC (.int 0)) tNil)) tNil)) σ H Q :=
  ⟨_, hσ, .inl ⟨rfl, _, SqL.of h⟩, p, _, 0, 0, .int m, rfl, rfl, h, by decide, by decide, by simp [seqIndex?], rfl, .inl ⟨m, rfl, q⟩⟩
end
section
variable {P : Program} {w : World} {K : PySem.W.Frag} {mg : Str → Option Value} {base : Heap} {gN : Addr}
theorem fm_leaf {H H1 : Hp} {p : Addr} {d : Int} {Q : VK} (q : ∀ v f H', ExB p H H' → Pl p H' → FmH K H' f v → (ht f : Int) ≤ d + 1 → Q v H') (d0 : 0 ≤ d) (e : ExB p H H1) (h : Pl p H1) : ∀ x ∈ ([.str "p", .str "q", .str "p", .str "q", .str "r"] : List V), ∀ r, H1 r = none → Q (.ref r) (upd H1 r (.tup [.str "var", x])) := by
  intro x hx r hr
  have e1 := Ex.new (o := .tup [.str "var", x]) hr
  obtain ⟨o1, o2, o3⟩ := ok_names
  have fin : ∀ y : Str, x = .str y → PyData.strOk y = true → Q (.ref r) (upd H1 r (.tup [.str "var", x])) := fun y ey oy => by
    subst ey
    exact q _ (.var y) _ (e.trans (ExB.of e1)) (h.ex e1) ⟨r, rfl, st_of upd_same, oy⟩ (by simp [ht]; omega)
  simp only [List.mem_cons, List.not_mem_nil, or_false] at hx
  rcases hx with rfl | rfl | rfl | rfl | rfl
  · exact fin _ rfl o1
  · exact fin _ rfl o2
  · exact fin _ rfl o1
  · exact fin _ rfl o2
  · exact fin _ rfl o3
/-- the promise's last word -/
abbrev FmQ (K : PySem.W.Frag) (p : Addr) (d : Int) (H : Hp) (Q : VK) : Prop := ∀ v f H', ExB p H H' → Pl p H' → FmH K H' f v → (ht f : Int) ≤ d + 1 → Q v H'
theorem fm_make (T : TX w K mg) (n : Nat) (hrest : ∀ f cdv A outer s H E, Room n (A.deeper (envOfC "_law_formula" (defScope (top 49)) s.heap.objs.size f cdv)) →
      ∃ u, PSs (cxOf (L2.CX P w) P w K mg base nsF "_law_formula" (defScope (top 49)) f cdv A outer s H E) ((defBody (top 49)).drop 4) u ∧ ∀ (H0 H1 : Hp) (p : Addr) (d : Int) (pl : Bool) (Q : VK) (num : Int), 0 < d → d ≤ n → ExB p H0 H1 → Pl p H1 → 2 ≤ num % 10 → FmQ K p d H0 Q →
        u { nx := fun _ H' => Q .non H', rt := Q } [some (.ref p), some (.int d), some (.bl pl), some (.int num), some (.int (num % 10)), none] H1) : Cal P w K mg base "_law_formula" (n + 1) (spFm K n) := by
  have free := T.free
  refine cal_of T 34 rfl sc_fm (fun vs H Q E h => by obtain ⟨_, _, _, rfl, _⟩ := h; rfl) (fun _ _ _ _ _ _ us hl => match us, hl with | [_, _, _], _ => rfl) fun f cdv A outer s H vs Q E hr h => ?_
  obtain ⟨u, hu, hread⟩ := hrest f cdv A outer s H E hr
  refine ⟨_, pss_cons (ps_set (i := 3) sc_fm.nd rfl (Or.inl rfl) pe_int)
      (pss_cut (ps_if (pt_cmpR (op_neD (hu64 hr)) (pv 0) (pe_lst pa_nil) (nomark _)) (pss_one (ps_set (i := 3) sc_fm.nd rfl (Or.inl rfl) (pe_callTy call_int1 rfl (free "int" (by decide +kernel)) boot_int (pa_cons (pe_bm PySem.F.plainAttrs_list PySem.F.slot_list_pop PySem.F.type_list_pop mt_popAt (pv 0) (pa_cons pe_int pa_nil)) pa_nil)))) pss_nil)
      (pss_cons (ps_set (i := 4) sc_fm.nd rfl (Or.inl rfl) (pe_op op_mod (pe_callTy call_int1 rfl (free "int" (by decide +kernel)) boot_int (pa_cons (pv 3) pa_nil)) pe_int))
      (pss_cons (ps_if (PW.pt (pw_or (pt_cmpR op_eq (pv 1) pe_int (nomark _)) (pw_or1 (pt_cmpR op_lt (pv 4) pe_int (nomark _)))))
        (pss_cons (ps_if (pt_cmpR op_eq (pe_op op_mod (pe_op op_fdiv (pv 3) pe_int) pe_int) pe_int (nomark _)) (pss_one (ps_ret (pe_tup (pa_cons pe_str pa_nil)))) pss_nil)
          (pss_one (ps_ret (pe_tup (pa_cons pe_str (pa_cons (pe_ix ix_list (pe_lst (pa_cons pe_str (pa_cons pe_str (pa_cons pe_str (pa_cons pe_str (pa_cons pe_str pa_nil)))))) (pe_op op_mod (pe_op op_fdiv (pv 3) pe_int) pe_int) (fun _ _ => rfl)) pa_nil)))))) pss_nil)
        hu))), ?_⟩
  obtain ⟨p, d, pl, rfl, d0, dn, ⟨ms, hp, low⟩, q⟩ := h
  refine q_asg ev_c fun H1 e1 => ?_
  have hp1 := e1 _ _ hp
  refine q_cut (M := fun σ' H' => ∃ num, σ' = [some (.ref p), some (.int d), some (.bl pl), some (.int num), none, none] ∧ ExB p H H' ∧ Pl p H') ?_ ?_
  · refine s_when (et_test (ev_neNil (ev_var rfl) (sq_of hp1))) (fun hb H2 e2 => ?_) fun _ H2 e2 => ⟨0, rfl, ExB.of (e1.trans e2), ms, e2 _ _ hp1, low⟩
    cases ms with
    | nil => simp at hb
    | cons m ms =>
      refine pop_go rfl (e2 _ _ hp1) ?_
      exact ⟨m, rfl, (ExB.of (e1.trans e2)).trans ExB.upd, ms, upd_same, fun z hz => low z (List.mem_cons_of_mem _ hz)⟩
  · rintro _ H2 ⟨num, rfl, eb, hpl⟩
    refine q_asg (ev_mod (ev_int1 (ev_var rfl)) ev_c (by decide)) fun H3 e3 => ?_
    refine q_when (b := decide (V.int d = V.int 0) || decide (num % 10 < 2)) (et_or (et_test (ev_op (ev_var rfl) ev_c (rv_eq rfl))) fun _ => et_test (ev_op (ev_var rfl) ev_c rv_I0)) (fun _ H4 e4 => ?_) (fun hb H4 e4 => ?_)
    · have eb4 := (eb.trans (ExB.of e3)).trans (ExB.of e4)
      have hpl4 := (hpl.ex e3).ex e4
      refine q_when (et_test (ev_op (ev_mod (ev_div (ev_var rfl) ev_c (by decide)) ev_c (by decide)) ev_c (rv_eq rfl))) (fun _ H5 e5 => ?_) (fun _ H5 e5 => ?_)
      · refine ⟨sz_of (by simp), fun r hr' => ?_⟩
        have e6 := Ex.new (o := .tup [.str "falsum"]) hr'
        exact q _ .fls _ (eb4.trans (ExB.of (e5.trans e6))) (hpl4.ex (e5.trans e6)) ⟨r, rfl, st_of upd_same⟩ (by simp [ht]; omega)
      · obtain ⟨x, hx, ha⟩ := atI_logic [.str "p", .str "q", .str "p", .str "q", .str "r"] (num / 80 % 5) (Int.emod_nonneg _ (by decide)) (by have := Int.emod_lt_of_pos (num / 80) (show (0 : Int) < 5 by decide); show num / 80 % 5 < 5; omega)
        refine ev_opL1 (z := x) (el_lst (ea_cons ev_c (ea_cons ev_c (ea_cons ev_c (ea_cons ev_c (ea_cons ev_c ea_nil))))) (by simp)) (fun H6 e6 => ev_mod (ev_div (ev_var rfl) ev_c (by decide)) ev_c (by decide)) (fun l H6 hl e6 => rv_ixL (sq_of hl) ha) H5 (Ex.refl _) _ fun H6 e6 => ⟨sz_of (by simp), fun r hr' => ?_⟩
        exact fm_leaf q d0 (eb4.trans (ExB.of (e5.trans e6))) (hpl4.ex (e5.trans e6)) x hx r hr'
    · have hd0 : ¬ d = 0 := fun e => by rw [e] at hb; simp at hb
      have hk2 : ¬ num % 10 < 2 := fun e => by rw [decide_eq_true e, Bool.or_true] at hb; cases hb
      exact hread H H4 p d pl Q num (by omega) dn ((eb.trans (ExB.of e3)).trans (ExB.of e4)) ((hpl.ex e3).ex e4) (by omega) q
/-- the tags by number -/
theorem tag_of (k : Int) (h5 : 5 ≤ k) (h10 : k < 10) : ∃ t, atI ([.str "and", .str "or", .str "implies", .str "implies", .str "or"] : List V) (k - 5) = some (.str t) ∧ (t = "and" ∨ t = "or" ∨ t = "implies") := by
  rcases (show k = 5 ∨ k = 6 ∨ k = 7 ∨ k = 8 ∨ k = 9 by omega) with rfl | rfl | rfl | rfl | rfl
  · exact ⟨"and", rfl, .inl rfl⟩
  · exact ⟨"or", rfl, .inr (.inl rfl)⟩
  · exact ⟨"implies", rfl, .inr (.inr rfl)⟩
  · exact ⟨"implies", rfl, .inr (.inr rfl)⟩
  · exact ⟨"or", rfl, .inr (.inl rfl)⟩
theorem node_of {K : PySem.W.Frag} {H : Hp} {r : Addr} {t : Str} {u v : V} {f g : Fm} (ht' : t = "and" ∨ t = "or" ∨ t = "implies") (h : SqT K H r [.str t, u, v]) (h1 : FmH K H f u) (h2 : FmH K H g v) : ∃ x, FmH K H x (.ref r) ∧ ht x = max (ht f) (ht g) + 1 := by
  rcases ht' with rfl | rfl | rfl
  · exact ⟨.and f g, ⟨r, u, v, rfl, h, h1, h2⟩, rfl⟩
  · exact ⟨.or f g, ⟨r, u, v, rfl, h, h1, h2⟩, rfl⟩
  · exact ⟨.imp f g, ⟨r, u, v, rfl, h, h1, h2⟩, rfl⟩
theorem cal_fm (T : TX w K mg) : ∀ n, Cal P w K mg base "_law_formula" (n + 1) (spFm K n) := by
  intro n
  induction n with
  | zero => exact fm_make T 0 fun f cdv A outer s H E hr => ⟨tNever, pss_never, fun H0 H1 p d pl Q num h1 h2 => by omega⟩
  | succ n ih =>
    refine fm_make T (n + 1) fun f cdv A outer s H E hr => ⟨_, pss_cons (ps_if (PW.pt (pw_or (pt_cmpR op_eq (pv 4) pe_int (nomark _)) (pw_or1 (PW.pt (pw_and (pt_cmpR op_in_seq (pv 4) (pe_tup (pa_cons pe_int (pa_cons pe_int pa_nil))) rfl) (pw_and1 (pt_val (pv 2))))))))
        (pss_one (ps_ret (pe_tup (pa_cons pe_str (pa_cons (pe_f0 ih hr rfl (pa_cons (pv 0) (pa_cons (pe_op op_sub (pv 1) pe_int) (pa_cons (pv 2) pa_nil)))) (pa_cons (pe_tup (pa_cons pe_str pa_nil)) pa_nil)))))) pss_nil)
      (pss_cons (ps_if (pt_cmpR op_in_seq (pv 4) (pe_tup (pa_cons pe_int (pa_cons pe_int pa_nil))) rfl) (pss_one (ps_ret (pe_tup (pa_cons pe_str (pa_cons (pe_f0 ih hr rfl (pa_cons (pv 0) (pa_cons (pe_op op_sub (pv 1) pe_int) (pa_cons (pv 2) pa_nil)))) pa_nil))))) pss_nil)
      (pss_cons (ps_set (i := 5) sc_fm.nd rfl (Or.inl rfl) (pe_f0 ih hr rfl (pa_cons (pv 0) (pa_cons (pe_op op_sub (pv 1) pe_int) (pa_cons (pv 2) pa_nil)))))
      (pss_one (ps_ret (pe_tup (pa_cons (pe_ix ix_list (pe_lst (pa_cons pe_str (pa_cons pe_str (pa_cons pe_str (pa_cons pe_str (pa_cons pe_str pa_nil)))))) (pe_op op_sub (pv 4) pe_int) (fun _ _ => rfl)) (pa_cons (pv 5) (pa_cons (pe_f0 ih hr rfl (pa_cons (pv 0) (pa_cons (pe_op op_sub (pv 1) pe_int) (pa_cons (pv 2) pa_nil)))) pa_nil)))))))), fun H0 H1 p d pl Q num h1 h2 eb hpl hk q => ?_⟩
    have kk : num % 10 < 10 := Int.emod_lt_of_pos _ (by decide)
    have dn : d - 1 ≤ n := by omega
    have t34 : ∀ {σ : L2.St} {H : Hp}, σ[4]? = some (some (.int (num % 10))) → EvT (tTest (tOp (rIn K false) (tVar 4) (tTup (tCons (tC (.int 3)) (tCons (tC (.int 4)) tNil))))) σ H (decide (num % 10 = 3 ∨ num % 10 = 4)) := fun {σ H} hσ =>
      et_is (et_test (ev_inU (ev_var hσ) (eu_tup (ea2 ev_c ev_c) (by simp)) rfl rfl)) (inV34 _)
    refine q_when (b := decide (V.int (num % 10) = V.int 2) || (decide (num % 10 = 3 ∨ num % 10 = 4) && pl)) (et_or (et_test (ev_op (ev_var rfl) ev_c (rv_eq rfl))) fun _ => et_and (t34 rfl) fun _ => fun H2 e2 Q2 k => ⟨_, rfl, pl, rfl, k _ (Ex.refl _)⟩) (fun _ H2 e2 => ?_) (fun hb H2 e2 => ?_)
    · refine ⟨_, rfl, _, rfl, _, _, rfl, rfl, _, rfl, p, d - 1, pl, rfl, by omega, dn, hpl.ex e2, fun v g H3 e3 hpl3 hg hh => ⟨sz_of (by simp), fun r hr' => ⟨sz_of (by simp), fun r2 hr2 => ?_⟩⟩⟩
      have e4 := Ex.new (o := .tup [.str "falsum"]) hr'
      have e5 := Ex.new (o := .tup [.str "implies", v, .ref r]) hr2
      exact q _ (.imp g .fls) _ ((eb.trans (ExB.of e2)).trans (e3.trans (ExB.of (e4.trans e5)))) (hpl3.ex (e4.trans e5)) ⟨r2, v, .ref r, rfl, st_of upd_same, hg.ex (e4.trans e5), r, rfl, st_of (e5 _ _ upd_same)⟩ (by simp only [ht]; omega)
    · refine q_when (t34 rfl) (fun _ H3 e3 => ?_) (fun hb3 H3 e3 => ?_)
      · refine ⟨_, rfl, _, rfl, _, _, rfl, rfl, _, rfl, p, d - 1, pl, rfl, by omega, dn, hpl.ex (e2.trans e3), fun v g H4 e4 hpl4 hg hh => ⟨sz_of (by simp), fun r2 hr2 => ?_⟩⟩
        have e5 := Ex.new (o := .tup [.str "box", v]) hr2
        exact q _ (.box g) _ ((eb.trans (ExB.of (e2.trans e3))).trans (e4.trans (ExB.of e5))) (hpl4.ex e5) ⟨r2, v, rfl, st_of upd_same, hg.ex e5⟩ (by simp only [ht]; omega)
      · have n34 := of_decide_eq_false hb3
        have n2 : ¬ num % 10 = 2 := fun e => by rw [e] at hb; simp at hb
        obtain ⟨t, ha, htag⟩ := tag_of (num % 10) (by omega) kk
        refine q_as ?_
        refine ⟨_, rfl, _, rfl, _, _, rfl, rfl, _, rfl, p, d - 1, pl, rfl, by omega, dn, hpl.ex (e2.trans e3), fun v g H4 e4 hpl4 hg hh => ?_⟩
        refine ev_opL1 (z := .str t) (el_lst (ea_cons ev_c (ea_cons ev_c (ea_cons ev_c (ea_cons ev_c (ea_cons ev_c ea_nil))))) (by simp)) (fun H6 e6 => ev_op (ev_var rfl) ev_c rv_I0) (fun l H6 hl e6 => rv_ixL (sq_of hl) ha) H4 (Ex.refl _) _ fun H5 e5 => ?_
        refine ⟨_, rfl, _, rfl, _, rfl, _, _, rfl, rfl, _, rfl, p, d - 1, pl, rfl, by omega, dn, hpl4.ex e5, fun v2 g2 H6 e6 hpl6 hg2 hh2 => ⟨sz_of (by simp), fun r hr' => ?_⟩⟩
        have e7 := Ex.new (o := .tup [.str t, v, v2]) hr'
        have hg1 := ((hg.ex e5).et ((hpl4.ex e5).et e6)).ex e7
        obtain ⟨x, hx, hxh⟩ := node_of htag (st_of upd_same) hg1 (hg2.ex e7)
        exact q _ x _ (((eb.trans (ExB.of (e2.trans e3))).trans e4).trans ((ExB.of e5).trans (e6.trans (ExB.of e7)))) (hpl6.ex e7) hx (by rw [hxh]; omega)
end
end K33

set_option Elab.async false
set_option linter.all false
set_option maxRecDepth 100000
set_option maxHeartbeats 4000000
namespace K33
open PySem PySem.Spec PyProof.Rows L2 Evl
theorem s_as {te : TE} {i : Nat} {D : Ends} {σ : L2.St} {H : Hp} (h : te σ H (fun x H1 => D.nx (σ.set i (some x)) H1)) : tAsg te (gName i) D σ H := h
theorem op_go {ta tb : TE} {r : R2} {σ : L2.St} {H : Hp} {Q : VK} (h : ta σ H fun x H1 => tb σ H1 fun y H2 => r x y H2 Q) : tOp r ta tb σ H Q := h
def spGoal (K : PySem.W.Frag) : Sp := fun vs H Q _ => ∃ (p : Addr) (pl : Bool), vs = [.ref p, .int 3, .bl pl] ∧ Pl p H ∧ ∀ v L R H', ExB p H H' → Pl p H' → GoalV K H' v (L, R) → L.length ≤ 3 → R.length ≤ 3 → (∀ z ∈ L, ht z.2 ≤ 3) → (∀ z ∈ R, ht z.2 ≤ 3) → Q v H'
abbrev nsG : List Str := ["_law_pool", "_law_most", "_law_plain", "_law_sides", "_law_k", "_law_many", "_law_j"]
theorem sc_goal : FnScope nsG ["_law_pool", "_law_most", "_law_plain"] (defScope (top 50)) := ⟨rfl, rfl, rfl, by decide +kernel, rfl, by decide +kernel, by decide +kernel⟩
/-- a side of at most three small formulas -/
def Small (K : PySem.W.Frag) (H : Hp) (v : V) : Prop := ∃ L, SideV K H v L ∧ L.length ≤ 3 ∧ ∀ z ∈ L, ht z.2 ≤ 3
theorem Small.et {K : PySem.W.Frag} {H H' : Hp} {v : V} (e : Et K H H') (h : Small K H v) : Small K H' v := let ⟨L, a, b⟩ := h; ⟨L, a.et e, b⟩
/-- ahead of a turn of _law_goal -/
structure GSt (K : PySem.W.Frag) (H0 : Hp) (p S : Addr) (i : Nat) (H : Hp) : Prop where
  ex : ExB p H0 H
  pool : Pl p H
  new : H0 S = none
  ne : p ≠ S
  sides : ∃ vs : List V, H S = some (.lst vs) ∧ vs.length = i ∧ ∀ v ∈ vs, Small K H v
theorem GSt.up {K : PySem.W.Frag} {H0 H H' : Hp} {p S : Addr} {i : Nat} (h : GSt K H0 p S i H) (e : Ex H H') : GSt K H0 p S i H' := by
  obtain ⟨vs, h1, h2, h3⟩ := h.sides
  exact ⟨h.ex.trans (ExB.of e), h.pool.ex e, h.new, h.ne, vs, e _ _ h1, h2, fun v hv => (h3 v hv).et (Et.of e)⟩
theorem GSt.upB {K : PySem.W.Frag} {H0 H H' : Hp} {p S : Addr} {i : Nat} (h : GSt K H0 p S i H) (e : ExB p H H') (hp : Pl p H') : GSt K H0 p S i H' := by
  obtain ⟨vs, h1, h2, h3⟩ := h.sides
  exact ⟨h.ex.trans e, hp, h.new, h.ne, vs, e _ _ (Ne.symm h.ne) h1, h2, fun v hv => (h3 v hv).et (h.pool.et e)⟩
section
variable {P : Program} {w : World} {K : PySem.W.Frag} {mg : Str → Option Value} {base : Heap} {gN : Addr}
theorem cal_goal (T : TX w K mg) : Cal P w K mg base "_law_goal" 4 (spGoal K) := by
  have free := T.free
  refine cal_of T 35 rfl sc_goal (fun vs H Q E h => by obtain ⟨_, _, rfl, _⟩ := h; rfl) (fun _ _ _ _ _ _ us hl => match us, hl with | [_, _, _], _ => rfl) fun f cdv A outer s H vs Q E hr h =>
    ⟨_, pss_cons (ps_set (i := 3) sc_goal.nd rfl (Or.inl rfl) (pe_lst pa_nil))
      (pss_cons (ps_for (passes_of rfl) rfl (pi_range1 rfl (free "range" (by decide +kernel)) (pa_cons pe_int pa_nil)) (pg_name (i := 4) sc_goal.nd rfl (Or.inl rfl))
        (pss_cons (ps_set (i := 5) sc_goal.nd rfl (Or.inl rfl) pe_int)
        (pss_cut (ps_if (pt_cmpR (op_neD (hu64 hr)) (pv 0) (pe_lst pa_nil) (nomark _)) (pss_one (ps_set (i := 5) sc_goal.nd rfl (Or.inl rfl) (pe_op op_mod (pe_callTy call_int1 rfl (free "int" (by decide +kernel)) boot_int (pa_cons (pe_bm PySem.F.plainAttrs_list PySem.F.slot_list_pop PySem.F.type_list_pop mt_popAt (pv 0) (pa_cons pe_int pa_nil)) pa_nil)) (pe_op op_add (pv 1) pe_int)))) pss_nil)
        (pss_one (ps_expr (pe_bm PySem.F.plainAttrs_list PySem.F.slot_list_append PySem.F.type_list_append mt_append (pv 3) (pa_cons
          (pe_callTy call_tuple_of rfl (free "tuple" (by decide +kernel)) boot_tuple (pa_cons (pe_callB (cr_sortedF rfl (hu64 hr)) rfl (free "sorted" (by decide +kernel)) boot_sorted (pa_cons (pe_callTy (cr_setF rfl (hu64 hr)) rfl (free "set" (by decide +kernel)) boot_set (pa_cons
            (pe_lc (own := [("_law_j", 6)]) (g := gName 6) (tt := tYes) (te := tCal (spFm K 2) (fun _ => E0) (tCons (tVar 0) (tCons (tC (.int 2)) (tCons (tVar 2) tNil)))) rfl sc_goal.nd (pi_range1 rfl (free "range" (by decide +kernel)) (pa_cons (pv 5) pa_nil)) (blkOk_by (N := nsG) (sc := defScope (top 50)) (by decide +kernel)) (fun _ _ _ _ _ => pg_name (i := 6) sc_goal.nd rfl (Or.inl rfl)) (fun _ _ _ _ _ => pts_nil)
              (fun _ _ _ _ _ => pe_f0 (cal_fm T 2) hr rfl (pa_cons (pv 0) (pa_cons pe_int (pa_cons (pv 2) pa_nil))))) pa_nil)) pa_nil)) pa_nil)) pa_nil)))))))
      (pss_one (ps_ret (pe_tup (pa_cons (pe_ix ix_list (pv 3) pe_int (fun _ _ => rfl)) (pa_cons (pe_ix ix_list (pv 3) pe_int (fun _ _ => rfl)) pa_nil)))))), ?_⟩
  obtain ⟨p, pl, rfl, hpl, q⟩ := h
  refine ⟨sz_of (by simp), fun S hS => ?_⟩
  have hne : p ≠ S := fun e => by obtain ⟨ms, hm, _⟩ := hpl; rw [e, hS] at hm; cases hm
  have g0 : GSt K H p S 0 (upd H S (.lst [])) := ⟨ExB.of (Ex.new hS), hpl.ex (Ex.new hS), hS, hne, [], upd_same, rfl, fun _ z => nomatch z⟩
  refine q_forR1 (n := 2) (ea_cons ev_c ea_nil) (by decide) (fun i σ' H' => (∃ vk vm, σ' = [some (.ref p), some (.int 3), some (.bl pl), some (.ref S), vk, vm, none]) ∧ GSt K H p S i H') (fun H1 e1 => ⟨⟨_, _, rfl⟩, g0.up e1⟩) (fun i σ' H' hi pr => ?_) fun σ' H' pr => ?_
  · obtain ⟨⟨vk, vm, rfl⟩, st⟩ := pr
    refine q_asg ev_c fun H1 e1 => ?_
    have st1 := st.up e1
    refine q_cut (M := fun σ' H' => ∃ many : Int, 0 ≤ many ∧ many ≤ 3 ∧ σ' = [some (.ref p), some (.int 3), some (.bl pl), some (.ref S), some (.int (i : Int)), some (.int many), none] ∧ GSt K H p S i H') ?_ ?_
    · obtain ⟨ms, hm, low⟩ := st1.pool
      refine s_when (et_test (ev_neNil (ev_var rfl) (sq_of hm))) (fun hb H2 e2 => ?_) fun _ H2 e2 => ⟨1, by decide, by decide, rfl, st1.up e2⟩
      cases ms with
      | nil => simp at hb
      | cons m ms =>
        refine s_as (op_go ?_)
        refine pop_go rfl (e2 _ _ hm) ?_
        have st2 := (st1.up e2).upB (H' := upd H2 p (.lst (ms.map V.int))) ExB.upd ⟨ms, upd_same, fun z hz => low z (List.mem_cons_of_mem _ hz)⟩
        refine ⟨_, rfl, 3, 1, rfl, rfl, m, 3 + 1, rfl, rfl, (show (0:Int) < 3 + 1 by decide), m % (3 + 1), Int.emod_nonneg _ (by decide), ?_, rfl, st2⟩
        have := Int.emod_lt_of_pos m (show (0 : Int) < 3 + 1 by decide)
        omega
    · rintro _ H2 ⟨many, m0, m3, rfl, st2⟩
      obtain ⟨vs, hvs, lvs, svs⟩ := st2.sides
      refine ⟨_, rfl, .inl ⟨rfl, _, SqL.of hvs⟩, ?_⟩
      refine one_go (cb_go (one_go (cb_go (one_go (cb_go (one_go ?_))))))
      refine ⟨_, rfl, many, rfl, by omega, by omega, fun D hD => ?_⟩
      have pD : p ≠ D := fun e => by obtain ⟨ms, hm, _⟩ := st2.pool; rw [e, hD] at hm; cases hm
      refine lc_range (lo := 0) (n := many.toNat) (fun k H' => ExB p H2 H' ∧ Pl p H' ∧ ∃ N : List FM, H' D = some (.lst (refs N)) ∧ AllF K H' N ∧ (∀ z ∈ N, ht z.2 ≤ 3) ∧ N.length = k) ⟨ExB.of (Ex.new hD), st2.pool.ex (Ex.new hD), [], upd_same, (fun _ z => nomatch z), (fun _ z => nomatch z), rfl⟩ (fun k H' hk pr => ?_) fun H' pr => ?_
      · obtain ⟨e3, pl3, N, hN, aN, bN, lN⟩ := pr
        refine ⟨rfl, ?_⟩
        refine yes_go ?_
        refine ⟨_, rfl, _, rfl, p, 2, pl, rfl, by decide, by decide, pl3, fun v f H4 e4 pl4 hf hh => ?_⟩
        obtain ⟨b, rfl⟩ := hf.ref
        have hD4 := e4 _ _ (Ne.symm pD) hN
        have et4 := pl3.et (K := K) e4
        have et5 := et_lst (K := K) (o := .lst (refs N ++ [V.ref b])) hD4
        refine ⟨refs N, hD4, sz_lt (by simp only [refs, List.length_map]; omega), ?_, ?_, N ++ [(b, f)], ?_, fun z hz => ?_, fun z hz => ?_, by rw [List.length_append, lN]; rfl⟩
        · intro x o xp hx
          rw [upd_ne (ne_of_none hx hD)]
          exact e4 _ _ xp (e3 _ _ xp hx)
        · obtain ⟨ms, hm, low⟩ := pl4
          exact ⟨ms, by rw [upd_ne pD]; exact hm, low⟩
        · rw [show refs (N ++ [(b, f)]) = refs N ++ [V.ref b] by simp [refs]]; exact upd_same
        · rcases List.mem_append.mp hz with hz | hz
          · exact ((aN z hz).et et4).et et5
          · rw [List.mem_singleton.mp hz]; exact hf.et et5
        · rcases List.mem_append.mp hz with hz | hz
          · exact bN z hz
          · rw [List.mem_singleton.mp hz]; show ht f ≤ 3; omega
      · obtain ⟨e3, pl3, N, hN, aN, bN, lN⟩ := pr
        refine ⟨D, N, rfl, .inl (sq_of hN), aN, fun z hz => by have := bN z hz; omega, by omega, fun a M ha hM lM => ?_⟩
        have e4 : Ex H' (upd H' a (SetFO w a M)) := Ex.new ha
        refine ⟨a, M, rfl, upd_same, fun z hz => (aN z (hM z hz)).ex e4, fun z hz => by have := bN z (hM z hz); omega, fun N2 y hN2 lN2 hy => ?_⟩
        have e5 := Ex.new (o := .lst (refs N2)) hy
        refine ⟨y, refs N2, rfl, .inl ⟨sq_of upd_same, fun t ht' => ?_⟩⟩
        have e6 := Ex.new (o := .tup (refs N2)) ht'
        have e46 := (e4.trans e5).trans e6
        have st3 := (st2.upB e3 pl3).up e46
        obtain ⟨vs3, hvs3, lvs3, svs3⟩ := st3.sides
        refine ⟨S, vs3, .ref t, rfl, rfl, hvs3, sz_lt (by omega), ?_⟩
        have et := et_lst (K := K) (o := .lst (vs3 ++ [V.ref t])) hvs3
        have sm : Small K (upd (upd (upd H' a (SetFO w a M)) y (.lst (refs N2))) t (.tup (refs N2))) (.ref t) := ⟨N2, ⟨t, rfl, st_of upd_same, fun z hz => (aN z (hM z (hN2 z hz))).ex e46⟩, by omega, fun z hz => bN z (hM z (hN2 z hz))⟩
        refine ⟨⟨_, _, rfl⟩, ?_, ?_, hS, hne, vs3 ++ [.ref t], upd_same, by rw [List.length_append, lvs3]; rfl, fun v hv => ?_⟩
        · intro x o xp hx
          rw [upd_ne (ne_of_none hx hS)]
          exact st3.ex _ _ xp hx
        · obtain ⟨ms, hm, low⟩ := st3.pool
          exact ⟨ms, by rw [upd_ne hne]; exact hm, low⟩
        · rcases List.mem_append.mp hv with hv | hv
          · exact (svs3 v hv).et et
          · rw [List.mem_singleton.mp hv]; exact sm.et et
  · obtain ⟨⟨vk, vm, rfl⟩, st⟩ := pr
    obtain ⟨vs, hvs, lvs, svs⟩ := st.sides
    match vs, lvs with
    | [u, t], _ =>
      refine ⟨_, rfl, S, _, 0, u, rfl, rfl, sq_of hvs, at_of (j := 0) rfl rfl, _, rfl, S, _, 1, t, rfl, rfl, sq_of hvs, at_of (j := 1) rfl rfl, sz_of (by simp), fun g hg => ?_⟩
      have e7 := Ex.new (o := .tup [u, t]) hg
      obtain ⟨L, hL, lL, bL⟩ := svs u (by simp)
      obtain ⟨R, hR, lR, bR⟩ := svs t (by simp)
      exact q _ L R _ (st.ex.trans (ExB.of e7)) (st.pool.ex e7) ⟨g, u, t, rfl, st_of upd_same, hL.ex e7, hR.ex e7⟩ lL lR bL bR
end
end K33

set_option Elab.async false
set_option linter.all false
set_option maxRecDepth 100000
set_option maxHeartbeats 4000000
namespace K33
open PySem PySem.Spec PyProof.Rows L2 Evl
/-- the relation's rows | the values -/
def RowsV (K : PySem.W.Frag) (H : Hp) (s : Addr) (n : Nat) (R : Nat → Nat → Bool) : Prop := ∃ rows : List Addr, SqL K H s (rows.map V.ref) ∧ rows.length = n ∧ ∀ v, v < n → ∃ r, rows[v]? = some r ∧ SqL K H r ((List.range n).map fun w => V.bl (R v w))
def ValsV (K : PySem.W.Frag) (H : Hp) (d : Addr) (val : Str → Nat → Bool) : Prop := ∃ kvs : List (Key × V), H d = some (.dK kvs) ∧ ∀ x : Str, (valV kvs (.inr x) = none ∧ ∀ w, val x w = false) ∨ ∃ (l : Addr) (ns : List Int), valV kvs (.inr x) = some (.ref l) ∧ SqL K H l (ns.map V.int) ∧ ∀ w : Nat, val x w = decide ((w : Int) ∈ ns)
theorem RowsV.ex {K : PySem.W.Frag} {H H' : Hp} {s : Addr} {n : Nat} {R : Nat → Nat → Bool} (e : Ex H H') (h : RowsV K H s n R) : RowsV K H' s n R := by
  obtain ⟨rows, h1, h2, h3⟩ := h
  exact ⟨rows, ex_l e h1, h2, fun v hv => let ⟨r, a, b⟩ := h3 v hv; ⟨r, a, ex_l e b⟩⟩
theorem ValsV.ex {K : PySem.W.Frag} {H H' : Hp} {d : Addr} {val : Str → Nat → Bool} (e : Ex H H') (h : ValsV K H d val) : ValsV K H' d val := by
  obtain ⟨kvs, h1, h2⟩ := h
  refine ⟨kvs, e _ _ h1, fun x => ?_⟩
  rcases h2 x with h | ⟨l, ns, a, b, c⟩
  · exact .inl h
  · exact .inr ⟨l, ns, a, ex_l e b, c⟩
structure ModV (K : PySem.W.Frag) (H : Hp) (v : V) (M : Md) : Prop where
  ex_ : ∃ a s d, v = .ref a ∧ SqT K H a [.ref s, .ref d] ∧ RowsV K H s M.n M.R ∧ ValsV K H d M.val
  few : M.n ≤ 4
theorem ModV.ex {K : PySem.W.Frag} {H H' : Hp} {v : V} {M : Md} (e : Ex H H') (h : ModV K H v M) : ModV K H' v M := by
  obtain ⟨a, s, d, rfl, h1, h2, h3⟩ := h.ex_
  exact ⟨⟨a, s, d, rfl, ex_t e h1, h2.ex e, h3.ex e⟩, h.few⟩
def spTr (K : PySem.W.Frag) (n : Nat) : Sp := fun vs H Q _ => ∃ (mv fv : V) (w : Nat) (fo : Bool) (M : Md) (f : Fm), vs = [mv, fv, .int (w : Int), .bl fo] ∧ ModV K H mv M ∧ FmH K H f fv ∧ ht f ≤ n ∧ ht f ≤ 8 ∧ w < M.n ∧ ∀ H', Ex H H' → Q (.bl (tr M fo f w)) H'
abbrev nsTr : List Str := ["_law_model_here", "_law_a", "_law_w", "_law_forced", "_law_seen", "_law_u"]
theorem sc_tr : FnScope nsTr ["_law_model_here", "_law_a", "_law_w", "_law_forced"] (defScope (top 55)) := ⟨rfl, rfl, rfl, by decide +kernel, rfl, by decide +kernel, by decide +kernel⟩
theorem inV_ints (w : Nat) : ∀ ns : List Int, inV (.int (w : Int)) (ns.map V.int) = decide ((w : Int) ∈ ns)
  | [] => by simp [inV]
  | n :: ns => by
    have ih := inV_ints w ns
    unfold inV at ih ⊢
    rw [List.map_cons, List.any_cons, ih]
    by_cases e : n = (w : Int)
    · simp [eqV, e]
    · have e' : ¬ (w : Int) = n := fun h => e h.symm
      simp [eqV, e, e']
theorem all_yes {n : Nat} {f : Nat → Bool} (h : ∀ k, k < n → f k = true) : (List.range n).all f = true := List.all_eq_true.mpr fun k hk => h k (List.mem_range.mp hk)
theorem all_no {n i : Nat} {f : Nat → Bool} (hi : i < n) (h : f i = false) : (List.range n).all f = false := List.all_eq_false.mpr ⟨i, List.mem_range.mpr hi, by rw [h]; decide⟩
section
variable {K : PySem.W.Frag} {σ : L2.St} {H : Hp} {te tb : TE} {s : Addr} {n : Nat} {R : Nat → Nat → Bool}
/-- seen[v][w] -/
theorem ev_seen {ta : TE} {v w : Nat} (h : Ev te σ H (.ref s)) (hs : RowsV K H s n R) (h1 : Ev ta σ H (.int (v : Int))) (h2 : Ev tb σ H (.int (w : Int))) (hv : v < n) (hw : w < n) : Ev (tOp (rIxL K) (tOp (rIxL K) te ta) tb) σ H (.bl (R v w)) := by
  obtain ⟨rows, g1, g2, g3⟩ := hs
  obtain ⟨r, e1, e2⟩ := g3 v hv
  refine ev_op (ev_op h h1 (rv_ixL g1 (at_of (j := v) rfl (by rw [List.getElem?_map, e1]; rfl)))) h2 (rv_ixL e2 (at_of (j := w) rfl ?_))
  rw [List.getElem?_map, List.getElem?_range hw]; rfl
theorem ev_lenS (h : Ev te σ H (.ref s)) (hs : RowsV K H s n R) : Ev (tCB (fun xs H Q => ∃ p ys, xs = [.ref p] ∧ (SqL K H p ys ∨ SqT K H p ys) ∧ Q (.int ys.length) H) (tCons te tNil)) σ H (.int (n : Int)) := by
  obtain ⟨rows, g1, g2, g3⟩ := hs
  have := ev_lenL h g1
  rw [List.length_map, g2] at this
  exact this
theorem et_val {b : Bool} (h : Ev te σ H (.bl b)) : EvT (tB te) σ H b := et_B h
end
section
variable {P : Program} {w : World} {K : PySem.W.Frag} {mg : Str → Option Value} {base : Heap} {gN : Addr}
theorem cal_tr (T : TX w K mg) : ∀ n, Cal P w K mg base "_law_true" (n + 1) (spTr K n)
  | 0 => cal_of T 39 rfl sc_tr (fun vs H Q E h => by obtain ⟨_, _, _, _, _, _, rfl, _⟩ := h; rfl) (fun _ _ _ _ _ _ us hl => match us, hl with | [_, _, _, _], _ => rfl) fun f cdv A outer s H vs Q E hr h => by
    obtain ⟨_, _, _, _, _, g, _, _, _, h0, _⟩ := h
    have := ht_pos g
    omega
  | n + 1 => by
    have ih := cal_tr T n
    have free := T.free
    refine cal_of T 39 rfl sc_tr (fun vs H Q E h => by obtain ⟨_, _, _, _, _, _, rfl, _⟩ := h; rfl) (fun _ _ _ _ _ _ us hl => match us, hl with | [_, _, _, _], _ => rfl) fun f cdv A outer s H vs Q E hr h =>
      ⟨_, pss_cons (ps_set (i := 4) sc_tr.nd rfl (Or.inl rfl) (pe_ix ix_tup (pv 0) pe_int (fun _ _ => rfl)))
        (pss_cons (ps_if (pt_cmpR op_eq (pe_ix ix_tup (pv 1) pe_int (fun _ _ => rfl)) pe_str (nomark _)) (pss_one (ps_ret pe_bl)) pss_nil)
        (pss_cons (ps_if (pt_cmpR op_eq (pe_ix ix_tup (pv 1) pe_int (fun _ _ => rfl)) pe_str (nomark _))
          (pss_one (ps_ret (pe_cmpR op_in_seq (pv 2) (pe_dget2 (hu_of hr) (pe_ix ix_tup (pv 0) pe_int (fun _ _ => rfl)) (pe_ix ix_tup (pv 1) pe_int (fun _ _ => rfl)) (pe_lst pa_nil) ⟨rfl, rfl, rfl, rfl⟩) rfl))) pss_nil)
        (pss_cons (ps_if (pt_cmpR op_eq (pe_ix ix_tup (pv 1) pe_int (fun _ _ => rfl)) pe_str (nomark _))
          (pss_one (ps_ret (pe_and (pe_f0 ih hr rfl (pa_cons (pv 0) (pa_cons (pe_ix ix_tup (pv 1) pe_int (fun _ _ => rfl)) (pa_cons (pv 2) (pa_cons (pv 3) pa_nil))))) (pe_one (pe_f0 ih hr rfl (pa_cons (pv 0) (pa_cons (pe_ix ix_tup (pv 1) pe_int (fun _ _ => rfl)) (pa_cons (pv 2) (pa_cons (pv 3) pa_nil))))))))) pss_nil)
        (pss_cons (ps_if (pt_cmpR op_eq (pe_ix ix_tup (pv 1) pe_int (fun _ _ => rfl)) pe_str (nomark _))
          (pss_one (ps_ret (pe_or (pe_f0 ih hr rfl (pa_cons (pv 0) (pa_cons (pe_ix ix_tup (pv 1) pe_int (fun _ _ => rfl)) (pa_cons (pv 2) (pa_cons (pv 3) pa_nil))))) (pe_one (pe_f0 ih hr rfl (pa_cons (pv 0) (pa_cons (pe_ix ix_tup (pv 1) pe_int (fun _ _ => rfl)) (pa_cons (pv 2) (pa_cons (pv 3) pa_nil))))))))) pss_nil)
        (pss_cons (ps_if (pt_cmpR op_eq (pe_ix ix_tup (pv 1) pe_int (fun _ _ => rfl)) pe_str (nomark _))
          (pss_cons (ps_for (passes_of rfl) rfl (pi_range1 rfl (free "range" (by decide +kernel)) (pa_cons (pe_callB call_len_seq rfl (free "len" (by decide +kernel)) boot_len (pa_cons (pv 4) pa_nil)) pa_nil)) (pg_name (i := 5) sc_tr.nd rfl (Or.inl rfl))
            (pss_one (ps_if (PW.pt (pw_and (pt_val (pe_ix ix_list (pe_ix ix_list (pv 4) (pv 2) (fun _ _ => rfl)) (pv 5) (fun _ _ => rfl))) (pw_and1 (pt_not (pt_val (pe_f0 ih hr rfl (pa_cons (pv 0) (pa_cons (pe_ix ix_tup (pv 1) pe_int (fun _ _ => rfl)) (pa_cons (pv 5) (pa_cons (pv 3) pa_nil)))))))))) (pss_one (ps_ret pe_bl)) pss_nil)))
            (pss_one (ps_ret pe_bl))) pss_nil)
        (pss_cons (ps_for (passes_of rfl) rfl (pi_range1 rfl (free "range" (by decide +kernel)) (pa_cons (pe_callB call_len_seq rfl (free "len" (by decide +kernel)) boot_len (pa_cons (pv 4) pa_nil)) pa_nil)) (pg_name (i := 5) sc_tr.nd rfl (Or.inl rfl))
          (pss_one (ps_if (PW.pt (pw_or (PW.pt (pw_and (pt_cmpR op_eq (pv 5) (pv 2) (nomark _)) (pw_and1 (pt_not (pt_val (pv 3)))))) (pw_or1 (PW.pt (pw_and (pt_val (pv 3)) (pw_and1 (pt_val (pe_ix ix_list (pe_ix ix_list (pv 4) (pv 2) (fun _ _ => rfl)) (pv 5) (fun _ _ => rfl)))))))))
            (pss_one (ps_if (PW.pt (pw_and (pt_val (pe_f0 ih hr rfl (pa_cons (pv 0) (pa_cons (pe_ix ix_tup (pv 1) pe_int (fun _ _ => rfl)) (pa_cons (pv 5) (pa_cons (pv 3) pa_nil)))))) (pw_and1 (pt_not (pt_val (pe_f0 ih hr rfl (pa_cons (pv 0) (pa_cons (pe_ix ix_tup (pv 1) pe_int (fun _ _ => rfl)) (pa_cons (pv 5) (pa_cons (pv 3) pa_nil)))))))))) (pss_one (ps_ret pe_bl)) pss_nil)) pss_nil)))
        (pss_one (ps_ret pe_bl)))))))), ?_⟩
    obtain ⟨mv, fv, wd, fo, M, g, rfl, hM, hf, hn, h8, hw, q⟩ := h
    obtain ⟨aM, aS, aD, rfl, sM, rS, vD⟩ := hM.ex_
    have m4 := hM.few
    refine q_asg (ev_ixT (k := 0) rfl sM rfl) fun H1 e1 => ?_
    -- the tag's tests
    have tg_ : ∀ {σ : L2.St} {H2 : Hp} (t : Str), Ex H H2 → σ[1]? = some (some fv) → EvT (tTest (tOp rEq (tOp (rIxT K) (tVar 1) (tC (.int 0))) (tC (.str t)))) σ H2 (decide (V.str (tg g) = V.str t)) := fun {σ H2} t e hσ =>
      et_test (ev_op (ev_tag hσ (hf.ex e)) ev_c (rv_eq rfl))
    -- a call on a part
    have sub_ : ∀ {σ : L2.St} {H2 : Hp} {E : L2.St → XK} {te tw : TE} {x : Fm} {u : V} {k : Nat}, Ex H H2 → σ[0]? = some (some (.ref aM)) → σ[3]? = some (some (.bl fo)) → Ev te σ H2 u → Ev tw σ H2 (.int (k : Int)) → FmH K H2 x u → ht x < ht g → k < M.n → Ev (tCal (spTr K n) E (tCons (tVar 0) (tCons te (tCons tw (tCons (tVar 3) tNil))))) σ H2 (.bl (tr M fo x k)) :=
      fun {σ H2 E te tw x u k} e h0 h3 hte htw hx hlt hk H3 e3 Q2 k2 => ea_cons (ev_var h0) (ea_cons hte (ea_cons htw (ea_cons (ev_var h3) ea_nil))) H3 e3 _ fun H4 e4 => ⟨.ref aM, u, k, fo, M, x, rfl, hM.ex ((e.trans e3).trans e4), hx.ex (e3.trans e4), by omega, by omega, hk, fun H5 e5 => k2 H5 (e4.trans e5)⟩
    have skip : ∀ {t : Str} {X Y : TS} {D : Ends} {σ : L2.St} {H2 : Hp}, Ex H H2 → σ[1]? = some (some fv) → tg g ≠ t → (∀ H3, Ex H2 H3 → Y D σ H3) → tSeq (tIfS (tTest (tOp rEq (tOp (rIxT K) (tVar 1) (tC (.int 0))) (tC (.str t)))) X tNext) Y D σ H2 := fun {t X Y D σ H2} e hσ hne k =>
      q_when (tg_ t e hσ) (fun hb => by have := of_decide_eq_true hb; injection this with this; exact absurd this hne) fun _ H3 e3 => k H3 e3
    have take_ : ∀ {t : Str} {X Y : TS} {D : Ends} {σ : L2.St} {H2 : Hp}, Ex H H2 → σ[1]? = some (some fv) → tg g = t → (∀ H3, Ex H2 H3 → X { D with nx := Y D } σ H3) → tSeq (tIfS (tTest (tOp rEq (tOp (rIxT K) (tVar 1) (tC (.int 0))) (tC (.str t)))) X tNext) Y D σ H2 := fun {t X Y D σ H2} e hσ he k =>
      q_when (tg_ t e hσ) (fun _ H3 e3 => k H3 e3) fun hb => by rw [he] at hb; simp at hb
    cases g with
    | fls => exact take_ e1 rfl rfl fun H2 e2 => q _ (e1.trans e2)
    | var x =>
      refine skip e1 rfl (by simp only [tg]; decide +kernel) fun H2 e2 => take_ (e1.trans e2) rfl rfl fun H3 e3 => ?_
      have e13 := (e1.trans e2).trans e3
      obtain ⟨a, rfl, sa, _⟩ := hf.ex e13
      obtain ⟨kvs, hk, hx⟩ := vD.ex e13
      refine s_rt ?_
      refine op_go ⟨_, rfl, ?_⟩
      refine ev_ixT (k := 1) rfl (ex_t e13 sM) rfl H3 (Ex.refl _) _ fun H4 e4 => ⟨aD, rfl, .inl ⟨kvs, Rd.of (e4 _ _ hk)⟩, ?_⟩
      refine ev_ixT (k := 1) rfl (ex_t e4 sa) rfl H4 (Ex.refl _) _ fun H5 e5 => ⟨sz_of (by simp), fun p hp => ?_⟩
      have e6 := Ex.new (o := .lst []) hp
      have e46 := (e4.trans e5).trans e6
      refine ⟨_, .inl ⟨kvs, .inr x, Rd.of (e46 _ _ hk), rfl, rfl⟩, ?_⟩
      rcases hx x with ⟨h1, h2⟩ | ⟨l, ns, h1, h2, h3⟩
      · rw [h1]
        refine ⟨p, [], rfl, .inl (sq_of upd_same), rfl, rfl, ?_⟩
        have := q _ (e13.trans e46)
        simp only [tr, h2] at this
        exact this
      · rw [h1]
        refine ⟨l, ns.map V.int, rfl, .inl (ex_l e46 h2), rfl, List.all_eq_true.mpr (fun z hz => by obtain ⟨y, _, rfl⟩ := List.mem_map.mp hz; rfl), ?_⟩
        have := q _ (e13.trans e46)
        simp only [tr, h3] at this
        rw [inV_ints]
        exact this
    | and a b =>
      have q' : ∀ H', Ex H H' → Q (.bl (tr M fo a wd && tr M fo b wd)) H' := fun H' e => by have := q H' e; simp only [tr] at this; exact this
      obtain ⟨aa, t, b1, c1, rfl, hs, hb, hc⟩ := (two_and hf).ex
      have hh := @ht_two a b
      refine skip e1 rfl (by simp only [tg]; decide +kernel) fun H2 e2 => skip (e1.trans e2) rfl (by simp only [tg]; decide +kernel) fun H3 e3 => take_ ((e1.trans e2).trans e3) rfl rfl fun H4 e4 => ?_
      have e := ((e1.trans e2).trans e3).trans e4
      exact (ev_andV (sub_ e rfl rfl (ev_ixT (k := 1) rfl (ex_t e hs) rfl) (ev_var rfl) (hb.ex e) hh.1 hw) fun _ => sub_ e rfl rfl (ev_ixT (k := 2) rfl (ex_t e hs) rfl) (ev_var rfl) (hc.ex e) hh.2.1 hw) H4 (Ex.refl _) _ fun H5 e5 => q' H5 (e.trans e5)
    | or a b =>
      have q' : ∀ H', Ex H H' → Q (.bl (tr M fo a wd || tr M fo b wd)) H' := fun H' e => by have := q H' e; simp only [tr] at this; exact this
      obtain ⟨aa, t, b1, c1, rfl, hs, hb, hc⟩ := (two_or hf).ex
      have hh := @ht_two a b
      refine skip e1 rfl (by simp only [tg]; decide +kernel) fun H2 e2 => skip (e1.trans e2) rfl (by simp only [tg]; decide +kernel) fun H3 e3 => skip ((e1.trans e2).trans e3) rfl (by simp only [tg]; decide +kernel) fun H4 e4 => take_ (((e1.trans e2).trans e3).trans e4) rfl rfl fun H5 e5 => ?_
      have e := (((e1.trans e2).trans e3).trans e4).trans e5
      exact (ev_orV (sub_ e rfl rfl (ev_ixT (k := 1) rfl (ex_t e hs) rfl) (ev_var rfl) (hb.ex e) hh.2.2.1 hw) fun _ => sub_ e rfl rfl (ev_ixT (k := 2) rfl (ex_t e hs) rfl) (ev_var rfl) (hc.ex e) hh.2.2.2.1 hw) H5 (Ex.refl _) _ fun H6 e6 => q' H6 (e.trans e6)
    | box a =>
      have q' : ∀ b H', b = (List.range M.n).all (fun u => !(M.R wd u && !tr M fo a u)) → Ex H H' → Q (.bl b) H' := fun b H' eb e => by have := q H' e; simp only [tr] at this; rw [eb]; exact this
      obtain ⟨aa, b1, rfl, hs, hb⟩ := one_box hf
      have hh := (@ht_two a a).2.2.2.2.2.2
      refine skip e1 rfl (by simp only [tg]; decide +kernel) fun H2 e2 => skip (e1.trans e2) rfl (by simp only [tg]; decide +kernel) fun H3 e3 => skip ((e1.trans e2).trans e3) rfl (by simp only [tg]; decide +kernel) fun H4 e4 => skip (((e1.trans e2).trans e3).trans e4) rfl (by simp only [tg]; decide +kernel) fun H5 e5 =>
        take_ ((((e1.trans e2).trans e3).trans e4).trans e5) rfl rfl fun H6 e6 => ?_
      have e := ((((e1.trans e2).trans e3).trans e4).trans e5).trans e6
      refine q_forR1 (n := (M.n : Int)) (ea_cons (ev_lenS (ev_var rfl) (rS.ex e)) ea_nil) (by omega) (fun i σ' H' => (∃ vu, σ' = [some (.ref aM), some (.ref aa), some (.int (wd : Int)), some (.bl fo), some (.ref aS), vu]) ∧ Ex H H' ∧ ∀ k, k < i → (!(M.R wd k && !tr M fo a k)) = true)
        (fun H7 e7 => ⟨⟨_, rfl⟩, e.trans e7, fun k hk => absurd hk (Nat.not_lt_zero _)⟩) (fun i σ' H' hi p => ?_) fun σ' H' p => ?_
      · obtain ⟨⟨vu, rfl⟩, e', hk⟩ := p
        have hi' : i < M.n := by omega
        refine s_when (b := M.R wd i && !tr M fo a i) (et_and (et_val (ev_seen (ev_var rfl) (rS.ex e') (ev_var rfl) (ev_var rfl) hw hi')) fun _ => et_not (et_val (sub_ e' rfl rfl (ev_ixT (k := 1) rfl (ex_t e' hs) rfl) (ev_var rfl) (hb.ex e') hh hi'))) (fun hb' H8 e8 => ?_) (fun hb' H8 e8 => ⟨⟨_, rfl⟩, e'.trans e8, fun k hk' => ?_⟩)
        · exact q' false H8 (all_no hi' (by show (!(M.R wd i && !tr M fo a i)) = false; rw [hb']; rfl)).symm (e'.trans e8)
        · by_cases hki : k < i
          · exact hk k hki
          · obtain rfl : k = i := by omega
            rw [hb']; rfl
      · obtain ⟨⟨vu, rfl⟩, e', hk⟩ := p
        rw [show ((M.n : Int)).toNat = M.n by omega] at hk
        exact q' true H' (all_yes hk).symm e'
    | imp a b =>
      have q' : ∀ c H', c = (List.range M.n).all (fun u => !((((u == wd) && !fo) || (fo && M.R wd u)) && (tr M fo a u && !tr M fo b u))) → Ex H H' → Q (.bl c) H' := fun c H' eb e => by have := q H' e; simp only [tr] at this; rw [eb]; exact this
      obtain ⟨aa, t, b1, c1, rfl, hs, hb, hc⟩ := (two_imp hf).ex
      have hh := @ht_two a b
      refine skip e1 rfl (by simp only [tg]; decide +kernel) fun H2 e2 => skip (e1.trans e2) rfl (by simp only [tg]; decide +kernel) fun H3 e3 => skip ((e1.trans e2).trans e3) rfl (by simp only [tg]; decide +kernel) fun H4 e4 => skip (((e1.trans e2).trans e3).trans e4) rfl (by simp only [tg]; decide +kernel) fun H5 e5 =>
        skip ((((e1.trans e2).trans e3).trans e4).trans e5) rfl (by simp only [tg]; decide +kernel) fun H6 e6 => ?_
      have e := ((((e1.trans e2).trans e3).trans e4).trans e5).trans e6
      refine q_forR1 (n := (M.n : Int)) (ea_cons (ev_lenS (ev_var rfl) (rS.ex e)) ea_nil) (by omega) (fun i σ' H' => (∃ vu, σ' = [some (.ref aM), some (.ref aa), some (.int (wd : Int)), some (.bl fo), some (.ref aS), vu]) ∧ Ex H H' ∧ ∀ k, k < i → (!((((k == wd) && !fo) || (fo && M.R wd k)) && (tr M fo a k && !tr M fo b k))) = true)
        (fun H7 e7 => ⟨⟨_, rfl⟩, e.trans e7, fun k hk => absurd hk (Nat.not_lt_zero _)⟩) (fun i σ' H' hi p => ?_) fun σ' H' p => ?_
      · obtain ⟨⟨vu, rfl⟩, e', hk⟩ := p
        have hi' : i < M.n := by omega
        have eqn : decide (V.int (i : Int) = V.int (wd : Int)) = (i == wd) := by
          by_cases h : i = wd
          · rw [h]; simp
          · have h2 : ¬ (V.int (i : Int) = V.int (wd : Int)) := fun z => by injection z with z; omega
            rw [decide_eq_false h2]; exact (beq_eq_false_iff_ne.mpr h).symm
        have up : ∀ {H8}, Ex H' H8 → (!((((i == wd) && !fo) || (fo && M.R wd i)) && (tr M fo a i && !tr M fo b i))) = true → ∀ k, k < i + 1 → (!((((k == wd) && !fo) || (fo && M.R wd k)) && (tr M fo a k && !tr M fo b k))) = true := fun e8 h k hk' => by
          by_cases hki : k < i
          · exact hk k hki
          · obtain rfl : k = i := by omega
            exact h
        refine s_when (b := ((i == wd) && !fo) || (fo && M.R wd i)) (et_or (et_and (et_is (et_test (ev_op (ev_var rfl) (ev_var rfl) (rv_eq rfl))) eqn) fun _ => et_not (et_val (ev_var rfl))) fun _ => et_and (et_val (ev_var rfl)) fun _ => et_val (ev_seen (ev_var rfl) (rS.ex e') (ev_var rfl) (ev_var rfl) hw hi')) (fun hb1 H8 e8 => ?_) (fun hb1 H8 e8 => ⟨⟨_, rfl⟩, e'.trans e8, up e8 (by rw [hb1]; rfl)⟩)
        have e'' := e'.trans e8
        refine s_when (b := tr M fo a i && !tr M fo b i) (et_and (et_val (sub_ e'' rfl rfl (ev_ixT (k := 1) rfl (ex_t e'' hs) rfl) (ev_var rfl) (hb.ex e'') hh.2.2.2.2.1 hi')) fun _ => et_not (et_val (sub_ e'' rfl rfl (ev_ixT (k := 2) rfl (ex_t e'' hs) rfl) (ev_var rfl) (hc.ex e'') hh.2.2.2.2.2.1 hi'))) (fun hb2 H9 e9 => ?_) (fun hb2 H9 e9 => ⟨⟨_, rfl⟩, e''.trans e9, up e8 (by rw [hb2, Bool.and_false]; rfl)⟩)
        exact q' false H9 (all_no hi' (by show (!((((i == wd) && !fo) || (fo && M.R wd i)) && (tr M fo a i && !tr M fo b i))) = false; rw [hb1, hb2]; rfl)).symm (e''.trans e9)
      · obtain ⟨⟨vu, rfl⟩, e', hk⟩ := p
        rw [show ((M.n : Int)).toNat = M.n by omega] at hk
        exact q' true H' (all_yes hk).symm e'
end
end K33

set_option Elab.async false
set_option linter.all false
set_option maxRecDepth 100000
set_option maxHeartbeats 4000000
namespace K33
open PySem PySem.Spec PyProof.Rows L2 Evl
/-- refuted at w -/
def refB (l : Lg) (M : Md) (L R : Side) (w : Nat) : Bool := L.all (fun a => tr M l.forced a w) && R.all fun a => !tr M l.forced a w
theorem refB_iff {l : Lg} {M : Md} {L R : Side} {w : Nat} : refB l M L R w = true ↔ Ref l M L R w := by
  unfold refB Ref
  rw [Bool.and_eq_true, List.all_eq_true, List.all_eq_true]
  constructor
  · rintro ⟨h1, h2⟩
    exact ⟨h1, fun a ha => by have := h2 a ha; simpa using this⟩
  · rintro ⟨h1, h2⟩
    exact ⟨h1, fun a ha => by rw [h2 a ha]; rfl⟩
def spRef (K : PySem.W.Frag) : Sp := fun vs H Q _ => ∃ (l : Lg) (mv gv : V) (w : Nat) (M : Md) (L R : List FM), vs = [.str (nm l), mv, gv, .int (w : Int)] ∧ ModV K H mv M ∧ GoalV K H gv (L, R) ∧ (∀ p ∈ L, ht p.2 ≤ 8) ∧ (∀ p ∈ R, ht p.2 ≤ 8) ∧ w < M.n ∧ ∀ H', Ex H H' → Q (.bl (refB l M (fms L) (fms R) w)) H'
abbrev nsRf : List Str := ["_law_logic_here", "_law_model_here", "_law_goal_here", "_law_w", "_law_forced", "_law_a"]
theorem sc_ref : FnScope nsRf ["_law_logic_here", "_law_model_here", "_law_goal_here", "_law_w"] (defScope (top 56)) := ⟨rfl, rfl, rfl, by decide +kernel, rfl, by decide +kernel, by decide +kernel⟩
theorem inV_inter : ∀ l : Lg, inV (.str (nm l)) [.str "Int", .str "KC", .str "LC", .str "BD2", .str "HT", .str "Cl"] = l.forced := by intro l; cases l <;> decide +kernel
theorem take_all {α : Type} {L : List α} {f : α → Bool} {i : Nat} {x : α} (h : L[i]? = some x) (h1 : (L.take i).all f = true) (h2 : f x = true) : (L.take (i + 1)).all f = true := by
  rw [List.take_add_one, h, List.all_append, h1]
  simp [h2]
section
variable {P : Program} {w : World} {K : PySem.W.Frag} {mg : Str → Option Value} {base : Heap} {gN : Addr}
theorem cal_ref (T : TX w K mg) : Cal P w K mg base "_law_refuted" 10 (spRef K) := by
  have free := T.free
  have ih : Cal P w K mg base "_law_true" 9 (spTr K 8) := cal_tr T 8
  refine cal_of T 40 rfl sc_ref (fun vs H Q E h => by obtain ⟨_, _, _, _, _, _, _, rfl, _⟩ := h; rfl) (fun _ _ _ _ _ _ us hl => match us, hl with | [_, _, _, _], _ => rfl) fun f cdv A outer s H vs Q E hr h =>
    ⟨_, pss_cons (ps_set (i := 4) sc_ref.nd rfl (Or.inl rfl) (pe_cmpR op_in_seq (pv 0) (pe_tup (pa_cons pe_str (pa_cons pe_str (pa_cons pe_str (pa_cons pe_str (pa_cons pe_str (pa_cons pe_str pa_nil))))))) rfl))
      (pss_cons (ps_for (passes_of rfl) rfl (pi_tup (pe_ix ix_tup (pv 2) pe_int (fun _ _ => rfl))) (pg_name (i := 5) sc_ref.nd rfl (Or.inl rfl))
        (pss_one (ps_if (pt_not (pt_val (pe_f0 ih hr rfl (pa_cons (pv 1) (pa_cons (pv 5) (pa_cons (pv 3) (pa_cons (pv 4) pa_nil))))))) (pss_one (ps_ret pe_bl)) pss_nil)))
      (pss_cons (ps_for (passes_of rfl) rfl (pi_tup (pe_ix ix_tup (pv 2) pe_int (fun _ _ => rfl))) (pg_name (i := 5) sc_ref.nd rfl (Or.inl rfl))
        (pss_one (ps_if (pt_val (pe_f0 ih hr rfl (pa_cons (pv 1) (pa_cons (pv 5) (pa_cons (pv 3) (pa_cons (pv 4) pa_nil)))))) (pss_one (ps_ret pe_bl)) pss_nil)))
      (pss_one (ps_ret pe_bl)))), ?_⟩
  obtain ⟨l, mv, gv, wd, M, L, R, rfl, hM, ⟨ag, u, t, rfl, sg, ⟨aL, rfl, sL, fL⟩, ⟨aR, rfl, sR, fR⟩⟩, bL, bR, hw, q⟩ := h
  have call_ : ∀ {σ : L2.St} {H2 : Hp} {E : L2.St → XK} {p : FM}, Ex H H2 → σ[1]? = some (some mv) → σ[5]? = some (some (.ref p.1)) → σ[3]? = some (some (.int (wd : Int))) → σ[4]? = some (some (.bl l.forced)) → FmH K H p.2 (.ref p.1) → ht p.2 ≤ 8 →
      Ev (tCal (spTr K 8) E (tCons (tVar 1) (tCons (tVar 5) (tCons (tVar 3) (tCons (tVar 4) tNil))))) σ H2 (.bl (tr M l.forced p.2 wd)) := fun {σ H2 E p} e h1 h5 h3 h4 hf hh H3 e3 Q2 k2 =>
    ea_cons (ev_var h1) (ea_cons (ev_var h5) (ea_cons (ev_var h3) (ea_cons (ev_var h4) ea_nil))) H3 e3 _ fun H4 e4 => ⟨mv, .ref p.1, wd, l.forced, M, p.2, rfl, hM.ex ((e.trans e3).trans e4), hf.ex ((e.trans e3).trans e4), hh, hh, hw, fun H5 e5 => k2 H5 (e4.trans e5)⟩
  refine q_asg (ev_is (ev_inU (ev_var rfl) (eu_tup (ea_cons ev_c (ea_cons ev_c (ea_cons ev_c (ea_cons ev_c (ea_cons ev_c (ea_cons ev_c ea_nil)))))) (by simp)) rfl rfl) (by rw [inV_inter l])) fun H1 e1 => ?_
  refine q_forT (K := K) (xs := refs L) (ev_ixT (k := 0) rfl (ex_t e1 sg) rfl) (ex_t e1 sL) (fun i σ' H' => (∃ va, σ' = [some (.str (nm l)), some mv, some (.ref ag), some (.int (wd : Int)), some (.bl l.forced), va]) ∧ Ex H H' ∧ ((fms L).take i).all (fun a => tr M l.forced a wd) = true) (fun H2 e2 => ⟨⟨_, rfl⟩, e1.trans e2, rfl⟩)
    (fun i σ' H' hi p => ex_t p.2.1 sL) (fun i x σ' H' hi p => ?_) fun σ' H' p => ?_
  · obtain ⟨⟨va, rfl⟩, e', hall⟩ := p
    rw [List.getElem?_map] at hi
    cases hp : L[i]? with
    | none => rw [hp] at hi; cases hi
    | some pr =>
      rw [hp] at hi
      obtain rfl : V.ref pr.1 = x := Option.some.inj hi
      have hpm : pr ∈ L := List.mem_of_getElem? hp
      have hpf : (fms L)[i]? = some pr.2 := by rw [List.getElem?_map, hp]; rfl
      refine s_when (et_not (et_val (call_ e' rfl rfl rfl rfl (fL pr hpm) (bL pr hpm)))) (fun hb H3 e3 => ?_) (fun hb H3 e3 => ⟨⟨_, rfl⟩, e'.trans e3, take_all hpf hall (by simpa using hb)⟩)
      have hno : refB l M (fms L) (fms R) wd = false := by
        have : (fms L).all (fun a => tr M l.forced a wd) = false := List.all_eq_false.mpr ⟨pr.2, List.mem_map_of_mem hpm, by simpa using hb⟩
        unfold refB; rw [this]; rfl
      have := q H3 (e'.trans e3)
      rw [hno] at this
      exact this
  · obtain ⟨⟨va, rfl⟩, e', hall⟩ := p
    have hall' : (fms L).all (fun a => tr M l.forced a wd) = true := by
      rw [List.take_of_length_le (by simp)] at hall
      exact hall
    refine q_forT (K := K) (xs := refs R) (ev_ixT (k := 1) rfl (ex_t e' sg) rfl) (ex_t e' sR) (fun i σ' H' => (∃ va, σ' = [some (.str (nm l)), some mv, some (.ref ag), some (.int (wd : Int)), some (.bl l.forced), va]) ∧ Ex H H' ∧ ((fms R).take i).all (fun a => !tr M l.forced a wd) = true) (fun H2 e2 => ⟨⟨_, rfl⟩, e'.trans e2, rfl⟩)
      (fun i σ' H' hi p => ex_t p.2.1 sR) (fun i x σ' H' hi p => ?_) fun σ' H' p => ?_
    · obtain ⟨⟨va, rfl⟩, e', hallR⟩ := p
      rw [List.getElem?_map] at hi
      cases hp : R[i]? with
      | none => rw [hp] at hi; cases hi
      | some pr =>
        rw [hp] at hi
        obtain rfl : V.ref pr.1 = x := Option.some.inj hi
        have hpm : pr ∈ R := List.mem_of_getElem? hp
        have hpf : (fms R)[i]? = some pr.2 := by rw [List.getElem?_map, hp]; rfl
        refine s_when (et_val (call_ e' rfl rfl rfl rfl (fR pr hpm) (bR pr hpm))) (fun hb H3 e3 => ?_) (fun hb H3 e3 => ⟨⟨_, rfl⟩, e'.trans e3, take_all hpf hallR (by rw [hb]; rfl)⟩)
        have hno : refB l M (fms L) (fms R) wd = false := by
          have : (fms R).all (fun a => !tr M l.forced a wd) = false := List.all_eq_false.mpr ⟨pr.2, List.mem_map_of_mem hpm, by rw [hb]; decide⟩
          unfold refB; rw [this, Bool.and_false]
        have := q H3 (e'.trans e3)
        rw [hno] at this
        exact this
    · obtain ⟨⟨va, rfl⟩, e', hallR⟩ := p
      rw [List.take_of_length_le (by simp)] at hallR
      have hyes : refB l M (fms L) (fms R) wd = true := by unfold refB; rw [hall', hallR]; rfl
      have := q H' e'
      rw [hyes] at this
      exact this
end
end K33

set_option Elab.async false
set_option linter.all false
/-! The closure of a relation by the law's own steps; that the law's models are the logic's. -/
namespace K33
abbrev Rel2 : Type := Nat → Nat → Bool
def wst (R : Rel2) (k : Nat) : Rel2 := fun a b => R a b || (R a k && R k b)
def war (R : Rel2) : Nat → Rel2
  | 0 => R
  | k + 1 => wst (war R k) k
theorem wst_iff {R : Rel2} {k a b : Nat} : wst R k a b = true ↔ R a b = true ∨ (R a k = true ∧ R k b = true) := by
  unfold wst; rw [Bool.or_eq_true, Bool.and_eq_true]
theorem war_ext {R : Rel2} {a b : Nat} (h : R a b = true) : ∀ k, war R k a b = true
  | 0 => h
  | k + 1 => wst_iff.mpr (.inl (war_ext h k))
theorem war_trans {R : Rel2} : ∀ (k u : Nat), u < k → ∀ v w, war R k v u = true → war R k u w = true → war R k v w = true
  | 0, u, hu, _, _, _, _ => absurd hu (Nat.not_lt_zero _)
  | k + 1, u, hu, v, w, h1, h2 => by
    have ih := war_trans (R := R) k
    by_cases e : u = k
    · subst e
      have a : war R u v u = true := by
        rcases wst_iff.mp h1 with h | h
        · exact h
        · exact h.1
      have b : war R u u w = true := by
        rcases wst_iff.mp h2 with h | h
        · exact h
        · exact h.2
      exact wst_iff.mpr (.inr ⟨a, b⟩)
    · have hlt : u < k := by omega
      rcases wst_iff.mp h1 with a | ⟨a, b⟩
      · rcases wst_iff.mp h2 with c | ⟨c, d⟩
        · exact wst_iff.mpr (.inl (ih u hlt v w a c))
        · exact wst_iff.mpr (.inr ⟨ih u hlt v k a c, d⟩)
      · rcases wst_iff.mp h2 with c | ⟨c, d⟩
        · exact wst_iff.mpr (.inr ⟨a, ih u hlt k w b c⟩)
        · exact wst_iff.mpr (.inr ⟨a, d⟩)
theorem war_min {R : Rel2} {n : Nat} {T : Nat → Nat → Prop} (h0 : ∀ v w, v < n → w < n → R v w = true → T v w) (ht : ∀ u v w, u < n → v < n → w < n → T u v → T v w → T u w) : ∀ k, k ≤ n → ∀ v w, v < n → w < n → war R k v w = true → T v w
  | 0, _, v, w, hv, hw, h => h0 v w hv hw h
  | k + 1, hk, v, w, hv, hw, h => by
    have ih := war_min h0 ht k (by omega)
    rcases wst_iff.mp h with h | ⟨h1, h2⟩
    · exact ih v w hv hw h
    · exact ht v k w hv (by omega) hw (ih v k hv (by omega) h1) (ih k w (by omega) hw h2)
def reflR (R : Rel2) : Rel2 := fun a b => R a b || (a == b)
def symR (R : Rel2) : Rel2 := fun a b => R a b || R b a
def serR (n : Nat) (R : Rel2) : Rel2 := fun a b => R a b || ((a == b) && !(List.range n).any fun w => R a w)
def cl1 (l : Lg) (S : Rel2) : Rel2 := if l.reflexive = true then reflR S else S
def cl2 (l : Lg) (S : Rel2) : Rel2 := if l = .S5 then symR (cl1 l S) else cl1 l S
def cl3 (l : Lg) (n : Nat) (S : Rel2) : Rel2 := if l = .D ∨ l = .D4 then serR n (cl2 l S) else cl2 l S
def closedR (l : Lg) (n : Nat) (S : Rel2) : Rel2 := if l.transitive = true then war (cl3 l n S) n else cl3 l n S
section
variable {l : Lg} {n : Nat} {S : Rel2} {a b v w : Nat}
theorem cl1_ext (h : S a b = true) : cl1 l S a b = true := by
  unfold cl1; split
  · unfold reflR; rw [h]; rfl
  · exact h
theorem cl2_ext (h : cl1 l S a b = true) : cl2 l S a b = true := by
  unfold cl2; split
  · unfold symR; rw [h]; rfl
  · exact h
theorem cl3_ext (h : cl2 l S a b = true) : cl3 l n S a b = true := by
  unfold cl3; split
  · unfold serR; rw [h]; rfl
  · exact h
theorem cl4_ext (h : cl3 l n S a b = true) : closedR l n S a b = true := by
  unfold closedR; split
  · exact war_ext h n
  · exact h
theorem closed_ext (h : S a b = true) : closedR l n S a b = true := cl4_ext (cl3_ext (cl2_ext (cl1_ext h)))
theorem closed_refl (h : l.reflexive = true) : closedR l n S a a = true := cl4_ext (cl3_ext (cl2_ext (by
  unfold cl1; rw [if_pos h]; unfold reflR; simp)))
theorem closed_trans (h : l.transitive = true) (hv : v < n) (h1 : closedR l n S a v = true) (h2 : closedR l n S v b = true) : closedR l n S a b = true := by
  unfold closedR at h1 h2 ⊢
  rw [if_pos h] at h1 h2 ⊢
  exact war_trans n v hv a b h1 h2
theorem closed_serial (h : l = .D ∨ l = .D4) (hv : v < n) : ∃ w, w < n ∧ closedR l n S v w = true := by
  by_cases c : ((List.range n).any fun w => cl2 l S v w) = true
  · obtain ⟨w, hw, e⟩ := List.any_eq_true.mp c
    exact ⟨w, List.mem_range.mp hw, cl4_ext (cl3_ext e)⟩
  · refine ⟨v, hv, cl4_ext ?_⟩
    unfold cl3
    rw [if_pos h]
    unfold serR
    rw [Bool.eq_false_iff.mpr c]
    simp
/-- what holds of the least such relation -/
theorem closed_min (h : ¬ (l = .S5) ∧ ¬ (l = .D ∨ l = .D4)) {T : Nat → Nat → Prop} (h0 : ∀ v w, v < n → w < n → S v w = true → T v w) (hr : l.reflexive = true → ∀ v, v < n → T v v) (ht : ∀ u v w, u < n → v < n → w < n → T u v → T v w → T u w)
    (hv : v < n) (hw : w < n) (hR : closedR l n S v w = true) : T v w := by
  have h3 : ∀ v w, v < n → w < n → cl3 l n S v w = true → T v w := fun v w hv hw h3 => by
    unfold cl3 at h3
    rw [if_neg h.2] at h3
    unfold cl2 at h3
    rw [if_neg h.1] at h3
    unfold cl1 at h3
    split at h3
    · rename_i hrf
      unfold reflR at h3
      rw [Bool.or_eq_true] at h3
      rcases h3 with h3 | h3
      · exact h0 v w hv hw h3
      · obtain rfl : v = w := by simpa using h3
        exact hr hrf v hv
    · exact h0 v w hv hw h3
  unfold closedR at hR
  split at hR
  · exact war_min h3 ht n (Nat.le_refl _) v w hv hw hR
  · exact h3 v w hv hw hR
theorem closed_sym (h : l = .S5) (hv : v < n) (hw : w < n) (hR : closedR l n S v w = true) : closedR l n S w v = true := by
  have ht : l.transitive = true := by rw [h]; rfl
  have hs : ∀ a b, cl3 l n S a b = true → cl3 l n S b a = true := fun a b q => by
    have e : cl3 l n S = symR (cl1 l S) := by
      unfold cl3
      rw [if_neg (by rw [h]; decide)]
      unfold cl2
      rw [if_pos h]
    rw [e] at q ⊢
    unfold symR at q ⊢
    rw [Bool.or_comm]; exact q
  have hR' := hR
  unfold closedR at hR'
  rw [if_pos ht] at hR'
  have := war_min (R := cl3 l n S) (n := n) (T := fun a b => closedR l n S a b = true ∧ closedR l n S b a = true) (fun a b _ _ q => ⟨cl4_ext q, cl4_ext (hs a b q)⟩)
    (fun u v w hu hv hw p q => ⟨closed_trans ht hv p.1 q.1, closed_trans ht hv q.2 p.2⟩) n (Nat.le_refl _) v w hv hw hR'
  exact this.2
end
/-- what the law's base relation keeps -/
structure Base (l : Lg) (n : Nat) (S : Rel2) : Prop where
  up : l = .GL ∨ l = .Grz ∨ l.forced = true → ∀ v w, v < n → w < n → S v w = true → v < w
  lc : l = .LC → ∀ v w, v < w → w < n → S v w = true
  kc : l = .KC → ∀ v, v < n - 1 → S v (n - 1) = true
  bd : l = .BD2 → ∀ v w, v < n → w < n → S v w = true → v < n / 2 ∧ n / 2 ≤ w
  ht : l = .HT → ∀ v w, v < n → w < n → S v w = true → v / 2 = w / 2
  cl : l = .Cl → ∀ v w, v < n → w < n → S v w = false
theorem good_of {l : Lg} {n : Nat} {S : Rel2} {val : PySem.Str → Nat → Bool} (h0 : 0 < n) (B : Base l n S) (hup : l.forced = true → ∀ x v w, v < n → w < n → val x v = true → closedR l n S v w = true → val x w = true) : Good l ⟨n, closedR l n S, val⟩ := by
  have ord_ : l = .Grz ∨ l.forced = true → ∀ v w, v < n → w < n → closedR l n S v w = true → v ≤ w := fun h v w hv hw hR => by
    refine closed_min (T := fun a b => a ≤ b) ⟨fun e => ?_, fun e => ?_⟩ (fun v w hv hw q => Nat.le_of_lt (B.up (.inr h) v w hv hw q)) (fun _ v _ => Nat.le_refl _) (fun u v w _ _ _ p q => Nat.le_trans p q) hv hw hR
    · subst e; rcases h with h | h <;> cases h
    · rcases e with rfl | rfl <;> rcases h with h | h <;> cases h
  have half : l = .HT → ∀ v w, v < n → w < n → closedR l n S v w = true → v = w ∨ (v < w ∧ v / 2 = w / 2) := fun e v w hv hw hR => by
    refine closed_min (T := fun a b => a = b ∨ (a < b ∧ a / 2 = b / 2)) ⟨by rw [e]; decide, by rw [e]; decide⟩ (fun v w hv hw q => .inr ⟨B.up (.inr (.inr (by rw [e]; rfl))) v w hv hw q, B.ht e v w hv hw q⟩) (fun _ v _ => .inl rfl) (fun u v w _ _ _ p q => ?_) hv hw hR
    omega
  have two : l = .BD2 → ∀ v w, v < n → w < n → closedR l n S v w = true → v = w ∨ (v < n / 2 ∧ n / 2 ≤ w) := fun e v w hv hw hR => by
    refine closed_min (T := fun a b => a = b ∨ (a < n / 2 ∧ n / 2 ≤ b)) ⟨by rw [e]; decide, by rw [e]; decide⟩ (fun v w hv hw q => .inr (B.bd e v w hv hw q)) (fun _ v _ => .inl rfl) (fun u v w _ _ _ p q => ?_) hv hw hR
    omega
  exact {
    refl := fun h v _ => closed_refl h
    trans := fun h u v w hu hv hw p q => closed_trans h hv p q
    serial := fun h v hv => closed_serial h hv
    sym := fun h v w hv hw p => closed_sym h hv hw p
    strict := fun e v w hv hw p => closed_min (T := fun a b => a < b) ⟨by rw [e]; decide, by rw [e]; decide⟩ (fun v w hv hw q => B.up (.inl e) v w hv hw q) (fun h => by rw [e] at h; cases h) (fun u v w _ _ _ p q => Nat.lt_trans p q) hv hw p
    ord := ord_
    kc := fun e v hv => by
      show closedR l n S v (n - 1) = true
      by_cases h : v < n - 1
      · exact closed_ext (B.kc e v h)
      · have hv' : v < n := hv
        obtain rfl : v = n - 1 := by omega
        exact closed_refl (by rw [e]; rfl)
    lc := fun e v w hvw hw => by
      by_cases h : v = w
      · subst h; exact closed_refl (by rw [e]; rfl)
      · exact closed_ext (B.lc e v w (by omega) hw)
    bd := fun h u v w hu hv hw p q => by
      rcases h with e | e
      · have h1 := two e u v hu hv p
        have h2 := two e v w hv hw q
        omega
      · have h1 := half e u v hu hv p
        have h2 := half e v w hv hw q
        omega
    ht := fun e u v w hu hv hw p q h1 h2 => by
      have g1 := half e u v hu hv p
      have g2 := half e u w hu hw q
      omega
    cl := fun e v w hv hw p => closed_min (T := fun a b => a = b) ⟨by rw [e]; decide, by rw [e]; decide⟩ (fun v w hv hw q => by rw [B.cl e v w hv hw] at q; cases q) (fun _ _ _ => rfl) (fun u v w _ _ _ p q => p.trans q) hv hw p
    up := hup }
end K33

set_option Elab.async false
set_option linter.all false
set_option maxRecDepth 100000
set_option maxHeartbeats 4000000
namespace K33
open PySem PySem.Spec PyProof.Rows L2 Evl
abbrev rowOf (R : Rel2) (n v : Nat) : List V := (List.range n).map fun w => V.bl (R v w)
/-- a matrix that the def made: rows r, their list at P0 -/
structure Mat (H0 : Hp) (P0 : Addr) (rows : List Addr) (n : Nat) (R : Rel2) (H : Hp) : Prop where
  ex : Ex H0 H
  at_ : H P0 = some (.lst (rows.map V.ref))
  len : rows.length = n
  nd : rows.Nodup
  ne : P0 ∉ rows
  newP : H0 P0 = none
  newR : ∀ r ∈ rows, H0 r = none
  cells : ∀ v, v < n → ∃ r, rows[v]? = some r ∧ H r = some (.lst (rowOf R n v))
section
variable {K : PySem.W.Frag} {σ : L2.St} {H0 H H' : Hp} {P0 : Addr} {rows : List Addr} {n : Nat} {R R' : Rel2} {tP tv tw te : TE} {D : Ends} {v w : Nat} {b : Bool}
theorem Mat.up (m : Mat H0 P0 rows n R H) (e : Ex H H') : Mat H0 P0 rows n R H' := ⟨m.ex.trans e, e _ _ m.at_, m.len, m.nd, m.ne, m.newP, m.newR, fun v hv => let ⟨r, a, c⟩ := m.cells v hv; ⟨r, a, e _ _ c⟩⟩
theorem Mat.congr (m : Mat H0 P0 rows n R H) (h : ∀ a b, a < n → b < n → R a b = R' a b) : Mat H0 P0 rows n R' H := ⟨m.ex, m.at_, m.len, m.nd, m.ne, m.newP, m.newR, fun v hv => by
  obtain ⟨r, a, c⟩ := m.cells v hv
  refine ⟨r, a, ?_⟩
  rw [c]
  have : rowOf R n v = rowOf R' n v := List.map_congr_left fun w hw => by rw [h v w hv (List.mem_range.mp hw)]
  rw [this]⟩
theorem Mat.rowsV (m : Mat H0 P0 rows n R H) : RowsV K H P0 n R := ⟨rows, sq_of m.at_, m.len, fun v hv => let ⟨r, a, c⟩ := m.cells v hv; ⟨r, a, sq_of c⟩⟩
/-- one cell set -/
theorem Mat.set (m : Mat H0 P0 rows n R H) (hv : v < n) (hw : w < n) {r : Addr} (hr : rows[v]? = some r) (b : Bool) : Mat H0 P0 rows n (fun a c => if a = v ∧ c = w then b else R a c) (upd H r (.lst ((rowOf R n v).set w (.bl b)))) := by
  have hrm : r ∈ rows := List.mem_of_getElem? hr
  refine ⟨Ex.mut m.ex (m.newR r hrm), ?_, m.len, m.nd, m.ne, m.newP, m.newR, fun x hx => ?_⟩
  · rw [upd_ne fun e => m.ne (by rw [e]; exact hrm)]; exact m.at_
  · obtain ⟨r2, a, c⟩ := m.cells x hx
    refine ⟨r2, a, ?_⟩
    by_cases e : x = v
    · subst e
      rw [hr] at a
      obtain rfl := Option.some.inj a
      rw [upd_same]
      congr 2
      apply List.ext_getElem?
      intro k
      rw [List.getElem?_set]
      by_cases hk : w = k
      · subst hk
        simp [hw, rowOf]
      · rw [if_neg hk]
        by_cases hkn : k < n
        · simp only [rowOf, List.getElem?_map, List.getElem?_range hkn, Option.map_some]
          rw [if_neg (fun z => hk z.2.symm)]
        · simp [rowOf, hkn]
    · have hne : r2 ≠ r := fun z => e (by rw [z] at a; exact nd_ix m.nd a hr)
      rw [upd_ne hne, c]
      congr 2
      refine List.map_congr_left fun k _ => ?_
      show V.bl (R x k) = V.bl (if x = v ∧ k = w then b else R x k)
      rw [if_neg (fun z => e z.1)]
/-- p[v][w] = e -/
theorem s_cell (m : Mat H0 P0 rows n R H) (hv : v < n) (hw : w < n) (h : Ev te σ H (.bl b)) (hP : Ev tP σ H (.ref P0)) (h1 : Ev tv σ H (.int (v : Int))) (h2 : Ev tw σ H (.int (w : Int)))
    (k : ∀ H2, Mat H0 P0 rows n (fun a c => if a = v ∧ c = w then b else R a c) H2 → D.nx σ H2) : tAsg te (gSub (tOp (rIxL K) tP tv) tw rSetL) D σ H := by
  obtain ⟨r, hr, hc⟩ := m.cells v hv
  refine s_setL (j := w) hc h (ev_op hP h1 (rv_ixL (sq_of m.at_) (at_of (j := v) rfl (by rw [List.getElem?_map, hr]; rfl)))) h2 (by simp [rowOf, hw]) fun H1 e1 => ?_
  exact k _ ((m.up e1).set hv hw hr b)
end
def spClosed (K : PySem.W.Frag) : Sp := fun vs H Q _ => ∃ (s : Addr) (l : Lg) (n : Nat) (S : Rel2), vs = [.ref s, .str (nm l)] ∧ RowsV K H s n S ∧ n ≤ 4 ∧ ∀ P0 H', H P0 = none → Ex H H' → RowsV K H' P0 n (closedR l n S) → Q (.ref P0) H'
abbrev nsC : List Str := ["_law_seen", "_law_logic_here", "_law_worlds", "_law_pairs_here", "_law_v", "_law_w", "_law_u", "_law_row"]
theorem sc_closed : FnScope nsC ["_law_seen", "_law_logic_here"] (defScope (top 52)) := ⟨rfl, rfl, rfl, by decide +kernel, rfl, by decide +kernel, by decide +kernel⟩
theorem inV_refl : ∀ l : Lg, (!inV (.str (nm l)) [.str "K", .str "D", .str "K4", .str "D4", .str "GL"]) = l.reflexive := by intro l; cases l <;> decide +kernel
theorem inV_trans : ∀ l : Lg, (!inV (.str (nm l)) [.str "K", .str "D", .str "T"]) = l.transitive := by intro l; cases l <;> decide +kernel
theorem inV_D : ∀ l : Lg, inV (.str (nm l)) [.str "D", .str "D4"] = decide (l = .D ∨ l = .D4) := by intro l; cases l <;> decide +kernel
theorem is_S5 : ∀ l : Lg, decide (V.str (nm l) = V.str "S5") = decide (l = .S5) := by intro l; cases l <;> decide +kernel
theorem inV_true (R : Rel2) (v : Nat) : ∀ xs : List Nat, inV (.bl true) (xs.map fun w => V.bl (R v w)) = xs.any fun w => R v w
  | [] => rfl
  | x :: xs => by
    have ih := inV_true R v xs
    unfold inV at ih ⊢
    rw [List.map_cons, List.any_cons, List.any_cons, ih]
    simp [eqV]
/-! ### rows done, cells done -/
def half (A B : Rel2) (i j : Nat) : Rel2 := fun a b => if a < i ∨ (a = i ∧ b < j) then B a b else A a b
theorem half_zero (A B : Rel2) (a b : Nat) : half A B 0 0 a b = A a b := if_neg (by omega)
theorem half_step (A B : Rel2) (i j a b : Nat) : (if a = i ∧ b = j then B i j else half A B i j a b) = half A B i (j + 1) a b := by
  unfold half
  by_cases h : a = i ∧ b = j
  · obtain ⟨rfl, rfl⟩ := h
    rw [if_pos ⟨rfl, rfl⟩, if_pos (by omega)]
  · rw [if_neg h]
    by_cases h2 : a < i ∨ (a = i ∧ b < j)
    · rw [if_pos h2, if_pos (by omega)]
    · rw [if_neg h2, if_neg (by omega)]
theorem half_row (A B : Rel2) (n i a b : Nat) (hb : b < n) : half A B i n a b = half A B (i + 1) 0 a b := by
  unfold half
  by_cases h2 : a < i ∨ (a = i ∧ b < n)
  · rw [if_pos h2, if_pos (by omega)]
  · rw [if_neg h2, if_neg (by omega)]
theorem half_end (A B : Rel2) (n a b : Nat) (ha : a < n) : half A B n 0 a b = B a b := if_pos (.inl ha)
section
variable {K : PySem.W.Frag} {H0 H : Hp} {P0 : Addr} {rows : List Addr} {n : Nat} {A B : Rel2} {te : TE} {D : Ends} {x0 x1 vu : Option V}
abbrev slC (n : Nat) (P0 : Addr) (x0 x1 vv vw vu : Option V) : L2.St := [x0, x1, some (.int (n : Int)), some (.ref P0), vv, vw, vu, none]
/-- for v ..: for w ..: p[v][w] = e -/
theorem dbl_loop (h4 : n ≤ 4) (m : Mat H0 P0 rows n A H) (he : ∀ i j H', i < n → j < n → Mat H0 P0 rows n (half A B i j) H' → Ev te (slC n P0 x0 x1 (some (.int (i : Int))) (some (.int (j : Int))) vu) H' (.bl (B i j))) {vv vw : Option V}
    (k : ∀ vv vw H', Mat H0 P0 rows n B H' → D.nx (slC n P0 x0 x1 vv vw vu) H') :
    tFor (iRng1 (tCons (tVar 2) tNil)) (gName 4) (tFor (iRng1 (tCons (tVar 2) tNil)) (gName 5) (tAsg te (gSub (tOp (rIxL K) (tVar 3) (tVar 4)) (tVar 5) rSetL))) D (slC n P0 x0 x1 vv vw vu) H := by
  refine s_forR1 (n := (n : Int)) (ea_cons (ev_var rfl) ea_nil) (by omega) (fun i σ' H' => (∃ vv vw, σ' = slC n P0 x0 x1 vv vw vu) ∧ Mat H0 P0 rows n (half A B i 0) H') (fun H1 e1 => ⟨⟨_, _, rfl⟩, (m.up e1).congr fun a b _ _ => (half_zero A B a b).symm⟩) (fun i σ' H' hi p => ?_) fun σ' H' p => ?_
  · obtain ⟨⟨vv, vw, rfl⟩, m1⟩ := p
    have hi' : i < n := by omega
    refine s_forR1 (n := (n : Int)) (ea_cons (ev_var rfl) ea_nil) (by omega) (fun j σ' H' => (∃ vw, σ' = slC n P0 x0 x1 (some (.int (i : Int))) vw vu) ∧ Mat H0 P0 rows n (half A B i j) H') (fun H1 e1 => ⟨⟨_, rfl⟩, m1.up e1⟩) (fun j σ2 H2 hj p => ?_) fun σ2 H2 p => ?_
    · obtain ⟨⟨vw, rfl⟩, m2⟩ := p
      have hj' : j < n := by omega
      exact s_cell m2 hi' hj' (he i j H2 hi' hj' m2) (ev_var rfl) (ev_var rfl) (ev_var rfl) fun H3 m3 => ⟨⟨_, rfl⟩, m3.congr fun a b _ _ => half_step A B i j a b⟩
    · obtain ⟨⟨vw, rfl⟩, m2⟩ := p
      rw [show ((n : Int)).toNat = n by omega] at m2
      exact ⟨⟨_, _, rfl⟩, m2.congr fun a b _ hb => half_row A B n i a b hb⟩
  · obtain ⟨⟨vv, vw, rfl⟩, m1⟩ := p
    rw [show ((n : Int)).toNat = n by omega] at m1
    exact k vv vw H' (m1.congr fun a b ha _ => half_end A B n a b ha)
theorem ev_cur {R : Rel2} {tv tw : TE} {σ : L2.St} {v w : Nat} (m : Mat H0 P0 rows n R H) (hP : σ[3]? = some (some (.ref P0))) (h1 : Ev tv σ H (.int (v : Int))) (h2 : Ev tw σ H (.int (w : Int))) (hv : v < n) (hw : w < n) : Ev (tOp (rIxL K) (tOp (rIxL K) (tVar 3) tv) tw) σ H (.bl (R v w)) :=
  ev_seen (ev_var hP) m.rowsV h1 h2 hv hw
end
theorem sym_cell (R : Rel2) (i j : Nat) : (half R (symR R) i j i j || half R (symR R) i j j i) = symR R i j := by
  have e1 : half R (symR R) i j i j = R i j := if_neg (by omega)
  rw [e1]
  unfold half
  split
  · unfold symR; cases R i j <;> cases R j i <;> rfl
  · rfl
theorem wst_cell (R : Rel2) (k i j : Nat) : (half R (wst R k) i j i j || (half R (wst R k) i j i k && half R (wst R k) i j k j)) = wst R k i j := by
  have e1 : half R (wst R k) i j i j = R i j := if_neg (by omega)
  have e2 : half R (wst R k) i j i k = R i k := by
    unfold half; split
    · unfold wst; cases R i k <;> cases R k k <;> rfl
    · rfl
  have e3 : half R (wst R k) i j k j = R k j := by
    unfold half; split
    · unfold wst; cases R k j <;> cases R k k <;> rfl
    · rfl
  rw [e1, e2, e3]; rfl
theorem diag_step (A B : Rel2) (i a b : Nat) (h : ∀ c, B i c = if c = i then true else A i c) : (if a = i ∧ b = i then true else half A B i 0 a b) = half A B (i + 1) 0 a b := by
  unfold half
  by_cases h1 : a = i ∧ b = i
  · obtain ⟨rfl, rfl⟩ := h1
    rw [if_pos ⟨rfl, rfl⟩, if_pos (by omega), h, if_pos rfl]
  · rw [if_neg h1]
    by_cases h2 : a < i
    · rw [if_pos (.inl h2), if_pos (by omega)]
    · rw [if_neg (by omega)]
      by_cases h3 : a = i
      · subst h3
        rw [if_pos (by omega), h, if_neg (fun z => h1 ⟨rfl, z⟩)]
      · rw [if_neg (by omega)]
theorem diag_keep (A B : Rel2) (i a b : Nat) (h : ∀ c, B i c = A i c) : half A B i 0 a b = half A B (i + 1) 0 a b := by
  unfold half
  by_cases h2 : a < i
  · rw [if_pos (.inl h2), if_pos (by omega)]
  · rw [if_neg (by omega)]
    by_cases h3 : a = i
    · subst h3; rw [if_pos (by omega), h]
    · rw [if_neg (by omega)]
section
variable {P : Program} {w : World} {K : PySem.W.Frag} {mg : Str → Option Value} {base : Heap} {gN : Addr}
theorem cal_closed (T : TX w K mg) : Cal P w K mg base "_law_closed" 1 (spClosed K) := by
  have free := T.free
  refine cal_of T 37 rfl sc_closed (fun vs H Q E h => by obtain ⟨_, _, _, _, rfl, _⟩ := h; rfl) (fun _ _ _ _ _ _ us hl => match us, hl with | [_, _], _ => rfl) fun f cdv A outer s H vs Q E hr h =>
    ⟨_, pss_cons (ps_set (i := 2) sc_closed.nd rfl (Or.inl rfl) (pe_callB call_len_seq rfl (free "len" (by decide +kernel)) boot_len (pa_cons (pv 0) pa_nil)))
      (pss_cons (ps_setLc (i := 3) (own := [("_law_row", 7)]) (g := gName 7) (tt := tYes) (te := tCB (fun xs H Q => ∃ p ys, xs = [.ref p] ∧ (SqL K H p ys ∨ SqT K H p ys) ∧ ∀ l, H l = none → Q (.ref l) (upd H l (.lst ys))) (tCons (tVar 7) tNil)) rfl sc_closed.nd rfl rfl (sw_true rfl rfl rfl (by decide +kernel)) (pi_list (pv 0)) (blkOk_by (N := nsC) (sc := defScope (top 52)) (by decide +kernel))
        (fun _ _ _ _ _ => pg_name (i := 7) sc_closed.nd rfl (Or.inl rfl)) (fun _ _ _ _ _ => pts_nil) (fun _ _ _ _ _ => pe_callTy call_list_of rfl (free "list" (by decide +kernel)) boot_list (pa_cons (pv 7) pa_nil)))
      (pss_cut (ps_if (pt_cmpR op_notIn_seq (pv 1) (pe_tup (pa_cons pe_str (pa_cons pe_str (pa_cons pe_str (pa_cons pe_str (pa_cons pe_str pa_nil)))))) rfl)
        (pss_one (ps_for (passes_of rfl) rfl (pi_range1 rfl (free "range" (by decide +kernel)) (pa_cons (pv 2) pa_nil)) (pg_name (i := 4) sc_closed.nd rfl (Or.inl rfl)) (pss_one (ps_asg pe_bl (pg_sub (pe_ix ix_list (pv 3) (pv 4) (fun _ _ => rfl)) (pv 4) set_list))))) pss_nil)
      (pss_cut (ps_if (pt_cmpR op_eq (pv 1) pe_str (nomark _))
        (pss_one (ps_for (passes_of rfl) rfl (pi_range1 rfl (free "range" (by decide +kernel)) (pa_cons (pv 2) pa_nil)) (pg_name (i := 4) sc_closed.nd rfl (Or.inl rfl)) (pss_one (ps_for (passes_of rfl) rfl (pi_range1 rfl (free "range" (by decide +kernel)) (pa_cons (pv 2) pa_nil)) (pg_name (i := 5) sc_closed.nd rfl (Or.inl rfl))
          (pss_one (ps_asg (pe_or (pe_ix ix_list (pe_ix ix_list (pv 3) (pv 4) (fun _ _ => rfl)) (pv 5) (fun _ _ => rfl)) (pe_one (pe_ix ix_list (pe_ix ix_list (pv 3) (pv 5) (fun _ _ => rfl)) (pv 4) (fun _ _ => rfl)))) (pg_sub (pe_ix ix_list (pv 3) (pv 4) (fun _ _ => rfl)) (pv 5) set_list))))))) pss_nil)
      (pss_cut (ps_if (pt_cmpR op_in_seq (pv 1) (pe_tup (pa_cons pe_str (pa_cons pe_str pa_nil))) rfl)
        (pss_one (ps_for (passes_of rfl) rfl (pi_range1 rfl (free "range" (by decide +kernel)) (pa_cons (pv 2) pa_nil)) (pg_name (i := 4) sc_closed.nd rfl (Or.inl rfl))
          (pss_one (ps_if (pt_cmpR op_notIn_seq pe_bl (pe_ix ix_list (pv 3) (pv 4) (fun _ _ => rfl)) rfl) (pss_one (ps_asg pe_bl (pg_sub (pe_ix ix_list (pv 3) (pv 4) (fun _ _ => rfl)) (pv 4) set_list))) pss_nil)))) pss_nil)
      (pss_cut (ps_if (pt_cmpR op_notIn_seq (pv 1) (pe_tup (pa_cons pe_str (pa_cons pe_str (pa_cons pe_str pa_nil)))) rfl)
        (pss_one (ps_for (passes_of rfl) rfl (pi_range1 rfl (free "range" (by decide +kernel)) (pa_cons (pv 2) pa_nil)) (pg_name (i := 6) sc_closed.nd rfl (Or.inl rfl))
          (pss_one (ps_for (passes_of rfl) rfl (pi_range1 rfl (free "range" (by decide +kernel)) (pa_cons (pv 2) pa_nil)) (pg_name (i := 4) sc_closed.nd rfl (Or.inl rfl)) (pss_one (ps_for (passes_of rfl) rfl (pi_range1 rfl (free "range" (by decide +kernel)) (pa_cons (pv 2) pa_nil)) (pg_name (i := 5) sc_closed.nd rfl (Or.inl rfl))
            (pss_one (ps_asg (pe_or (pe_ix ix_list (pe_ix ix_list (pv 3) (pv 4) (fun _ _ => rfl)) (pv 5) (fun _ _ => rfl)) (pe_one (pe_and (pe_ix ix_list (pe_ix ix_list (pv 3) (pv 4) (fun _ _ => rfl)) (pv 6) (fun _ _ => rfl)) (pe_one (pe_ix ix_list (pe_ix ix_list (pv 3) (pv 6) (fun _ _ => rfl)) (pv 5) (fun _ _ => rfl)))))) (pg_sub (pe_ix ix_list (pv 3) (pv 4) (fun _ _ => rfl)) (pv 5) set_list))))))))) pss_nil)
      (pss_one (ps_ret (pv 3)))))))), ?_⟩
  obtain ⟨sA, l, n, S, rfl, hS, h4, q⟩ := h
  refine q_asg (ev_lenS (ev_var rfl) hS) fun H1 e1 => ?_
  have hS1 := hS.ex e1
  refine q_as ?_
  obtain ⟨rs, g1, g2, g3⟩ := hS1
  refine ⟨_, rfl, sA, rfl, ⟨_, g1⟩, fun P0 hP => ?_⟩
  refine lc_list (xs := rs.map V.ref) (fun i H' => Ex H1 H' ∧ ∃ rows : List Addr, H' P0 = some (.lst (rows.map V.ref)) ∧ rows.length = i ∧ rows.Nodup ∧ P0 ∉ rows ∧ (∀ r ∈ rows, H1 r = none) ∧ ∀ v, v < i → ∃ r, rows[v]? = some r ∧ H' r = some (.lst (rowOf S n v)))
    ⟨Ex.new hP, [], upd_same, rfl, List.nodup_nil, (fun z => nomatch z), (fun _ z => nomatch z), fun v hv => absurd hv (Nat.not_lt_zero _)⟩ (fun i H' hi p => ex_l p.1 g1) (fun i x H' hi p => ?_) fun H' p => ?_
  · obtain ⟨e2, rows, hr0, lr, ndr, ner, newr, cr⟩ := p
    have hin : i < n := by have := (List.getElem?_eq_some_iff.mp hi).1; rw [List.length_map] at this; omega
    obtain ⟨ri, hri, hrow⟩ := g3 i hin
    rw [List.getElem?_map, hri] at hi
    obtain rfl : V.ref ri = x := Option.some.inj hi
    refine ⟨rfl, ?_⟩
    refine yes_go ?_
    refine ⟨_, rfl, ri, _, rfl, .inl (ex_l e2 hrow), fun r hr' => ?_⟩
    have e3 := Ex.new (o := .lst (rowOf S n i)) hr'
    have hPr : P0 ≠ r := ne_of_none hr0 hr'
    have r1 : H1 r = none := fresh_back e2 hr'
    have hrn : r ∉ rows := fun hm => by
      obtain ⟨k, hk, ek⟩ := List.mem_iff_getElem.mp hm
      obtain ⟨r', a, c⟩ := cr k (by omega)
      rw [List.getElem?_eq_getElem hk, ek] at a
      obtain rfl := Option.some.inj a
      rw [hr'] at c; cases c
    refine ⟨rows.map V.ref, e3 _ _ hr0, sz_lt (by rw [List.length_map]; omega), Ex.mut (e2.trans e3) hP, rows ++ [r], ?_, by rw [List.length_append, lr]; rfl, ?_, ?_, ?_, fun v hv => ?_⟩
    · rw [List.map_append]; exact upd_same
    · exact List.nodup_append.mpr ⟨ndr, by simp, fun a ha b hb => by rw [List.mem_singleton.mp hb]; exact fun e => hrn (e ▸ ha)⟩
    · exact fun hm => (List.mem_append.mp hm).elim ner fun h => hPr (List.mem_singleton.mp h)
    · exact fun y hy => (List.mem_append.mp hy).elim (newr y) fun h => by rw [List.mem_singleton.mp h]; exact r1
    · by_cases hvi : v < i
      · obtain ⟨r', a, c⟩ := cr v hvi
        refine ⟨r', by rw [List.getElem?_append_left (by omega)]; exact a, ?_⟩
        have hP' : r' ≠ P0 := fun e => ner (by rw [← e]; exact List.mem_of_getElem? a)
        rw [upd_ne hP']; exact e3 _ _ c
      · obtain rfl : v = i := by omega
        refine ⟨r, by rw [List.getElem?_append_right (by omega), lr]; simp, ?_⟩
        rw [upd_ne (Ne.symm hPr)]; exact upd_same
  · obtain ⟨e2, rows, hr0, lr, ndr, ner, newr, cr⟩ := p
    rw [List.length_map, g2] at lr cr
    have m0 : Mat H1 P0 rows n S H' := ⟨e2, hr0, lr, ndr, ner, hP, newr, cr⟩
    have slot : ∀ (σ : L2.St), σ = slC n P0 (some (.ref sA)) (some (.str (nm l))) none none none → True := fun _ _ => trivial
    refine q_cut (M := fun σ' H' => (∃ vv vw vu, σ' = slC n P0 (some (.ref sA)) (some (.str (nm l))) vv vw vu) ∧ Mat H1 P0 rows n (cl1 l S) H') ?_ ?_
    · refine s_when (et_is (et_test (ev_niU (ev_var rfl) (eu_tup (ea_cons ev_c (ea_cons ev_c (ea_cons ev_c (ea_cons ev_c (ea_cons ev_c ea_nil))))) (by simp)) rfl rfl)) (inV_refl l)) (fun hb H3 e3 => ?_) (fun hb H3 e3 => ⟨⟨none, none, none, rfl⟩, by unfold cl1; rw [if_neg (by rw [hb]; decide)]; exact m0.up e3⟩)
      have ecl : cl1 l S = reflR S := by unfold cl1; rw [if_pos hb]
      rw [ecl]
      refine s_forR1 (n := (n : Int)) (ea_cons (ev_var rfl) ea_nil) (by omega) (fun i σ' H' => (∃ vv, σ' = slC n P0 (some (.ref sA)) (some (.str (nm l))) vv none none) ∧ Mat H1 P0 rows n (half S (reflR S) i 0) H') (fun H4 e4 => ⟨⟨none, rfl⟩, ((m0.up e3).up e4).congr fun a b _ _ => (half_zero S _ a b).symm⟩) (fun i σ' H' hi p => ?_) fun σ' H' p => ?_
      · obtain ⟨⟨vv, rfl⟩, m1⟩ := p
        have hi' : i < n := by omega
        exact s_cell m1 hi' hi' ev_c (ev_var rfl) (ev_var rfl) (ev_var rfl) fun H5 m5 => ⟨⟨_, rfl⟩, m5.congr fun a b _ _ => diag_step S (reflR S) i a b fun c => by
          unfold reflR
          by_cases hc : c = i
          · subst hc; simp
          · rw [if_neg hc, show (i == c) = false from beq_eq_false_iff_ne.mpr fun z => hc z.symm, Bool.or_false]⟩
      · obtain ⟨⟨vv, rfl⟩, m1⟩ := p
        rw [show ((n : Int)).toNat = n by omega] at m1
        exact ⟨⟨_, _, _, rfl⟩, m1.congr fun a b ha _ => half_end S _ n a b ha⟩
    · rintro _ H3 ⟨⟨vv, vw, vu, rfl⟩, m3⟩
      refine q_cut (M := fun σ' H' => (∃ vv vw vu, σ' = slC n P0 (some (.ref sA)) (some (.str (nm l))) vv vw vu) ∧ Mat H1 P0 rows n (cl2 l S) H') ?_ ?_
      · refine s_when (et_is (et_test (ev_op (ev_var rfl) ev_c (rv_eq rfl))) (is_S5 l)) (fun hb H4 e4 => ?_) (fun hb H4 e4 => ⟨⟨_, _, _, rfl⟩, by unfold cl2; rw [if_neg (of_decide_eq_false hb)]; exact m3.up e4⟩)
        have ecl : cl2 l S = symR (cl1 l S) := by unfold cl2; rw [if_pos (of_decide_eq_true hb)]
        rw [ecl]
        exact dbl_loop h4 (m3.up e4) (fun i j H5 hi hj m5 => ev_is (ev_orV (ev_cur m5 rfl (ev_var rfl) (ev_var rfl) hi hj) fun _ => ev_cur m5 rfl (ev_var rfl) (ev_var rfl) hj hi) (by rw [sym_cell])) fun vv vw H5 m5 => ⟨⟨_, _, _, rfl⟩, m5⟩
      · rintro _ H4 ⟨⟨vv, vw, vu, rfl⟩, m4⟩
        refine q_cut (M := fun σ' H' => (∃ vv vw vu, σ' = slC n P0 (some (.ref sA)) (some (.str (nm l))) vv vw vu) ∧ Mat H1 P0 rows n (cl3 l n S) H') ?_ ?_
        · refine s_when (et_is (et_test (ev_inU (ev_var rfl) (eu_tup (ea2 ev_c ev_c) (by simp)) rfl rfl)) (inV_D l)) (fun hb H5 e5 => ?_) (fun hb H5 e5 => ⟨⟨_, _, _, rfl⟩, by unfold cl3; rw [if_neg (of_decide_eq_false hb)]; exact m4.up e5⟩)
          have ecl : cl3 l n S = serR n (cl2 l S) := by unfold cl3; rw [if_pos (of_decide_eq_true hb)]
          rw [ecl]
          refine s_forR1 (n := (n : Int)) (ea_cons (ev_var rfl) ea_nil) (by omega) (fun i σ' H' => (∃ vv, σ' = slC n P0 (some (.ref sA)) (some (.str (nm l))) vv vw vu) ∧ Mat H1 P0 rows n (half (cl2 l S) (serR n (cl2 l S)) i 0) H') (fun H6 e6 => ⟨⟨_, rfl⟩, ((m4.up e5).up e6).congr fun a b _ _ => (half_zero (cl2 l S) _ a b).symm⟩) (fun i σ' H6 hi p => ?_) fun σ' H' p => ?_
          · obtain ⟨⟨vv, rfl⟩, m6⟩ := p
            have hi' : i < n := by omega
            obtain ⟨r, hr1, hr2⟩ := m6.cells i hi'
            have cur : ∀ c, half (cl2 l S) (serR n (cl2 l S)) i 0 i c = cl2 l S i c := fun c => if_neg (by omega)
            refine s_when (b := !(List.range n).any fun w => cl2 l S i w) (et_is (et_test (ev_op ev_c (ev_op (ev_var rfl) (ev_var rfl) (rv_ixL (sq_of m6.at_) (at_of (j := i) rfl (by rw [List.getElem?_map, hr1]; rfl)))) (rv_niL (sq_of hr2) rfl (List.all_eq_true.mpr fun z hz => by obtain ⟨y, _, rfl⟩ := List.mem_map.mp hz; rfl)))) (by
              rw [inV_true]
              congr 2
              funext w
              exact cur w)) (fun hb2 H7 e7 => ?_) (fun hb2 H7 e7 => ⟨⟨_, rfl⟩, (m6.up e7).congr fun a b _ _ => diag_keep _ _ i a b fun c => by
                have : ((List.range n).any fun w => cl2 l S i w) = true := by simpa using hb2
                unfold serR
                rw [this]; simp⟩)
            exact s_cell (m6.up e7) hi' hi' ev_c (ev_var rfl) (ev_var rfl) (ev_var rfl) fun H8 m8 => ⟨⟨_, rfl⟩, m8.congr fun a b _ _ => diag_step (cl2 l S) _ i a b fun c => by
              unfold serR
              rw [hb2]
              by_cases hc : c = i
              · subst hc; simp
              · rw [if_neg hc, show (i == c) = false from beq_eq_false_iff_ne.mpr fun z => hc z.symm, Bool.false_and, Bool.or_false]⟩
          · obtain ⟨⟨vv, rfl⟩, m6⟩ := p
            rw [show ((n : Int)).toNat = n by omega] at m6
            exact ⟨⟨_, _, _, rfl⟩, m6.congr fun a b ha _ => half_end (cl2 l S) _ n a b ha⟩
        · rintro _ H5 ⟨⟨vv, vw, vu, rfl⟩, m5⟩
          refine q_cut (M := fun σ' H' => (∃ vv vw vu, σ' = slC n P0 (some (.ref sA)) (some (.str (nm l))) vv vw vu) ∧ Mat H1 P0 rows n (closedR l n S) H') ?_ ?_
          · refine s_when (et_is (et_test (ev_niU (ev_var rfl) (eu_tup (ea3 ev_c ev_c ev_c) (by simp)) rfl rfl)) (inV_trans l)) (fun hb H6 e6 => ?_) (fun hb H6 e6 => ⟨⟨_, _, _, rfl⟩, by unfold closedR; rw [if_neg (by rw [hb]; decide)]; exact m5.up e6⟩)
            have ecl : closedR l n S = war (cl3 l n S) n := by unfold closedR; rw [if_pos hb]
            rw [ecl]
            refine s_forR1 (n := (n : Int)) (ea_cons (ev_var rfl) ea_nil) (by omega) (fun k σ' H' => (∃ vv vw vu, σ' = slC n P0 (some (.ref sA)) (some (.str (nm l))) vv vw vu) ∧ Mat H1 P0 rows n (war (cl3 l n S) k) H') (fun H7 e7 => ⟨⟨_, _, _, rfl⟩, (m5.up e6).up e7⟩) (fun k σ' H7 hk p => ?_) fun σ' H' p => ?_
            · obtain ⟨⟨vv, vw, vu, rfl⟩, m7⟩ := p
              have hk' : k < n := by omega
              exact dbl_loop (B := war (cl3 l n S) (k + 1)) h4 m7 (fun i j H8 hi hj m8 => ev_is (ev_orV (ev_cur m8 rfl (ev_var rfl) (ev_var rfl) hi hj) fun _ => ev_andV (ev_cur m8 rfl (ev_var rfl) (ev_var rfl) hi hk') fun _ => ev_cur m8 rfl (ev_var rfl) (ev_var rfl) hk' hj) (by
                show V.bl (half (war (cl3 l n S) k) (wst (war (cl3 l n S) k) k) i j i j || (half (war (cl3 l n S) k) (wst (war (cl3 l n S) k) k) i j i k && half (war (cl3 l n S) k) (wst (war (cl3 l n S) k) k) i j k j)) = V.bl (wst (war (cl3 l n S) k) k i j)
                rw [wst_cell])) fun vv vw H8 m8 => ⟨⟨_, _, _, rfl⟩, m8⟩
            · obtain ⟨⟨vv, vw, vu, rfl⟩, m7⟩ := p
              rw [show ((n : Int)).toNat = n by omega] at m7
              exact ⟨⟨_, _, _, rfl⟩, m7⟩
          · rintro _ H6 ⟨⟨vv, vw, vu, rfl⟩, m6⟩
            exact ⟨_, rfl, q P0 H6 (fresh_back e1 hP) (e1.trans m6.ex) m6.rowsV⟩
end
end K33

set_option Elab.async false
set_option linter.all false
/-! The base relation of the law's model. -/
namespace K33
def up8 : Lg → Bool
  | .GL | .Grz | .Int | .KC | .LC | .BD2 | .HT | .Cl => true
  | _ => false
def s1 (l : Lg) (v : Nat) (f : Nat → Bool) : Nat → Bool := if up8 l = true then (fun w => f w && decide (v < w)) else f
def s2 (l : Lg) (v : Nat) (f : Nat → Bool) : Nat → Bool := if l = .LC ∨ l = .HT then (fun w => decide (v < w)) else f
def s3 (l : Lg) (n v : Nat) (f : Nat → Bool) : Nat → Bool := if l = .KC then (fun w => f w || (decide (w = n - 1) && decide (v < w))) else f
def s4 (l : Lg) (n v : Nat) (f : Nat → Bool) : Nat → Bool := if l = .BD2 then (fun w => f w && (decide (v < n / 2) && decide (n / 2 ≤ w))) else f
def s5 (l : Lg) (f : Nat → Bool) : Nat → Bool := if l = .Cl then (fun _ => false) else f
def baseR (l : Lg) (n : Nat) (F : Rel2) : Rel2 := fun v => s5 l (s4 l n v (s3 l n v (s2 l v (s1 l v (F v)))))
def halves : Rel2 := fun v w => decide (v < w) && decide (v / 2 = w / 2)
def baseS (l : Lg) (n : Nat) (F : Rel2) : Rel2 := if l = .HT ∧ 2 < n then halves else baseR l n F
theorem base_of (l : Lg) (n : Nat) (F : Rel2) (h0 : 0 < n) : Base l n (baseS l n F) where
  up := fun h v w hv hw q => by
    cases l <;> simp [Lg.forced] at h <;> simp [baseS, baseR, s1, s2, s3, s4, s5, up8, halves] at q
    all_goals first
      | exact q.2
      | exact q
      | (split at q
         · simp [halves] at q; exact q.1
         · simpa [baseR, s1, s2, s3, s4, s5, up8] using q)
      | (rcases q with q | q
         · exact q.2
         · exact q.2)
      | exact q.1.2
  lc := fun e v w hv hw => by
    subst e
    simp [baseS, baseR, s1, s2, s3, s4, s5, hv]
  kc := fun e v hv => by
    subst e
    simp [baseS, baseR, s1, s2, s3, s4, s5, hv]
  bd := fun e v w hv hw q => by
    subst e
    simp [baseS, baseR, s1, s2, s3, s4, s5] at q
    exact q.2
  ht := fun e v w hv hw q => by
    subst e
    by_cases h2 : 2 < n
    · simp [baseS, h2, halves] at q
      exact q.2
    · omega
  cl := fun e v w hv hw => by
    subst e
    simp [baseS, baseR, s5]
end K33

set_option Elab.async false
set_option linter.all false
set_option maxRecDepth 100000
set_option maxHeartbeats 4000000
namespace K33
open PySem PySem.Spec PyProof.Rows L2 Evl
section
variable {K : PySem.W.Frag} {σ : L2.St} {H : Hp} {te tl : TE} {ta : TA} {j : Nat} {vs : List Nat}
theorem et_yes : EvT tYes σ H true := fun H1 e Q q => q H1 (Ex.refl H1)
/-- [e for j in range(n)] -/
theorem el_rowR {n : Nat} (v : Nat → V) (h : EvA ta σ H [.int (n : Int)]) (hn : n ≤ 40000) (hw : ∀ x, wipe ((wipe σ vs).set j (some x)) vs = wipe σ vs) (he : ∀ (i : Nat) H1, Ex H H1 → i < n → Ev te ((wipe σ vs).set j (some (.int (i : Int)))) H1 (v i)) :
    EvL (tLc (iRng1 ta) (gName j) tYes te vs) σ H ((List.range n).map v) := by
  have := el_lcR1 (t := tYes) (te := te) (n := (n : Int)) (fun _ => true) v h (by omega) hw (fun i H1 e hi => et_yes) (fun i H1 e hi _ => he i H1 e (by omega))
  have e : given ((n : Int)).toNat (fun _ => true) v = (List.range n).map v := by
    rw [show ((n : Int)).toNat = n by omega]
    unfold given
    rw [List.filter_eq_self.mpr fun _ _ => rfl]
  rw [e] at this; exact this
/-- [e for x in xs] -/
theorem el_mapL {a : Addr} {xs : List V} (g : V → V) (h : Ev tl σ H (.ref a)) (hx : SqL K H a xs) (hz : xs.length ≤ 40000) (hw : ∀ x, wipe ((wipe σ vs).set j (some x)) vs = wipe σ vs) (he : ∀ x H1, Ex H H1 → x ∈ xs → Ev te ((wipe σ vs).set j (some x)) H1 (g x)) :
    EvL (tLc (iList K tl) (gName j) tYes te vs) σ H (xs.map g) := by
  have := el_lcL (K := K) (t := tYes) (te := te) (fun _ => true) (fun i => g (xs.getD i .non)) h hx hz hw (fun i x H1 e hi => et_yes) (fun i x H1 e hi _ => by
    have e1 : xs.getD i .non = x := by rw [List.getD_eq_getElem?_getD, hi]; rfl
    rw [e1]
    exact he x H1 e (List.mem_of_getElem? hi))
  have e : given xs.length (fun _ => true) (fun i => g (xs.getD i .non)) = xs.map g := by
    apply List.ext_getElem?
    intro i
    unfold given
    rw [List.filter_eq_self.mpr fun _ _ => rfl]
    simp only [List.getElem?_map]
    by_cases hi : i < xs.length
    · rw [List.getElem?_range hi, List.getElem?_eq_getElem hi]
      simp [List.getD_eq_getElem?_getD, hi]
    · rw [List.getElem?_eq_none (by simpa using hi), List.getElem?_eq_none (by simpa using hi)]; rfl
  rw [e] at this; exact this
theorem lt_cast (a b : Nat) : decide ((a : Int) < (b : Int)) = decide (a < b) := decide_eq_decide.mpr Int.ofNat_lt
theorem le_cast (a b : Nat) : decide ((a : Int) ≤ (b : Int)) = decide (a ≤ b) := decide_eq_decide.mpr Int.ofNat_le
theorem eq_cast (a b : Nat) : decide (V.int (a : Int) = V.int (b : Int)) = decide (a = b) := decide_eq_decide.mpr ⟨fun h => by injection h with h; omega, fun h => by rw [h]⟩
end
theorem inV_up8 : ∀ l : Lg, inV (.str (nm l)) [.str "GL", .str "Grz", .str "Int", .str "KC", .str "LC", .str "BD2", .str "HT", .str "Cl"] = up8 l := by intro l; cases l <;> decide +kernel
theorem inV_LH : ∀ l : Lg, inV (.str (nm l)) [.str "LC", .str "HT"] = decide (l = .LC ∨ l = .HT) := by intro l; cases l <;> decide +kernel
theorem inV_KC : ∀ l : Lg, inV (.str (nm l)) [.str "KC"] = decide (l = .KC) := by intro l; cases l <;> decide +kernel
theorem inV_BD : ∀ l : Lg, inV (.str (nm l)) [.str "BD2"] = decide (l = .BD2) := by intro l; cases l <;> decide +kernel
theorem is_Cl : ∀ l : Lg, decide (V.str (nm l) = V.str "Cl") = decide (l = .Cl) := by intro l; cases l <;> decide +kernel
theorem is_HT : ∀ l : Lg, decide (V.str (nm l) = V.str "HT") = decide (l = .HT) := by intro l; cases l <;> decide +kernel
abbrev nsMd : List Str := ["_law_numbers_here", "_law_logic_here", "_law_most", "_law_first", "_law_worlds", "_law_bits", "_law_number", "_law_seen", "_law_v", "_law_row", "_law_w", "_law_values", "_law_k", "_law_name", "_law_mask", "_law_here"]
theorem sc_model : FnScope nsMd ["_law_numbers_here", "_law_logic_here", "_law_most"] (defScope (top 53)) := ⟨rfl, rfl, rfl, by decide +kernel, rfl, by decide +kernel, by decide +kernel⟩
def spModel (K : PySem.W.Frag) : Sp := fun vs H Q _ => ∃ (a : Addr) (l : Lg) (ms : List Int), vs = [.ref a, .str (nm l), .int 4] ∧ SqL K H a (ms.map V.int) ∧ Low ms ∧ ms.length ≤ 100 ∧ ∀ v M H', Ex H H' → ModV K H' v M → Good l M → Q v H'
abbrev slM (a : Addr) (l : Lg) (first worlds bits num seen v row vals k name mask here : Option V) : L2.St := [some (.ref a), some (.str (nm l)), some (.int 4), first, worlds, bits, num, seen, v, row, none, vals, k, name, mask, here]
abbrev rowL (n : Nat) (g : Nat → Bool) : List V := (List.range n).map fun w => V.bl (g w)
/-- the rows made so far -/
structure SeenSt (H0 : Hp) (S : Addr) (n i : Nat) (R : Rel2) (H : Hp) : Prop where
  ex : Ex H0 H
  new : H0 S = none
  rows : ∃ rs : List Addr, H S = some (.lst (rs.map V.ref)) ∧ rs.length = i ∧ S ∉ rs ∧ ∀ v, v < i → ∃ r, rs[v]? = some r ∧ H r = some (.lst (rowOf R n v))
theorem SeenSt.up {H0 H H' : Hp} {S : Addr} {n i : Nat} {R : Rel2} (h : SeenSt H0 S n i R H) (e : Ex H H') : SeenSt H0 S n i R H' := by
  obtain ⟨rs, h1, h2, h3, h4⟩ := h.rows
  exact ⟨h.ex.trans e, h.new, rs, e _ _ h1, h2, h3, fun v hv => let ⟨r, a, c⟩ := h4 v hv; ⟨r, a, e _ _ c⟩⟩
theorem SeenSt.put {H0 H : Hp} {S rp : Addr} {n i : Nat} {R : Rel2} (h : SeenSt H0 S n i R H) (hr : H rp = some (.lst (rowOf R n i))) (hne : rp ≠ S) {rs : List Addr} (h1 : H S = some (.lst (rs.map V.ref))) : SeenSt H0 S n (i + 1) R (upd H S (.lst (rs.map V.ref ++ [.ref rp]))) := by
  obtain ⟨rs', g1, g2, g3, g4⟩ := h.rows
  have e : rs = rs' := by
    rw [g1] at h1
    have h1 := Option.some.inj h1
    injection h1 with h1
    exact ((List.map_inj_right fun x y h => by injection h).mp h1).symm
  subst e
  refine ⟨Ex.mut h.ex h.new, h.new, rs ++ [rp], ?_, by rw [List.length_append, g2]; rfl, ?_, fun v hv => ?_⟩
  · rw [List.map_append]; exact upd_same
  · exact fun hm => (List.mem_append.mp hm).elim g3 fun z => hne (List.mem_singleton.mp z).symm
  · by_cases hvi : v < i
    · obtain ⟨r, a, c⟩ := g4 v hvi
      refine ⟨r, by rw [List.getElem?_append_left (by omega)]; exact a, ?_⟩
      rw [upd_ne fun z => g3 (by rw [← z]; exact List.mem_of_getElem? a)]; exact c
    · obtain rfl : v = i := by omega
      refine ⟨rp, by rw [List.getElem?_append_right (by omega), g2]; simp, ?_⟩
      rw [upd_ne hne]; exact hr
theorem SeenSt.rowsV {K : PySem.W.Frag} {H0 H : Hp} {S : Addr} {n : Nat} {R : Rel2} (h : SeenSt H0 S n n R H) : RowsV K H S n R := by
  obtain ⟨rs, h1, h2, h3, h4⟩ := h.rows
  exact ⟨rs, sq_of h1, h2, fun v hv => let ⟨r, a, c⟩ := h4 v hv; ⟨r, a, sq_of c⟩⟩
/-- within a turn: the row -/
def RowM (a : Addr) (l : Lg) (H0 : Hp) (S : Addr) (n i : Nat) (R : Rel2) (first bits : Int) (num : Option V) (g : Nat → Bool) : L2.St → Hp → Prop := fun σ H =>
  ∃ rp, σ = slM a l (some (.int first)) (some (.int (n : Int))) (some (.int bits)) num (some (.ref S)) (some (.int (i : Int))) (some (.ref rp)) none none none none none ∧ SeenSt H0 S n i R H ∧ H rp = some (.lst (rowL n g)) ∧ rp ≠ S
theorem row_stage {a : Addr} {l : Lg} {H0 H : Hp} {S rp : Addr} {n i : Nat} {R : Rel2} {first bits : Int} {num : Option V} {g g' g'' : Nat → Bool} {b : Bool} {t : TT} {te : TE} {D : Ends} (st : SeenSt H0 S n i R H) (hr : H rp = some (.lst (rowL n g))) (hne : rp ≠ S)
    (ht : EvT t (slM a l (some (.int first)) (some (.int (n : Int))) (some (.int bits)) num (some (.ref S)) (some (.int (i : Int))) (some (.ref rp)) none none none none none) H b)
    (he : b = true → ∀ H1, Ex H H1 → EvL te (slM a l (some (.int first)) (some (.int (n : Int))) (some (.int bits)) num (some (.ref S)) (some (.int (i : Int))) (some (.ref rp)) none none none none none) H1 (rowL n g')) (hg : g'' = if b = true then g' else g) :
    tIfS t (tAsg te (gName 9)) tNext { D with nx := RowM a l H0 S n i R first bits num g'' } (slM a l (some (.int first)) (some (.int (n : Int))) (some (.int bits)) num (some (.ref S)) (some (.int (i : Int))) (some (.ref rp)) none none none none none) H := by
  refine s_when ht (fun hb H1 e1 => s_asgL (he hb H1 e1) fun p H2 hp e2 hpl => ?_) (fun hb H1 e1 => ?_)
  · obtain ⟨rs, h1, _⟩ := (st.up e1).rows
    refine ⟨p, rfl, (st.up e1).up e2, ?_, fun z => ?_⟩
    · rw [hg, if_pos hb]; exact hpl
    · rw [z, h1] at hp; cases hp
  · refine ⟨rp, rfl, st.up e1, ?_, hne⟩
    rw [hg, if_neg (by rw [hb]; decide)]; exact e1 _ _ hr
/-- the values so far -/
structure ValSt (l : Lg) (n : Nat) (R : Rel2) (H0 : Hp) (d : Addr) (i : Nat) (H : Hp) : Prop where
  ex : Ex H0 H
  new : H0 d = none
  kvs : ∃ kvs : List (Key × V), H d = some (.dK kvs) ∧ kvs.length ≤ i ∧ ∀ x : Str, valV kvs (.inr x) = none ∨ ∃ (lx : Addr) (ks : List Nat), valV kvs (.inr x) = some (.ref lx) ∧ H lx = some (.lst (ks.map fun k : Nat => V.int (k : Int))) ∧
    (l.forced = true → ∀ v w, v < n → w < n → v ∈ ks → R v w = true → w ∈ ks)
theorem ValSt.up {l : Lg} {n : Nat} {R : Rel2} {H0 H H' : Hp} {d : Addr} {i : Nat} (h : ValSt l n R H0 d i H) (e : Ex H H') : ValSt l n R H0 d i H' := by
  obtain ⟨kvs, h1, h2, h3⟩ := h.kvs
  refine ⟨h.ex.trans e, h.new, kvs, e _ _ h1, h2, fun x => ?_⟩
  rcases h3 x with h | ⟨lx, ks, a, c, u⟩
  · exact .inl h
  · exact .inr ⟨lx, ks, a, e _ _ c, u⟩
theorem ValSt.put {l : Lg} {n : Nat} {R : Rel2} {H0 H : Hp} {d lx : Addr} {i : Nat} {x : Str} {ks : List Nat} {kvs : List (Key × V)} (h : ValSt l n R H0 d i H) (hd : H d = some (.dK kvs)) (hl : H lx = some (.lst (ks.map fun k : Nat => V.int (k : Int)))) (hu : l.forced = true → ∀ v w, v < n → w < n → v ∈ ks → R v w = true → w ∈ ks) :
    ValSt l n R H0 d (i + 1) (upd H d (.dK (putK kvs (.inr x) (.ref lx)))) := by
  obtain ⟨kvs', h1, h2, h3⟩ := h.kvs
  obtain rfl : kvs' = kvs := by rw [hd] at h1; injection h1 with h1; injection h1 with h1; exact h1.symm
  refine ⟨Ex.mut h.ex h.new, h.new, _, upd_same, Nat.le_trans (length_putK kvs' _ _) (by omega), fun y => ?_⟩
  rw [valV_put]
  by_cases e : (Sum.inr y : Key) = .inr x
  · rw [if_pos e]
    exact .inr ⟨lx, ks, rfl, by rw [upd_ne (fun z => by rw [z, hd] at hl; cases hl)]; exact hl, hu⟩
  · rw [if_neg e]
    rcases h3 y with h | ⟨ly, js, a, c, u⟩
    · exact .inl h
    · exact .inr ⟨ly, js, a, by rw [upd_ne (fun z => by rw [z, hd] at c; cases c)]; exact c, u⟩
theorem mem_ints (w : Nat) (ks : List Nat) : decide ((w : Int) ∈ ks.map fun k : Nat => (k : Int)) = decide (w ∈ ks) := by
  apply decide_eq_decide.mpr
  constructor
  · intro h
    obtain ⟨k, hk, e⟩ := List.mem_map.mp h
    have : k = w := by omega
    exact this ▸ hk
  · intro h
    exact List.mem_map.mpr ⟨w, h, rfl⟩
/-- the model at the end -/
theorem ValSt.val {l : Lg} {n : Nat} {R : Rel2} {H0 H : Hp} {d : Addr} {i : Nat} {K : PySem.W.Frag} (h : ValSt l n R H0 d i H) : ∃ val : Str → Nat → Bool, ValsV K H d val ∧ (l.forced = true → ∀ x v w, v < n → w < n → val x v = true → R v w = true → val x w = true) := by
  obtain ⟨kvs, h1, h2, h3⟩ := h.kvs
  have key : ∀ x : Str, ∃ vx : Nat → Bool, ((valV kvs (.inr x) = none ∧ ∀ w, vx w = false) ∨ ∃ (lx : Addr) (ns : List Int), valV kvs (.inr x) = some (.ref lx) ∧ SqL K H lx (ns.map V.int) ∧ ∀ w : Nat, vx w = decide ((w : Int) ∈ ns)) ∧ (l.forced = true → ∀ v w, v < n → w < n → vx v = true → R v w = true → vx w = true) := fun x => by
    rcases h3 x with h | ⟨lx, ks, a, c, u⟩
    · exact ⟨fun _ => false, .inl ⟨h, fun _ => rfl⟩, fun _ v w _ _ z => nomatch z⟩
    · refine ⟨fun w => decide (w ∈ ks), .inr ⟨lx, ks.map fun k : Nat => (k : Int), a, sq_of (by rw [c, List.map_map]; rfl), fun w => (mem_ints w ks).symm⟩, fun hf v w hv hw hm hR => ?_⟩
      exact decide_eq_true (u hf v w hv hw (of_decide_eq_true hm) hR)
  obtain ⟨val, hval⟩ := Classical.axiomOfChoice key
  exact ⟨val, ⟨kvs, h1, fun x => (hval x).1⟩, fun hf x v w => (hval x).2 hf v w⟩
theorem inV_any (R : Rel2) (w : Nat) : ∀ ks : List Nat, inV (.bl true) (ks.map fun k => V.bl (R k w)) = ks.any fun k => R k w
  | [] => rfl
  | k :: ks => by
    have ih := inV_any R w ks
    unfold inV at ih ⊢
    rw [List.map_cons, List.any_cons, List.any_cons, ih]
    simp [eqV]
section
variable {P : Program} {w : World} {K : PySem.W.Frag} {mg : Str → Option Value} {base : Heap} {gN : Addr}
theorem cal_model (T : TX w K mg) : Cal P w K mg base "_law_model" 2 (spModel K) := by
  have free := T.free
  have fr := free "range" (by decide +kernel)
  have fi := free "int" (by decide +kernel)
  have fl := free "len" (by decide +kernel)
  refine cal_of T 38 rfl sc_model (fun vs H Q E h => by obtain ⟨_, _, _, rfl, _⟩ := h; rfl) (fun _ _ _ _ _ _ us hl => match us, hl with | [_, _, _], _ => rfl) fun f cdv A outer s H vs Q E hr h =>
    ⟨_, pss_cons (ps_set (i := 3) sc_model.nd rfl (Or.inl rfl) pe_int)
      (pss_cut (ps_if (pt_cmpR (op_neD (hu64 hr)) (pv 0) (pe_lst pa_nil) (nomark _)) (pss_one (ps_set (i := 3) sc_model.nd rfl (Or.inl rfl) (pe_callTy call_int1 rfl fi boot_int (pa_cons (pe_ix ix_list (pv 0) pe_int (fun _ _ => rfl)) pa_nil)))) pss_nil)
      (pss_cons (ps_set (i := 4) sc_model.nd rfl (Or.inr rfl) (pe_op op_add pe_int (pe_op op_mod (pe_callTy call_int1 rfl fi boot_int (pa_cons (pv 3) pa_nil)) (pv 2))))
      (pss_cons (ps_set (i := 5) sc_model.nd rfl (Or.inr rfl) (pe_op op_fdiv (pv 3) pe_int))
      (pss_cons (ps_for (passes_of rfl) rfl (pi_list (pe_slice sl_list (pv 0) (po_some pe_int) (po_some pe_int))) (pg_name (i := 6) sc_model.nd rfl (Or.inl rfl)) (pss_one (ps_set (i := 5) sc_model.nd rfl (Or.inr rfl) (pe_op op_add (pe_op op_mul (pv 5) pe_int) (pe_callTy call_int1 rfl fi boot_int (pa_cons (pv 6) pa_nil))))))
      (pss_cons (ps_set (i := 7) sc_model.nd rfl (Or.inr rfl) (pe_lst pa_nil))
      (pss_cons (ps_for (passes_of rfl) rfl (pi_range1 rfl fr (pa_cons (pv 4) pa_nil)) (pg_name (i := 8) sc_model.nd rfl (Or.inr rfl))
        (pss_cons (ps_set (i := 9) sc_model.nd rfl (Or.inr rfl) (pe_lc (own := [("_law_w", 10)]) (g := gName 10) (tt := tYes) rfl sc_model.nd (pi_range1 rfl fr (pa_cons (pv 4) pa_nil)) (blkOk_by (N := nsMd) (sc := defScope (top 53)) (by decide +kernel)) (fun _ _ _ _ _ => pg_name (i := 10) sc_model.nd rfl (Or.inl rfl)) (fun _ _ _ _ _ => pts_nil)
            (fun _ _ _ _ _ => pe_cmpR op_eq (pe_op op_and (pe_op op_shr (pv 5) (pe_op op_add (pe_op op_mul (pv 8) (pv 4)) (pv 10))) pe_int) pe_int (nomark _))))
        (pss_cut (ps_if (pt_cmpR op_in_seq (pv 1) (pe_tup (pa_cons pe_str (pa_cons pe_str (pa_cons pe_str (pa_cons pe_str (pa_cons pe_str (pa_cons pe_str (pa_cons pe_str (pa_cons pe_str pa_nil))))))))) rfl) (pss_one (ps_set (i := 9) sc_model.nd rfl (Or.inr rfl)
          (pe_lc (own := [("_law_w", 10)]) (g := gName 10) (tt := tYes) rfl sc_model.nd (pi_range1 rfl fr (pa_cons (pv 4) pa_nil)) (blkOk_by (N := nsMd) (sc := defScope (top 53)) (by decide +kernel)) (fun _ _ _ _ _ => pg_name (i := 10) sc_model.nd rfl (Or.inl rfl)) (fun _ _ _ _ _ => pts_nil)
            (fun _ _ _ _ _ => pe_and (pe_ix (r := rIxL K) ix_list (pv 9) (pv 10) (fun _ _ => rfl)) (pe_one (pe_cmpR op_lt (pv 8) (pv 10) (nomark _))))))) pss_nil)
        (pss_cut (ps_if (pt_cmpR op_in_seq (pv 1) (pe_tup (pa_cons pe_str (pa_cons pe_str pa_nil))) rfl) (pss_one (ps_set (i := 9) sc_model.nd rfl (Or.inr rfl)
          (pe_lc (own := [("_law_w", 10)]) (g := gName 10) (tt := tYes) rfl sc_model.nd (pi_range1 rfl fr (pa_cons (pv 4) pa_nil)) (blkOk_by (N := nsMd) (sc := defScope (top 53)) (by decide +kernel)) (fun _ _ _ _ _ => pg_name (i := 10) sc_model.nd rfl (Or.inl rfl)) (fun _ _ _ _ _ => pts_nil)
            (fun _ _ _ _ _ => pe_cmpR op_lt (pv 8) (pv 10) (nomark _))))) pss_nil)
        (pss_cut (ps_if (pt_cmpR op_in_seq (pv 1) (pe_tup (pa_cons pe_str pa_nil)) rfl) (pss_one (ps_set (i := 9) sc_model.nd rfl (Or.inr rfl)
          (pe_lc (own := [("_law_w", 10)]) (g := gName 10) (tt := tYes) rfl sc_model.nd (pi_range1 rfl fr (pa_cons (pv 4) pa_nil)) (blkOk_by (N := nsMd) (sc := defScope (top 53)) (by decide +kernel)) (fun _ _ _ _ _ => pg_name (i := 10) sc_model.nd rfl (Or.inl rfl)) (fun _ _ _ _ _ => pts_nil)
            (fun _ _ _ _ _ => pe_or (pe_ix (r := rIxL K) ix_list (pv 9) (pv 10) (fun _ _ => rfl)) (pe_one (pe_and (pe_cmpR op_eq (pv 10) (pe_op op_sub (pv 4) pe_int) (nomark _)) (pe_one (pe_cmpR op_lt (pv 8) (pv 10) (nomark _))))))))) pss_nil)
        (pss_cut (ps_if (pt_cmpR op_in_seq (pv 1) (pe_tup (pa_cons pe_str pa_nil)) rfl) (pss_one (ps_set (i := 9) sc_model.nd rfl (Or.inr rfl)
          (pe_lc (own := [("_law_w", 10)]) (g := gName 10) (tt := tYes) rfl sc_model.nd (pi_range1 rfl fr (pa_cons (pv 4) pa_nil)) (blkOk_by (N := nsMd) (sc := defScope (top 53)) (by decide +kernel)) (fun _ _ _ _ _ => pg_name (i := 10) sc_model.nd rfl (Or.inl rfl)) (fun _ _ _ _ _ => pts_nil)
            (fun _ _ _ _ _ => pe_and (pe_ix (r := rIxL K) ix_list (pv 9) (pv 10) (fun _ _ => rfl)) (pe_one (pe_chain op_lt op_le (pv 8) (pe_op op_fdiv (pv 4) pe_int) (pv 10))))))) pss_nil)
        (pss_cut (ps_if (pt_cmpR op_eq (pv 1) pe_str (nomark _)) (pss_one (ps_set (i := 9) sc_model.nd rfl (Or.inr rfl) (pe_op op_rep (pe_lst (pa_cons pe_bl pa_nil)) (pv 4)))) pss_nil)
        (pss_one (ps_expr (pe_bm PySem.F.plainAttrs_list PySem.F.slot_list_append PySem.F.type_list_append mt_append (pv 7) (pa_cons (pv 9) pa_nil)))))))))))
      (pss_cut (ps_if (PW.pt (pw_and (pt_cmpR op_eq (pv 1) pe_str (nomark _)) (pw_and1 (pt_cmpR op_gt (pv 4) pe_int (nomark _))))) (pss_one (ps_set (i := 7) sc_model.nd rfl (Or.inr rfl)
          (pe_lc (own := [("_law_v", 8)]) (g := gName 8) (tt := tYes) (te := tLc (iRng1 (tCons (tVar 4) tNil)) (gName 10) tYes (tAndV (tOp (rI0 fun i j => .bl (decide (i < j))) (tVar 8) (tVar 10)) (tOp rEq (tOp (rI CDiv fun i j => .int (i / j)) (tVar 8) (tC (.int 2))) (tOp (rI CDiv fun i j => .int (i / j)) (tVar 10) (tC (.int 2))))) [10])
            rfl sc_model.nd (pi_range1 rfl fr (pa_cons (pv 4) pa_nil)) (blkOk_by (N := nsMd) (sc := defScope (top 53)) (by decide +kernel)) (fun _ _ _ _ _ => pg_name (i := 8) sc_model.nd rfl (Or.inr rfl)) (fun _ _ _ _ _ => pts_nil)
            (fun _ _ _ _ _ => pe_lc (own := [("_law_w", 10)]) (g := gName 10) (tt := tYes) rfl sc_model.nd (pi_range1 rfl fr (pa_cons (pv 4) pa_nil)) (blkOk_by (N := nsMd) (sc := { kind := .function, names := [(".0", .local), ("_law_v", .cell), ("range", .globalImplicit), ("_law_worlds", .cell)], isGenerator := false, isCoroutine := false }) (by decide +kernel)) (fun _ _ _ _ _ => pg_name (i := 10) sc_model.nd rfl (Or.inl rfl)) (fun _ _ _ _ _ => pts_nil)
              (fun _ _ _ _ _ => pe_and (pe_cmpR op_lt (pv 8) (pv 10) (nomark _)) (pe_one (pe_cmpR op_eq (pe_op op_fdiv (pv 8) pe_int) (pe_op op_fdiv (pv 10) pe_int) (nomark _)))))))) pss_nil)
      (pss_cons (ps_set (i := 7) sc_model.nd rfl (Or.inr rfl) (pe_f0 (cal_closed T) hr rfl (pa_cons (pv 7) (pa_cons (pv 1) pa_nil))))
      (pss_cons (ps_set (i := 11) sc_model.nd rfl (Or.inl rfl) pe_dnewK)
      (pss_cons (ps_for (passes_of rfl) rfl (pi_range1 rfl fr (pa_cons pe_int pa_nil)) (pg_name (i := 12) sc_model.nd rfl (Or.inl rfl))
        (pss_cons (ps_set (i := 13) sc_model.nd rfl (Or.inl rfl) (pe_ix ix_str pe_str (pv 12) (fun _ _ => rfl)))
        (pss_cons (ps_set (i := 14) sc_model.nd rfl (Or.inr rfl) pe_int)
        (pss_cut (ps_if (pt_cmpR op_gt (pe_callB call_len_seq rfl fl boot_len (pa_cons (pv 0) pa_nil)) (pe_op op_add pe_int (pv 12)) (nomark _)) (pss_one (ps_set (i := 14) sc_model.nd rfl (Or.inr rfl)
            (pe_op op_mod (pe_callTy call_int1 rfl fi boot_int (pa_cons (pe_ix ix_list (pv 0) (pe_op op_add pe_int (pv 12)) (fun _ _ => rfl)) pa_nil)) (pe_op op_shl pe_int (pv 4))))) pss_nil)
        (pss_cons (ps_set (i := 15) sc_model.nd rfl (Or.inr rfl) (pe_lc (own := [("_law_w", 10)]) (g := gName 10) rfl sc_model.nd (pi_range1 rfl fr (pa_cons (pv 4) pa_nil)) (blkOk_by (N := nsMd) (sc := defScope (top 53)) (by decide +kernel)) (fun _ _ _ _ _ => pg_name (i := 10) sc_model.nd rfl (Or.inl rfl))
            (fun _ _ _ _ _ => pts_one (pt_cmpR op_eq (pe_op op_and (pe_op op_shr (pv 14) (pv 10)) pe_int) pe_int (nomark _))) (fun _ _ _ _ _ => pv 10)))
        (pss_cut (ps_if (pt_cmpR op_in_seq (pv 1) (pe_tup (pa_cons pe_str (pa_cons pe_str (pa_cons pe_str (pa_cons pe_str (pa_cons pe_str (pa_cons pe_str pa_nil))))))) rfl) (pss_one (ps_set (i := 15) sc_model.nd rfl (Or.inr rfl)
            (pe_lc (own := [("_law_w", 10)]) (g := gName 10) (tt := tTest (tOp (rIn K false) (tC (.bl true)) (tLc (iList K (tVar 15)) (gName 8) tYes (tOp (rIxL K) (tOp (rIxL K) (tVar 7) (tVar 8)) (tVar 10)) [8]))) rfl sc_model.nd (pi_range1 rfl fr (pa_cons (pv 4) pa_nil)) (blkOk_by (N := nsMd) (sc := defScope (top 53)) (by decide +kernel)) (fun _ _ _ _ _ => pg_name (i := 10) sc_model.nd rfl (Or.inr rfl))
              (fun _ _ _ _ _ => pts_one (pt_cmpR (r := rIn K false) op_in_seq pe_bl (pe_lc (wi := iList K (tVar 15)) (own := [("_law_v", 8)]) (g := gName 8) (tt := tYes) rfl sc_model.nd (pi_list (pv 15)) (blkOk_by (N := nsMd) (sc := { kind := .function, names := [(".0", .local), ("_law_w", .cell), ("_law_here", .cell), ("_law_seen", .cell)], isGenerator := false, isCoroutine := false }) (by decide +kernel)) (fun _ _ _ _ _ => pg_name (i := 8) sc_model.nd rfl (Or.inl rfl)) (fun _ _ _ _ _ => pts_nil)
                (fun _ _ _ _ _ => pe_ix (r := rIxL K) ix_list (pe_ix (r := rIxL K) ix_list (pv 7) (pv 8) (fun _ _ => rfl)) (pv 10) (fun _ _ => rfl))) rfl)) (fun _ _ _ _ _ => pv 10)))) pss_nil)
        (pss_one (ps_dput (hu_of hr) (pv 11) (pv 13) (pv 15) rfl))))))))
      (pss_one (ps_ret (pe_tup (pa_cons (pv 7) (pa_cons (pv 11) pa_nil))))))))))))))), ?_⟩
  obtain ⟨a, l, ms, rfl, ha, low, lms, q⟩ := h
  refine q_asg ev_c fun H1 e1 => ?_
  refine q_cut (M := fun σ' H' => ∃ first : Int, 0 ≤ first ∧ σ' = slM a l (some (.int first)) none none none none none none none none none none none ∧ Ex H H') ?_ ?_
  · refine s_when (et_test (ev_neNil (ev_var rfl) (ex_l e1 ha))) (fun hb H2 e2 => ?_) fun _ H2 e2 => ⟨0, by decide, rfl, e1.trans e2⟩
    cases ms with
    | nil => simp at hb
    | cons m ms => exact s_asg (ev_int1 (ev_op (ev_var rfl) ev_c (rv_ixL (ex_l (e1.trans e2) ha) (at_of (j := 0) rfl rfl)))) fun H3 e3 => ⟨m, (low m List.mem_cons_self).1, rfl, (e1.trans e2).trans e3⟩
  · rintro _ H2 ⟨first, f0, rfl, e2⟩
    have hn4 := Int.emod_lt_of_pos first (show (0 : Int) < 4 by decide)
    have hn0 := Int.emod_nonneg first (show (4 : Int) ≠ 0 by decide)
    obtain ⟨n, hn⟩ : ∃ n : Nat, (n : Int) = 1 + first % 4 := ⟨(1 + first % 4).toNat, by omega⟩
    have n1 : 1 ≤ n := by omega
    have n4 : n ≤ 4 := by omega
    refine q_asg (v := .int (n : Int)) (ev_is (ev_op ev_c (ev_mod (ev_int1 (ev_var rfl)) (ev_var rfl) (by decide)) rv_I0) (by rw [hn])) fun H3 e3 => ?_
    refine q_asg (ev_div (ev_var rfl) ev_c (by decide)) fun H4 e4 => ?_
    have e14 := (e2.trans e3).trans e4
    have ha4 := ex_l e14 ha
    refine q_forNLn (K := K) (xs := cutV (ms.map V.int) (some 1) (some 3)) (fun H5 e5 Q5 k5 => ⟨_, rfl, 1, rfl, 3, rfl, a, _, rfl, ex_l e5 ha4, fun p hp => k5 p _ hp (Ex.new hp) upd_same⟩)
      (fun p i σ' H' => (∃ (bits : Int) (vn : Option V), σ' = slM a l (some (.int first)) (some (.int (n : Int))) (some (.int bits)) vn none none none none none none none none) ∧ Ex H H' ∧ H' p = some (.lst (cutV (ms.map V.int) (some 1) (some 3)))) (fun p H5 hp e5 hH => ⟨⟨_, _, rfl⟩, e14.trans e5, hH⟩) (fun p i σ' H' hi pr => sq_of pr.2.2) (fun p i x σ' H' hi pr => ?_) fun p σ' H' pr => ?_
    · obtain ⟨⟨bits, vn, rfl⟩, e5, hH⟩ := pr
      have hx : x ∈ ms.map V.int := List.mem_of_mem_drop (List.mem_of_mem_take (List.mem_of_getElem? hi))
      obtain ⟨z, _, rfl⟩ := List.mem_map.mp hx
      exact s_asg (ev_op (ev_op (ev_var rfl) ev_c (rv_I (.inr (by decide)))) (ev_int1 (ev_var rfl)) rv_I0) fun H6 e6 => ⟨⟨_, _, rfl⟩, e5.trans e6, e6 _ _ hH⟩
    · obtain ⟨⟨bits, vn, rfl⟩, e5, _⟩ := pr
      refine ⟨sz_of (by simp), fun S hS => ?_⟩
      have eS := Ex.new (o := .lst []) hS
      obtain ⟨F, hF⟩ : ∃ F : Rel2, F = fun (v w : Nat) => decide (V.int (Builtin.bitAnd (bits / 2 ^ ((v : Int) * (n : Int) + (w : Int)).toNat) 1) = V.int 1) := ⟨_, rfl⟩
      have s0 : SeenSt H' S n 0 (baseR l n F) (upd H' S (.lst [])) := ⟨eS, hS, [], upd_same, rfl, (fun z => nomatch z), fun v hv => absurd hv (Nat.not_lt_zero _)⟩
      -- reading row[w]
      have rd : ∀ {H5 : Hp} {rp : Addr} {g : Nat → Bool} {σ : L2.St} {w : Nat}, σ[9]? = some (some (.ref rp)) → σ[10]? = some (some (.int (w : Int))) → H5 rp = some (.lst (rowL n g)) → w < n → Ev (tOp (rIxL K) (tVar 9) (tVar 10)) σ H5 (.bl (g w)) := fun {H5 rp g σ w} h9 h10 hr hw =>
        ev_op (ev_var h9) (ev_var h10) (rv_ixL (sq_of hr) (at_of (j := w) rfl (by rw [List.getElem?_map, List.getElem?_range hw]; rfl)))
      refine q_forR1 (n := (n : Int)) (ea_cons (ev_var rfl) ea_nil) (by omega) (fun i σ' H5 => (∃ vv vr, σ' = slM a l (some (.int first)) (some (.int (n : Int))) (some (.int bits)) vn (some (.ref S)) vv vr none none none none none) ∧ SeenSt H' S n i (baseR l n F) H5) (fun H5 e5 => ⟨⟨none, none, rfl⟩, s0.up e5⟩) (fun i σ' H5 hi pr => ?_) fun σ' H5 pr => ?_
      · obtain ⟨⟨vv, vr, rfl⟩, st⟩ := pr
        have hin : i < n := by omega
        have notS : ∀ {p : Addr} {Hx : Hp}, SeenSt H' S n i (baseR l n F) Hx → Hx p = none → p ≠ S := fun {p Hx} st hp z => by
          obtain ⟨rs, h1, _⟩ := st.rows
          rw [z, h1] at hp; cases hp
        refine q_asgL (el_rowR (fun w => V.bl (F i w)) (ea_cons (ev_var rfl) ea_nil) (by omega) (fun _ => rfl) fun w H6 e6 hw => ?_) fun rp H6 hp e6 hr => ?_
        · rw [hF]
          exact ev_op (ev_op (ev_op (ev_var rfl) (ev_op (ev_op (ev_var rfl) (ev_var rfl) (rv_I (.inr (by omega)))) (ev_var rfl) rv_I0) (rv_I (by show (0 : Int) ≤ (i : Int) * (n : Int) + (w : Int); have := Int.mul_nonneg (Int.natCast_nonneg i) (Int.natCast_nonneg n); omega))) ev_c rv_I0) ev_c (rv_eq rfl)
        have st6 := st.up e6
        have ne6 := notS st hp
        refine q_cut (M := RowM a l H' S n i (baseR l n F) first bits vn (s1 l i (F i))) (row_stage (b := up8 l) (g' := fun w => F i w && decide (i < w)) st6 hr ne6 (et_is (et_test (ev_inU (ev_var rfl) (eu_tup (ea_cons ev_c (ea_cons ev_c (ea_cons ev_c (ea_cons ev_c (ea_cons ev_c (ea_cons ev_c (ea_cons ev_c (ea_cons ev_c ea_nil)))))))) (by simp)) rfl rfl)) (inV_up8 l)) (fun _ H7 e7 => el_rowR _ (ea_cons (ev_var rfl) ea_nil) (by omega) (fun _ => rfl) fun w H8 e8 hw => ev_andV (rd rfl rfl ((e7.trans e8) _ _ hr) hw) fun _ => ev_is (ev_op (ev_var rfl) (ev_var rfl) rv_I0) (by rw [lt_cast])) rfl) ?_
        rintro _ H7 ⟨rp7, rfl, st7, hr7, ne7⟩
        refine q_cut (M := RowM a l H' S n i (baseR l n F) first bits vn (s2 l i (s1 l i (F i)))) (row_stage (b := decide (l = .LC ∨ l = .HT)) (g' := fun w => decide (i < w)) st7 hr7 ne7 (et_is (et_test (ev_inU (ev_var rfl) (eu_tup (ea2 ev_c ev_c) (by simp)) rfl rfl)) (inV_LH l)) (fun _ H8 e8 => el_rowR _ (ea_cons (ev_var rfl) ea_nil) (by omega) (fun _ => rfl) fun w H9 e9 hw => ev_is (ev_op (ev_var rfl) (ev_var rfl) rv_I0) (by rw [lt_cast])) (by unfold s2; simp only [decide_eq_true_eq])) ?_
        rintro _ H8 ⟨rp8, rfl, st8, hr8, ne8⟩
        refine q_cut (M := RowM a l H' S n i (baseR l n F) first bits vn (s3 l n i (s2 l i (s1 l i (F i))))) (row_stage (b := decide (l = .KC)) (g' := fun w => s2 l i (s1 l i (F i)) w || (decide (w = n - 1) && decide (i < w))) st8 hr8 ne8 (et_is (et_test (ev_inU (ev_var rfl) (eu_tup (ea_cons ev_c ea_nil) (by simp)) rfl rfl)) (inV_KC l)) (fun _ H9 e9 => el_rowR _ (ea_cons (ev_var rfl) ea_nil) (by omega) (fun _ => rfl) fun w H10 e10 hw =>
          ev_orV (rd rfl rfl ((e9.trans e10) _ _ hr8) hw) fun _ => ev_andV (ev_is (ev_op (ev_var rfl) (ev_op (ev_var rfl) ev_c rv_I0) (rv_eq rfl)) (by rw [show ((n : Int) - 1) = ((n - 1 : Nat) : Int) by omega, eq_cast])) fun _ => ev_is (ev_op (ev_var rfl) (ev_var rfl) rv_I0) (by rw [lt_cast])) (by unfold s3; simp only [decide_eq_true_eq])) ?_
        rintro _ H9 ⟨rp9, rfl, st9, hr9, ne9⟩
        refine q_cut (M := RowM a l H' S n i (baseR l n F) first bits vn (s4 l n i (s3 l n i (s2 l i (s1 l i (F i)))))) (row_stage (b := decide (l = .BD2)) (g' := fun w => s3 l n i (s2 l i (s1 l i (F i))) w && (decide (i < n / 2) && decide (n / 2 ≤ w))) st9 hr9 ne9 (et_is (et_test (ev_inU (ev_var rfl) (eu_tup (ea_cons ev_c ea_nil) (by simp)) rfl rfl)) (inV_BD l)) (fun _ H10 e10 => el_rowR _ (ea_cons (ev_var rfl) ea_nil) (by omega) (fun _ => rfl) fun w H11 e11 hw =>
          ev_andV (rd rfl rfl ((e10.trans e11) _ _ hr9) hw) fun _ => fun H12 e12 Q12 k12 => ⟨_, rfl, ev_div (ev_var rfl) ev_c (by decide) H12 (Ex.refl _) _ fun H13 e13 => ⟨_, _, rfl, rfl, _, rfl, by
            have eh : ((n : Int) / 2) = ((n / 2 : Nat) : Int) := by omega
            rw [eh, lt_cast]
            by_cases c : i < n / 2
            · rw [decide_eq_true c]
              refine iteT ⟨_, rfl, _, _, rfl, rfl, ?_⟩
              show Q12 (V.bl (decide (((n / 2 : Nat) : Int) ≤ (w : Int)))) H13
              rw [le_cast]
              have := k12 H13 e13
              rw [decide_eq_true c, Bool.true_and] at this
              exact this
            · rw [decide_eq_false c]
              refine iteF ?_
              have := k12 H13 e13
              rw [decide_eq_false c, Bool.false_and] at this
              exact this⟩⟩) (by unfold s4; simp only [decide_eq_true_eq])) ?_
        rintro _ H10 ⟨rp10, rfl, st10, hr10, ne10⟩
        refine q_cut (M := RowM a l H' S n i (baseR l n F) first bits vn (baseR l n F i)) (row_stage (b := decide (l = .Cl)) (g' := fun _ => false) st10 hr10 ne10 (et_is (et_test (ev_op (ev_var rfl) ev_c (rv_eq rfl))) (is_Cl l)) (fun _ H11 e11 => fun H12 e12 Q12 k12 => ⟨sz_of (by simp), fun y hy => ⟨_, rfl, y, (n : Int), [.bl false], rfl, rfl, upd_same, by omega, by omega, sz_of (by simp; omega), fun p hp => ?_⟩⟩) (by unfold baseR s5; simp only [decide_eq_true_eq])) ?_
        · have ey := Ex.new (o := .lst [.bl false]) hy
          have ep := Ex.new (o := .lst (List.replicate ((n : Int)).toNat [V.bl false]).flatten) hp
          refine k12 p _ (fresh_back ey hp) (ey.trans ep) ?_
          rw [upd_same]
          have : (List.replicate ((n : Int)).toNat [V.bl false]).flatten = rowL n fun _ => false := by
            rw [show ((n : Int)).toNat = n by omega, List.flatten_replicate_singleton]
            exact (List.eq_replicate_iff.mpr ⟨by simp, fun b hb => by obtain ⟨_, _, rfl⟩ := List.mem_map.mp hb; rfl⟩).symm
          rw [this]
        rintro _ H11 ⟨rp11, rfl, st11, hr11, ne11⟩
        obtain ⟨rs, h1, h2, _⟩ := st11.rows
        exact s_app (xs := rs.map V.ref) h1 (ev_var rfl) (ev_var rfl) (by rw [List.length_map]; omega) fun H12 e12 => ⟨⟨_, _, rfl⟩, (st11.up e12).put (e12 _ _ hr11) ne11 (e12 _ _ h1)⟩
      · obtain ⟨⟨vv, vr, rfl⟩, st⟩ := pr
        rw [show ((n : Int)).toNat = n by omega] at st
        have e15 := e5.trans st.ex
        refine q_cut (M := fun σ' H6 => ∃ (Sx : Addr) (vv : Option V), σ' = slM a l (some (.int first)) (some (.int (n : Int))) (some (.int bits)) vn (some (.ref Sx)) vv vr none none none none none ∧ Ex H H6 ∧ RowsV K H6 Sx n (baseS l n F)) ?_ ?_
        · refine s_when (b := decide (l = .HT) && decide (2 < n)) (et_and (et_is (et_test (ev_op (ev_var rfl) ev_c (rv_eq rfl))) (is_HT l)) fun _ => et_is (et_test (ev_op (ev_var rfl) ev_c rv_I0)) (by rw [show (2 : Int) = ((2 : Nat) : Int) from rfl, lt_cast])) (fun hb H6 e6 => ?_) (fun hb H6 e6 => ⟨S, vv, rfl, e15.trans e6, ?_⟩)
          · have hb' : l = .HT ∧ 2 < n := by simpa using hb
            have eb : baseS l n F = halves := if_pos hb'
            rw [eb]
            refine s_as ⟨_, rfl, (n : Int), rfl, by omega, by omega, fun D hD => ?_⟩
            have eD := Ex.new (o := .lst []) hD
            refine lc_range (lo := 0) (n := ((n : Int)).toNat) (fun i Hx => SeenSt H6 D n i halves Hx) ⟨eD, hD, [], upd_same, rfl, (fun z => nomatch z), fun v hv => absurd hv (Nat.not_lt_zero _)⟩ (fun i Hx hi st2 => ?_) fun Hx st2 => ?_
            · refine ⟨rfl, ?_⟩
              refine yes_go ?_
              have ez : (0 : Int) + (i : Int) = (i : Int) := Int.zero_add _
              rw [ez]
              refine el_rowR (fun w => V.bl (halves i w)) (ea_cons (ev_var rfl) ea_nil) (by omega) (fun _ => rfl) (fun w H8 e8 hw => ev_andV (ev_is (ev_op (ev_var rfl) (ev_var rfl) rv_I0) (by rw [lt_cast])) fun _ => ev_is (ev_op (ev_div (ev_var rfl) ev_c (by decide)) (ev_div (ev_var rfl) ev_c (by decide)) (rv_eq rfl)) (by rw [show ((i : Int) / 2) = ((i / 2 : Nat) : Int) by omega, show ((w : Int) / 2) = ((w / 2 : Nat) : Int) by omega, eq_cast])) Hx (Ex.refl _) _ fun p H8 hp e8 hpl => ?_
              obtain ⟨rs, h1, h2, _⟩ := st2.rows
              have hne : p ≠ D := fun z => by rw [z, h1] at hp; cases hp
              exact ⟨_, e8 _ _ h1, sz_lt (by rw [List.length_map]; omega), (st2.up e8).put hpl hne (e8 _ _ h1)⟩
            · rw [show ((n : Int)).toNat = n by omega] at st2
              exact ⟨D, _, rfl, (e15.trans e6).trans st2.ex, st2.rowsV⟩
          · have hb' : ¬ (l = .HT ∧ 2 < n) := by simpa using hb
            have eb : baseS l n F = baseR l n F := if_neg hb'
            rw [eb]
            exact (st.up e6).rowsV
        · rintro _ H6 ⟨Sx, vv, rfl, e6, hrows⟩
          refine q_as ?_
          refine ⟨_, rfl, _, rfl, Sx, l, n, baseS l n F, rfl, hrows, n4, fun P0 H7 hP e7 hcl => ?_⟩
          have e07 := e6.trans e7
          obtain ⟨Rc, hRc⟩ : ∃ Rc : Rel2, Rc = closedR l n (baseS l n F) := ⟨_, rfl⟩
          rw [← hRc] at hcl
          have rt : l.forced = true → ∀ u v w, u < n → v < n → w < n → Rc u v = true → Rc v w = true → Rc u w = true := fun hf u v w hu hv hw p1 p2 => by rw [hRc] at p1 p2 ⊢; exact closed_trans (forced_trans hf) hv p1 p2
          refine fun d hd => ?_
          have ed := Ex.new (o := .dK []) hd
          have v0 : ValSt l n Rc H7 d 0 (upd H7 d (.dK [])) := ⟨ed, hd, [], upd_same, Nat.le_refl _, fun x => .inl rfl⟩
          refine q_forR1 (n := 3) (ea_cons ev_c ea_nil) (by decide) (fun i σ' H8 => (∃ vk vname vmask vhere, σ' = slM a l (some (.int first)) (some (.int (n : Int))) (some (.int bits)) vn (some (.ref P0)) vv vr (some (.ref d)) vk vname vmask vhere) ∧ ValSt l n Rc H7 d i H8) (fun H8 e8 => ⟨⟨none, none, none, none, rfl⟩, v0.up e8⟩) (fun i σ' H8 hi pr => ?_) fun σ' H8 pr => ?_
          · obtain ⟨⟨vk, vname, vmask, vhere, rfl⟩, st8⟩ := pr
            obtain ⟨c, hc⟩ : ∃ c, atI ("pqr" : Str).cps.toList (i : Int) = some c := by
              rcases (show i = 0 ∨ i = 1 ∨ i = 2 by omega) with rfl | rfl | rfl
              · exact ⟨_, rfl⟩
              · exact ⟨_, rfl⟩
              · exact ⟨_, rfl⟩
            refine q_asg (ev_op ev_c (ev_var rfl) (rv_ixS (by decide) hc)) fun H9 e9 => ?_
            refine q_asg ev_c fun H10 e10 => ?_
            have st10 := (st8.up e9).up e10
            refine q_cut (M := fun σ' Hx => ∃ mask : Int, σ' = slM a l (some (.int first)) (some (.int (n : Int))) (some (.int bits)) vn (some (.ref P0)) vv vr (some (.ref d)) (some (.int (i : Int))) (some (.str ⟨#[c]⟩)) (some (.int mask)) vhere ∧ ValSt l n Rc H7 d i Hx) ?_ ?_
            · have ha10 := ex_l (e07.trans st10.ex) ha
              refine s_when (b := decide ((3 : Int) + (i : Int) < ((ms.map V.int).length : Int))) (et_test (ev_op (ev_lenL (ev_var rfl) ha10) (ev_op ev_c (ev_var rfl) rv_I0) rv_I0)) (fun hb H11 e11 => ?_) fun _ H11 e11 => ⟨0, rfl, st10.up e11⟩
              have hlt := of_decide_eq_true hb
              rw [List.length_map] at hlt
              have hj : 3 + i < ms.length := by omega
              have hp2 : (0 : Int) < 1 * 2 ^ ((n : Int)).toNat := by
                have : (0 : Int) < 2 ^ ((n : Int)).toNat := Int.pow_pos (by decide)
                omega
              exact s_asg (ev_mod (ev_int1 (ev_op (ev_var rfl) (ev_op ev_c (ev_var rfl) rv_I0) (rv_ixL (ex_l e11 ha10) (at_of (j := 3 + i) (v := .int ms[3 + i]) (by omega) (by rw [List.getElem?_map, List.getElem?_eq_getElem hj]; rfl))))) (ev_op ev_c (ev_var rfl) (rv_I ⟨by omega, by omega, by decide⟩)) hp2) fun H12 e12 => ⟨_, rfl, (st10.up e11).up e12⟩
            · rintro _ H11 ⟨mask, rfl, st11⟩
              obtain ⟨hm, hhm⟩ : ∃ hm : Nat → Bool, hm = fun (w : Nat) => decide (V.int (Builtin.bitAnd (mask / 2 ^ ((w : Int)).toNat) 1) = V.int 1) := ⟨_, rfl⟩
              refine q_asgL (el_lcR1 (n := (n : Int)) hm (fun w => .int (w : Int)) (ea_cons (ev_var rfl) ea_nil) (by omega) (fun _ => rfl) (fun w H12 e12 hw => ?_) (fun w H12 e12 hw _ => ev_var rfl)) fun h0 H12 hp0 e12 hh0 => ?_
              · rw [hhm]
                exact et_test (ev_op (ev_op (ev_op (ev_var rfl) (ev_var rfl) (rv_I (by omega))) ev_c rv_I0) ev_c (rv_eq rfl))
              rw [show ((n : Int)).toNat = n by omega] at hh0
              have st12 := st11.up e12
              refine q_cut (M := fun σ' Hx => ∃ (h1 : Addr) (ks : List Nat), σ' = slM a l (some (.int first)) (some (.int (n : Int))) (some (.int bits)) vn (some (.ref P0)) vv vr (some (.ref d)) (some (.int (i : Int))) (some (.str ⟨#[c]⟩)) (some (.int mask)) (some (.ref h1)) ∧ ValSt l n Rc H7 d i Hx ∧ Hx h1 = some (.lst (ks.map fun k : Nat => V.int (k : Int))) ∧ (l.forced = true → ∀ v w, v < n → w < n → v ∈ ks → Rc v w = true → w ∈ ks)) ?_ ?_
              · refine s_when (et_is (et_test (ev_inU (ev_var rfl) (eu_tup (ea_cons ev_c (ea_cons ev_c (ea_cons ev_c (ea_cons ev_c (ea_cons ev_c (ea_cons ev_c ea_nil)))))) (by simp)) rfl rfl)) (inV_inter l)) (fun hb H13 e13 => ?_) fun hb H13 e13 => ⟨h0, (List.range n).filter hm, rfl, st12.up e13, e13 _ _ hh0, fun hf => by rw [hb] at hf; cases hf⟩
                have hh13 := e13 _ _ hh0
                have st13 := st12.up e13
                have hcl13 := hcl.ex st13.ex
                refine s_asgL (el_lcR1 (n := (n : Int)) (fun w => ((List.range n).filter hm).any fun k => Rc k w) (fun w => .int (w : Int)) (ea_cons (ev_var rfl) ea_nil) (by omega) (fun _ => rfl) (fun w H14 e14 hw => ?_) (fun w H14 e14 hw _ => ev_var rfl)) fun h1 H14 hp1 e14 hh1 => ?_
                · have hw' : w < n := by omega
                  refine et_is (et_test (ev_opL ev_c (el_mapL (K := K) (fun x => match x with | .int k => V.bl (Rc k.toNat w) | _ => .non) (ev_var rfl) (sq_of (e14 _ _ hh13)) ?_ (fun _ => rfl) fun x H15 e15 hx => ?_) fun p H15 hp e15 => rv_isL (sq_of hp) rfl ?_)) ?_
                  · have := given_len n hm (fun w => V.int (w : Int)); omega
                  · obtain ⟨k, hk, rfl⟩ := List.mem_map.mp hx
                    have hkn : k < n := List.mem_range.mp (List.mem_filter.mp hk).1
                    exact ev_is (ev_seen (ev_var rfl) (hcl13.ex (e14.trans e15)) (ev_var rfl) (ev_var rfl) hkn hw') (by simp)
                  · refine List.all_eq_true.mpr fun z hz => ?_
                    obtain ⟨x, hx, rfl⟩ := List.mem_map.mp hz
                    obtain ⟨k, hk, rfl⟩ := List.mem_map.mp hx
                    rfl
                  · have : (given n hm fun w => V.int (w : Int)).map (fun x => match x with | .int k => V.bl (Rc k.toNat w) | _ => .non) = ((List.range n).filter hm).map fun k => V.bl (Rc k w) := by
                      unfold given
                      rw [List.map_map]
                      refine List.map_congr_left fun k _ => ?_
                      simp
                    rw [this]
                    exact inV_any Rc w _
                · rw [show ((n : Int)).toNat = n by omega] at hh1
                  refine ⟨h1, (List.range n).filter fun w => ((List.range n).filter hm).any fun k => Rc k w, rfl, st13.up e14, hh1, fun hf v w hv hw hm1 hR => ?_⟩
                  obtain ⟨_, hany⟩ := List.mem_filter.mp hm1
                  obtain ⟨u, hu, huv⟩ := List.any_eq_true.mp hany
                  have hun : u < n := List.mem_range.mp (List.mem_filter.mp hu).1
                  exact List.mem_filter.mpr ⟨List.mem_range.mpr hw, List.any_eq_true.mpr ⟨u, hu, rt hf u v w hun hv hw huv hR⟩⟩
              · rintro _ H13 ⟨h1, ks, rfl, st13, hh1, hup⟩
                obtain ⟨kvs, hk1, hk2, _⟩ := st13.kvs
                exact ⟨_, rfl, _, rfl, _, rfl, d, _, rfl, DPut.k (k := .inr ⟨#[c]⟩) hk1 (sz_lt (by omega)), ⟨_, _, _, _, rfl⟩, st13.put hk1 hh1 hup⟩
          · obtain ⟨⟨vk, vname, vmask, vhere, rfl⟩, st8⟩ := pr
            refine ⟨_, rfl, _, rfl, sz_of (by simp), fun t ht' => ?_⟩
            have et' := Ex.new (o := .tup [.ref P0, .ref d]) ht'
            obtain ⟨val, hv, hup⟩ := (st8.up et').val (K := K)
            refine q _ ⟨n, Rc, val⟩ _ ((e07.trans st8.ex).trans et') ⟨⟨t, P0, d, rfl, st_of upd_same, hcl.ex (st8.ex.trans et'), hv⟩, n4⟩ ?_
            rw [hRc]
            exact good_of n1 (base_of l n F n1) fun hf x v w hvn hwn hx hR => hup hf x v w hvn hwn hx (by rw [hRc]; exact hR)
end
end K33

set_option Elab.async false
set_option linter.all false
set_option maxRecDepth 100000
set_option maxHeartbeats 4000000
namespace K33
open PySem PySem.Spec PyProof.Rows L2 Evl
def spLaw (K : PySem.W.Frag) : Sp := fun vs H Q _ => ∃ (a : Addr) (ns : List Int), vs = [.ref a] ∧ SqL K H a (ns.map V.int) ∧ ns.length ≤ 63 ∧ ∀ H', Q (.bl true) H'
abbrev nsW : List Str := ["_law_script", "_law_digit", "_law_plain", "_law_logic_here", "_law_model_here", "_law_pool", "_law_goal_here", "_law_rules", "_law_rule", "_law_listed", "_law_part", "_law_m", "_law_premises", "_law_refuted_here", "_law_answers", "_law_premise", "_law_w"]
theorem sc_law : FnScope nsW ["_law_script"] (defScope (top 57)) := ⟨rfl, rfl, rfl, by decide +kernel, rfl, by decide +kernel, by decide +kernel⟩
abbrev rules11 : List Str := ["axiom", "falsum", "cut", "and_left", "and_right", "or_left", "or_right", "implies_left", "implies_right", "reflexive", "modal"]
abbrev rules7 : List Str := ["serial", "weak_middle", "linear_right", "depth_right", "two_right", "modal", "implies_right"]
theorem rules_in : ∀ r ∈ rules11 ++ rules7, r ∈ ruleTab.map (·.1) := by decide +kernel
theorem inter_of : ∀ v ∈ ([.str "Int", .str "KC", .str "LC", .str "BD2", .str "HT", .str "Cl"] : List V), ∃ l, v = .str (nm l) := by
  intro v hv
  simp only [List.mem_cons, List.not_mem_nil, or_false] at hv
  rcases hv with rfl | rfl | rfl | rfl | rfl | rfl
  · exact ⟨.Int, rfl⟩
  · exact ⟨.KC, rfl⟩
  · exact ⟨.LC, rfl⟩
  · exact ⟨.BD2, rfl⟩
  · exact ⟨.HT, rfl⟩
  · exact ⟨.Cl, rfl⟩
section
variable {K : PySem.W.Frag} {H H' : Hp}
theorem Goals.at_ : ∀ {xs : List V} {ps : List Seqt} {i : Nat} {x : V}, Goals K H xs ps → xs[i]? = some x → ∃ s, ps[i]? = some s ∧ GoalV K H x s
  | _, _, 0, x, .cons a _, h => ⟨_, rfl, by have := Option.some.inj h; exact this ▸ a⟩
  | _, _, i + 1, x, .cons _ b, h => b.at_ (i := i) h
  | _, _, i, x, .nil, h => by simp at h
theorem Goals.len : ∀ {xs : List V} {ps : List Seqt}, Goals K H xs ps → xs.length = ps.length
  | _, _, .nil => rfl
  | _, _, .cons _ b => by rw [List.length_cons, List.length_cons, b.len]
end
section
variable {P : Program} {w : World} {K : PySem.W.Frag} {mg : Str → Option Value} {base : Heap} {gN : Addr}
/-- the law's body -/
theorem law_body (T : TX w K mg) (gP : mg "NoFit" = some (.ref gN)) (mP : PySem.W.exmOne K (.ref gN) (.ref gN) = some true) (cR : Cal P w K mg base "require" 1 (rNoFit gN))
    (f : Addr) (cdv : Value) (A : Around) (outer : List Env) (s : Shared) (H : Hp) (vs : List V) (Q : VK) (E : XK) (hr : Room 21 (A.deeper (envOfC "law" (defScope (top 57)) s.heap.objs.size f cdv))) (h : spLaw K vs H Q E) :
    ∃ t, PSs (cxOf (L2.CX P w) P w K mg base nsW "law" (defScope (top 57)) f cdv A outer s H E) (defBody (top 57)) t ∧ t { nx := fun _ H' => Q .non H', rt := Q } (start nsW vs) H := by
  have free := T.free
  have fr := free "range" (by decide +kernel)
  have fi := free "int" (by decide +kernel)
  have fl := free "len" (by decide +kernel)
  have fa_ := free "abs" (by decide +kernel)
  have fli := free "list" (by decide +kernel)
  refine ⟨_, pss_cons (ps_set (i := 1) sc_law.nd rfl (Or.inl rfl) (pe_callB call_abs rfl fa_ boot_abs (pa_cons (pe_f0 ((cal_cell T).mono (by decide)) hr rfl (pa_cons (pv 0) (pa_cons pe_int pa_nil))) pa_nil)))
    (pss_cons (ps_set (i := 2) sc_law.nd rfl (Or.inl rfl) (pe_cmpR op_eq (pe_op op_mod (pe_callTy call_int1 rfl fi boot_int (pa_cons (pv 1) pa_nil)) pe_int) pe_int (nomark _)))
    (pss_cons (ps_set (i := 3) sc_law.nd rfl (Or.inr rfl) (pe_f0 ((cal_log T).mono (by decide)) hr rfl (pa_cons (pe_callB call_abs rfl fa_ boot_abs (pa_cons (pe_f0 ((cal_cell T).mono (by decide)) hr rfl (pa_cons (pv 0) (pa_cons pe_int pa_nil))) pa_nil)) (pa_cons (pv 2) pa_nil))))
    (pss_cut (ps_if (PW.pt (pw_and (pt_val (pv 2)) (pw_and1 (pt_cmpR op_eq (pe_op op_mod (pe_op op_fdiv (pv 1) pe_int) pe_int) pe_int (nomark _))))) (pss_one (ps_set (i := 3) sc_law.nd rfl (Or.inr rfl)
        (pe_ix ix_list (pe_lst (pa_cons pe_str (pa_cons pe_str (pa_cons pe_str (pa_cons pe_str (pa_cons pe_str (pa_cons pe_str pa_nil))))))) (pe_op op_mod (pe_op op_fdiv (pv 1) pe_int) pe_int) (fun _ _ => rfl)))) pss_nil)
    (pss_cons (ps_set (i := 4) sc_law.nd rfl (Or.inr rfl) (pe_f0 ((cal_model T).mono (by decide)) hr rfl (pa_cons (pe_f0 ((cal_num T).mono (by decide)) hr rfl (pa_cons (pv 0) (pa_cons pe_int (pa_cons pe_int pa_nil)))) (pa_cons (pv 3) (pa_cons pe_int pa_nil)))))
    (pss_cons (ps_set (i := 5) sc_law.nd rfl (Or.inl rfl) (pe_f0 ((cal_num T).mono (by decide)) hr rfl (pa_cons (pv 0) (pa_cons pe_int (pa_cons pe_int pa_nil)))))
    (pss_cons (ps_set (i := 6) sc_law.nd rfl (Or.inr rfl) (pe_f0 ((cal_goal T).mono (by decide)) hr rfl (pa_cons (pv 5) (pa_cons pe_int (pa_cons (pv 2) pa_nil)))))
    (pss_cons (ps_set (i := 7) sc_law.nd rfl (Or.inl rfl) (pe_lst (pa_cons pe_str (pa_cons pe_str (pa_cons pe_str (pa_cons pe_str (pa_cons pe_str (pa_cons pe_str (pa_cons pe_str (pa_cons pe_str (pa_cons pe_str (pa_cons pe_str (pa_cons pe_str pa_nil)))))))))))))
    (pss_cons (ps_set (i := 7) sc_law.nd rfl (Or.inl rfl) (pe_op op_cat (pv 7) (pe_lst (pa_cons pe_str (pa_cons pe_str (pa_cons pe_str (pa_cons pe_str (pa_cons pe_str (pa_cons pe_str (pa_cons pe_str pa_nil))))))))))
    (pss_cons (ps_set (i := 8) sc_law.nd rfl (Or.inl rfl) (pe_ix ix_list (pv 7) (pe_op op_mod (pe_op op_fdiv (pv 1) pe_int) (pe_callB call_len_seq rfl fl boot_len (pa_cons (pv 7) pa_nil))) (fun _ _ => rfl)))
    (pss_cons (ps_set (i := 9) sc_law.nd rfl (Or.inl rfl) (pe_op op_cat (pe_op op_cat (pe_lst (pa_cons pe_non pa_nil)) (pe_callTy call_list_of rfl fli boot_list (pa_cons (pe_ix ix_tup (pv 6) pe_int (fun _ _ => rfl)) pa_nil))) (pe_callTy call_list_of rfl fli boot_list (pa_cons (pe_ix ix_tup (pv 6) pe_int (fun _ _ => rfl)) pa_nil))))
    (pss_cons (ps_set (i := 10) sc_law.nd rfl (Or.inl rfl) (pe_tup (pa_cons pe_str (pa_cons (pe_f0 ((cal_fm T 2).mono (by decide)) hr rfl (pa_cons (pv 5) (pa_cons pe_int (pa_cons pe_bl pa_nil)))) (pa_cons (pe_tup (pa_cons pe_str pa_nil)) pa_nil)))))
    (pss_cons (ps_expr (pe_bm PySem.F.plainAttrs_list PySem.F.slot_list_append PySem.F.type_list_append mt_append (pv 9) (pa_cons (pe_tup (pa_cons pe_str (pa_cons (pv 10) (pa_cons (pe_tup (pa_cons pe_str (pa_cons (pv 10) (pa_cons (pe_tup (pa_cons pe_str pa_nil)) pa_nil)))) pa_nil)))) pa_nil)))
    (pss_cons (ps_for (passes_of rfl) rfl (pi_list (pv 9)) (pg_name (i := 11) sc_law.nd rfl (Or.inl rfl))
      (pss_cut (ps_try_only (c := .ref gN) (tb := fun W => tAsg (tCal (spPrem K gN) (WE W) (tCons (tVar 3) (tCons (tVar 8) (tCons (tVar 6) (tCons (tVar 11) tNil))))) (gName 12)) (ts := fun _ _ _ => tCont) (Wout := fun _ _ _ _ => False) rfl rfl ⟨rfl, by decide, Or.inl gP⟩ takes0
          (fun W pn xe tk _ => pss_one (ps_set (i := 12) sc_law.nd rfl (Or.inl rfl) (pe_f (E := WE W) ((cal_prem T cR).mono (by decide)) hr rfl (fun σ => passAt tk σ) (pa_cons (pv 3) (pa_cons (pv 8) (pa_cons (pv 6) (pa_cons (pv 11) pa_nil)))))))
          (fun a oe cls d pn hz hf => pss_one ps_continue))
      (pss_cons (ps_setLc (i := 13) (own := [("_law_w", 16)]) (g := gName 16) (tt := tB (tCal (spRef K) (fun _ => E0) (tCons (tVar 3) (tCons (tVar 4) (tCons (tVar 6) (tCons (tVar 16) tNil)))))) rfl sc_law.nd rfl rfl (sw_true rfl rfl rfl (by decide +kernel)) (pi_range1 rfl fr (pa_cons (pe_callB call_len_seq rfl fl boot_len (pa_cons (pe_ix ix_tup (pv 4) pe_int (fun _ _ => rfl)) pa_nil)) pa_nil)) (blkOk_by (N := nsW) (sc := defScope (top 57)) (by decide +kernel))
          (fun _ _ _ _ _ => pg_name (i := 16) sc_law.nd rfl (Or.inl rfl)) (fun _ _ _ _ _ => pts_one (pt_val (pe_f0 ((cal_ref T).mono (by decide)) hr rfl (pa_cons (pv 3) (pa_cons (pv 4) (pa_cons (pv 6) (pa_cons (pv 16) pa_nil))))))) (fun _ _ _ _ _ => pv 16))
      (pss_cons (ps_set (i := 14) sc_law.nd rfl (Or.inl rfl) (pe_lst pa_nil))
      (pss_cons (ps_for (passes_of rfl) rfl (pi_list (pv 12)) (pg_name (i := 15) sc_law.nd rfl (Or.inr rfl))
        (pss_one (ps_set (i := 14) sc_law.nd rfl (Or.inl rfl) (pe_op op_cat (pv 14) (pe_lc (own := [("_law_w", 16)]) (g := gName 16) (tt := tB (tCal (spRef K) (fun _ => E0) (tCons (tVar 3) (tCons (tVar 4) (tCons (tVar 15) (tCons (tVar 16) tNil)))))) rfl sc_law.nd (pi_range1 rfl fr (pa_cons (pe_callB call_len_seq rfl fl boot_len (pa_cons (pe_ix ix_tup (pv 4) pe_int (fun _ _ => rfl)) pa_nil)) pa_nil)) (blkOk_by (N := nsW) (sc := defScope (top 57)) (by decide +kernel))
          (fun _ _ _ _ _ => pg_name (i := 16) sc_law.nd rfl (Or.inl rfl)) (fun _ _ _ _ _ => pts_one (pt_val (pe_f0 ((cal_ref T).mono (by decide)) hr rfl (pa_cons (pv 3) (pa_cons (pv 4) (pa_cons (pv 15) (pa_cons (pv 16) pa_nil))))))) (fun _ _ _ _ _ => pv 16))))))
      (pss_one (ps_if (PW.pt (pw_and (pt_cmpR (op_neD (hu64 hr)) (pv 13) (pe_lst pa_nil) (nomark _)) (pw_and1 (pt_cmpR (op_eqD (hu64 hr)) (pv 14) (pe_lst pa_nil) (nomark _))))) (pss_one (ps_ret pe_bl)) pss_nil)))))))
    (pss_one (ps_ret pe_bl))))))))))))))), ?_⟩
  obtain ⟨a, ns, rfl, hS, ln, q⟩ := h
  refine q_as ?_
  refine ⟨_, rfl, a, ns, 0, rfl, hS, by decide, by decide, by omega, fun i1 H1 e1 => ⟨i1, rfl, ?_⟩⟩
  obtain ⟨dg, hdg⟩ : ∃ dg : Int, dg = if i1 < 0 then -i1 else i1 := ⟨_, rfl⟩
  rw [← hdg]
  refine q_asg (ev_op (ev_mod (ev_int1 (ev_var rfl)) ev_c (by decide)) ev_c (rv_eq rfl)) fun H2 e2 => ?_
  obtain ⟨pl, hpl⟩ : ∃ pl : Bool, pl = decide (V.int (dg % 2) = V.int 0) := ⟨_, rfl⟩
  rw [← hpl]
  refine q_as ?_
  have e12 := e1.trans e2
  refine ⟨_, rfl, a, ns, 1, rfl, ex_l e12 hS, by decide, by decide, by omega, fun i2 H3 e3 => ⟨i2, rfl, _, rfl, _, pl, rfl, fun l0 H4 e4 => ?_⟩⟩
  have e14 := (e12.trans e3).trans e4
  refine q_cut (M := fun σ' H' => ∃ l : Lg, σ' = [some (.ref a), some (.int dg), some (.bl pl), some (.str (nm l)), none, none, none, none, none, none, none, none, none, none, none, none, none] ∧ Ex H H') ?_ ?_
  · refine s_when (b := pl && decide (V.int (dg / 2 % 2) = V.int 0)) (et_and (et_val (ev_var rfl)) fun _ => et_test (ev_op (ev_mod (ev_div (ev_var rfl) ev_c (by decide)) ev_c (by decide)) ev_c (rv_eq rfl))) (fun _ H5 e5 => ?_) fun _ H5 e5 => ⟨l0, rfl, e14.trans e5⟩
    obtain ⟨v, hv, ha⟩ := atI_logic [.str "Int", .str "KC", .str "LC", .str "BD2", .str "HT", .str "Cl"] (dg / 4 % 6) (Int.emod_nonneg _ (by decide)) (by have := Int.emod_lt_of_pos (dg / 4) (show (0 : Int) < 6 by decide); show dg / 4 % 6 < 6; omega)
    obtain ⟨l, rfl⟩ := inter_of v hv
    exact s_asg (ev_opL1 (el_lst (ea_cons ev_c (ea_cons ev_c (ea_cons ev_c (ea_cons ev_c (ea_cons ev_c (ea_cons ev_c ea_nil)))))) (by simp)) (fun H6 e6 => ev_mod (ev_div (ev_var rfl) ev_c (by decide)) ev_c (by decide)) fun p H6 hp e6 => rv_ixL (sq_of hp) ha) fun H6 e6 => ⟨l, rfl, (e14.trans e5).trans e6⟩
  · rintro _ H5 ⟨l, rfl, e5⟩
    refine q_as ?_
    refine ⟨_, rfl, a, ns, 2, 6, rfl, ex_l e5 hS, by omega, by decide, by decide, by decide, by decide, fun D6 H6 ms6 hD6 e6 hms6 low6 len6 => ?_⟩
    refine ⟨_, rfl, D6, l, ms6, rfl, sq_of hms6, low6, by omega, fun mv M H7 e7 hM G => ?_⟩
    have e57 := (e5.trans e6).trans e7
    refine q_as ?_
    refine ⟨_, rfl, a, ns, 3, 40, rfl, ex_l e57 hS, by omega, by decide, by decide, by decide, by decide, fun p H8 ms8 hp8 e8 hms8 low8 len8 => ?_⟩
    refine q_as ?_
    refine ⟨_, rfl, _, rfl, p, pl, rfl, ⟨ms8, hms8, low8⟩, fun gv L R H9 eb9 hp9 hg9 lL lR bL bR => ?_⟩
    have e79 : Ex H7 H9 := ((ExB.of e8).trans eb9).ex hp8
    have hM9 := hM.ex e79
    -- the rules
    refine q_asgL (el_lst (vs := rules11.map V.str) (ea_cons ev_c (ea_cons ev_c (ea_cons ev_c (ea_cons ev_c (ea_cons ev_c (ea_cons ev_c (ea_cons ev_c (ea_cons ev_c (ea_cons ev_c (ea_cons ev_c (ea_cons ev_c ea_nil))))))))))) (by simp)) fun r1 H10 hr1 e10 hr10 => ?_
    refine q_as ?_
    refine ⟨_, rfl, el_lst (vs := rules7.map V.str) (ea_cons ev_c (ea_cons ev_c (ea_cons ev_c (ea_cons ev_c (ea_cons ev_c (ea_cons ev_c (ea_cons ev_c ea_nil))))))) (by simp) H10 (Ex.refl _) _ fun r2 H11 hr2 e11 hr11 => ⟨r1, r2, rules11.map V.str, rules7.map V.str, rfl, rfl, e11 _ _ hr10, hr11, sz_of (by decide), fun r3 hr3 => ?_⟩⟩
    have e12' := Ex.new (o := .lst (rules11.map V.str ++ rules7.map V.str)) hr3
    obtain ⟨rv, hrv, har⟩ := atI_logic (rules11.map V.str ++ rules7.map V.str) (dg / 24 % 18) (Int.emod_nonneg _ (by decide)) (by have := Int.emod_lt_of_pos (dg / 24) (show (0 : Int) < 18 by decide); show dg / 24 % 18 < 18; omega)
    obtain ⟨rl, hrl, rfl⟩ : ∃ rl, rl ∈ ruleTab.map (·.1) ∧ rv = .str rl := by
      rw [← List.map_append] at hrv
      obtain ⟨x, hx, ex⟩ := List.mem_map.mp hrv
      exact ⟨x, rules_in x hx, ex.symm⟩
    refine q_asg (v := .str rl) (ev_op (ev_var rfl) (ev_mod (ev_div (ev_var rfl) ev_c (by decide)) (ev_lenL (ev_var rfl) (sq_of upd_same)) (by decide)) (rv_ixL (sq_of upd_same) har)) fun H13 e13 => ?_
    have e913 := ((e10.trans e11).trans e12').trans e13
    obtain ⟨ag, uL, uR, rfl, sg, ⟨aL, rfl, sL, fL⟩, ⟨aR, rfl, sR, fR⟩⟩ := hg9.ex e913
    -- listed
    refine q_as ?_
    refine ⟨sz_of (by simp), fun y1 hy1 => ?_⟩
    have ey1 := Ex.new (o := .lst [.non]) hy1
    refine ev_ixT (k := 0) rfl (ex_t ey1 sg) rfl _ (Ex.refl _) _ fun H14 e14' => ⟨aL, refs L, rfl, .inr (ex_t (ey1.trans e14') sL), fun y2 hy2 => ?_⟩
    have ey2 := Ex.new (o := .lst (refs L)) hy2
    refine ⟨y1, y2, [.non], refs L, rfl, rfl, ey2 _ _ (e14' _ _ upd_same), upd_same, sz_of (by simp only [refs, List.length_map, List.length_cons, List.length_nil]; omega), fun y3 hy3 => ?_⟩
    have ey3 := Ex.new (o := .lst ([V.non] ++ refs L)) hy3
    have eA := ((ey1.trans e14').trans ey2).trans ey3
    refine ev_ixT (k := 1) rfl (ex_t eA sg) rfl _ (Ex.refl _) _ fun H15 e15 => ⟨aR, refs R, rfl, .inr (ex_t (eA.trans e15) sR), fun y4 hy4 => ?_⟩
    have ey4 := Ex.new (o := .lst (refs R)) hy4
    refine ⟨y3, y4, [.non] ++ refs L, refs R, rfl, rfl, ey4 _ _ (e15 _ _ upd_same), upd_same, sz_of (by simp only [refs, List.length_map, List.length_append, List.length_cons, List.length_nil]; omega), fun yl hyl => ?_⟩
    have eyl := Ex.new (o := .lst ([V.non] ++ refs L ++ refs R)) hyl
    have eB := ((eA.trans e15).trans ey4).trans eyl
    have e9B := e913.trans eB
    -- part
    refine q_as ?_
    have hpB := hp9.ex e9B
    refine ⟨_, rfl, p, 1, true, rfl, by decide, by decide, hpB, fun vp fp H16 eb16 hp16 hfp hhp => ⟨sz_of (by simp), fun z1 hz1 => ⟨sz_of (by simp), fun z2 hz2 => ?_⟩⟩⟩
    have ez1 := Ex.new (o := .tup [.str "falsum"]) hz1
    have ez2 := Ex.new (o := .tup [.str "implies", vp, .ref z1]) hz2
    have pne : p ≠ yl := fun e => by obtain ⟨m, hm, _⟩ := hp9.ex (((e913.trans eA).trans e15).trans ey4); rw [e, hyl] at hm; cases hm
    have hyl16 := eb16 _ _ (Ne.symm pne) (upd_same (H := _) (a := yl) (o := .lst ([V.non] ++ refs L ++ refs R)))
    have et16 : Et K _ H16 := hpB.et eb16
    have hpart : FmH K (upd (upd H16 z1 (.tup [.str "falsum"])) z2 (.tup [.str "implies", vp, .ref z1])) (.imp fp .fls) (.ref z2) := ⟨z2, vp, .ref z1, rfl, st_of upd_same, hfp.ex (ez1.trans ez2), z1, rfl, st_of (ez2 _ _ upd_same)⟩
    -- listed.append
    refine ⟨_, rfl, .inl ⟨rfl, _, SqL.of (ez2 _ _ (ez1 _ _ hyl16))⟩, ?_⟩
    refine ⟨_, rfl, _, rfl, sz_of (by simp), fun z3 hz3 => ⟨sz_of (by simp), fun z4 hz4 => ⟨sz_of (by simp), fun z5 hz5 => ?_⟩⟩⟩
    have ez3 := Ex.new (o := .tup [.str "falsum"]) hz3
    have ez4 := Ex.new (o := .tup [.str "implies", .ref z2, .ref z3]) hz4
    have ez5 := Ex.new (o := .tup [.str "or", .ref z2, .ref z4]) hz5
    have e35 := (ez3.trans ez4).trans ez5
    have hor := (show FmH K _ (.or (.imp fp .fls) (.imp (.imp fp .fls) .fls)) (.ref z5) from ⟨z5, .ref z2, .ref z4, rfl, st_of upd_same, hpart.ex e35, z4, .ref z2, .ref z3, rfl, st_of (ez5 _ _ upd_same), hpart.ex e35, z3, rfl, st_of (ez5 _ _ (ez4 _ _ upd_same))⟩)
    have hylE := (ez1.trans ez2).trans e35 _ _ hyl16
    refine ⟨yl, _, .ref z5, rfl, rfl, hylE, sz_lt (by simp only [refs, List.length_map, List.length_append, List.length_cons, List.length_nil]; omega), ?_⟩
    have etL := et_lst (K := K) (o := .lst ([V.non] ++ refs L ++ refs R ++ [V.ref z5])) hylE
    -- the heap ahead of the loop
    have e7B : Ex H7 (upd _ yl (.lst ([V.non] ++ refs L ++ refs R))) := e79.trans e9B
    have hyl7 : H7 yl = none := fresh_back (e79.trans (((e913.trans eA).trans e15).trans ey4)) hyl
    have e7F : Ex H7 _ := Ex.mut (o := .lst ([V.non] ++ refs L ++ refs R ++ [V.ref z5])) (((((ExB.of e8).trans (eb9.trans (ExB.of e9B))).trans eb16).trans (ExB.of ((ez1.trans ez2).trans e35))).ex hp8) hyl7
    have etF := (et16.trans (Et.of ((ez1.trans ez2).trans e35))).trans etL
    have hMF := hM.ex e7F
    have hGF : GoalV K _ (.ref ag) (L, R) := (GoalV.ex eB ⟨ag, .ref aL, .ref aR, rfl, sg, ⟨aL, rfl, sL, fL⟩, ⟨aR, rfl, sR, fR⟩⟩ : GoalV K _ (.ref ag) (L, R)).et etF
    have horF := hor.et etL
    have items : ∀ x ∈ [V.non] ++ refs L ++ refs R ++ [V.ref z5], ∃ m, OptF K _ x m ∧ ∀ f, m = some f → ht f ≤ 5 := fun x hx => by
      rcases List.mem_append.mp hx with hx | hx
      · rcases List.mem_append.mp hx with hx | hx
        · rcases List.mem_append.mp hx with hx | hx
          · rw [List.mem_singleton.mp hx]; exact ⟨none, rfl, fun f z => nomatch z⟩
          · obtain ⟨pr, hpr, rfl⟩ := List.mem_map.mp hx
            exact ⟨some pr.2, ((fL pr hpr).ex eB).et etF, fun f z => by injection z with z; rw [← z]; have := bL pr hpr; omega⟩
        · obtain ⟨pr, hpr, rfl⟩ := List.mem_map.mp hx
          exact ⟨some pr.2, ((fR pr hpr).ex eB).et etF, fun f z => by injection z with z; rw [← z]; have := bR pr hpr; omega⟩
      · rw [List.mem_singleton.mp hx]
        refine ⟨some (.or (.imp fp .fls) (.imp (.imp fp .fls) .fls)), horF, fun f z => ?_⟩
        injection z with z
        rw [← z]
        simp only [ht]
        omega
    have n4 := hM.few
    have hMF' := hMF
    obtain ⟨aM, sM, dM, rfl, tM, rM, _⟩ := hMF'.ex_
    refine q_forLn (K := K) (a := yl) (xs := [V.non] ++ refs L ++ refs R ++ [V.ref z5]) (ev_var rfl) (sq_of upd_same)
      (fun i σ' H' => (∃ vm vpr vre van vpe, σ' = [some (.ref a), some (.int dg), some (.bl pl), some (.str (nm l)), some (.ref aM), some (.ref p), some (.ref ag), some (.ref r3), some (.str rl), some (.ref yl), some (.ref z2), vm, vpr, vre, van, vpe, none]) ∧ Ex _ H') (fun H' e' => ⟨⟨_, _, _, _, _, rfl⟩, e'⟩) (fun i σ' H' hi pr => sq_of (pr.2 _ _ upd_same)) (fun i x σ' H' hi pr => ?_) fun σ' H' pr => ?_
    · obtain ⟨⟨vm, vpr, vre, van, vpe, rfl⟩, eF⟩ := pr
      obtain ⟨m, hm, hm5⟩ := items x (List.mem_of_getElem? hi)
      refine q_cut (M := fun σ' H'' => ∃ (pp : Addr) (xs : List V) (ps : List Seqt), σ' = [some (.ref a), some (.int dg), some (.bl pl), some (.str (nm l)), some (.ref aM), some (.ref p), some (.ref ag), some (.ref r3), some (.str rl), some (.ref yl), some (.ref z2), some x, some (.ref pp), vre, van, vpe, none] ∧ Ex H' H'' ∧ SqL K H'' pp xs ∧ Goals K H'' xs ps ∧
        Snd l (fms L) (fms R) (ps.map sqf) ∧ (∀ s ∈ ps, (∀ z ∈ s.1, ht z.2 ≤ 8) ∧ ∀ z ∈ s.2, ht z.2 ≤ 8) ∧ ps.length ≤ 8) ?_ ?_
      · refine ⟨_, rfl, _, rfl, _, rfl, _, rfl, l, rl, .ref ag, x, L, R, m, rfl, hrl, hGF.ex eF, hm.ex eF, lL, lR, bL, bR, hm5, ⟨fun H'' e'' => ⟨true, mP, fun _ a0 _ => ⟨⟨_, _, _, _, _, rfl⟩, eF.trans e''⟩, fun z => nomatch z⟩, fun v H'' ps e'' hgs hsnd hb8 hl8 => ?_⟩⟩
        obtain ⟨pp, xs, rfl, hsq, hgl⟩ := hgs
        exact ⟨pp, xs, ps, rfl, e'', hsq, hgl, hsnd, hb8, hl8⟩
      · rintro _ H'' ⟨pp, xs, ps, rfl, e'', hsq, hgl, hsnd, hb8, hl8⟩
        have eG := eF.trans e''
        -- refuted at w
        have call_ : ∀ {σ : L2.St} {Hx : Hp} {E : L2.St → XK} {gv : V} {s : Seqt} {k : Nat} {j : Nat}, Ex H'' Hx → σ[3]? = some (some (.str (nm l))) → σ[4]? = some (some (.ref aM)) → σ[j]? = some (some gv) → σ[16]? = some (some (.int (k : Int))) → GoalV K H'' gv s → (∀ z ∈ s.1, ht z.2 ≤ 8) → (∀ z ∈ s.2, ht z.2 ≤ 8) → k < M.n →
            Ev (tCal (spRef K) E (tCons (tVar 3) (tCons (tVar 4) (tCons (tVar j) (tCons (tVar 16) tNil))))) σ Hx (.bl (refB l M (fms s.1) (fms s.2) k)) := fun {σ Hx E gv s k j} ex h3 h4 hj h16 hgv b1 b2 hk Hy ey Q2 k2 =>
          ea_cons (ev_var h3) (ea_cons (ev_var h4) (ea_cons (ev_var hj) (ea_cons (ev_var h16) ea_nil))) Hy ey _ fun Hz ez => ⟨l, .ref aM, gv, k, M, s.1, s.2, rfl, hMF.ex (((eG.trans ex).trans ey).trans ez), hgv.ex ((ex.trans ey).trans ez), b1, b2, hk, fun Hw ew => k2 Hw (ez.trans ew)⟩
        have rngn : ∀ {σ : L2.St} {Hx : Hp}, Ex H'' Hx → σ[4]? = some (some (.ref aM)) → EvA (tCons (tCB (fun xs H Q => ∃ p ys, xs = [.ref p] ∧ (SqL K H p ys ∨ SqT K H p ys) ∧ Q (.int ys.length) H) (tCons (tOp (rIxT K) (tVar 4) (tC (.int 0))) tNil)) tNil) σ Hx [.int (M.n : Int)] := fun {σ Hx} ex h4 =>
          ea_cons (ev_lenS (ev_ixT (k := 0) h4 (ex_t (eG.trans ex) tM) rfl) (rM.ex (eG.trans ex))) ea_nil
        refine q_asgL (el_lcR1 (n := (M.n : Int)) (fun k => refB l M (fms L) (fms R) k) (fun k => .int (k : Int)) (rngn (Ex.refl _) rfl) (by omega) (fun _ => rfl) (fun k Hx ex hk => et_val (call_ ex rfl rfl rfl rfl (hGF.ex eG) (b_side bL) (b_side bR) (by omega))) (fun k Hx ex hk _ => ev_var rfl)) fun rr H17 hrr e17 hrr17 => ?_
        rw [show ((M.n : Int)).toNat = M.n by omega] at hrr17
        refine ⟨sz_of (by simp), fun an han => ?_⟩
        have ean := Ex.new (o := .lst []) han
        refine q_forLn (K := K) (a := pp) (xs := xs) (ev_var rfl) (ex_l (e17.trans ean) hsq)
          (fun k σ' Hx => (∃ (an : Addr) (A : List Int) (vpe : Option V), σ' = [some (.ref a), some (.int dg), some (.bl pl), some (.str (nm l)), some (.ref aM), some (.ref p), some (.ref ag), some (.ref r3), some (.str rl), some (.ref yl), some (.ref z2), some x, some (.ref pp), some (.ref rr), some (.ref an), vpe, none] ∧ Hx an = some (.lst (A.map V.int)) ∧ A.length ≤ 4 * k ∧
            (A = [] → ∀ j s, j < k → ps[j]? = some s → ∀ u, u < M.n → refB l M (fms s.1) (fms s.2) u = false)) ∧ Ex H17 Hx) (fun Hx ex => ⟨⟨an, [], _, rfl, ex _ _ upd_same, Nat.le_refl _, fun _ j s hj => absurd hj (Nat.not_lt_zero _)⟩, ean.trans ex⟩) (fun k σ' Hx hk pr => ex_l (e17.trans pr.2) hsq) (fun k y σ' Hx hk pr => ?_) fun σ' Hx pr => ?_
        · obtain ⟨⟨an2, A, vpe2, rfl, hA, lA, pA⟩, ex⟩ := pr
          obtain ⟨s2, hs2, hgs2⟩ := hgl.at_ hk
          have hsm : s2 ∈ ps := List.mem_of_getElem? hs2
          have hkl : k < ps.length := (List.getElem?_eq_some_iff.mp hs2).1
          obtain ⟨c1, c2⟩ := hb8 s2 hsm
          refine s_as (op_go ⟨_, rfl, ?_⟩)
          refine el_lcR1 (n := (M.n : Int)) (fun u => refB l M (fms s2.1) (fms s2.2) u) (fun u => .int (u : Int)) (rngn (e17.trans ex) rfl) (by omega) (fun _ => rfl) (fun u Hy ey hu => et_val (call_ ((e17.trans ex).trans ey) rfl rfl rfl rfl hgs2 c1 c2 (by omega))) (fun u Hy ey hu _ => ev_var rfl) Hx (Ex.refl _) _ fun b Hy hb ey hbl => ?_
          rw [show ((M.n : Int)).toNat = M.n by omega] at hbl
          have eint : given M.n (fun u => refB l M (fms s2.1) (fms s2.2) u) (fun u => .int (u : Int)) = (((List.range M.n).filter fun u => refB l M (fms s2.1) (fms s2.2) u).map fun u : Nat => (u : Int)).map V.int := by
            unfold given; rw [List.map_map]; rfl
          rw [eint] at hbl
          have lB := given_len M.n (fun u => refB l M (fms s2.1) (fms s2.2) u) (fun u => V.int (u : Int))
          rw [eint, List.length_map] at lB
          refine ⟨an2, b, A.map V.int, _, rfl, rfl, ey _ _ hA, hbl, sz_of (by rw [List.length_map, List.length_map]; omega), fun z hz => ?_⟩
          have ez := Ex.new (o := .lst (A.map V.int ++ (((List.range M.n).filter fun u => refB l M (fms s2.1) (fms s2.2) u).map fun u : Nat => (u : Int)).map V.int)) hz
          refine ⟨⟨z, A ++ ((List.range M.n).filter fun u => refB l M (fms s2.1) (fms s2.2) u).map fun u : Nat => (u : Int), _, rfl, by rw [List.map_append]; exact upd_same, by rw [List.length_append]; omega, fun hnil j s hj hjs u hu => ?_⟩, (ex.trans ey).trans ez⟩
          obtain ⟨n1, n2⟩ := List.append_eq_nil_iff.mp hnil
          by_cases hjk : j < k
          · exact pA n1 j s hjk hjs u hu
          · obtain rfl : j = k := by omega
            rw [hs2] at hjs
            obtain rfl := Option.some.inj hjs
            have n3 := List.map_eq_nil_iff.mp n2
            have := List.filter_eq_nil_iff.mp n3 u (List.mem_range.mpr hu)
            simpa using this
        · obtain ⟨⟨an2, A, vpe2, rfl, hA, lA, pA⟩, ex⟩ := pr
          have eint : given M.n (fun k => refB l M (fms L) (fms R) k) (fun k => .int (k : Int)) = (((List.range M.n).filter fun k => refB l M (fms L) (fms R) k).map fun u : Nat => (u : Int)).map V.int := by
            unfold given; rw [List.map_map]; rfl
          rw [eint] at hrr17
          refine s_when (et_and (et_test (ev_neNil (ev_var rfl) (sq_of (ex _ _ hrr17)))) fun _ => et_test (ev_eqNil (ev_var rfl) (sq_of hA))) (fun hb Hy ey => ?_) fun hb Hy ey => ⟨⟨_, _, _, _, _, rfl⟩, ((eG.trans e17).trans ex).trans ey⟩
          exfalso
          obtain ⟨h1, h2⟩ := Bool.and_eq_true_iff.mp hb
          have hA0 : A = [] := of_decide_eq_true h2
          have hne : ((List.range M.n).filter fun k => refB l M (fms L) (fms R) k) ≠ [] := fun z => by
            rw [z] at h1; simp at h1
          obtain ⟨w0, hw0⟩ := List.exists_mem_of_ne_nil _ hne
          obtain ⟨hw1, hw2⟩ := List.mem_filter.mp hw0
          obtain ⟨sp, hsp, u, hu, hru⟩ := hsnd M G w0 (List.mem_range.mp hw1) (refB_iff.mp hw2)
          obtain ⟨s2, hs2, rfl⟩ := List.mem_map.mp hsp
          obtain ⟨j, hj, ej⟩ := List.mem_iff_getElem.mp hs2
          have hlx := hgl.len
          have := pA hA0 j s2 (by omega) (by rw [List.getElem?_eq_getElem hj, ej]) u hu
          have h3 : refB l M (fms s2.1) (fms s2.2) u = true := refB_iff.mpr hru
          rw [h3] at this
          cases this
    · exact q H'
end
end K33

set_option Elab.async false
set_option linter.all false
set_option maxRecDepth 100000
set_option maxHeartbeats 4000000
namespace K33
open PySem PySem.Spec PyProof.Rows L2 Evl
theorem tupAt_ok {K : PySem.W.Frag} {a : Addr} {us : List Value} (h : tupAt K a = some us) : ∃ (o : Obj) (its : Array Value) (n : Nat), K.lookup a = some o ∧ o.cls = .type "tuple" ∧ o.data = .seq its n ∧ its.size ≤ sizeLine ∧ its.toList = us := by
  unfold tupAt at h
  cases e : K.lookup a with
  | none => rw [e] at h; cases h
  | some o =>
    rw [e] at h
    obtain ⟨oc, od, dt, osl⟩ := o
    cases oc with
    | type c =>
      cases dt with
      | seq its n =>
        have h' : (match decide (c = "tuple") && decide (its.size ≤ 1000) with
          | true => some its.toList
          | false => none) = some us := h
        cases z : decide (c = "tuple") && decide (its.size ≤ 1000) with
        | false => rw [z] at h'; cases h'
        | true =>
          rw [z] at h'
          obtain ⟨z1, z2⟩ := Bool.and_eq_true_iff.mp z
          exact ⟨_, its, n, rfl, congrArg Value.type (of_decide_eq_true z1), rfl, Nat.le_trans (of_decide_eq_true z2) (by decide), Option.some.inj h'⟩
      | _ => cases h
    | _ => cases dt <;> cases h
theorem sqT_of {K : PySem.W.Frag} {a : Addr} {us : List Value} {vs : List V} (h : tupAt K a = some us) (r : Vals vs us) (H : Hp) : SqT K H a vs := by
  obtain ⟨o, its, n, h1, h2, h3, h4, rfl⟩ := tupAt_ok h
  exact .inr ⟨o, its, n, h1, h2, h3, h4, r⟩
theorem strTup_ok {K : PySem.W.Frag} {x : Str} {ns : List Str} (h : strTupB K x ns = true) (H : Hp) : SqT K H (He.ga K x) (ns.map V.str) := by
  unfold strTupB at h
  cases e : tupAt K (He.ga K x) with
  | none => rw [e] at h; cases h
  | some us => rw [e] at h; exact sqT_of e (He.relAll_ok h) H
theorem ruleB_ok {K : PySem.W.Frag} {r : Str × Str × List Str} (h : ruleB K r = true) : ∃ T U, PySem.W.nsIn K (He.ga K "RULES") r.1 = some (some (.ref T)) ∧ (∀ H, SqT K H T [.ref (He.ga K r.2.1), .ref U]) ∧ ∀ H, SqT K H U (r.2.2.map V.str) := by
  unfold ruleB at h
  split at h
  · rename_i T e1
    split at h
    · rename_i f U e2
      obtain ⟨h1, h2⟩ := Bool.and_eq_true_iff.mp h
      have ef : f = He.ga K r.2.1 := Nat.eq_of_beq_eq_true h1
      subst ef
      split at h2
      · rename_i us e3
        exact ⟨T, U, e1, fun H => sqT_of (vs := [.ref (He.ga K r.2.1), .ref U]) e2 (.cons rfl (.cons rfl .nil)) H, fun H => sqT_of e3 (He.relAll_ok h2) H⟩
      · cases h2
    · cases h
  · cases h
section
variable {w : World} {h : Heap} {K : PySem.W.Frag} {mg : Str → Option Value}
theorem fact_mem (c : He.SaysD fa fn K) {f : He.Fa} (h : f ∈ fa) : f.ok K = true := by
  obtain ⟨i, hi, e⟩ := List.mem_iff_getElem.mp h
  exact c.fact i (by rw [List.getElem?_eq_getElem hi, e])
theorem glo_mem {x : Str} (h : x ∈ gloNames) : He.Fa.glo x ∈ fa := List.mem_append_left _ (List.mem_append_left _ (List.mem_map_of_mem h))
theorem names_in : ∀ d ∈ fn, d.name ∈ gloNames := by decide +kernel
theorem rule_names : ∀ r ∈ ruleTab, r.2.1 ∈ gloNames := by decide +kernel
theorem tx_of (X : K.In h) (G : h.Ns mainGlobals mg) (S : He.SaysX fa fn ts [] ex w h K) : TX w K mg := by
  have c := S.t.d
  have glo : ∀ x ∈ gloNames, mg x = some (.ref (He.ga K x)) := fun x hx => He.glo_ok X G (fact_mem c (glo_mem hx))
  have more := S.more
  unfold ex at more
  obtain ⟨m1, more⟩ := Bool.and_eq_true_iff.mp more
  obtain ⟨m2, more⟩ := Bool.and_eq_true_iff.mp more
  obtain ⟨m3, more⟩ := Bool.and_eq_true_iff.mp more
  obtain ⟨m4, more⟩ := Bool.and_eq_true_iff.mp more
  obtain ⟨m5, more⟩ := Bool.and_eq_true_iff.mp more
  refine ⟨fun i n j hi => ?_, fun x hx => ?_, fun p hp => ?_, ?_, fun x hx => ?_, ?_⟩
  · obtain ⟨fd, F⟩ := c.def_ i hi
    exact ⟨_, fd, glo n (names_in (dd n j) (List.mem_of_getElem? hi)), F⟩
  · exact He.free_ok X G (fact_mem c (List.mem_append_left _ (List.mem_append_right _ (List.mem_map_of_mem hx))))
  · simp only [List.mem_cons, List.not_mem_nil, or_false] at hp
    rcases hp with rfl | rfl | rfl | rfl | rfl
    · exact ⟨_, glo _ (by decide +kernel), fun H => strTup_ok m1 H⟩
    · exact ⟨_, glo _ (by decide +kernel), fun H => strTup_ok m2 H⟩
    · exact ⟨_, glo _ (by decide +kernel), fun H => strTup_ok m3 H⟩
    · exact ⟨_, glo _ (by decide +kernel), fun H => strTup_ok m4 H⟩
    · exact ⟨_, glo _ (by decide +kernel), fun H => strTup_ok m5 H⟩
  · obtain ⟨es, n, kd⟩ := S.t.tab 0 (t := (fun K => He.ga K "RULES", ruleTab.map (·.1))) rfl
    refine ⟨He.ga K "RULES", es, n, glo _ (by decide +kernel), kd, fun r hr => ?_⟩
    obtain ⟨T, U, h1, h2, h3⟩ := ruleB_ok (List.all_eq_true.mp more r hr)
    exact ⟨T, _, U, h1, h2, glo _ (rule_names r hr), h3⟩
  · have hxf : He.Fa.exc x ∈ fa := by
      simp only [List.mem_cons, List.not_mem_nil, or_false] at hx
      rcases hx with rfl | rfl
      · exact List.mem_append_right _ (by simp)
      · exact List.mem_append_right _ (by simp)
    have hxg : x ∈ gloNames := by
      simp only [List.mem_cons, List.not_mem_nil, or_false] at hx
      rcases hx with rfl | rfl <;> decide +kernel
    obtain ⟨q1, q2, q3, q4⟩ := He.exc_ok (fact_mem c hxf)
    exact ⟨_, glo x hxg, q1, q2, q3, by first | exact q4 | exact q4.1⟩
  · exact ⟨_, glo _ (by decide +kernel), He.exm_ok (fact_mem c (List.mem_append_right _ (by simp)))⟩
end
/-- nothing is let out -/
theorem calm_of {P : Program} {w : World} {K : PySem.W.Frag} {mg : Str → Option Value} {base : Heap} {k : Nat} {f : Addr} {fd : FuncData} {ps : List Str} {sp : Sp} (F : FnOk P w K mg base (L2.CX P w) k f fd ps sp) : FnOk P w K mg base CX0 k f fd ps (fun vs H Q _ => sp vs H Q E0) :=
  ⟨fun vs H Q E h => F.len vs H Q E0 h, fun A outer s H args us vs Q E hr e0 hb r h => codeAny_mono (F.run A outer s H args us vs Q E0 hr e0 hb r h) fun r s' hq => by
    cases r with
    | error e =>
      obtain ⟨_, _, _, _, _, _, _, _, _, _, _, _, z⟩ := hq
      exact z.elim
    | ok fl =>
      cases fl with
      | ret u => exact hq
      | next => exact hq
      | brk => exact hq
      | cont => exact hq⟩
theorem ok_law {P : Program} {w : World} {K : PySem.W.Frag} {mg : Str → Option Value} (T : TX w K mg) : ∃ f fd, mg "law" = some (.ref f) ∧ (∀ (s : Shared) (v : Value), BindsTo s fd ⟨[v], []⟩ [("_law_script", v)]) ∧ ∀ base : Heap, FnOk P w K mg base CX0 22 f fd ["_law_script"] (fun vs H Q _ => spLaw K vs H Q E0) := by
  obtain ⟨f, fd, hm, F⟩ := T.d 41 "law" 57 rfl
  have b := FunD.bindsA (ps := ["_law_script"]) F fun _ _ _ _ _ _ us hl => match us, hl with | [_], _ => rfl
  refine ⟨f, fd, hm, fun s v => b s [v] rfl, fun base => calm_of ?_⟩
  obtain ⟨gN, gP, mP, cR⟩ := cal_require (P := P) (base := base) T
  exact F.ok sc_law (fun vs H Q E h => by obtain ⟨_, _, rfl, _⟩ := h; rfl) fun cdv A outer s H vs Q E hr h => law_body T gP mP cR f cdv A outer s H vs Q E hr h
end K33

set_option Elab.async false
set_option linter.all false
set_option maxRecDepth 100000
set_option maxHeartbeats 0
namespace K33
open PySem PySem.W PySem.Calls PyProof.Rows HandSHeadRun
theorem a1 : opening R33.prog = plainProg R33.prog.main.scope.names := by kernel_rfl
theorem a2 : ∀ s, fenceModules? R33.prog s = some s := fun s => by kernel_rfl
theorem a3 : defOf (view R33.prog [57]) R33.name = some (topDef R33.prog 57, []) := by kernel_rfl
theorem a4 : R33.prog.theDef R33.name = some ((topDef R33.prog 57).params, (topDef R33.prog 57).body, (topDef R33.prog 57).scope) := by kernel_rfl
theorem a5 : kwWritten? (topDef R33.prog 57).params.kwonlyargs (topDef R33.prog 57).params.kw_defaults = some [] := by kernel_rfl
theorem a6 : (!R33.writes || R33.records.isEmpty) = true := by rfl
theorem a7 : R33.wellSaid = true := by decide +kernel
theorem a8 : (chainsOk (view R33.prog [57]) && opensWell R33.prog && (frees R33.toRowW && R33.within.isEmpty)) = true := by decide +kernel
theorem a9 : R33.prog.bare := ⟨rfl, rfl, rfl, rfl, rfl, by decide +kernel⟩
end K33

set_option Elab.async false
set_option linter.all false
set_option maxRecDepth 100000
set_option maxHeartbeats 0
namespace K33
open PySem PySem.W PySem.Calls PyProof.Rows HandSHeadRun
theorem law_name : (HandSHeadRun.topDef (OpenLaw.row PySem.Challenge.rw_elsewhere_k33_whole_rules_keep_refutatio).prog 57).name = ("law" : PySem.Str) := by kernel_rfl
theorem dfl : (topDef R33.prog 57).params.defaults = [] := by kernel_rfl
theorem walk33 : WalkO (view R33.prog [57]) loose (XL (view R33.prog [57]) []) hk.says R33.toRowW (topDef R33.prog 57) [] fun f vs => PySem.call f vs := by
  refine L2.walk_ofE (l := PySem.Challenge.rw_elsewhere_k33_whole_rules_keep_refutatio) (n := 63) (k := 22) (x := "_law_script") (CX := L2.CX0) rfl (by decide) dfl ⟨rfl, by decide, by decide⟩ ?F (fun _ _ _ _ z => z)
  intro w mg fa h Y G hmg0
  obtain ⟨K, KX, c⟩ := Y
  have hmg : mg ("law" : PySem.Str) = some (.ref fa) := by
    rw [← law_name]
    exact hmg0
  obtain ⟨f, fd, hm, hb, hF⟩ := K33.ok_law (P := (PySem.Challenge.rw_elsewhere_k33_whole_rules_keep_refutatio).prog) (K33.tx_of KX G c)
  have ef : f = fa := by
    have := hm.symm.trans hmg
    injection this with this
    injection this
  subst ef
  exact ⟨K, fd, _, KX, hb, fun H a ns hl _ hS => ⟨a, ns, rfl, hS, hl, fun _ => rfl⟩, fun base _ _ => hF base⟩
end K33

set_option Elab.async false
set_option linter.all false
set_option maxRecDepth 100000
set_option maxHeartbeats 0
namespace K33
open PySem PySem.W PySem.Calls PyProof.Rows HandSHeadRun
theorem hwit : R33.toRowW.promised := by w_witness2
end K33

set_option Elab.async false
set_option linter.all false
set_option maxRecDepth 100000
set_option maxHeartbeats 0
open PySem PySem.W PySem.Calls PyProof.Rows HandSHeadRun
theorem PySem.Challenge.cw_elsewhere_k33_whole_rules_keep_refutatio_holds : PySem.Challenge.rw_elsewhere_k33_whole_rules_keep_refutatio.Holds := by
  w_on; o_law
  exact HandSHeadRun.head_any (r := K33.R33) (q := view K33.R33.prog [57]) (H := K33.hk) (ob := K33.ob) (M := 4000) (loose := K33.loose) (d := topDef K33.R33.prog 57) (kwd := []) K33.ob_eq K33.a1 K33.a2 K33.run K33.a3 K33.a4 K33.a5 K33.a6 K33.a7 K33.a8 K33.a9 K33.hwit K33.walk33

