import PyProof.Rows.All
import Wide.All
import OpenK.AllK
import Wide.FinOn
import PyProof.EqAt
import PyProof.EqKinds
import PyProof.TupleCall
import PySem.Challenge.RW_frontmeets_k22_whole_one_character_chang
import HandS.ForMost
import HandS.ForExc
import HandS.ExcInit
import HandS.IsInst
import HandS.FStr
import HandS.StrMore
import HandS.Strs
import HandS.Flow
import HandS.Style
import HandS.TupAny
import HandS.RaiseMore
import HandS.Walk
import HandS.SetFor
set_option Elab.async false
set_option linter.all false
set_option maxRecDepth 100000
set_option maxHeartbeats 4000000
namespace FM
open PySem

/-! ### texts as lists of signs -/
abbrev cs (s : Str) : List Nat := s.cps.toList
def ms (l : List Nat) : Str := ⟨l.toArray⟩
theorem cs_ms (l : List Nat) : cs (ms l) = l := by simp [cs, ms]
theorem ms_cs (s : Str) : ms (cs s) = s := by cases s; simp [cs, ms]
theorem cs_inj {a b : Str} (h : cs a = cs b) : a = b := by rw [← ms_cs a, ← ms_cs b, h]

def letter (c : Nat) : Bool := decide (97 ≤ c) && decide (c ≤ 122)
def isLine (l : List Nat) : Bool := l.all letter && (decide (1 ≤ l.length) && decide (l.length ≤ 6))
abbrev kLow : Str := "low"
abbrev kHigh : Str := "high"
def isKind (k : Str) : Bool := decide (k = kLow) || decide (k = kHigh)
theorem kind_letters {k : Str} (h : isKind k = true) : (cs k).all letter = true ∧ cs k ≠ [] ∧ (cs k).length ≤ 4 := by
  unfold isKind at h
  simp only [Bool.or_eq_true, decide_eq_true_eq] at h
  rcases h with rfl | rfl <;> decide +kernel

/-! ### trees -/
inductive T where
  | leaf (s : Str)
  | node (k : Str) (ps : List T)
  deriving Inhabited

mutual
def wr : T → List Nat
  | .leaf s => cs s
  | .node k ps => cs k ++ 40 :: (wrs ps ++ [41])
def wrs : List T → List Nat
  | [] => []
  | t :: r => wr t ++ wrt r
def wrt : List T → List Nat
  | [] => []
  | t :: r => 44 :: 32 :: (wr t ++ wrt r)
end
mutual
def okT : T → Bool
  | .leaf s => isLine (cs s)
  | .node k ps => isKind k && (decide (2 ≤ ps.length) && okTs ps)
def okTs : List T → Bool
  | [] => true
  | t :: r => okT t && okTs r
end
mutual
def lv : T → List Str
  | .leaf s => [s]
  | .node _ ps => lvs ps
def lvs : List T → List Str
  | [] => []
  | t :: r => lv t ++ lvs r
end
mutual
def dp : T → Nat
  | .leaf _ => 0
  | .node _ ps => dps ps + 1
def dps : List T → Nat
  | [] => 0
  | t :: r => max (dp t) (dps r)
end
mutual
def sz : T → Nat
  | .leaf s => max 1 (cs s).length
  | .node _ ps => szs ps + 1
def szs : List T → Nat
  | [] => 0
  | t :: r => sz t + szs r
end
def plan (t : T) : Bool := okT t && (decide (lv t).Nodup && decide ((lv t).length ≤ 8))
theorem plan_iff {t : T} : plan t = true ↔ okT t = true ∧ (lv t).Nodup ∧ (lv t).length ≤ 8 := by
  unfold plan; simp only [Bool.and_eq_true, decide_eq_true_eq]

theorem wrt_cons (t : T) (r : List T) : wrt (t :: r) = 44 :: 32 :: wrs (t :: r) := by
  simp only [wrt, wrs]
theorem okTs_append : ∀ (a b : List T), okTs (a ++ b) = (okTs a && okTs b)
  | [], b => by simp [okTs]
  | t :: r, b => by simp only [List.cons_append, okTs, okTs_append r b, Bool.and_assoc]
theorem lvs_append : ∀ (a b : List T), lvs (a ++ b) = lvs a ++ lvs b
  | [], b => by simp [lvs]
  | t :: r, b => by simp only [List.cons_append, lvs, lvs_append r b, List.append_assoc]
theorem szs_append : ∀ (a b : List T), szs (a ++ b) = szs a + szs b
  | [], b => by simp [szs]
  | t :: r, b => by simp only [List.cons_append, szs, szs_append r b, Nat.add_assoc]
theorem dps_append : ∀ (a b : List T), dps (a ++ b) = max (dps a) (dps b)
  | [], b => by simp [dps]
  | t :: r, b => by simp only [List.cons_append, dps, dps_append r b, Nat.max_assoc]

mutual
theorem sz_pos : ∀ t : T, 1 ≤ sz t
  | .leaf _ => by simp only [sz]; omega
  | .node _ ps => by simp [sz]
end
mutual
theorem dp_sz : ∀ t : T, dp t ≤ sz t
  | .leaf _ => by simp [sz, dp]
  | .node _ ps => by have := dps_szs ps; simp only [sz, dp]; omega
theorem dps_szs : ∀ l : List T, dps l ≤ szs l
  | [] => by simp [szs, dps]
  | t :: r => by have := dp_sz t; have := dps_szs r; simp only [szs, dps]; omega
end
mutual
theorem lv_sz : ∀ t : T, (lv t).length ≤ sz t
  | .leaf _ => by simp only [sz, lv, List.length_cons, List.length_nil]; omega
  | .node _ ps => by have := lvs_szs ps; simp only [sz, lv]; omega
theorem lvs_szs : ∀ l : List T, (lvs l).length ≤ szs l
  | [] => by simp [szs, lvs]
  | t :: r => by have := lv_sz t; have := lvs_szs r; simp only [szs, lvs, List.length_append]; omega
end
mutual
theorem name_sz : ∀ (t : T) (s : Str), s ∈ lv t → (cs s).length ≤ sz t
  | .leaf x, s, h => by
    simp only [lv, List.mem_singleton] at h
    subst h
    simp only [sz]; omega
  | .node _ ps, s, h => by
    simp only [lv] at h
    have := names_szs ps s h
    simp only [sz]; omega
theorem names_szs : ∀ (l : List T) (s : Str), s ∈ lvs l → (cs s).length ≤ szs l
  | [], s, h => by simp [lvs] at h
  | t :: r, s, h => by
    simp only [lvs, List.mem_append] at h
    simp only [szs]
    rcases h with h | h
    · have := name_sz t s h; omega
    · have := names_szs r s h; omega
end
theorem len_szs : ∀ l : List T, l.length ≤ szs l
  | [] => by simp
  | t :: r => by have := sz_pos t; have := len_szs r; simp only [szs, List.length_cons]; omega
mutual
/-- a well-formed tree is less deep than it has leaves -/
theorem ok_dp : ∀ t : T, okT t = true → dp t + 1 ≤ (lv t).length
  | .leaf _, _ => by simp [dp, lv]
  | .node k ps, h => by
    simp only [okT, Bool.and_eq_true, decide_eq_true_eq] at h
    have := oks_dps ps h.2.2
    simp only [dp, lv]
    have h2 := h.2.1
    rcases Nat.lt_or_ge ps.length 1 with h0 | h0
    · omega
    · have := this.2 h0; omega
theorem oks_dps : ∀ l : List T, okTs l = true → l.length ≤ (lvs l).length ∧ (1 ≤ l.length → dps l + l.length ≤ (lvs l).length)
  | [], _ => by simp [lvs]
  | t :: r, h => by
    simp only [okTs, Bool.and_eq_true] at h
    have h1 := ok_dp t h.1
    have h2 := oks_dps r h.2
    simp only [dps, lvs, List.length_append, List.length_cons]
    refine ⟨by omega, fun _ => ?_⟩
    rcases Nat.lt_or_ge r.length 1 with h0 | h0
    · have : r = [] := List.length_eq_zero_iff.mp (by omega)
      subst this
      simp [dps, lvs]; omega
    · have := h2.2 h0; omega
end
mutual
theorem ok_len : ∀ t : T, okT t = true → (wr t).length + 8 ≤ 14 * (lv t).length
  | .leaf s, h => by
    simp only [okT, isLine, Bool.and_eq_true, decide_eq_true_eq] at h
    simp only [wr, lv, List.length_cons, List.length_nil]; omega
  | .node k ps, h => by
    simp only [okT, Bool.and_eq_true, decide_eq_true_eq] at h
    have h1 := oks_len ps h.2.2
    have h2 := (kind_letters h.1).2.2
    have h3 := h.2.1
    simp only [wr, lv, List.length_append, List.length_cons, List.length_nil]
    cases ps with
    | nil => simp at h3
    | cons t r =>
      simp only [wrs, List.length_append] at *
      simp only [List.length_cons] at *
      omega
theorem oks_len : ∀ l : List T, okTs l = true → (wrs l).length + 8 * l.length ≤ 14 * (lvs l).length + 2 * (l.length - 1) ∧ (wrt l).length + 6 * l.length ≤ 14 * (lvs l).length
  | [], _ => by simp [wrs, wrt, lvs]
  | t :: r, h => by
    simp only [okTs, Bool.and_eq_true] at h
    have h1 := ok_len t h.1
    have h2 := (oks_len r h.2).2
    simp only [wrs, wrt, lvs, List.length_append, List.length_cons]
    omega
end
theorem plan_len {t : T} (h : plan t = true) : (wr t).length ≤ 104 := by
  have h := plan_iff.mp h
  have := ok_len t h.1
  omega
theorem plan_dp {t : T} (h : plan t = true) : dp t ≤ 7 := by
  have h := plan_iff.mp h
  have := ok_dp t h.1
  omega
end FM
namespace FM
open PySem

/-! ### the program's reader -/
def rdLoop (f : List Nat → Option (T × List Nat)) : Nat → List T → List Nat → Option (List T × List Nat)
  | 0, _, _ => none
  | n + 1, acc, l =>
    match f l with
    | none => none
    | some (t, r) =>
      if r.take 1 = [41] then some (acc ++ [t], r.drop 1)
      else if r.take 2 = [44, 32] then rdLoop f n (acc ++ [t]) (r.drop 2)
      else none
/-- d: how many junctions deeper it may read -/
def rd : Nat → List Nat → Option (T × List Nat)
  | d, l =>
    if (l.dropWhile letter).take 1 ≠ [40] then some (.leaf (ms (l.takeWhile letter)), l.dropWhile letter)
    else if isKind (ms (l.takeWhile letter)) = false then none
    else
      match d with
      | 0 => none
      | d + 1 =>
        match rdLoop (rd d) l.length [] ((l.dropWhile letter).drop 1) with
        | none => none
        | some (ps, r) => some (.node (ms (l.takeWhile letter)) ps, r)

theorem take1 {r : List Nat} {c : Nat} (h : r.take 1 = [c]) : r = c :: r.drop 1 := by
  cases r with
  | nil => simp at h
  | cons a r => simp at h; simp [h]
theorem take2 {r : List Nat} {c d : Nat} (h : r.take 2 = [c, d]) : r = c :: d :: r.drop 2 := by
  match r, h with
  | [], h => simp at h
  | [a], h => simp at h
  | a :: b :: r, h => simp at h; simp [h.1, h.2]

theorem rdLoop_sound {f : List Nat → Option (T × List Nat)} (hf : ∀ l t r, f l = some (t, r) → l = wr t ++ r) :
    ∀ (n : Nat) (acc : List T) (l : List Nat) (ps : List T) (r : List Nat), rdLoop f n acc l = some (ps, r) → ∃ qs, qs ≠ [] ∧ ps = acc ++ qs ∧ l = wrs qs ++ 41 :: r
  | 0, _, _, _, _, h => by simp [rdLoop] at h
  | n + 1, acc, l, ps, r, h => by
    unfold rdLoop at h
    cases e : f l with
    | none => rw [e] at h; simp at h
    | some p =>
      obtain ⟨t, r0⟩ := p
      rw [e] at h
      have hl := hf l t r0 e
      by_cases h1 : r0.take 1 = [41]
      · simp only [h1, if_true] at h
        obtain ⟨rfl, rfl⟩ := Prod.mk.inj (Option.some.inj h)
        refine ⟨[t], by simp, rfl, ?_⟩
        rw [hl]; simp only [wrs, wrt, List.append_nil]
        rw [← take1 h1]
      · by_cases h2 : r0.take 2 = [44, 32]
        · simp only [h1, h2, if_true, if_false] at h
          obtain ⟨qs, hq, rfl, e2⟩ := rdLoop_sound hf n _ _ _ _ h
          refine ⟨t :: qs, by simp, by simp, ?_⟩
          have e3 := take2 h2
          cases qs with
          | nil => exact absurd rfl hq
          | cons u q =>
            rw [hl, e3, e2]
            simp only [wrs, wrt, List.append_assoc, List.cons_append]
        · simp only [h1, h2, if_false] at h
          cases h
theorem rd_eq (d : Nat) (l : List Nat) : rd d l =
    if (l.dropWhile letter).take 1 ≠ [40] then some (.leaf (ms (l.takeWhile letter)), l.dropWhile letter)
    else if isKind (ms (l.takeWhile letter)) = false then none
    else
      match d with
      | 0 => none
      | d + 1 =>
        match rdLoop (rd d) l.length [] ((l.dropWhile letter).drop 1) with
        | none => none
        | some (ps, r) => some (.node (ms (l.takeWhile letter)) ps, r) := by
  cases d <;> rw [rd]
/-- what is read is the written form of what is told -/
theorem rd_sound : ∀ (d : Nat) (l : List Nat) (t : T) (r : List Nat), rd d l = some (t, r) → l = wr t ++ r := by
  intro d
  induction d with
  | zero =>
    intro l t r h
    rw [rd_eq] at h
    split at h
    · obtain ⟨rfl, rfl⟩ := Prod.mk.inj (Option.some.inj h)
      simp only [wr, cs_ms, List.takeWhile_append_dropWhile]
    · split at h <;> cases h
  | succ d ih =>
    intro l t r h
    rw [rd_eq] at h
    split at h
    · obtain ⟨rfl, rfl⟩ := Prod.mk.inj (Option.some.inj h)
      simp only [wr, cs_ms, List.takeWhile_append_dropWhile]
    · rename_i h1
      have h1 := Decidable.not_not.mp h1
      split at h
      · cases h
      · dsimp only at h
        cases e : rdLoop (rd d) l.length [] ((l.dropWhile letter).drop 1) with
        | none => rw [e] at h; cases h
        | some p =>
          obtain ⟨ps, r'⟩ := p
          rw [e] at h
          obtain ⟨rfl, rfl⟩ := Prod.mk.inj (Option.some.inj h)
          obtain ⟨qs, hq, e1, e2⟩ := rdLoop_sound ih _ _ _ _ _ e
          simp only [List.nil_append] at e1
          subst e1
          simp only [wr, cs_ms, List.append_assoc, List.cons_append, List.nil_append]
          rw [← e2, ← take1 h1, List.takeWhile_append_dropWhile]

theorem rdLoop_all {f : List Nat → Option (T × List Nat)} {P : T → Prop} (hf : ∀ l t r, f l = some (t, r) → P t) :
    ∀ (n : Nat) (acc : List T) (l : List Nat) (ps : List T) (r : List Nat), (∀ t ∈ acc, P t) → rdLoop f n acc l = some (ps, r) → ∀ t ∈ ps, P t
  | 0, _, _, _, _, _, h => by simp [rdLoop] at h
  | n + 1, acc, l, ps, r, ha, h => by
    unfold rdLoop at h
    cases e : f l with
    | none => rw [e] at h; simp at h
    | some p =>
      obtain ⟨t, r0⟩ := p
      rw [e] at h
      have ha' : ∀ u ∈ acc ++ [t], P u := fun u hu => by
        rcases List.mem_append.mp hu with h | h
        · exact ha u h
        · rw [List.mem_singleton.mp h]; exact hf l t r0 e
      by_cases h1 : r0.take 1 = [41]
      · simp only [h1, if_true] at h
        obtain ⟨rfl, rfl⟩ := Prod.mk.inj (Option.some.inj h)
        exact ha'
      · by_cases h2 : r0.take 2 = [44, 32]
        · simp only [h1, h2, if_true, if_false] at h
          exact rdLoop_all hf n _ _ _ _ ha' h
        · simp only [h1, h2, if_false] at h
          cases h
theorem dps_le {ps : List T} {d : Nat} : (∀ t ∈ ps, dp t ≤ d) → dps ps ≤ d := by
  induction ps with
  | nil => intro _; simp [dps]
  | cons t r ih =>
    intro h
    have h1 := h t List.mem_cons_self
    have h2 := ih fun u hu => h u (List.mem_cons_of_mem _ hu)
    simp only [dps]; omega
theorem rd_dp : ∀ (d : Nat) (l : List Nat) (t : T) (r : List Nat), rd d l = some (t, r) → dp t ≤ d := by
  intro d
  induction d with
  | zero =>
    intro l t r h
    rw [rd_eq] at h
    split at h
    · obtain ⟨rfl, rfl⟩ := Prod.mk.inj (Option.some.inj h)
      simp [dp]
    · split at h <;> cases h
  | succ d ih =>
    intro l t r h
    rw [rd_eq] at h
    split at h
    · obtain ⟨rfl, rfl⟩ := Prod.mk.inj (Option.some.inj h)
      simp [dp]
    · split at h
      · cases h
      · dsimp only at h
        cases e : rdLoop (rd d) l.length [] ((l.dropWhile letter).drop 1) with
        | none => rw [e] at h; cases h
        | some p =>
          obtain ⟨ps, r'⟩ := p
          rw [e] at h
          obtain ⟨rfl, rfl⟩ := Prod.mk.inj (Option.some.inj h)
          have := dps_le (rdLoop_all (P := fun t => dp t ≤ d) ih _ _ _ _ _ (fun _ hm => by cases hm) e)
          simp only [dp]; omega

/-- where a part may end -/
def stop (r : List Nat) : Prop := ∀ c q, r = c :: q → letter c = false ∧ c ≠ 40
theorem stop_nil : stop [] := fun _ _ h => by cases h
theorem stop_cons {c : Nat} {q : List Nat} (h : letter c = false) (h2 : c ≠ 40) : stop (c :: q) := fun c' q' e => by
  cases e; exact ⟨h, h2⟩
theorem takeWhile_app {a r : List Nat} (ha : a.all letter = true) (hr : ∀ c q, r = c :: q → letter c = false) : (a ++ r).takeWhile letter = a ∧ (a ++ r).dropWhile letter = r := by
  induction a with
  | nil =>
    cases r with
    | nil => exact ⟨rfl, rfl⟩
    | cons c q =>
      have := hr c q rfl
      simp [this]
  | cons x a ih =>
    simp only [List.all_cons, Bool.and_eq_true] at ha
    have := ih ha.2
    simp only [List.cons_append, List.takeWhile_cons, List.dropWhile_cons, ha.1, if_true, this.1, this.2, and_self]
theorem stop_take1 {r : List Nat} (h : stop r) : r.take 1 ≠ [40] := by
  intro e
  have := take1 e
  exact (h _ _ this).2 rfl

theorem wrs_len : ∀ ps : List T, ps.length ≤ (wrs ps).length + 1 ∧ ps.length ≤ (wrt ps).length
  | [] => by simp [wrs, wrt]
  | t :: r => by
    have := wrs_len r
    simp only [wrs, wrt, List.length_append, List.length_cons]; omega
theorem rd_parts {d : Nat} (ih : ∀ (t : T) (r : List Nat), okT t = true → dp t ≤ d → stop r → rd d (wr t ++ r) = some (t, r)) :
    ∀ (ps : List T) (n : Nat) (acc : List T) (r : List Nat), ps ≠ [] → okTs ps = true → dps ps ≤ d → ps.length ≤ n → rdLoop (rd d) n acc (wrs ps ++ 41 :: r) = some (acc ++ ps, r)
  | [], _, _, _, h, _, _, _ => absurd rfl h
  | t :: q, 0, _, _, _, _, _, h => by simp at h
  | t :: q, n + 1, acc, r, _, hok, hd, hn => by
    simp only [okTs, Bool.and_eq_true] at hok
    simp only [dps] at hd
    simp only [List.length_cons] at hn
    unfold rdLoop
    cases q with
    | nil =>
      simp only [wrs, wrt, List.append_nil]
      rw [ih t (41 :: r) hok.1 (by omega) (stop_cons (by decide) (by decide))]
      simp
    | cons u q =>
      have e : wrs (t :: u :: q) ++ 41 :: r = wr t ++ (44 :: 32 :: (wrs (u :: q) ++ 41 :: r)) := by
        simp only [wrs, wrt, List.append_assoc, List.cons_append]
      rw [e, ih t _ hok.1 (by omega) (stop_cons (by decide) (by decide))]
      have := rd_parts ih (u :: q) n (acc ++ [t]) r (by simp) hok.2 (by omega) (by omega)
      simp only [List.take_succ_cons, List.take_zero, List.drop_succ_cons, List.drop_zero]
      rw [if_neg (by simp), if_pos True.intro, this]
      simp
theorem rd_leaf {d : Nat} {l r : List Nat} {s : Str} (e1 : l.takeWhile letter = cs s) (e2 : l.dropWhile letter = r) (h : r.take 1 ≠ [40]) : rd d l = some (.leaf s, r) := by
  subst e2
  rw [rd_eq, if_pos h, e1, ms_cs]
/-- every well-formed tree is read from its written form -/
theorem rd_complete : ∀ (d : Nat) (t : T) (r : List Nat), okT t = true → dp t ≤ d → stop r → rd d (wr t ++ r) = some (t, r) := by
  intro d
  induction d with
  | zero =>
    intro t r h hd hr
    cases t with
    | leaf s =>
      simp only [okT, isLine, Bool.and_eq_true] at h
      obtain ⟨e1, e2⟩ := takeWhile_app (r := r) h.1 fun c q e => (hr c q e).1
      have ew : wr (.leaf s) = cs s := by simp only [wr]
      rw [ew]
      exact rd_leaf e1 e2 (stop_take1 hr)
    | node k ps => simp only [dp] at hd; omega
  | succ d ih =>
    intro t r h hd hr
    cases t with
    | leaf s =>
      simp only [okT, isLine, Bool.and_eq_true] at h
      obtain ⟨e1, e2⟩ := takeWhile_app (r := r) h.1 fun c q e => (hr c q e).1
      have ew : wr (.leaf s) = cs s := by simp only [wr]
      rw [ew]
      exact rd_leaf e1 e2 (stop_take1 hr)
    | node k ps =>
      simp only [okT, Bool.and_eq_true, decide_eq_true_eq] at h
      simp only [dp] at hd
      obtain ⟨hk, _, _⟩ := kind_letters h.1
      have e0 : wr (.node k ps) ++ r = cs k ++ 40 :: (wrs ps ++ 41 :: r) := by
        simp only [wr, List.append_assoc, List.cons_append, List.nil_append]
      obtain ⟨e1, e2⟩ := takeWhile_app (a := cs k) (r := 40 :: (wrs ps ++ 41 :: r)) hk fun c q e => by cases e; decide
      have hne : ps ≠ [] := by
        intro e; subst e; simp at h
      have hl := wrs_len ps
      rw [e0, rd_eq, e1, e2, if_neg (by simp), ms_cs, if_neg (by rw [h.1]; simp)]
      dsimp only
      rw [List.drop_succ_cons, List.drop_zero]
      have hp := rd_parts ih ps (cs k ++ 40 :: (wrs ps ++ 41 :: r)).length [] r hne h.2.2 (by omega) (by simp only [List.length_append, List.length_cons]; omega)
      rw [hp]
      simp

/-- parse_plan -/
def parse (l : List Nat) : Option T :=
  match rd 8 l with
  | some (t, r) => if r = [] ∧ plan t = true then some t else none
  | none => none
theorem parse_iff {l : List Nat} {t : T} : parse l = some t ↔ plan t = true ∧ wr t = l := by
  unfold parse
  constructor
  · intro h
    cases e : rd 8 l with
    | none => rw [e] at h; cases h
    | some p =>
      obtain ⟨u, r⟩ := p
      rw [e] at h
      dsimp only at h
      split at h
      · rename_i hc
        cases h
        have := rd_sound _ _ _ _ e
        rw [hc.1, List.append_nil] at this
        exact ⟨hc.2, this.symm⟩
      · cases h
  · rintro ⟨hp, rfl⟩
    have hq := plan_iff.mp hp
    have hd := plan_dp hp
    have := rd_complete 8 t [] hq.1 (by omega) stop_nil
    rw [List.append_nil] at this
    rw [this]
    simp [hp]
/-- written forms of plans tell them apart -/
theorem wr_inj {t u : T} (ht : plan t = true) (hu : plan u = true) (h : wr t = wr u) : t = u := by
  have h1 := parse_iff.mpr ⟨ht, h⟩
  have h2 := parse_iff.mpr ⟨hu, rfl⟩
  rw [h1] at h2
  exact Option.some.inj h2
end FM
namespace FM
open PySem

/-! ### the law's own reader -/
structure S where
  stk : List (Str × List T)
  bot : List T
  w : List Nat
def push (s : S) (t : T) : S :=
  match s.stk with
  | [] => { s with bot := s.bot ++ [t] }
  | (k, ps) :: r => { s with stk := (k, ps ++ [t]) :: r }
def flush (s : S) : S := if s.w = [] then s else { push s (.leaf (ms s.w)) with w := [] }
def close (s : S) : Option S :=
  match s.stk with
  | [] => none
  | (k, ps) :: r => some (push { s with stk := r } (.node k ps))
def step (s : S) (c : Nat) : Option S :=
  if letter c = true then some { s with w := s.w ++ [c] }
  else if c = 40 then some { s with stk := (ms s.w, []) :: s.stk, w := [] }
  else if c = 44 ∨ c = 41 then (if c = 41 then close (flush s) else some (flush s))
  else if c ≠ 32 then none
  else some s
def run : S → List Nat → Option S
  | s, [] => some s
  | s, c :: l => match step s c with
    | none => none
    | some s' => run s' l
theorem run_cons (s : S) (c : Nat) (l : List Nat) : run s (c :: l) = (step s c).bind fun s' => run s' l := by
  rw [run]; cases step s c <;> rfl
theorem run_append : ∀ (a b : List Nat) (s : S), run s (a ++ b) = (run s a).bind fun s' => run s' b
  | [], b, s => by simp [run]
  | c :: a, b, s => by
    rw [List.cons_append, run_cons, run_cons]
    cases step s c with
    | none => rfl
    | some s' => simp only [Option.bind_some]; exact run_append a b s'
theorem run_letters : ∀ (a : List Nat) (s : S), a.all letter = true → run s a = some { s with w := s.w ++ a }
  | [], s, _ => by simp [run]
  | c :: a, s, h => by
    simp only [List.all_cons, Bool.and_eq_true] at h
    rw [run_cons]
    unfold step
    rw [if_pos h.1]
    simp only [Option.bind_some]
    rw [run_letters a _ h.2]
    simp
def s0 : S := ⟨[], [], []⟩
/-- _law_read -/
def lread (l : List Nat) : Option T :=
  match run s0 l with
  | none => none
  | some s =>
    match (flush s).stk, (flush s).bot with
    | [], [t] => if plan t = true ∧ wr t = l then some t else none
    | _, _ => none

theorem push_w (s : S) (t : T) : (push s t).w = s.w := by
  unfold push; split <;> rfl
theorem flush_w (s : S) : (flush s).w = [] := by
  unfold flush
  split
  · assumption
  · rfl
theorem flush_nil {s : S} (h : s.w = [] := by rfl) : flush s = s := by
  unfold flush; rw [if_pos h]

mutual
theorem run_wr : ∀ (t : T) (stk : List (Str × List T)) (bot : List T), okT t = true → ∃ s, run ⟨stk, bot, []⟩ (wr t) = some s ∧ flush s = push ⟨stk, bot, []⟩ t
  | .leaf x, stk, bot, h => by
    simp only [okT, isLine, Bool.and_eq_true, decide_eq_true_eq] at h
    refine ⟨_, by simp only [wr]; exact run_letters (cs x) _ h.1, ?_⟩
    have hne : cs x ≠ [] := by
      intro e
      have h2 := h.2.1
      rw [e] at h2
      simp at h2
    unfold flush
    simp only [List.nil_append]
    rw [if_neg hne, ms_cs]
    unfold push
    cases stk with
    | nil => rfl
    | cons p r => rfl
  | .node k ps, stk, bot, h => by
    simp only [okT, Bool.and_eq_true, decide_eq_true_eq] at h
    obtain ⟨hk, hk2, _⟩ := kind_letters h.1
    have hne : ps ≠ [] := by
      intro e; subst e; simp at h
    obtain ⟨s1, e1, e2⟩ := run_wrs ps k [] stk bot hne h.2.2
    simp only [wr]
    rw [run_append, run_letters (cs k) _ hk]
    simp only [Option.bind_some, List.nil_append]
    rw [run_cons]
    have st : step ⟨stk, bot, cs k⟩ 40 = some ⟨(k, []) :: stk, bot, []⟩ := by
      unfold step
      rw [if_neg (by decide), if_pos rfl, ms_cs]
    rw [st]
    simp only [Option.bind_some]
    rw [run_append, e1]
    simp only [Option.bind_some]
    rw [run_cons]
    have st2 : step s1 41 = some (push ⟨stk, bot, []⟩ (.node k ps)) := by
      unfold step
      rw [if_neg (by decide), if_neg (by decide), if_pos (.inr rfl), if_pos rfl, e2]
      rfl
    rw [st2]
    simp only [Option.bind_some, run]
    exact ⟨_, rfl, flush_nil (by rw [push_w])⟩
theorem run_wrs : ∀ (ps : List T) (k : Str) (acc : List T) (stk : List (Str × List T)) (bot : List T), ps ≠ [] → okTs ps = true → ∃ s, run ⟨(k, acc) :: stk, bot, []⟩ (wrs ps) = some s ∧ flush s = ⟨(k, acc ++ ps) :: stk, bot, []⟩
  | [], _, _, _, _, h, _ => absurd rfl h
  | t :: q, k, acc, stk, bot, _, h => by
    simp only [okTs, Bool.and_eq_true] at h
    obtain ⟨s1, e1, e2⟩ := run_wr t ((k, acc) :: stk) bot h.1
    obtain ⟨s2, e3, e4⟩ := run_wrt q k (acc ++ [t]) stk bot s1 e2 h.2
    simp only [wrs]
    rw [run_append, e1]
    simp only [Option.bind_some]
    refine ⟨s2, e3, ?_⟩
    rw [e4, List.append_assoc]; rfl
theorem run_wrt : ∀ (ps : List T) (k : Str) (acc : List T) (stk : List (Str × List T)) (bot : List T) (s : S), flush s = ⟨(k, acc) :: stk, bot, []⟩ → okTs ps = true → ∃ s', run s (wrt ps) = some s' ∧ flush s' = ⟨(k, acc ++ ps) :: stk, bot, []⟩
  | [], k, acc, stk, bot, s, e, _ => by
    simp only [wrt, run]
    exact ⟨s, rfl, by rw [e, List.append_nil]⟩
  | t :: q, k, acc, stk, bot, s, e, h => by
    simp only [okTs, Bool.and_eq_true] at h
    obtain ⟨s1, e1, e2⟩ := run_wr t ((k, acc) :: stk) bot h.1
    obtain ⟨s2, e3, e4⟩ := run_wrt q k (acc ++ [t]) stk bot s1 e2 h.2
    simp only [wrt]
    have st : step s 44 = some (flush s) := by
      unfold step
      rw [if_neg (by decide), if_neg (by decide), if_pos (.inl rfl), if_neg (by decide)]
    have st2 : ∀ s : S, step s 32 = some s := fun s => by
      unfold step
      rw [if_neg (by decide), if_neg (by decide), if_neg (by decide), if_neg (by decide)]
    rw [run_cons, st]
    simp only [Option.bind_some]
    rw [run_cons, st2]
    simp only [Option.bind_some]
    rw [e, run_append, e1]
    simp only [Option.bind_some]
    refine ⟨s2, e3, ?_⟩
    rw [e4, List.append_assoc]; rfl
end
theorem lread_iff {l : List Nat} {t : T} : lread l = some t ↔ plan t = true ∧ wr t = l := by
  unfold lread
  constructor
  · intro h
    cases e : run s0 l with
    | none => rw [e] at h; cases h
    | some s =>
      rw [e] at h
      dsimp only at h
      split at h
      · split at h
        · rename_i hc
          cases h
          exact hc
        · cases h
      · cases h
  · rintro ⟨hp, rfl⟩
    have hq := plan_iff.mp hp
    obtain ⟨s, e1, e2⟩ := run_wr t [] [] hq.1
    have e1' : run s0 (wr t) = some s := e1
    rw [e1']
    dsimp only
    rw [e2]
    unfold push
    simp only [List.nil_append]
    rw [if_pos ⟨hp, True.intro⟩]
/-- both readers agree on every text -/
theorem readers_agree (l : List Nat) : parse l = lread l := by
  cases e : parse l with
  | some t => exact (lread_iff.mpr (parse_iff.mp e)).symm
  | none =>
    cases e2 : lread l with
    | none => rfl
    | some u =>
      have := parse_iff.mpr (lread_iff.mp e2)
      rw [e] at this
      cases this

/-! ### sizes while the law's reader runs -/
def szk : List (Str × List T) → Nat
  | [] => 0
  | (_, ps) :: r => szs ps + 1 + szk r
def szS (s : S) : Nat := szk s.stk + szs s.bot + s.w.length
theorem push_sz (s : S) (t : T) : szS (push s t) = szS s + sz t := by
  unfold push szS
  split
  · rename_i h
    rw [h]
    simp only [szk, szs_append, szs]; omega
  · rename_i k ps r h
    rw [h]
    simp only [szk, szs_append, szs]; omega
theorem flush_sz (s : S) : szS (flush s) ≤ szS s := by
  unfold flush
  split
  · exact Nat.le_refl _
  · rename_i h
    have h1 := push_sz s (.leaf (ms s.w))
    have h2 : 1 ≤ s.w.length := List.length_pos_iff.mpr h
    have h3 : szS { push s (.leaf (ms s.w)) with w := [] } + s.w.length = szS (push s (.leaf (ms s.w))) := by
      unfold szS
      rw [push_w]
      simp
    simp only [sz, cs_ms] at h1
    omega
theorem close_sz {s s' : S} (h : close s = some s') : szS s' ≤ szS s := by
  unfold close at h
  split at h
  · cases h
  · rename_i k ps r e
    cases h
    rw [push_sz]
    unfold szS
    rw [e]
    simp only [szk, sz]; omega
theorem step_sz {s s' : S} {c : Nat} (h : step s c = some s') : szS s' ≤ szS s + 1 := by
  unfold step at h
  split at h
  · cases h
    unfold szS
    simp only [List.length_append, List.length_cons, List.length_nil]; omega
  · split at h
    · cases h
      unfold szS
      simp only [szk, szs, List.length_nil]; omega
    · split at h
      · split at h
        · have := close_sz h
          have := flush_sz s
          omega
        · cases h
          have := flush_sz s
          omega
      · split at h
        · cases h
        · cases h; omega
end FM
namespace FM
open PySem
/-! ### what is_part says beside lines found before -/
def good (ls : List Str) (t : T) : Prop := okT t = true ∧ (ls ++ lv t).Nodup ∧ (ls ++ lv t).length ≤ 8
def goods (ls : List Str) (ps : List T) : Prop := okTs ps = true ∧ (ls ++ lvs ps).Nodup ∧ (ls ++ lvs ps).length ≤ 8
theorem goods_app {ls : List Str} {a b : List T} : goods ls (a ++ b) ↔ goods ls a ∧ goods (ls ++ lvs a) b := by
  unfold goods
  rw [okTs_append, lvs_append, Bool.and_eq_true, List.append_assoc]
  constructor
  · rintro ⟨⟨h1, h2⟩, h3, h4⟩
    have h3' : ((ls ++ lvs a) ++ lvs b).Nodup := by rw [List.append_assoc]; exact h3
    refine ⟨⟨h1, (List.nodup_append.mp h3').1, ?_⟩, h2, h3, h4⟩
    simp only [List.length_append] at h4 ⊢; omega
  · rintro ⟨⟨h1, _, _⟩, h2, h3, h4⟩
    exact ⟨⟨h1, h2⟩, h3, h4⟩
theorem goods_one {ls : List Str} {t : T} : goods ls [t] ↔ good ls t := by
  unfold goods good
  simp only [okTs, lvs, Bool.and_true, List.append_nil]
theorem goods_nil {ls : List Str} (h : ls.Nodup) (h2 : ls.length ≤ 8) : goods ls [] := by
  unfold goods
  simp only [okTs, lvs, List.append_nil]
  exact ⟨True.intro, h, h2⟩
theorem good_node {ls : List Str} {k : Str} {ps : List T} : good ls (.node k ps) ↔ isKind k = true ∧ 2 ≤ ps.length ∧ goods ls ps := by
  unfold good goods
  simp only [okT, lv, Bool.and_eq_true, decide_eq_true_eq]
  constructor
  · rintro ⟨⟨h1, h2, h3⟩, h4, h5⟩; exact ⟨h1, h2, h3, h4, h5⟩
  · rintro ⟨h1, h2, h3, h4, h5⟩; exact ⟨⟨h1, h2, h3⟩, h4, h5⟩
theorem good_leaf {ls : List Str} {s : Str} : good ls (.leaf s) ↔ isLine (cs s) = true ∧ (ls ++ [s]).Nodup ∧ (ls ++ [s]).length ≤ 8 := by
  unfold good
  simp only [okT, lv]
theorem goods_step {ls : List Str} {ps : List T} {i : Nat} {t : T} (h : ps[i]? = some t) : goods ls (ps.take (i + 1)) ↔ goods ls (ps.take i) ∧ good (ls ++ lvs (ps.take i)) t := by
  have e : ps.take (i + 1) = ps.take i ++ [t] := by rw [List.take_add_one, h]; rfl
  rw [e, goods_app, goods_one]
theorem goods_take {ls : List Str} {ps : List T} (i : Nat) (h : goods ls ps) : goods ls (ps.take i) := by
  rw [← List.take_append_drop i ps] at h
  exact (goods_app.mp h).1
theorem lvs_step {ps : List T} {i : Nat} {t : T} (h : ps[i]? = some t) : lvs (ps.take (i + 1)) = lvs (ps.take i) ++ lv t := by
  have e : ps.take (i + 1) = ps.take i ++ [t] := by rw [List.take_add_one, h]; rfl
  rw [e, lvs_append]
  simp only [lvs, List.append_nil]
theorem plan_good {t : T} : plan t = true ↔ good [] t := by
  rw [plan_iff]
  unfold good
  rw [List.nil_append]
theorem count_one {ls : List Str} {s : Str} (h : ls.Nodup) : (ls ++ [s]).count s = 1 ↔ (ls ++ [s]).Nodup := by
  rw [List.count_append, List.nodup_append]
  have e : [s].count s = 1 := by simp
  rw [e]
  constructor
  · intro hc
    have h0 : ls.count s = 0 := by omega
    refine ⟨h, by simp, fun a ha b hb => ?_⟩
    simp only [List.mem_singleton] at hb
    subst hb
    rintro rfl
    exact (List.count_eq_zero.mp h0) ha
  · rintro ⟨_, _, hc⟩
    have : ls.count s = 0 := List.count_eq_zero.mpr fun hm => hc s hm s (by simp) rfl
    omega
mutual
theorem lv_mem_dp : ∀ (t : T) (k : Str) (ps : List T), t = .node k ps → ∀ u ∈ ps, dp u < dp t
  | .leaf _, _, _, h, _, _ => by cases h
  | .node k ps, _, _, h, u, hu => by
    cases h
    have := dps_ge ps u hu
    simp only [dp]; omega
theorem dps_ge : ∀ (ps : List T) (u : T), u ∈ ps → dp u ≤ dps ps
  | [], _, h => by cases h
  | t :: r, u, h => by
    simp only [dps]
    rcases List.mem_cons.mp h with rfl | h
    · omega
    · have := dps_ge r u h; omega
end
theorem lvs_mem : ∀ (ps : List T) (u : T), u ∈ ps → ∀ s ∈ lv u, s ∈ lvs ps
  | [], _, h, _, _ => by cases h
  | t :: r, u, h, s, hs => by
    simp only [lvs]
    rcases List.mem_cons.mp h with rfl | h
    · exact List.mem_append_left _ hs
    · exact List.mem_append_right _ (lvs_mem r u h s hs)
end FM
namespace FM
open PySem L2
/-! ### the text by places -/
def top (i : Nat) : Stmt := PySem.Challenge.pw_frontmeets_k22_whole_one_character_chang.main.body.getD i (.Pass ⟨0, 0, 0, 0⟩)
abbrev sIPlan : Stmt := inClass (top 2) 0
abbrev sIText : Stmt := inClass (top 3) 0
abbrev sKind : Stmt := top 8
abbrev sLine : Stmt := top 12
abbrev sPart : Stmt := top 13
abbrev sPlan : Stmt := top 14
abbrev sCheck : Stmt := top 15
abbrev sForm : Stmt := top 18
abbrev sEnd : Stmt := top 19
abbrev sRead : Stmt := top 20
abbrev sFormat : Stmt := top 21
abbrev sParse : Stmt := top 22
abbrev sCell : Stmt := top 24
abbrev sPool : Stmt := top 25
abbrev sDraw : Stmt := top 26
abbrev sMixed : Stmt := top 27
abbrev sCalls : Stmt := top 28
abbrev sSort : Stmt := top 29
abbrev sTree : Stmt := top 30
abbrev sFound : Stmt := top 31
abbrev sIsTree : Stmt := top 32
abbrev sWritten : Stmt := top 33
abbrev sLRead : Stmt := top 34
abbrev sTold : Stmt := top 35
abbrev sRight : Stmt := top 36
abbrev sLaw : Stmt := top 37
/-! ### the module's constants and the built-in names -/
abbrev LET : Str := "abcdefghijklmnopqrstuvwxyz"
abbrev GAPs : Str := ", "
structure Names0 (mg : Str → Option Value) : Prop where
  most : ∃ t, mg "MOST_LINES" = some (.int 8 t)
  low : ∃ t, mg "LOW" = some (.str "low" t)
  high : ∃ t, mg "HIGH" = some (.str "high" t)
  letters : ∃ t, mg "LETTERS" = some (.str "abcdefghijklmnopqrstuvwxyz" t)
  mostL : ∃ t, mg "MOST_LETTERS" = some (.int 6 t)
  gap : ∃ t, mg "GAP" = some (.str ", " t)
  isi : mg "isinstance" = none
  str : mg "str" = none
  len : mg "len" = none
  all : mg "all" = none
  tup : mg "tuple" = none
  abs : mg "abs" = none
  divm : mg "divmod" = none
  lst : mg "list" = none
  rng : mg "range" = none
  srt : mg "sorted" = none
  min : mg "min" = none
  max : mg "max" = none
  set : mg "set" = none
  int : mg "int" = none
  rpr : mg "repr" = none
theorem let_mem (c : Nat) : c ∈ LET.cps.toList ↔ letter c = true := by
  have e : LET.cps.toList = List.range' 97 26 := by decide +kernel
  rw [e, List.mem_range']
  unfold letter
  simp only [Bool.and_eq_true, decide_eq_true_eq]
  constructor
  · rintro ⟨i, h, rfl⟩; omega
  · intro h; exact ⟨c - 97, by omega, by omega⟩
theorem let_dec (c : Nat) : decide (c ∈ LET.cps.toList) = letter c := by
  cases h : letter c with
  | true => exact decide_eq_true ((let_mem c).mpr h)
  | false => exact decide_eq_false fun q => by rw [(let_mem c).mp q] at h; cases h
section
variable {X : Cx} {x s : Str} {i : Int} {pos : Pos}
theorem pgS (hm : ∃ t, X.mg x = some (.str s t)) (hg : Gl X x := by rfl) (hd : (x == ("__debug__" : Str)) = false := by decide) : PE X (.Name x pos) (tC (.str s)) := by
  obtain ⟨t, h⟩ := hm
  exact pe_glob hg h ⟨t, rfl⟩ hd
theorem pgI (hm : ∃ t, X.mg x = some (.int i t)) (hg : Gl X x := by rfl) (hd : (x == ("__debug__" : Str)) = false := by decide) : PE X (.Name x pos) (tC (.int i)) := by
  obtain ⟨t, h⟩ := hm
  exact pe_glob hg h ⟨t, rfl⟩ hd
/-- isinstance(e, str), isinstance(e, tuple) -/
theorem pIsi {e : Expr} {te : TE} {n : String} {y : Str} {p p2 pos : Pos} (he : PE X e te) (m1 : X.mg "isinstance" = none) (m2 : X.mg y = none) (hy : bootBuiltins y = some (.type n)) (g1 : Gl X "isinstance" := by rfl) (g2 : Gl X y := by rfl)
    (hn : y ≠ "__name__" := by decide) (hdb : (y == ("__debug__" : Str)) = false := by decide)
    (hs : starEach (e :: [.Name y p2]) X.env = (false, eval e X.env) :: starEach [.Name y p2] X.env := by rfl) (hs2 : starEach ([.Name y p2]) X.env = (false, eval (.Name y p2) X.env) :: starEach [] X.env := by rfl) (hpl : (backTo pos (starEach [.Name y p2] X.env)).any (·.1) = false := by rfl) :
    PE X (.Call (.Name "isinstance" p) [e, .Name y p2] [] pos) (tCB (rIsi X.K) (tCons te (tCons (tC (.ty n)) tNil))) :=
  pe_callB call_isi g1 m1 (by decide +kernel) (pa_cons he (pa_cons (pe_bltn (v := .ty n) g2 m2 hy rfl hn hdb) pa_nil hs2) hs) (by decide) (by decide) hs hpl
end
theorem bs_str : bootBuiltins "str" = some (.type "str") := by decide +kernel
theorem bs_tuple : bootBuiltins "tuple" = some (.type "tuple") := by decide +kernel
theorem iteB {b : Bool} {A B : Prop} (h1 : b = true → A) (h2 : b = false → B) : if b = true then A else B := by
  cases b with
  | true => exact iteT (h1 rfl)
  | false => exact iteF (h2 rfl)
theorem qb {Q : VK} {H : Hp} {b c : Bool} (e : b = c) (h : Q (.bl c) H) : Q (.bl b) H := by rw [e]; exact h
theorem qv {Q : VK} {H : Hp} {b c : V} (e : b = c) (h : Q c H) : Q b H := by rw [e]; exact h
/-! ### the heap: tuples stand for ever -/
def TupK (H H' : Hp) : Prop := ∀ b xs, H b = some (.tup xs) → H' b = some (.tup xs)
theorem TupK.refl (H : Hp) : TupK H H := fun _ _ h => h
theorem TupK.trans {H H1 H2 : Hp} (a : TupK H H1) (b : TupK H1 H2) : TupK H H2 := fun c o h => b c o (a c o h)
theorem same_tup {H H' : Hp} (s : Same H H') : TupK H H' := fun b xs h => s b _ h
/-- all but the one at l is as it was -/
def SameBut (l : Addr) (H H' : Hp) : Prop := ∀ b o, b ≠ l → H b = some o → H' b = some o
theorem SameBut.trans {l : Addr} {H H1 H2 : Hp} (a : SameBut l H H1) (b : SameBut l H1 H2) : SameBut l H H2 := fun c o h e => b c o h (a c o h e)
theorem Same.but {H H' : Hp} (l : Addr) (s : Same H H') : SameBut l H H' := fun b o _ h => s b o h
theorem SameBut.tup {l : Addr} {H H' : Hp} {xs : List V} (s : SameBut l H H') (h : H l = some (.lst xs)) : TupK H H' := fun b ys e => s b _ (fun z => by rw [z, h] at e; cases e) e
theorem same_new {H H' : Hp} {p : Addr} {o : HO} (s : Same H H') (h : H' p = none) : Same H (upd H' p o) := fun b u e => by
  have e' := s b u e
  rw [upd_ne (ne_of_none e' h)]; exact e'
theorem same_upd {H : Hp} {p : Addr} {o : HO} (h : H p = none) : Same H (upd H p o) := same_new (Same.refl H) h
/-! ### a tree as a value -/
mutual
def At (H : Hp) : V → T → Prop
  | v, .leaf s => v = .str s
  | v, .node k ps => ∃ a b vs, v = .ref a ∧ H a = some (.tup [.str k, .ref b]) ∧ H b = some (.tup vs) ∧ Ats H vs ps
def Ats (H : Hp) : List V → List T → Prop
  | vs, [] => vs = []
  | vs, t :: r => ∃ v ws, vs = v :: ws ∧ At H v t ∧ Ats H ws r
end
mutual
theorem At.keep {H H' : Hp} (s : TupK H H') : ∀ (t : T) (v : V), At H v t → At H' v t
  | .leaf _, _, h => by simp only [At] at h ⊢; exact h
  | .node k ps, v, h => by
    simp only [At] at h ⊢
    obtain ⟨a, b, vs, e, h1, h2, h3⟩ := h
    exact ⟨a, b, vs, e, s _ _ h1, s _ _ h2, Ats.keep s ps vs h3⟩
theorem Ats.keep {H H' : Hp} (s : TupK H H') : ∀ (ps : List T) (vs : List V), Ats H vs ps → Ats H' vs ps
  | [], _, h => by simp only [Ats] at h ⊢; exact h
  | t :: r, vs, h => by
    simp only [Ats] at h ⊢
    obtain ⟨v, ws, e, h1, h2⟩ := h
    exact ⟨v, ws, e, At.keep s t v h1, Ats.keep s r ws h2⟩
end
theorem Ats.len {H : Hp} : ∀ {ps : List T} {vs : List V}, Ats H vs ps → vs.length = ps.length
  | [], _, h => by simp only [Ats] at h; rw [h]; rfl
  | t :: r, vs, h => by
    simp only [Ats] at h
    obtain ⟨v, ws, rfl, _, h2⟩ := h
    simp only [List.length_cons, Ats.len h2]
theorem Ats.app {H : Hp} : ∀ {ps qs : List T} {vs ws : List V}, Ats H vs ps → Ats H ws qs → Ats H (vs ++ ws) (ps ++ qs)
  | [], _, _, _, h, h2 => by simp only [Ats] at h; subst h; exact h2
  | t :: r, qs, vs, ws, h, h2 => by
    simp only [Ats] at h
    obtain ⟨v, us, rfl, h3, h4⟩ := h
    simp only [List.cons_append, Ats]
    exact ⟨v, us ++ ws, rfl, h3, Ats.app h4 h2⟩
theorem Ats.one {H : Hp} {v : V} {t : T} (h : At H v t) : Ats H [v] [t] := by
  simp only [Ats]; exact ⟨v, [], rfl, h, rfl⟩
theorem Ats.get {H : Hp} : ∀ {ps : List T} {vs : List V} {i : Nat} {v : V}, Ats H vs ps → vs[i]? = some v → ∃ t, ps[i]? = some t ∧ At H v t
  | [], _, i, v, h, e => by simp only [Ats] at h; subst h; simp at e
  | t :: r, vs, 0, v, h, e => by
    simp only [Ats] at h
    obtain ⟨u, ws, rfl, h1, _⟩ := h
    simp at e; subst e
    exact ⟨t, rfl, h1⟩
  | t :: r, vs, i + 1, v, h, e => by
    simp only [Ats] at h
    obtain ⟨u, ws, rfl, _, h2⟩ := h
    obtain ⟨t', e', h'⟩ := Ats.get h2 (by simpa using e)
    exact ⟨t', by simpa using e', h'⟩
theorem Ats.take {H : Hp} : ∀ {ps : List T} {vs : List V} (i : Nat), Ats H vs ps → Ats H (vs.take i) (ps.take i)
  | _, _, 0, _ => by simp [Ats]
  | [], _, i + 1, h => by simp only [Ats] at h; subst h; simp [Ats]
  | t :: r, vs, i + 1, h => by
    simp only [Ats] at h
    obtain ⟨u, ws, rfl, h1, h2⟩ := h
    simp only [List.take_succ_cons, Ats]
    exact ⟨u, ws.take i, rfl, h1, Ats.take i h2⟩
theorem Ats.drop {H : Hp} : ∀ {ps : List T} {vs : List V} (i : Nat), Ats H vs ps → Ats H (vs.drop i) (ps.drop i)
  | _, _, 0, h => h
  | [], _, i + 1, h => by simp only [Ats] at h; subst h; simp [Ats]
  | t :: r, vs, i + 1, h => by
    simp only [Ats] at h
    obtain ⟨u, ws, rfl, h1, h2⟩ := h
    simp only [List.drop_succ_cons]
    exact Ats.drop i h2
end FM
namespace FM
open PySem L2 PySem.Spec PyProof.Rows
/-! ### xs.count(y), texts -/
def eqSg (z : Str) (v : Value) : Bool := match v with
  | .str a _ => a == z
  | _ => false
theorem eqSg_at {A : Around} {s : Shared} {z : Str} {t : Tok} : ∀ {us : List Value} {ys : List Str}, Vals (ys.map V.str) us → ∀ y ∈ us, SeqAt.EqAt A s y (.str z t) (eqSg z y)
  | _, [], .nil => fun y hy => by cases hy
  | _, a :: r, .cons q h => fun y hy => by
    rcases List.mem_cons.mp hy with e | e
    · obtain ⟨t', rfl⟩ := q
      rw [e]
      exact SeqAt.EqAt.str_str a t' z t
    · exact eqSg_at h y e
theorem eqSg_count {z : Str} : ∀ {us : List Value} {ys : List Str}, Vals (ys.map V.str) us → us.countP (eqSg z) = ys.count z
  | _, [], .nil => rfl
  | _, a :: r, .cons q h => by
    obtain ⟨t', rfl⟩ := q
    have ih := eqSg_count (z := z) h
    rw [List.countP_cons, List.count_cons, ih]
    rfl
def rCntS (K : PySem.W.Frag) : V → List V → Hp → VK → Prop := fun x xs H Q => ∃ (p : Addr) (ys : List Str) (z : Str), x = .ref p ∧ xs = [.str z] ∧ SqL K H p (ys.map V.str) ∧ Q (.int (ys.count z : Nat)) H
theorem mt_countS {X : Cx} : MtR X "list.count" (rCntS X.K) := by
  intro pins s σ H x xs v us Q I rx rxs h
  obtain ⟨p, ys, z, rfl, rfl, hs, q⟩ := h
  cases rx
  obtain ⟨u, rfl, ru⟩ := rxs.one
  obtain ⟨t, rfl⟩ := ru
  obtain ⟨its, rv, ⟨⟨cls, dd, data, sl⟩, n, ho, hc, hdn, hd⟩, hlen⟩ := I.list hs
  simp only at hc hd
  subst hc hd
  refine call_meets PySem.F.slot_list_count ⟨_, ho, rfl⟩ PySem.F.entry_list_count (PySem.F.args_list_count_2 _ _)
    (SeqAt.list_countAt p its.toArray n dd sl (.str z t) (eqSg z)) ⟨ho, fun y hy => eqSg_at rv y (by simpa using hy), ?_⟩
  have ec : its.toArray.toList.countP (eqSg z) = ys.count z := eqSg_count rv
  refine ⟨.int (ys.count z : Nat), H, I.tok _, ⟨s.toks, ?_⟩, q⟩
  rw [ec]
end FM
namespace FM
open PySem L2 PySem.Builtin.Str
theorem tw_all {p : Nat → Bool} : ∀ l : List Nat, l.all p = true → l.takeWhile p = l
  | [], _ => rfl
  | a :: r, h => by
    simp only [List.all_cons, Bool.and_eq_true] at h
    rw [List.takeWhile_cons, if_pos h.1, tw_all r h.2]
theorem tw_not {p : Nat → Bool} : ∀ l : List Nat, l.all p = false → ∃ a r, l.drop (l.takeWhile p).length = a :: r ∧ p a = false
  | [], h => by simp at h
  | a :: r, h => by
    by_cases ha : p a = true
    · simp only [List.all_cons, ha, Bool.true_and] at h
      obtain ⟨b, q, e, hb⟩ := tw_not r h
      refine ⟨b, q, ?_, hb⟩
      rw [List.takeWhile_cons, if_pos ha, List.length_cons, List.drop_succ_cons]
      exact e
    · have ha : p a = false := by simpa using ha
      refine ⟨a, r, ?_, ha⟩
      rw [List.takeWhile_cons, if_neg (by rw [ha]; simp)]
      rfl
theorem tw_len {p : Nat → Bool} : ∀ (l : List Nat) (a : Nat), p a = false → (l ++ [a]).takeWhile p = l.takeWhile p
  | [], a, h => by simp [h]
  | b :: r, a, h => by
    rw [List.cons_append, List.takeWhile_cons, List.takeWhile_cons]
    split
    · rw [tw_len r a h]
    · rfl
theorem tw_le {p : Nat → Bool} : ∀ l : List Nat, (l.takeWhile p).length ≤ l.length
  | [] => Nat.le_refl _
  | a :: r => by
    rw [List.takeWhile_cons]
    have := tw_le (p := p) r
    split
    · simp only [List.length_cons]; omega
    · simp
theorem let_has : LET.cps.contains = letter := by
  funext c
  rw [← let_dec c, Bool.eq_iff_iff, decide_eq_true_eq]
  simp [Array.contains_iff_mem]
/-- a text strips to nothing of letters if it has nothing but letters -/
theorem strip_nil (x : Str) : decide (V.str (Txt.stripChars x LET) = V.str "") = (cs x).all letter := by
  have e0 : ("" : Str) = ⟨#[]⟩ := by decide +kernel
  have es : Txt.stripChars x LET = strSub x (stripLo letter true x) (stripHi letter true x (stripLo letter true x)) := by
    have := PyProof.Rows.stripBy_eq LET.cps.contains true true x
    rw [let_has] at this
    unfold Txt.stripChars
    rw [let_has]
    exact this
  have hlen : (strSub x (stripLo letter true x) (stripHi letter true x (stripLo letter true x))).cps.size = stripHi letter true x (stripLo letter true x) - stripLo letter true x := by
    have h1 : stripHi letter true x (stripLo letter true x) ≤ x.cps.size := by
      show x.length - _ ≤ x.cps.size
      exact Nat.sub_le _ _
    show (x.cps.extract _ _).size = _
    rw [Array.size_extract, Nat.min_eq_left h1]
  have hl : stripLo letter true x = ((cs x).takeWhile letter).length := rfl
  have hh : stripHi letter true x (stripLo letter true x) = x.length - (((cs x).drop ((cs x).takeWhile letter).length).reverse.takeWhile letter).length := rfl
  have hc : (cs x).length = x.length := Array.length_toList
  cases h : (cs x).all letter with
  | true =>
    refine decide_eq_true (congrArg V.str ?_)
    rw [es, e0]
    have z : (strSub x (stripLo letter true x) (stripHi letter true x (stripLo letter true x))).cps.size = 0 := by
      rw [hlen, hh, hl, tw_all _ h]
      omega
    cases e : strSub x (stripLo letter true x) (stripHi letter true x (stripLo letter true x)) with
    | mk a =>
      rw [e] at z
      have : a = #[] := Array.size_eq_zero_iff.mp z
      rw [this]
  | false =>
    refine decide_eq_false fun q => ?_
    have q := V.str.inj q
    rw [es, e0] at q
    have z : (strSub x (stripLo letter true x) (stripHi letter true x (stripLo letter true x))).cps.size = 0 := by rw [q]; rfl
    rw [hlen, hh, hl] at z
    obtain ⟨a, r, e, ha⟩ := tw_not _ h
    rw [e, List.reverse_cons, tw_len _ a ha] at z
    have h1 := tw_le (p := letter) r.reverse
    rw [List.length_reverse] at h1
    have h2 : (cs x).length - ((cs x).takeWhile letter).length = r.length + 1 := by
      have := congrArg List.length e
      rw [List.length_drop, List.length_cons] at this
      exact this
    omega
end FM
namespace FM
open PySem PySem.Spec PyProof.Rows
/-! ### set(xs) of a list of texts -/
/-- the texts met, each once -/
def met (f : Nat → Str) : Nat → List Str
  | 0 => []
  | i + 1 => if f i ∈ met f i then met f i else met f i ++ [f i]
theorem met_len (f : Nat → Str) : ∀ i, (met f i).length ≤ i
  | 0 => Nat.le_refl _
  | i + 1 => by
    have := met_len f i
    unfold met
    split
    · omega
    · rw [List.length_append]; simp only [List.length_cons, List.length_nil]; omega
theorem met_has (f : Nat → Str) (i : Nat) (k : Str) : (decide (k ∈ met f i) || decide (k = f i)) = decide (k ∈ met f (i + 1)) := by
  rw [← Bool.decide_or]
  refine decide_eq_decide.mpr ?_
  rw [met]
  split
  · rename_i h
    constructor
    · rintro (q | rfl)
      · exact q
      · exact h
    · exact .inl
  · rw [List.mem_append, List.mem_singleton]
theorem met_size (f : Nat → Str) (i : Nat) : (if decide (f i ∈ met f i) = true then (met f i).length else (met f i).length + 1) = (met f (i + 1)).length := by
  rw [met]
  by_cases h : f i ∈ met f i
  · rw [if_pos h, if_pos (decide_eq_true h)]
  · rw [if_neg h, if_neg (by simpa using h), List.length_append]; rfl
theorem setOf_eq {P : Program} {w : World} {h : Heap} {a : Addr} {S S' : Str → Bool} {n n' : Nat} (q : h.SetOf (PySem.strKind P w) a S n) (e : ∀ k, S k = S' k) (en : n = n') : h.SetOf (PySem.strKind P w) a S' n' := by
  cases (funext e : S = S')
  cases en
  exact q
theorem setOf_move {P : Program} {w : World} {h h' : Heap} {a : Addr} {S : Str → Bool} {n : Nat} (q : h.SetOf (PySem.strKind P w) a S n) (k : ∀ o, h.get? a = some o → h'.get? a = some o) : h'.SetOf (PySem.strKind P w) a S n := by
  obtain ⟨o, es, ep, t, ho, z⟩ := q
  exact ⟨o, es, ep, t, k o ho, z⟩
abbrev MetIn (P : Program) (w : World) (h : Heap) (a : Addr) (f : Nat → Str) (i : Nat) : Prop := h.SetOf (PySem.strKind P w) a (fun k => decide (k ∈ met f i)) (met f i).length
section
variable {prog : Program} {w : World} {A : Around} {R : Result → Shared → Prop} {I : Addr} {fp wr : List Addr} {G : Array GenState → Array GenState → Prop} {n : Nat} {Pv : Nat → Value → Prop} {St : Nat → Shared → Prop}
theorem set_fill (W : WalksS prog w A.in1 I fp wr G n Pv St) (a : Addr) (ha : a ∉ fp) (f : Nat → Str) (hf : ∀ i v, Pv i v → ∃ t, v = .str (f i) t) (hn : n + 1 < scanBound) (k : Nat) :
    ∀ (i : Nat) (s : Shared), i + k = n → St i s → MetIn prog w s.heap a f i → (∀ s', Moved (a :: wr) G s s' → MetIn prog w s'.heap a f n → R (.ok (.ret .none)) s') →
      codeAny (model prog w) A (.builtin "set.update.loop" ⟨[.ref a, .ref I], []⟩) R s := by
  have haw : a ∉ wr := fun z => ha (W.sub _ z)
  have more : ∀ b ∈ wr, b ∈ a :: wr := fun b z => List.mem_cons_of_mem _ z
  induction k with
  | zero =>
    intro i s e st q hR
    obtain rfl : i = n := e
    refine codeAny_builtin PyProof.Rows.F.entry_set_update_loop ?_
    rw [Around.under_plainId PyProof.Rows.F.plain_set_update_loop _]
    refine wpAny_bind (m := pyNext (.ref I)) (W.done s _ _ st fun s' m => ?_)
    exact wpAny_pure (hR s' (m.mono more) (setOf_move q fun o ho => m.heap a o haw ho))
  | succ k ih =>
    intro i s e st q hR
    refine codeAny_builtin PyProof.Rows.F.entry_set_update_loop ?_
    rw [Around.under_plainId PyProof.Rows.F.plain_set_update_loop _]
    refine wpAny_bind (m := pyNext (.ref I)) (W.item i s _ _ (by omega) st fun v s' hP st' m => ?_)
    obtain ⟨t, rfl⟩ := hf i v hP
    have q1 : MetIn prog w s'.heap a f i := setOf_move q fun o ho => m.heap a o haw ho
    refine wpAny_bind (m := holding [Value.str (f i) t] (setAdd a (.str (f i) t))) (wpAny_holding ?_)
    unfold setAdd
    refine wpAny_holding (wpAny_bind ((PySem.strKind prog w).pyHash (k := f i) (strKind_is _ _ _ _) ?_))
    have room : (met f i).length + 1 < scanBound := by have := met_len f i; omega
    refine wpAny_setAddHashed_of (knd := PySem.strKind prog w) (s := { s' with toks := s'.toks + 1 }) (strKind_is _ _ _ _) rfl q1 room fun h' sb q2 => ?_
    have q3 : MetIn prog w h' a f (i + 1) := setOf_eq q2 (met_has f i) (met_size f i)
    have stay : ∀ b, b ≠ a → ∀ o, s'.heap.get? b = some o → h'.get? b = some o := fun b hb o ho => (sb.2 b hb).trans ho
    refine wpAny_pure ⟨plainId_quiet PyProof.Rows.F.plain_set_update_loop _, ih (i + 1) _ (by omega) (W.frame _ s' _ _ st' (Nat.le_succ _) fun b hb o ho => stay b (fun z => ha (z ▸ hb)) o ho) q3 fun s2 m2 q4 => ?_⟩
    exact hR s2 (Moved.trans W.gtrans ((m.mono more).then_heap (Nat.le_succ _) fun b o hb ho => stay b (fun z => hb (z ▸ List.mem_cons_self)) o ho) m2) q4
end
theorem texts_at : ∀ {us : List Value} {xs : List Str}, Paired L2.RelV (xs.map L2.V.str) us → ∀ (i : Nat) (v : Value), us[i]? = some v → ∃ t, v = .str (xs.getD i Str.empty) t
  | _, [], .nil, i, v, h => by simp at h
  | _, x :: xs, .cons q r, 0, v, h => by
    obtain ⟨t, rfl⟩ := q
    simp at h
    exact ⟨t, h.symm⟩
  | _, x :: xs, .cons q r, i + 1, v, h => by
    obtain ⟨t, e⟩ := texts_at r i v (by simpa using h)
    exact ⟨t, by rw [e]; rfl⟩
section
variable {prog : Program} {w : World} {A : Around} {E : Value → Shared → Prop} {s : Shared}
abbrev setO (led : Bool) : Obj := { cls := .type "set", dict := none, data := .set #[] 0 (.fresh 0 0 led) }
theorem call_set_texts {l : Addr} {its : List Value} {xs : List Str} {Q : Value → Shared → Prop} (hh : A.handled = none) (hl : s.heap.IsList l its.toArray) (hx : Paired L2.RelV (xs.map L2.V.str) its) (hn : xs.length + 1 < scanBound)
    (h : ∀ (h' : Heap) (tk : Nat), MetIn prog w h' s.heap.objs.size (fun i => xs.getD i Str.empty) xs.length → (∀ b o, s.heap.get? b = some o → h'.get? b = some o) → Q (.ref s.heap.objs.size) { s with heap := h', toks := tk }) :
    wpAny (model prog w) A (call (.type "set") [.ref l]) Q E s := by
  have hsz : its.toArray.size = xs.length := by rw [List.size_toArray, ← Paired.length hx, List.length_map]
  obtain ⟨c, tl, hmro⟩ := PySem.F.called_set.mro
  have hmade := PySem.F.called_set.made
  have hsub := PySem.F.called_set.sub
  refine wpAny_call (codeAny_of_tree ?_)
  show wpAny _ _ (callAny (.type "set") _) _ _ _
  refine wpAny_pure ⟨Code.quiet_builtin _ (by decide +kernel), codeAny_builtin PySem.F.entry_type_call ?_⟩
  rw [Around.under_plain (weight_type_call_type "set" [.ref l] []) rfl]
  have h1 := PySem.F.called_set.notType
  have h2 := PySem.F.called_set.canCreate
  have hct := PySem.F.typeCall_set_1 (.ref l)
  repeat (any_goals (first | assumption | wp_step))
  refine codeAny_mono (code_set_new_1 (.ref l) (E := E) (Q₁ := fun obj s₁ => ∃ led : Bool, obj = .ref s.heap.objs.size ∧ s₁ = { s with heap := s.heap.push (setO led) }) fun led => ⟨led, rfl, rfl⟩) fun r s₁ hr => ?_
  cases r with
  | error e => exact hr
  | ok fl =>
    cases fl with
    | ret obj =>
      obtain ⟨led, rfl, rfl⟩ := hr
      have gS : (s.heap.push (setO led)).get? s.heap.objs.size = some (setO led) := Heap.get?_push_size _ rfl
      have hT : Shared.TypeIs { s with heap := s.heap.push (setO led) } (.ref s.heap.objs.size) "set" := ⟨_, gS, rfl⟩
      have hli := PySem.F.called_set.init.lookup
      have hbi := PySem.F.called_set.init.bind (.ref s.heap.objs.size)
      repeat (any_goals (first | assumption | wp_step))
      refine codeAny_mono (codeAny_call_builtin (R := wants (fun r s₂ => r = .none ∧ ∃ h' tk, s₂ = { s with heap := h', toks := tk } ∧ MetIn prog w h' s.heap.objs.size (fun i => xs.getD i Str.empty) xs.length ∧ (∀ b o, s.heap.get? b = some o → h'.get? b = some o)) E)
        PySem.F.called_set.init.plain PySem.F.entry_set_init (check_set_init_1 hT ?_)) fun r₂ s₂ hr₂ => ?_
      · obtain ⟨⟨ocls, odict, odata, oslots⟩, hol, hcl, nl, hdl⟩ := hl
        simp only at hcl hdl
        subst hcl hdl
        have gl : (s.heap.push (setO led)).get? l = some { cls := .type "list", dict := odict, data := .seq its.toArray nl, slots := oslots } := Heap.get?_push_of_some _ hol
        have hsls := PySem.F.sub_list_set
        have hslf := PySem.F.sub_list_frozenset
        have hne : (Value.type "list" == Value.type "dict") = false := by decide
        have il : (s.heap.push (setO led)).IsList l its.toArray := ⟨_, gl, rfl, nl, rfl⟩
        unfold Builtin.«set.__init__» noKeywords Builtin.Frozenset.updateFrom
        generalize hPI : pyIter = PI
        wp_walk
        subst hPI
        refine wpAny_pyIter_list il (wpAny_bind (wpAny_runValue ?_))
        have lt : l < s.heap.objs.size := Heap.lt_size hol
        have es : (s.heap.push (setO led)).objs.size = s.heap.objs.size + 1 := Heap.size_push _ _
        have n1 : l ≠ (s.heap.push (setO led)).objs.size := by rw [es]; exact Nat.ne_of_lt (Nat.lt_succ_of_lt lt)
        have n2 : s.heap.objs.size ∉ [(s.heap.push (setO led)).objs.size, l] := by
          rw [es]
          simp only [List.mem_cons, List.not_mem_nil, or_false, not_or]
          exact ⟨Nat.ne_of_lt (Nat.lt_succ_self _), Nat.ne_of_gt lt⟩
        have hv : ∀ (i : Nat) (v : Value), its.toArray[i]? = some v → ∃ t, v = .str (xs.getD i Str.empty) t := fun i v e => texts_at hx i v (by simpa using e)
        refine set_fill ((Walks.list (prog := prog) (w := w) (A := A.in1.in1.in1) (by simp [hh]) _ l n1 its.toArray).toS) s.heap.objs.size n2 (fun i => xs.getD i Str.empty) hv (by rw [hsz]; exact hn) its.toArray.size 0 _ (Nat.zero_add _)
          ⟨⟨_, Heap.get?_push_size _ rfl, rfl, rfl⟩, il.push _⟩ ?start ?fin
        case start =>
          have g2 : ((s.heap.push (setO led)).push { cls := .type "list_iterator", data := .fields #[.ref l, .int 0 0] }).get? s.heap.objs.size = some (setO led) := Heap.get?_push_of_some _ gS
          exact setOf_eq ((PyProof.Rows.setObjOf_fresh (knd := PySem.strKind prog w) led).setOf g2 (by unfold scanBound; omega)) (fun k => by simp [met]) rfl
        case fin =>
          intro s' m q
          obtain ⟨h', g', d', tk', os'⟩ := s'
          obtain rfl : g' = s.gens := m.gens
          obtain rfl : d' = s.drawn := m.drawn
          obtain rfl : os' = s.os := m.os
          rw [hsz] at q
          show wpAny _ _ _ _ _ _
          refine wpAny_pure ?_
          show wpAny _ _ (ret Value.none) _ _ _
          refine wpAny_pure ⟨rfl, h', tk', rfl, q, fun b o ho => ?_⟩
          have hb := Heap.lt_size ho
          have b1 : b ≠ s.heap.objs.size := Nat.ne_of_lt hb
          have b2 : b ≠ (s.heap.push (setO led)).objs.size := by rw [es]; exact Nat.ne_of_lt (Nat.lt_succ_of_lt hb)
          exact m.heap b o (by simp only [List.mem_cons, List.not_mem_nil, or_false, not_or]; exact ⟨b1, b2⟩) (Heap.get?_push_of_some _ (Heap.get?_push_of_some _ ho))
      · cases r₂ with
        | error e => exact hr₂
        | ok fl₂ =>
          cases fl₂ with
          | ret r =>
            obtain ⟨rfl, h', tk, rfl, q, kp⟩ := hr₂
            repeat (any_goals (first | assumption | wp_step))
            exact h _ _ q kp
          | _ => exact hr₂.elim
    | _ => exact hr.elim
end
end FM
namespace FM
open PySem L2
theorem met_uniq (f : Nat → Str) : ∀ n, (met f n).length = n ↔ ((List.range n).map f).Nodup
  | 0 => by simp [met]
  | n + 1 => by
    have ih := met_uniq f n
    have hl := met_len f n
    have mem : ∀ m k, k ∈ met f m ↔ ∃ i, i < m ∧ f i = k := by
      intro m
      induction m with
      | zero => intro k; simp [met]
      | succ m ih =>
        intro k
        rw [met]
        split
        · rename_i h
          rw [ih]
          constructor
          · rintro ⟨i, hi, e⟩; exact ⟨i, by omega, e⟩
          · rintro ⟨i, hi, e⟩
            by_cases him : i = m
            · subst him; subst e; exact (ih _).mp h
            · exact ⟨i, by omega, e⟩
        · rw [List.mem_append, List.mem_singleton, ih]
          constructor
          · rintro (⟨i, hi, e⟩ | e)
            · exact ⟨i, by omega, e⟩
            · exact ⟨m, by omega, e.symm⟩
          · rintro ⟨i, hi, e⟩
            by_cases him : i = m
            · subst him; exact .inr e.symm
            · exact .inl ⟨i, by omega, e⟩
    rw [List.range_succ, List.map_append, List.nodup_append, met]
    constructor
    · intro h
      split at h
      · omega
      · rename_i hm
        rw [List.length_append] at h
        simp only [List.length_cons, List.length_nil] at h
        refine ⟨ih.mp (by omega), by simp, fun a ha b hb => ?_⟩
        simp only [List.map_cons, List.map_nil, List.mem_singleton] at hb
        subst hb
        rintro rfl
        simp only [List.mem_map, List.mem_range] at ha
        obtain ⟨i, hi, e⟩ := ha
        exact hm ((mem n _).mpr ⟨i, hi, e⟩)
    · rintro ⟨h1, _, h2⟩
      have hm : f n ∉ met f n := fun z => by
        obtain ⟨i, hi, e⟩ := (mem n _).mp z
        exact h2 (f i) (List.mem_map.mpr ⟨i, List.mem_range.mpr hi, rfl⟩) (f n) (by simp) e
      rw [if_neg hm, List.length_append, ih.mpr h1]
      rfl
theorem range_getD (xs : List Str) : (List.range xs.length).map (fun i => xs.getD i Str.empty) = xs := by
  refine List.ext_getElem (by simp) fun i h1 h2 => ?_
  simp [List.getD_eq_getElem?_getD, h2]
theorem bs_set : bootBuiltins "set" = some (.type "set") := by decide +kernel
/-- len(set(xs)), xs a list of texts: how it stands to their number -/
def tLenSetS (K : PySem.W.Frag) (ta : TE) : TE := fun σ H Q => ta σ H fun x H1 => ∃ (l : Addr) (xs : List Str), x = .ref l ∧ SqL K H1 l (xs.map V.str) ∧ xs.length ≤ 4000 ∧ ∀ n : Nat, (n = xs.length ↔ xs.Nodup) → Q (.int (n : Int)) H1
theorem pe_lenSetS {X : Cx} {a : Expr} {ta : TE} {p p2 q pos : Pos} (hg : Gl X "len") (hm : X.mg "len" = none) (hg2 : Gl X "set") (hm2 : X.mg "set" = none) (ha : PE X a ta) (hc : X.calm = true := by rfl)
    (na : starEach [a] X.env = (false, eval a X.env) :: starEach [] X.env := by rfl) : PE X (.Call (.Name "len" p) [.Call (.Name "set" p2) [a] [] q] [] pos) (tLenSetS X.K ta) := by
  refine ⟨fun pins s σ H Q I h => ?_⟩
  refine PyProof.Rows.Call_ (ld_blt I hg hm boot_len (PyProof.Rows.callWith_builtin1 (PyProof.Rows.args_cons ?_ rfl) rfl rfl))
  refine PyProof.Rows.Call_ (ld_blt I hg2 hm2 bs_set (PyProof.Rows.callWith_type1 (PyProof.Rows.args_cons (thn (ha.run pins s σ H _ I h) fun v s1 ⟨x, H1, I1, r1, q1⟩ => PyProof.Rows.args_nil ?_) na) na rfl))
  obtain ⟨l, xs, rfl, hq, hn, q1⟩ := q1
  cases r1
  obtain ⟨its, r, pl, hz⟩ := I1.list hq
  refine call_set_texts (I1.ok.hd hc) pl.isList r (by unfold scanBound; omega) fun h' tk hS hk => ?_
  refine PyProof.Rows.args_nil ?_
  have hle := met_len (fun i => xs.getD i Str.empty) xs.length
  obtain ⟨o, es, ep, t, ho, hex, hd, _, _, _, hf, hn2⟩ := hS
  have I2 : Inv X pins σ H1 { s1 with heap := h', toks := tk } := I1.kept hk
  refine call_len_set ho hex hd hf (by rw [hn2]; omega) ⟨.int ((met (fun i => xs.getD i Str.empty) xs.length).length : Nat), H1, I2.tok _, ⟨_, by rw [hn2]⟩, q1 _ ?_⟩
  rw [met_uniq, range_getD]
end FM
namespace FM
open PySem L2
section
variable {P : Program} {w : World} {K : PySem.W.Frag} {mg : Str → Option Value} {base : Heap}
/-! ### is_kind -/
def spKind : Sp := fun vs H Q _ => ∃ s : Str, vs = [.str s] ∧ ∀ H', Same H H' → Q (.bl (isKind s)) H'
theorem scKind : FnScope ["value"] ["value"] (defScope sKind) := ⟨rfl, rfl, rfl, by decide +kernel, rfl, by decide +kernel, by decide +kernel⟩
theorem inV_kind (s : Str) : inV (V.str s) [V.str "low", V.str "high"] = isKind s := by
  unfold inV isKind kLow kHigh
  simp only [List.any_cons, List.any_nil, Bool.or_false]
  have e : ∀ a : Str, eqV (V.str a) (V.str s) = decide (s = a) := fun a => by
    show (a == s) = decide (s = a)
    by_cases h : s = a
    · rw [h, decide_eq_true rfl]; exact beq_self_eq_true a
    · rw [decide_eq_false h]; exact beq_eq_false_iff_ne.mpr fun z => h z.symm
  rw [e, e]
theorem ok_kind {f : Addr} {fd : FuncData} (F : Fun K "is_kind" "is_kind" sKind f fd) (Z : Names0 mg) : FnOk P w K mg base CX0 1 f fd ["value"] spKind := by
  refine F.ok scKind (fun vs H Q E h => ?_) (fun cdv A outer s H vs Q E hr h => ?_)
  · obtain ⟨s, rfl, _⟩ := h; rfl
  · obtain ⟨s, rfl, k⟩ := h
    refine ⟨_, pss_one (ps_ret (pe_and (pIsi (pv 0) Z.isi Z.str bs_str)
      (pe_one (pe_cmpR op_in_seq (pv 0) (pe_tup (pa_cons (pgS Z.low) (pa_cons (pgS Z.high) pa_nil))) rfl)))), ?_⟩
    refine ⟨_, rfl, .str s, .ty "str", _, _, true, rfl, .ty _, .base (.str _), kit_ty (by decide +kernel), _, rfl, ?_⟩
    refine iteT ?_
    refine ⟨_, rfl, (by show 2 ≤ sizeLine; decide), fun p hp => ?_⟩
    refine ⟨p, _, rfl, .inr (SqT.of upd_same), rfl, rfl, ?_⟩
    have e := inV_kind s
    show Q (.bl (inV (V.str s) [V.str "low", V.str "high"])) _
    rw [e]
    exact k _ (same_upd hp)
/-! ### is_line -/
def spLine : Sp := fun vs H Q _ => ∃ v, vs = [v] ∧ ((∃ s : Str, v = .str s ∧ s.length ≤ sizeLine ∧ ∀ H', Same H H' → Q (.bl (isLine (cs s))) H') ∨ (∃ a xs, v = .ref a ∧ H a = some (.tup xs) ∧ ∀ H', Same H H' → Q (.bl false) H'))
abbrev nLine : List Str := ["value", "sign"]
theorem scLine : FnScope nLine ["value"] (defScope sLine) := ⟨rfl, rfl, rfl, by decide +kernel, rfl, by decide +kernel, by decide +kernel⟩
theorem ok_line {f : Addr} {fd : FuncData} (F : Fun K "is_line" "is_line" sLine f fd) (Z : Names0 mg) : FnOk P w K mg base CX0 1 f fd ["value"] spLine := by
  refine F.ok scLine (fun vs H Q E h => ?_) (fun cdv A outer s H vs Q E hr h => ?_)
  · obtain ⟨s, rfl, _⟩ := h; rfl
  · obtain ⟨v, rfl, k⟩ := h
    refine ⟨_, pss_cons (ps_if (PW.pt (pw_or (pt_not (pt_val (pIsi (pv 0) Z.isi Z.str bs_str))) (pw_or1 (pt_not (pt_chain op_le op_le pe_int (pe_callB call_len (by rfl) Z.len PySem.boot_len (pa_cons (pv 0) pa_nil)) (pgI Z.mostL))))))
        (pss_one (ps_ret pe_bl)) pss_nil)
      (pss_one (ps_ret (pe_callB (cr_all rfl) (by rfl) Z.all (by decide +kernel) (pa_cons (pe_lc (own := [("sign", 1)]) (g := gName 1) (by rfl) scLine.nd (pi_str (pv 0))
        (blkOk_by (N := nLine) (sc := defScope sLine) (by decide +kernel)) (fun _ _ _ _ _ => pg_name (i := 1) scLine.nd rfl (Or.inl rfl)) (fun _ _ _ _ _ => pts_nil)
        (fun _ _ _ _ _ => pe_cmpR op_in_sign (pv 1) (pgS Z.letters) rfl)) pa_nil)))), ?_⟩
    rcases k with ⟨x, rfl, hz, k⟩ | ⟨a, xs, rfl, ha, k⟩
    · refine ⟨_, rfl, .str x, .ty "str", _, _, true, rfl, .ty _, .base (.str _), kit_ty (by decide +kernel), _, rfl, ?_⟩
      refine iteF ?_
      refine ⟨_, rfl, _, x.length, rfl, ⟨hz, rfl⟩, _, _, rfl, rfl, _, rfl, ?_⟩
      have ex : (cs x).length = x.length := Array.length_toList
      have no : ¬ (1 ≤ x.length ∧ x.length ≤ 6) → isLine (cs x) = false := fun h => by
        unfold isLine
        rw [ex, ← Bool.decide_and, decide_eq_false h, Bool.and_false]
      refine iteB (fun h1 => ?_) (fun h1 => ?_)
      · refine ⟨_, _, rfl, rfl, _, rfl, ?_⟩
        refine iteB (fun h2 => ?_) (fun h2 => ?_)
        · have hn : ¬ (1 ≤ x.length ∧ x.length ≤ 6) := fun q => by
            have : decide ((x.length : Int) ≤ 6) = true := decide_eq_true (by omega)
            rw [this] at h2; cases h2
          have := k H (Same.refl H)
          rw [no hn] at this
          exact this
        · have hle : 1 ≤ x.length ∧ x.length ≤ 6 := by
            have h1 := of_decide_eq_true h1
            have h2 : decide ((x.length : Int) ≤ 6) = true := by
              cases e : decide ((x.length : Int) ≤ 6) with
              | true => rfl
              | false => rw [e] at h2; cases h2
            have h2 := of_decide_eq_true h2
            omega
          refine ⟨_, rfl, x, rfl, fun D hD => ?_⟩
          refine lc_it (walk_str (z := x)) (Pv := fun i H' => Same H H' ∧ H' D = some (.lst (((cs x).take i).map fun c => V.bl (letter c)))) ?_ (fun _ _ _ _ => True.intro) ?_ ?_
          · exact ⟨same_upd hD, upd_same⟩
          · rintro i v H1 _ hi ⟨s1, d1⟩ ⟨rfl, c, hc, rfl⟩
            refine ⟨rfl, _, rfl, c, _, rfl, rfl, _, d1, ?_, ?_, ?_⟩
            · rw [List.length_map, List.length_take]
              have : (cs x).length = x.length := ex
              rw [sizeLine_eq]; omega
            · intro b o e
              rw [upd_ne (ne_of_none e hD)]
              exact s1 b o e
            · rw [upd_same, let_dec]
              have e : (cs x)[i]? = some c := by
                show x.cps.toList[i]? = some c
                rw [Array.getElem?_toList]; exact hc
              rw [List.take_add_one, e]
              simp
          · rintro H1 ⟨s1, d1⟩
            have et : (cs x).take x.cps.size = cs x := List.take_of_length_le (by rw [ex]; exact Nat.le_refl _)
            rw [et] at d1
            refine ⟨D, (cs x).map letter, rfl, ?_, ?_⟩
            · rw [List.map_map]; exact SqL.of d1
            · have e : ((cs x).map letter).all id = isLine (cs x) := by
                unfold isLine
                rw [ex, ← Bool.decide_and, decide_eq_true hle, Bool.and_true, List.all_map]
                rfl
              show Q (.bl (((cs x).map letter).all id)) _
              rw [e]
              exact k _ s1
      · have hn : ¬ (1 ≤ x.length ∧ x.length ≤ 6) := fun q => by
          have h1 := of_decide_eq_false h1
          omega
        have := k H (Same.refl H)
        rw [no hn] at this
        exact ⟨_, rfl, iteT this⟩
    · refine ⟨_, rfl, .ref a, .ty "str", _, _, false, rfl, .ty _, .base (.tup ha), kit_ty (by decide +kernel), _, rfl, ?_⟩
      refine iteT ?_
      exact k H (Same.refl H)
end
end FM
namespace FM
open PySem L2
/-- every name in a tree fits -/
def fits (t : T) : Prop := ∀ s ∈ lv t, s.length ≤ 16777216
section
variable {P : Program} {w : World} {K : PySem.W.Frag} {mg : Str → Option Value} {base : Heap}
theorem len_tup {H : Hp} {a : Addr} {xs : List V} (h : H a = some (.tup xs)) : LenV K (.ref a) H xs.length := .inr ⟨xs, SqT.of h, rfl⟩
theorem len_lst {H : Hp} {a : Addr} {xs : List V} (h : H a = some (.lst xs)) : LenV K (.ref a) H xs.length := .inl ⟨xs, SqL.of h, rfl⟩
/-! ### is_part: n bounds the depth -/
def spPart (n : Nat) : Sp := fun vs H Q _ => ∃ (v : V) (l : Addr) (t : T) (ls : List Str), vs = [v, .ref l] ∧ At H v t ∧ dp t < n ∧ fits t ∧ H l = some (.lst (ls.map V.str)) ∧ ls.Nodup ∧ ls.length ≤ 8 ∧
  (∀ H', SameBut l H H' → H' l = some (.lst ((ls ++ lv t).map V.str)) → good ls t → Q (.bl true) H') ∧ (∀ H' zs, SameBut l H H' → H' l = some (.lst zs) → ¬ good ls t → Q (.bl false) H')
abbrev nPart : List Str := ["value", "lines", "part"]
theorem scPart : FnScope nPart ["value", "lines"] (defScope sPart) := ⟨rfl, rfl, rfl, by decide +kernel, rfl, by decide +kernel, by decide +kernel⟩
theorem ok_part {f fL fK : Addr} {fd fdL fdK : FuncData} {n : Nat} (F : Fun K "is_part" "is_part" sPart f fd) (Z : Names0 mg)
    (FL : Fun K "is_line" "is_line" sLine fL fdL) (bL : Binds K fdL ["value"] []) (mL : mg "is_line" = some (.ref fL))
    (FK : Fun K "is_kind" "is_kind" sKind fK fdK) (bK : Binds K fdK ["value"] []) (mK : mg "is_kind" = some (.ref fK))
    (bP : Binds K fd ["value", "lines"] []) (mP : mg "is_part" = some (.ref f))
    (ih : FnOk P w K mg base CX0 (n + 1) f fd ["value", "lines"] (spPart n)) : FnOk P w K mg base CX0 (n + 2) f fd ["value", "lines"] (spPart (n + 1)) := by
  have GL : FnOk P w K mg base CX0 1 fL fdL ["value"] spLine := ok_line FL Z
  have GK : FnOk P w K mg base CX0 1 fK fdK ["value"] spKind := ok_kind FK Z
  refine F.ok scPart (fun vs H Q E h => ?_) (fun cdv A outer s H vs Q E hr h => ?_)
  · obtain ⟨v, l, t, ls, rfl, _⟩ := h; rfl
  obtain ⟨v, l, t, ls, rfl, hv, hd, hfit, hl, hnd, h8, kT, kF⟩ := h
  have hr1 : Room 1 (A.deeper (PyProof.Rows.envOfC "is_part" (defScope sPart) s.heap.objs.size f cdv)) := hr.mono (by omega)
  refine ⟨_, pss_cons (ps_if (pt_val (pe_call GL hr1 (by rfl) mL FL.kp bL .nil pass0 (pa_cons (pv 0) pa_nil)))
      (pss_cons (ps_expr (pe_bm PySem.F.plainAttrs_list PySem.F.slot_list_append PySem.F.type_list_append mt_append (pv 1) (pa_cons (pv 0) pa_nil)))
      (pss_one (ps_ret (pe_and (pe_cmpR op_eq (pe_bm PySem.F.plainAttrs_list PySem.F.slot_list_count PySem.F.type_list_count mt_countS (pv 1) (pa_cons (pv 0) pa_nil)) pe_int (nomark _))
        (pe_one (pe_cmpR op_le (pe_callB call_len (by rfl) Z.len PySem.boot_len (pa_cons (pv 1) pa_nil)) (pgI Z.most) (nomark _))))))) pss_nil)
    (pss_cons (ps_if (PW.pt (pw_or (pt_not (pt_val (pIsi (pv 0) Z.isi Z.tup bs_tuple))) (pw_or (pt_cmpR op_ne (pe_callB call_len (by rfl) Z.len PySem.boot_len (pa_cons (pv 0) pa_nil)) pe_int (nomark _))
        (pw_or1 (pt_not (pt_val (pe_call GK hr1 (by rfl) mK FK.kp bK .nil pass0 (pa_cons (pe_ix ix_tup (pv 0) pe_int (fun _ _ => rfl)) pa_nil)))))))) (pss_one (ps_ret pe_bl)) pss_nil)
    (pss_cons (ps_if (PW.pt (pw_or (pt_not (pt_val (pIsi (pe_ix ix_tup (pv 0) pe_int (fun _ _ => rfl)) Z.isi Z.tup bs_tuple)))
        (pw_or1 (pt_cmpR op_lt (pe_callB call_len (by rfl) Z.len PySem.boot_len (pa_cons (pe_ix ix_tup (pv 0) pe_int (fun _ _ => rfl)) pa_nil)) pe_int (nomark _))))) (pss_one (ps_ret pe_bl)) pss_nil)
    (pss_cons (ps_for PassesOwn.never rfl (pi_tup (pe_ix ix_tup (pv 0) pe_int (fun _ _ => rfl))) (pg_name (i := 2) scPart.nd rfl (Or.inl rfl))
      (pss_one (ps_if (pt_not (pt_val (pe_call ih hr (by rfl) mP F.kp bP .nil pass0 (pa_cons (pv 2) (pa_cons (pv 1) pa_nil))))) (pss_one (ps_ret pe_bl)) pss_nil)))
    (pss_one (ps_ret pe_bl))))), ?_⟩
  cases t with
  | leaf x =>
    simp only [At] at hv
    subst hv
    have hx : x.length ≤ sizeLine := by rw [sizeLine_eq]; exact hfit x (by simp [lv])
    refine ⟨_, rfl, .str x, rfl, .inl ⟨x, rfl, hx, fun H1 s1 => ⟨_, rfl, ?_⟩⟩⟩
    refine iteB (fun hline => ?_) (fun hline => ?_)
    · have hl1 := s1 _ _ hl
      refine ⟨_, rfl, .inl ⟨rfl, _, SqL.of hl1⟩, _, rfl, l, _, _, rfl, rfl, hl1, small1000 (by rw [List.length_map]; omega), ?_⟩
      have hl2 : (upd H1 l (.lst (ls.map V.str ++ [V.str x]))) l = some (.lst ((ls ++ [x]).map V.str)) := by rw [upd_same, List.map_append]; rfl
      refine ⟨_, rfl, .inl ⟨rfl, _, SqL.of hl2⟩, _, rfl, l, ls ++ [x], x, rfl, rfl, SqL.of hl2, rfl, _, rfl, ?_⟩
      have sb : SameBut l H (upd H1 l (.lst (ls.map V.str ++ [V.str x]))) := fun b o hb e => by rw [upd_ne hb]; exact s1 b o e
      refine iteB (fun hc => ?_) (fun hc => ?_)
      · have hc := of_decide_eq_true hc
        have hc : (ls ++ [x]).count x = 1 := by injection hc with hc; omega
        refine ⟨_, rfl, _, _, rfl, len_lst hl2, _, _, rfl, rfl, ?_⟩
        have em : ((ls ++ [x]).map V.str).length = (ls ++ [x]).length := List.length_map _
        by_cases h9 : (ls ++ [x]).length ≤ 8
        · have g : good ls (.leaf x) := good_leaf.mpr ⟨hline, (count_one hnd).mp hc, h9⟩
          have := kT _ sb (by simp only [lv]; exact hl2) g
          exact qb (decide_eq_true (by omega)) this
        · have g : ¬ good ls (.leaf x) := fun q => h9 (good_leaf.mp q).2.2
          have := kF _ _ sb hl2 g
          exact qb (decide_eq_false (by omega)) this
      · have g : ¬ good ls (.leaf x) := fun q => by
          have := (count_one hnd).mpr (good_leaf.mp q).2.1
          rw [this] at hc
          have z := of_decide_eq_false hc
          exact z rfl
        exact kF _ _ sb hl2 g
    · have g : ¬ good ls (.leaf x) := fun q => by rw [(good_leaf.mp q).1] at hline; cases hline
      refine ⟨_, rfl, .str x, .ty "tuple", _, _, false, rfl, .ty _, .base (.str _), kit_ty (by decide +kernel), _, rfl, ?_⟩
      exact iteT (kF _ _ (Same.but l s1) (s1 _ _ hl) g)
  | node k ps =>
    simp only [At] at hv
    obtain ⟨a, b, ws, rfl, ha, hb, hws⟩ := hv
    have hla : l ≠ a := ne_of hl ha (by intro z; cases z)
    have hlb : l ≠ b := ne_of hl hb (by intro z; cases z)
    have hlen := Ats.len hws
    refine ⟨_, rfl, .ref a, rfl, .inr ⟨a, _, rfl, ha, fun H1 s1 => ⟨_, rfl, ?_⟩⟩⟩
    refine iteF ?_
    have ha1 := s1 _ _ ha
    have hb1 := s1 _ _ hb
    refine ⟨_, rfl, .ref a, .ty "tuple", _, _, true, rfl, .ty _, .base (.tup ha1), kit_ty (by decide +kernel), _, rfl, ?_⟩
    refine iteF ?_
    refine ⟨_, rfl, _, _, rfl, len_tup ha1, rfl, _, rfl, ?_⟩
    refine iteF ?_
    refine ⟨_, rfl, a, _, 0, _, rfl, rfl, SqT.of ha1, rfl, k, rfl, fun H2 s2 => ⟨_, rfl, ?_⟩⟩
    have ha2 := s2 _ _ ha1
    have hb2 := s2 _ _ hb1
    refine iteB (fun hk => ?_) (fun hk => ?_)
    · have g : ¬ good ls (.node k ps) := fun q => by rw [(good_node.mp q).1] at hk; cases hk
      exact kF _ _ (Same.but l (s1.trans s2)) (s2 _ _ (s1 _ _ hl)) g
    have hk : isKind k = true := by
      cases e : isKind k with
      | true => rfl
      | false => rw [e] at hk; cases hk
    refine ⟨_, rfl, a, _, 1, _, rfl, rfl, SqT.of ha2, rfl, .ref b, .ty "tuple", _, _, true, rfl, .ty _, .base (.tup hb2), kit_ty (by decide +kernel), _, rfl, ?_⟩
    refine iteF ?_
    refine ⟨_, rfl, a, _, 1, _, rfl, rfl, SqT.of ha2, rfl, _, _, rfl, len_tup hb2, _, _, rfl, rfl, _, rfl, ?_⟩
    refine iteB (fun h2 => ?_) (fun h2 => ?_)
    · have g : ¬ good ls (.node k ps) := fun q => by
        have := (good_node.mp q).2.1
        have h2 := of_decide_eq_true h2
        omega
      exact kF _ _ (Same.but l (s1.trans s2)) (s2 _ _ (s1 _ _ hl)) g
    have h2 : 2 ≤ ps.length := by
      have h2 := of_decide_eq_false h2
      omega
    have gn : goods ls ps → good ls (.node k ps) := fun q => good_node.mpr ⟨hk, h2, q⟩
    -- for part in value[1]
    refine ⟨_, rfl, a, _, 1, _, rfl, rfl, SqT.of ha2, rfl, b, rfl, ⟨_, SqT.of hb2⟩, for_tup (K := K) (a := b) (xs := ws)
      (fun i σ H3 => ∃ x, σ = [some (.ref a), some (.ref l), x] ∧ SameBut l H H3 ∧ H3 l = some (.lst ((ls ++ lvs (ps.take i)).map V.str)) ∧ goods ls (ps.take i)) ?_ ?_ ?_ ?_⟩
    · refine ⟨none, rfl, Same.but l (s1.trans s2), ?_, ?_⟩
      · simp only [List.take_zero, lvs, List.append_nil]; exact s2 _ _ (s1 _ _ hl)
      · rw [List.take_zero]; exact goods_nil hnd h8
    · rintro i σ H3 _ ⟨x, rfl, sb, _, _⟩
      exact SqT.of (sb b _ (Ne.symm hlb) hb)
    · rintro i x σ H3 hx ⟨y, rfl, sb, hl3, g⟩
      obtain ⟨u, hu, hu2⟩ := Ats.get hws hx
      have hum : u ∈ ps := List.mem_of_getElem? hu
      have hdu : dp u < n := by
        have := lv_mem_dp (.node k ps) k ps rfl u hum
        omega
      have tk : TupK H H3 := SameBut.tup sb hl
      refine ⟨_, rfl, _, rfl, x, l, u, ls ++ lvs (ps.take i), rfl, At.keep tk u x hu2, hdu, fun z hz => hfit z (by simp only [lv]; exact lvs_mem ps u hum z hz), hl3, g.2.1, g.2.2, fun H4 sb4 hl4 g4 => ⟨_, rfl, ?_⟩, fun H4 zs sb4 hl4 g4 => ⟨_, rfl, ?_⟩⟩
      · refine iteF ?_
        refine ⟨_, rfl, sb.trans sb4, ?_, (goods_step hu).mpr ⟨g, g4⟩⟩
        rw [lvs_step hu, ← List.append_assoc]; exact hl4
      · refine iteT ?_
        refine kF H4 zs (sb.trans sb4) hl4 fun q => g4 ?_
        exact ((goods_step hu).mp (goods_take (i + 1) (good_node.mp q).2.2)).2
    · rintro σ H3 ⟨x, rfl, sb, hl3, g⟩
      rw [List.take_of_length_le (by omega)] at hl3 g
      exact kT H3 sb (by simp only [lv]; exact hl3) (gn g)
end
end FM
namespace FM
open PySem L2
theorem cs_app (a b : Str) : cs (a ++ b) = cs a ++ cs b := TL.tl_append a b
theorem join_wrs : ∀ ps : List T, TL.joinL [44, 32] (ps.map wr) = wrs ps
  | [] => rfl
  | [t] => by simp only [List.map_cons, List.map_nil, TL.joinL, wrs, wrt, List.append_nil]
  | t :: u :: r => by
    have ih := join_wrs (u :: r)
    simp only [List.map_cons, wrs] at ih
    simp only [List.map_cons, TL.joinL, wrs, wrt]
    rw [ih]
    simp only [List.cons_append, List.nil_append]
theorem join_cs (ps : List T) : Txt.join ", " (ps.map fun t => ms (wr t)) = ms (wrs ps) := by
  refine cs_inj ?_
  rw [cs_ms]
  show TL.tl (Txt.join _ _) = _
  rw [TL.join_eq, TL.tl_join]
  have e1 : TL.tl (", " : Str) = [44, 32] := by decide +kernel
  have e2 : (ps.map fun t => ms (wr t)).map TL.tl = ps.map wr := by
    rw [List.map_map]
    refine List.map_congr_left fun t _ => ?_
    exact cs_ms (wr t)
  rw [e1, e2, join_wrs]
theorem ms_len (l : List Nat) : (ms l).length = l.length := List.size_toArray
theorem sum_wr : ∀ ps : List T, (((ps.map fun t => ms (wr t)).map (·.length)).sum ≤ (wrs ps).length) ∧ (((ps.map fun t => ms (wr t)).map (·.length)).sum ≤ (wrt ps).length)
  | [] => by simp
  | t :: r => by
    have := sum_wr r
    simp only [List.map_cons, List.sum_cons, wrs, wrt, List.length_append, List.length_cons, ms_len]
    omega
mutual
theorem wr_mem : ∀ (ps : List T) (u : T), u ∈ ps → (wr u).length ≤ (wrs ps).length
  | [], _, h => by cases h
  | t :: r, u, h => by
    simp only [wrs, List.length_append]
    rcases List.mem_cons.mp h with rfl | h
    · omega
    · have := wrt_mem r u h; omega
theorem wrt_mem : ∀ (ps : List T) (u : T), u ∈ ps → (wr u).length ≤ (wrt ps).length
  | [], _, h => by cases h
  | t :: r, u, h => by
    simp only [wrt, List.length_append, List.length_cons]
    rcases List.mem_cons.mp h with rfl | h
    · omega
    · have := wrt_mem r u h; omega
end
theorem fits_len {t : T} (h : ∀ s ∈ lv t, s.length ≤ 1000) : fits t := fun s hs => Nat.le_trans (h s hs) (by decide)
theorem plan_fits {t : T} (h : plan t = true) : fits t := by
  have h := (plan_iff.mp h).1
  have all : (∀ t : T, okT t = true → ∀ s ∈ lv t, s.length ≤ 1000) := by
    intro t
    refine @T.rec (fun t => okT t = true → ∀ s ∈ lv t, s.length ≤ 1000) (fun ps => okTs ps = true → ∀ s ∈ lvs ps, s.length ≤ 1000) ?_ ?_ ?_ ?_ t
    · intro x hx s hs
      simp only [lv, List.mem_singleton] at hs
      subst hs
      simp only [okT, isLine, Bool.and_eq_true, decide_eq_true_eq] at hx
      have e : (cs s).length = s.length := Array.length_toList
      omega
    · intro k ps ih hx s hs
      simp only [okT, Bool.and_eq_true] at hx
      exact ih hx.2.2 s (by simpa only [lv] using hs)
    · intro _ s hs
      simp [lvs] at hs
    · intro t r h1 h2 hx s hs
      simp only [okTs, Bool.and_eq_true] at hx
      simp only [lvs, List.mem_append] at hs
      exact hs.elim (h1 hx.1 s) (h2 hx.2 s)
  exact fits_len (all t h)
/-! ### nothing can be asked at depth 0 -/
section
variable {P : Program} {w : World} {K : PySem.W.Frag} {mg : Str → Option Value} {base : Heap}
theorem fn_none {k : Nat} {f : Addr} {fd : FuncData} {ps : List Str} {sp : Sp} (no : ∀ vs H Q E, ¬ sp vs H Q E) : FnOk P w K mg base CX0 k f fd ps sp :=
  ⟨fun vs H Q E h => absurd h (no vs H Q E), fun A outer s H args us vs Q E _ _ _ _ h => absurd h (no vs H Q E)⟩
theorem part_all {f fL fK : Addr} {fd fdL fdK : FuncData} (F : Fun K "is_part" "is_part" sPart f fd) (Z : Names0 mg)
    (FL : Fun K "is_line" "is_line" sLine fL fdL) (bL : Binds K fdL ["value"] []) (mL : mg "is_line" = some (.ref fL))
    (FK : Fun K "is_kind" "is_kind" sKind fK fdK) (bK : Binds K fdK ["value"] []) (mK : mg "is_kind" = some (.ref fK))
    (bP : Binds K fd ["value", "lines"] []) (mP : mg "is_part" = some (.ref f)) : ∀ n : Nat, FnOk P w K mg base CX0 (n + 1) f fd ["value", "lines"] (spPart n)
  | 0 => fn_none fun vs H Q E h => by
    obtain ⟨v, l, t, ls, _, _, h, _⟩ := h
    omega
  | n + 1 => ok_part F Z FL bL mL FK bK mK bP mP (part_all F Z FL bL mL FK bK mK bP mP n)
/-! ### is_plan, check_plan -/
def spPlan : Sp := fun vs H Q _ => ∃ (v : V) (t : T), vs = [v] ∧ At H v t ∧ dp t ≤ 8 ∧ fits t ∧ ∀ H', Same H H' → Q (.bl (plan t)) H'
theorem scPlan : FnScope ["value"] ["value"] (defScope sPlan) := ⟨rfl, rfl, rfl, by decide +kernel, rfl, by decide +kernel, by decide +kernel⟩
theorem ok_plan {f fP : Addr} {fd fdP : FuncData} (F : Fun K "is_plan" "is_plan" sPlan f fd) (GP : FnOk P w K mg base CX0 10 fP fdP ["value", "lines"] (spPart 9))
    (bP : Binds K fdP ["value", "lines"] []) (kP : PySem.W.keepIn K (.ref fP) = true) (mP : mg "is_part" = some (.ref fP)) : FnOk P w K mg base CX0 11 f fd ["value"] spPlan := by
  refine F.ok scPlan (fun vs H Q E h => ?_) (fun cdv A outer s H vs Q E hr h => ?_)
  · obtain ⟨v, t, rfl, _⟩ := h; rfl
  obtain ⟨v, t, rfl, hv, hd, hf, k⟩ := h
  refine ⟨_, pss_one (ps_ret (pe_call GP hr (by rfl) mP kP bP .nil pass0 (pa_cons (pv 0) (pa_cons (pe_lst pa_nil) pa_nil)))), ?_⟩
  refine ⟨_, rfl, Nat.zero_le _, fun l hl => ?_⟩
  have s1 : Same H (upd H l (.lst [])) := same_upd hl
  have back : ∀ {H' : Hp}, SameBut l (upd H l (.lst [])) H' → Same H H' := fun sb b o e => sb b o (ne_of_none e hl) (s1 b o e)
  refine ⟨v, l, t, [], rfl, At.keep (same_tup s1) t v hv, by omega, hf, upd_same, List.nodup_nil, Nat.zero_le _, fun H' sb _ g => ?_, fun H' zs sb _ g => ?_⟩
  · have := k H' (back sb)
    rw [plan_good.mpr g] at this
    exact this
  · have e : plan t = false := by
      cases e : plan t with
      | true => exact absurd (plan_good.mp e) g
      | false => rfl
    have := k H' (back sb)
    rw [e] at this
    exact this
def spCheck : Sp := fun vs H Q _ => ∃ (v : V) (t : T), vs = [v] ∧ At H v t ∧ plan t = true ∧ ∀ H', Same H H' → Q .non H'
theorem scCheck : FnScope ["plan"] ["plan"] (defScope sCheck) := ⟨rfl, rfl, rfl, by decide +kernel, rfl, by decide +kernel, by decide +kernel⟩
theorem ok_check {f fP : Addr} {fd fdP : FuncData} (F : Fun K "check_plan" "check_plan" sCheck f fd) (GP : FnOk P w K mg base CX0 11 fP fdP ["value"] spPlan)
    (bP : Binds K fdP ["value"] []) (kP : PySem.W.keepIn K (.ref fP) = true) (mP : mg "is_plan" = some (.ref fP)) : FnOk P w K mg base CX0 12 f fd ["plan"] spCheck := by
  refine F.ok scCheck (fun vs H Q E h => ?_) (fun cdv A outer s H vs Q E hr h => ?_)
  · obtain ⟨v, t, rfl, _⟩ := h; rfl
  obtain ⟨v, t, rfl, hv, hp, k⟩ := h
  refine ⟨_, pss_one (ps_if (pt_not (pt_val (pe_call GP hr (by rfl) mP kP bP .nil pass0 (pa_cons (pv 0) pa_nil)))) pss_never pss_nil), ?_⟩
  refine ⟨_, rfl, v, t, rfl, hv, Nat.le_succ_of_le (plan_dp hp), plan_fits hp, fun H1 s1 => ⟨_, rfl, ?_⟩⟩
  rw [hp]
  exact iteF (k H1 s1)
/-! ### written_form: n bounds the depth -/
def spForm (n : Nat) : Sp := fun vs H Q _ => ∃ (v : V) (t : T), vs = [v] ∧ At H v t ∧ dp t < n ∧ (wr t).length ≤ 1000000 ∧ ∀ H', Same H H' → Q (.str (ms (wr t))) H'
abbrev nForm : List Str := ["plan", "kind", "parts", "part"]
theorem scForm : FnScope nForm ["plan"] (defScope sForm) := ⟨rfl, rfl, rfl, by decide +kernel, rfl, by decide +kernel, by decide +kernel⟩
theorem ok_form {f : Addr} {fd : FuncData} {n : Nat} (F : Fun K "written_form" "written_form" sForm f fd) (Z : Names0 mg) (bF : Binds K fd ["plan"] []) (mF : mg "written_form" = some (.ref f))
    (ih : FnOk P w K mg base CX0 (n + 1) f fd ["plan"] (spForm n)) : FnOk P w K mg base CX0 (n + 2) f fd ["plan"] (spForm (n + 1)) := by
  refine F.ok scForm (fun vs H Q E h => ?_) (fun cdv A outer s H vs Q E hr h => ?_)
  · obtain ⟨v, t, rfl, _⟩ := h; rfl
  obtain ⟨v, t, rfl, hv, hd, hz, k⟩ := h
  refine ⟨_, pss_cons (ps_if (pt_val (pIsi (pv 0) Z.isi Z.str bs_str)) (pss_one (ps_ret (pv 0))) pss_nil)
    (pss_cons (ps_asg (pv 0) (pg_tup rfl (pgs_cons (pg_name (i := 1) scForm.nd rfl (Or.inl rfl)) (pgs_cons (pg_name (i := 2) scForm.nd rfl (Or.inl rfl)) pgs_nil))))
    (pss_one (ps_ret (pe_joined (PJ.cons (pe_fmt (pv 1)) (PJ.cons pe_str (PJ.cons (pe_fmt (pe_join (pgS Z.gap) (pe_lc (own := [("part", 3)]) (g := gName 3) (by rfl) scForm.nd (pi_tup (pv 2))
        (blkOk_by (N := nForm) (sc := defScope sForm) (by decide +kernel)) (fun _ _ _ _ _ => pg_name (i := 3) scForm.nd rfl (Or.inl rfl)) (fun _ _ _ _ _ => pts_nil)
        (fun _ _ _ _ _ => pe_call ih hr (by rfl) mF F.kp bF .nil pass0 (pa_cons (pv 3) pa_nil))))) (PJ.cons pe_str PJ.nil)))))))), ?_⟩
  cases t with
  | leaf x =>
    simp only [At] at hv
    subst hv
    refine ⟨_, rfl, .str x, .ty "str", _, _, true, rfl, .ty _, .base (.str _), kit_ty (by decide +kernel), _, rfl, ?_⟩
    refine iteT ?_
    have := k H (Same.refl H)
    rw [show wr (.leaf x) = cs x by simp only [wr], ms_cs] at this
    exact ⟨_, rfl, this⟩
  | node kd ps =>
    simp only [At] at hv
    obtain ⟨a, b, ws, rfl, ha, hb, hws⟩ := hv
    have hlen := Ats.len hws
    have ew : wr (.node kd ps) = cs kd ++ 40 :: (wrs ps ++ [41]) := by simp only [wr]
    have hz' : (cs kd).length + (wrs ps).length + 2 ≤ 1000000 := by
      rw [ew] at hz
      simp only [List.length_append, List.length_cons, List.length_nil] at hz
      omega
    have hsl : sizeLine = 16777216 := sizeLine_eq
    refine ⟨_, rfl, .ref a, .ty "str", _, _, false, rfl, .ty _, .base (.tup ha), kit_ty (by decide +kernel), _, rfl, ?_⟩
    refine iteF ?_
    refine ⟨_, rfl, a, _, rfl, SqT.of ha, rfl, _, _, rfl, _, _, rfl, rfl, ?_⟩
    -- kind
    refine ⟨_, rfl, .inl ⟨kd, rfl, ?_, ?_⟩⟩
    · have : (cs kd).length = kd.length := Array.length_toList
      omega
    refine ⟨kd, rfl, ?_, ?_⟩
    · rw [strLen_append]
      have : (cs kd).length = kd.length := Array.length_toList
      have e0 : Str.empty.length = 0 := rfl
      omega
    refine ⟨_, rfl, ?_, ?_⟩
    · rw [strLen_append, strLen_append]
      have : (cs kd).length = kd.length := Array.length_toList
      have e0 : Str.empty.length = 0 := rfl
      have e1 : ("(" : Str).length = 1 := by decide +kernel
      omega
    -- the parts
    refine ⟨⟨_, rfl⟩, _, rfl, b, rfl, ⟨_, SqT.of hb⟩, fun D hD => ?_⟩
    refine lc_tup (K := K) (a := b) (xs := ws) (fun i H' => Same H H' ∧ H' D = some (.lst (((ps.take i).map fun t => ms (wr t)).map V.str))) ⟨same_upd hD, by simp only [List.take_zero, List.map_nil]; exact upd_same⟩ (fun i H' _ h => SqT.of (h.1 _ _ hb)) ?_ ?_
    · rintro i x H1 hx ⟨s1, d1⟩
      obtain ⟨u, hu, hu2⟩ := Ats.get hws hx
      have hum : u ∈ ps := List.mem_of_getElem? hu
      have hdu : dp u < n := by
        have := lv_mem_dp (.node kd ps) kd ps rfl u hum
        omega
      have hwu := wr_mem ps u hum
      refine ⟨rfl, _, rfl, x, u, rfl, At.keep (same_tup s1) u x hu2, hdu, by omega, fun H2 s2 => ?_⟩
      refine ⟨_, s2 _ _ d1, ?_, ?_, ?_⟩
      · have hl := wrs_len ps
        simp only [List.length_map, List.length_take]
        omega
      · intro c o e
        rw [upd_ne (ne_of_none e hD)]
        exact s2 _ _ (s1 _ _ e)
      · rw [upd_same, List.take_add_one, hu]
        simp
    · rintro H1 ⟨s1, d1⟩
      rw [List.take_of_length_le (by omega)] at d1
      have hsum := (sum_wr ps).1
      have hl := (wrs_len ps).1
      have e2 : (", " : Str).length = 2 := by decide +kernel
      refine ⟨_, D, ps.map fun t => ms (wr t), rfl, rfl, .inl (SqL.of d1), ?_, ?_⟩
      · rw [e2, List.length_map]; omega
      rw [join_cs]
      refine .inl ⟨_, rfl, by rw [ms_len]; omega, ?_⟩
      have e0 : Str.empty.length = 0 := rfl
      have e1 : ("(" : Str).length = 1 := by decide +kernel
      have e3 : (")" : Str).length = 1 := by decide +kernel
      have ek : (cs kd).length = kd.length := Array.length_toList
      refine ⟨_, rfl, ?_, ?_⟩
      · rw [strLen_append, strLen_append, strLen_append, ms_len]; omega
      refine ⟨_, rfl, ?_, ?_⟩
      · rw [strLen_append, strLen_append, strLen_append, strLen_append, ms_len]; omega
      have e : Str.empty ++ kd ++ ("(" : Str) ++ ms (wrs ps) ++ (")" : Str) = ms (wr (.node kd ps)) := by
        refine cs_inj ?_
        rw [cs_app, cs_app, cs_app, cs_app, cs_ms, cs_ms, ew]
        have c0 : cs Str.empty = [] := rfl
        have c1 : cs ("(" : Str) = [40] := by decide +kernel
        have c2 : cs (")" : Str) = [41] := by decide +kernel
        rw [c0, c1, c2]
        simp
      exact qv (congrArg V.str e) (k H1 s1)
theorem form_all {f : Addr} {fd : FuncData} (F : Fun K "written_form" "written_form" sForm f fd) (Z : Names0 mg) (bF : Binds K fd ["plan"] []) (mF : mg "written_form" = some (.ref f)) : ∀ n : Nat, FnOk P w K mg base CX0 (n + 1) f fd ["plan"] (spForm n)
  | 0 => fn_none fun vs H Q E h => by
    obtain ⟨v, t, _, _, h, _⟩ := h
    omega
  | n + 1 => ok_form F Z bF mF (form_all F Z bF mF n)
/-! ### format_plan -/
def spFormat : Sp := fun vs H Q _ => ∃ (v : V) (t : T), vs = [v] ∧ At H v t ∧ plan t = true ∧ ∀ H', Same H H' → Q (.str (ms (wr t))) H'
theorem scFormat : FnScope ["plan"] ["plan"] (defScope sFormat) := ⟨rfl, rfl, rfl, by decide +kernel, rfl, by decide +kernel, by decide +kernel⟩
theorem ok_format {f fC fF : Addr} {fd fdC fdF : FuncData} (F : Fun K "format_plan" "format_plan" sFormat f fd) (GC : FnOk P w K mg base CX0 12 fC fdC ["plan"] spCheck)
    (bC : Binds K fdC ["plan"] []) (kC : PySem.W.keepIn K (.ref fC) = true) (mC : mg "check_plan" = some (.ref fC)) (GF : FnOk P w K mg base CX0 10 fF fdF ["plan"] (spForm 9))
    (bF : Binds K fdF ["plan"] []) (kF : PySem.W.keepIn K (.ref fF) = true) (mF : mg "written_form" = some (.ref fF)) : FnOk P w K mg base CX0 13 f fd ["plan"] spFormat := by
  refine F.ok scFormat (fun vs H Q E h => ?_) (fun cdv A outer s H vs Q E hr h => ?_)
  · obtain ⟨v, t, rfl, _⟩ := h; rfl
  obtain ⟨v, t, rfl, hv, hp, k⟩ := h
  refine ⟨_, pss_cons (ps_expr (pe_call GC hr (by rfl) mC kC bC .nil pass0 (pa_cons (pv 0) pa_nil)))
    (pss_one (ps_ret (pe_call GF (hr.mono (by decide)) (by rfl) mF kF bF .nil pass0 (pa_cons (pv 0) pa_nil)))), ?_⟩
  refine ⟨_, rfl, v, t, rfl, hv, hp, fun H1 s1 => ?_⟩
  have hd := plan_dp hp
  have hl := plan_len hp
  exact ⟨_, rfl, v, t, rfl, At.keep (same_tup s1) t v hv, by omega, by omega, fun H2 s2 => k H2 (s1.trans s2)⟩
end
end FM
namespace FM
open PySem L2
/-! ### slices of texts -/
theorem cs_len (x : Str) : (cs x).length = x.length := Array.length_toList
theorem cut_nat {x : Str} {i e : Nat} (hi : i ≤ x.length) : cutS x (some (i : Int)) (some (e : Int)) = ms (((cs x).drop i).take (e - i)) := by
  unfold cutS ms
  rw [HT.sIx_nat, HT.sIx_nat, Nat.min_eq_left hi]
  have hl := cs_len x
  have : ((cs x).drop i).take (min e x.length - i) = ((cs x).drop i).take (e - i) := by
    rcases Nat.le_total e x.length with h | h
    · rw [Nat.min_eq_left h]
    · rw [Nat.min_eq_right h, List.take_of_length_le (by rw [List.length_drop]; omega), List.take_of_length_le (by rw [List.length_drop]; omega)]
  rw [this]
theorem ms_eq {l : List Nat} {s : Str} : ms l = s ↔ l = cs s := by
  constructor
  · intro h; rw [← h, cs_ms]
  · intro h; rw [h, ms_cs]
theorem dec_ms {l : List Nat} {s : Str} {m : List Nat} (h : cs s = m) : decide (V.str (ms l) = V.str s) = decide (l = m) := by
  subst h
  by_cases e : l = cs s
  · rw [decide_eq_true e, decide_eq_true (congrArg V.str (ms_eq.mpr e))]
  · rw [decide_eq_false e, decide_eq_false fun q => e (ms_eq.mp (V.str.inj q))]
theorem tw_step {p : Nat → Bool} : ∀ {d : List Nat} {j : Nat}, j ≤ (d.takeWhile p).length → (∀ c, d[j]? = some c → (p c = true → j + 1 ≤ (d.takeWhile p).length) ∧ (p c = false → j = (d.takeWhile p).length)) ∧ (d[j]? = none → j = (d.takeWhile p).length)
  | [], j, h => by
    simp at h; subst h
    exact ⟨fun c e => by simp at e, fun _ => rfl⟩
  | a :: r, 0, h => by
    refine ⟨fun c e => ?_, fun e => by simp at e⟩
    simp at e; subst e
    refine ⟨fun h1 => by simp [h1], fun h1 => by simp [h1]⟩
  | a :: r, j + 1, h => by
    by_cases ha : p a = true
    · have e : ((a :: r).takeWhile p).length = (r.takeWhile p).length + 1 := by simp [ha]
      rw [e] at h ⊢
      have ih := tw_step (p := p) (d := r) (j := j) (by omega)
      refine ⟨fun c e => ?_, fun e => ?_⟩
      · have := ih.1 c (by simpa using e)
        exact ⟨fun q => by have := this.1 q; omega, fun q => by have := this.2 q; omega⟩
      · have := ih.2 (by simpa using e)
        omega
    · have e : ((a :: r).takeWhile p).length = 0 := by simp [ha]
      omega
theorem suffix_drop {l a r : List Nat} {i : Nat} (h : l.drop i = a ++ r) (hi : i ≤ l.length) : r = l.drop (l.length - r.length) ∧ i + a.length = l.length - r.length := by
  have hl : l.length - i = a.length + r.length := by
    have := congrArg List.length h
    rw [List.length_drop, List.length_append] at this
    exact this
  have e : l.length - r.length = i + a.length := by omega
  refine ⟨?_, e.symm⟩
  rw [e, ← List.drop_drop, h, List.drop_left]
section
variable {P : Program} {w : World} {K : PySem.W.Frag} {mg : Str → Option Value} {base : Heap}
/-! ### word_end -/
def spEnd : Sp := fun vs H Q _ => ∃ (x : Str) (i : Nat), vs = [.str x, .int (i : Int)] ∧ i ≤ x.length ∧ x.length ≤ 1000 ∧ Q (.int ((i + (((cs x).drop i).takeWhile letter).length : Nat) : Int)) H
abbrev nEnd : List Str := ["text", "start", "end"]
theorem scEnd : FnScope nEnd ["text", "start"] (defScope sEnd) := ⟨rfl, rfl, rfl, by decide +kernel, rfl, by decide +kernel, by decide +kernel⟩
theorem ok_end {f : Addr} {fd : FuncData} (F : Fun K "word_end" "word_end" sEnd f fd) (Z : Names0 mg) : FnOk P w K mg base CX0 1 f fd ["text", "start"] spEnd := by
  refine F.ok scEnd (fun vs H Q E h => ?_) (fun cdv A outer s H vs Q E hr h => ?_)
  · obtain ⟨x, i, rfl, _⟩ := h; rfl
  obtain ⟨x, i, rfl, hi, hz, k⟩ := h
  refine ⟨_, pss_cons (ps_set (i := 2) scEnd.nd rfl (Or.inl rfl) (pv 1))
    (pss_cons (ps_while PassesOwn.never (PW.pt (pw_and (pt_cmpR op_lt (pv 2) (pe_callB call_len (by rfl) Z.len PySem.boot_len (pa_cons (pv 0) pa_nil)) (nomark _))
        (pw_and1 (pt_cmpR op_in_sign (pe_ix ix_str (pv 0) (pv 2) (fun _ _ => rfl)) (pgS Z.letters) rfl)))) (pss_one (ps_aug (i := 2) scEnd.nd rfl (Or.inl rfl) pe_int ip_add)))
    (pss_one (ps_ret (pv 2)))), ?_⟩
  have hsl : sizeLine = 16777216 := sizeLine_eq
  have hcl := cs_len x
  refine ⟨_, rfl, fun m σ H' => ∃ j : Nat, σ = [some (.str x), some (.int (i : Int)), some (.int ((i + j : Nat) : Int))] ∧ H' = H ∧ j ≤ (((cs x).drop i).takeWhile letter).length ∧ m = (((cs x).drop i).takeWhile letter).length - j,
    ⟨_, 0, rfl, rfl, Nat.zero_le _, rfl⟩, ?_⟩
  rintro m σ H' ⟨j, rfl, rfl, hj, rfl⟩
  have st := tw_step hj
  refine ⟨_, rfl, _, rfl, _, x.length, rfl, ⟨by omega, rfl⟩, _, _, rfl, rfl, _, rfl, ?_⟩
  refine iteB (fun h1 => ?_) (fun h1 => ?_)
  · have h1 := of_decide_eq_true h1
    have hlt : i + j < (cs x).length := by omega
    have e1 : (cs x)[i + j]? = some (cs x)[i + j] := List.getElem?_eq_getElem hlt
    have e2 : ((cs x).drop i)[j]? = some (cs x)[i + j] := by rw [List.getElem?_drop]; exact e1
    refine ⟨_, rfl, _, rfl, x, _, (cs x)[i + j], rfl, rfl, by omega, atI_nat e1, _, _, rfl, rfl, _, rfl, ?_⟩
    rw [let_dec]
    refine iteB (fun h2 => ?_) (fun h2 => ?_)
    · have hj' := (st.1 _ e2).1 h2
      refine ⟨fun σ' H' => ∃ m', m' < _ ∧ _, fun _ _ h => h, _, rfl, _, _, rfl, rfl, _, ?_, j + 1, ?_, rfl, hj', rfl⟩
      · omega
      · show [_, _, _] = _
        have e : (V.int (((i + j : Nat) : Int) + 1)) = V.int ((i + (j + 1) : Nat) : Int) := congrArg V.int (by omega)
        exact congrArg (fun z => [some (V.str x), some (V.int (i : Int)), some z]) e
    · have := (st.1 _ e2).2 h2
      refine ⟨_, rfl, ?_⟩
      rw [this]; exact k
  · have h1 := of_decide_eq_false h1
    have e2 : ((cs x).drop i)[j]? = none := by rw [List.getElem?_drop]; exact List.getElem?_eq_none (by omega)
    have := st.2 e2
    refine ⟨_, rfl, ?_⟩
    rw [this]; exact k
end
end FM
namespace FM
open PySem L2
section
variable {P : Program} {w : World} {K : PySem.W.Frag} {mg : Str → Option Value} {base : Heap}
/-! ### read_part: d junctions deeper may be read -/
def spRead (n : Nat) : Sp := fun vs H Q _ => ∃ (x : Str) (i d : Nat), vs = [.str x, .int (i : Int), .int (8 - (d : Int))] ∧ n = d + 1 ∧ i ≤ x.length ∧ x.length ≤ 1000 ∧
  (rd d ((cs x).drop i) = none → ∀ H', Same H H' → Q .non H') ∧
  (∀ t r, rd d ((cs x).drop i) = some (t, r) → ∀ p v H', Same H H' → H' p = some (.tup [v, .int ((x.length - r.length : Nat) : Int)]) → At H' v t → Q (.ref p) H')
abbrev nRead : List Str := ["text", "start", "depth", "end", "word", "parts", "found"]
theorem scRead : FnScope nRead ["text", "start", "depth"] (defScope sRead) := ⟨rfl, rfl, rfl, by decide +kernel, rfl, by decide +kernel, by decide +kernel⟩
theorem c_open : cs ("(" : Str) = [40] := by decide +kernel
theorem c_close : cs (")" : Str) = [41] := by decide +kernel
theorem c_gap : cs (", " : Str) = [44, 32] := by decide +kernel
theorem take1_of {d : Nat} : d + 1 - d = 1 := by omega
theorem ok_read {f fE fK : Addr} {fd fdE fdK : FuncData} {n : Nat} (F : Fun K "read_part" "read_part" sRead f fd) (Z : Names0 mg)
    (FE : Fun K "word_end" "word_end" sEnd fE fdE) (bE : Binds K fdE ["text", "start"] []) (mE : mg "word_end" = some (.ref fE))
    (FK : Fun K "is_kind" "is_kind" sKind fK fdK) (bK : Binds K fdK ["value"] []) (mK : mg "is_kind" = some (.ref fK))
    (bR : Binds K fd ["text", "start", "depth"] []) (mR : mg "read_part" = some (.ref f))
    (ih : FnOk P w K mg base CX0 (n + 1) f fd ["text", "start", "depth"] (spRead n)) : FnOk P w K mg base CX0 (n + 2) f fd ["text", "start", "depth"] (spRead (n + 1)) := by
  have GE : FnOk P w K mg base CX0 1 fE fdE ["text", "start"] spEnd := ok_end FE Z
  have GK : FnOk P w K mg base CX0 1 fK fdK ["value"] spKind := ok_kind FK Z
  refine F.ok scRead (fun vs H Q E h => ?_) (fun cdv A outer s H vs Q E hr h => ?_)
  · obtain ⟨x, i, d, rfl, _⟩ := h; rfl
  obtain ⟨x, i, d, rfl, hn, hi, hz, kN, kS⟩ := h
  obtain rfl : n = d := by omega
  have hr1 : Room 1 (A.deeper (PyProof.Rows.envOfC "read_part" (defScope sRead) s.heap.objs.size f cdv)) := hr.mono (by omega)
  refine ⟨_, pss_cons (ps_set (i := 3) scRead.nd rfl (Or.inl rfl) (pe_call GE hr1 (by rfl) mE FE.kp bE .nil pass0 (pa_cons (pv 0) (pa_cons (pv 1) pa_nil))))
    (pss_cons (ps_set (i := 4) scRead.nd rfl (Or.inl rfl) (pe_slice sl_str (pv 0) (po_some (pv 1)) (po_some (pv 3))))
    (pss_cons (ps_if (pt_cmpR op_ne (pe_slice sl_str (pv 0) (po_some (pv 3)) (po_some (pe_op op_add (pv 3) pe_int))) pe_str (nomark _)) (pss_one (ps_ret (pe_tup (pa_cons (pv 4) (pa_cons (pv 3) pa_nil))))) pss_nil)
    (pss_cons (ps_if (PW.pt (pw_or (pt_not (pt_val (pe_call GK hr1 (by rfl) mK FK.kp bK .nil pass0 (pa_cons (pv 4) pa_nil)))) (pw_or1 (pt_cmpR op_eq (pv 2) (pgI Z.most) (nomark _))))) (pss_one (ps_ret pe_non)) pss_nil)
    (pss_cons (ps_set (i := 5) scRead.nd rfl (Or.inl rfl) (pe_lst pa_nil))
    (pss_cons (ps_aug (i := 3) scRead.nd rfl (Or.inl rfl) pe_int ip_add)
    (pss_one (ps_while PassesOwn.never (pt_val pe_bl)
      (pss_cons (ps_set (i := 6) scRead.nd rfl (Or.inl rfl) (pe_call ih hr (by rfl) mR F.kp bR .nil pass0 (pa_cons (pv 0) (pa_cons (pv 3) (pa_cons (pe_op op_add (pv 2) pe_int) pa_nil)))))
      (pss_cons (ps_if (pt_cmp (pc_isN (pv 6))) (pss_one (ps_ret pe_non)) pss_nil)
      (pss_cons (ps_expr (pe_bm PySem.F.plainAttrs_list PySem.F.slot_list_append PySem.F.type_list_append mt_append (pv 5) (pa_cons (pe_ix ix_tup (pv 6) pe_int (fun _ _ => rfl)) pa_nil)))
      (pss_cons (ps_set (i := 3) scRead.nd rfl (Or.inl rfl) (pe_ix ix_tup (pv 6) pe_int (fun _ _ => rfl)))
      (pss_cons (ps_if (pt_cmpR op_eq (pe_slice sl_str (pv 0) (po_some (pv 3)) (po_some (pe_op op_add (pv 3) pe_int))) pe_str (nomark _))
        (pss_one (ps_ret (pe_tup (pa_cons (pe_tup (pa_cons (pv 4) (pa_cons (pe_callTy call_tuple_of (by rfl) Z.tup bs_tuple (pa_cons (pv 5) pa_nil)) pa_nil))) (pa_cons (pe_op op_add (pv 3) pe_int) pa_nil))))) pss_nil)
      (pss_cons (ps_if (pt_cmpR op_ne (pe_slice sl_str (pv 0) (po_some (pv 3)) (po_some (pe_op op_add (pv 3) pe_int))) (pgS Z.gap) (nomark _)) (pss_one (ps_ret pe_non)) pss_nil)
      (pss_one (ps_aug (i := 3) scRead.nd rfl (Or.inl rfl) pe_int ip_add))))))))))))))), ?_⟩
  have hsl : sizeLine = 16777216 := sizeLine_eq
  have hcl := cs_len x
  -- end, word
  refine ⟨_, rfl, _, rfl, x, i, rfl, hi, hz, ?_⟩
  generalize hl : (cs x).drop i = l at kN kS
  have hll : l.length = x.length - i := by rw [← hl, List.length_drop, hcl]
  have htd := List.takeWhile_append_dropWhile (p := letter) (l := l)
  generalize htw : l.takeWhile letter = tw at htd
  generalize hdw : l.dropWhile letter = dw at htd
  have hsum : tw.length + dw.length = l.length := by rw [← htd, List.length_append]
  have hdrop : (cs x).drop (i + tw.length) = dw := by rw [← List.drop_drop, hl, ← htd, List.drop_left]
  refine ⟨_, rfl, _, rfl, _, rfl, _, rfl, _, rfl, x, rfl, by omega, ?_⟩
  have eword : cutS x (some (i : Int)) (some ((i + tw.length : Nat) : Int)) = ms tw := by
    rw [cut_nat hi, hl, Nat.add_sub_cancel_left, ← htd, List.take_left]
  rw [eword]
  -- text[end:end + 1] != '('
  refine ⟨_, rfl, _, rfl, _, rfl, _, rfl, _, _, rfl, rfl, _, rfl, x, rfl, by omega, rfl, _, rfl, ?_⟩
  have cut1 : ∀ {e : Nat} {q : List Nat}, e ≤ x.length → (cs x).drop e = q → cutS x (some (e : Int)) (some ((e : Int) + 1)) = ms (q.take 1) := fun {e q} he hq => by
    have := cut_nat (x := x) (i := e) (e := e + 1) he
    rw [hq, take1_of] at this
    exact this
  have cut2 : ∀ {e : Nat} {q : List Nat}, e ≤ x.length → (cs x).drop e = q → cutS x (some (e : Int)) (some ((e : Int) + 2)) = ms (q.take 2) := fun {e q} he hq => by
    have := cut_nat (x := x) (i := e) (e := e + 2) he
    rw [hq, Nat.add_sub_cancel_left] at this
    exact this
  have hrd := rd_eq n l
  rw [htw, hdw] at hrd
  have ee : decide (V.str (cutS x (some ((i + tw.length : Nat) : Int)) (some (((i + tw.length : Nat) : Int) + 1))) = V.str "(") = decide (dw.take 1 = [40]) := by
    rw [cut1 (by omega) hdrop]; exact dec_ms c_open
  refine iteB (fun h1 => ?_) (fun h1 => ?_)
  · -- a word
    rw [ee] at h1
    have h1 : dw.take 1 ≠ [40] := fun q => by rw [decide_eq_true q] at h1; cases h1
    rw [if_pos h1] at hrd
    refine ⟨_, rfl, _, rfl, (by show 2 ≤ sizeLine; decide), fun p hp => ?_⟩
    refine kS _ _ hrd p (.str (ms tw)) _ (same_upd hp) ?_ (by simp only [At])
    rw [upd_same]
    have e : i + tw.length = x.length - dw.length := by omega
    rw [e]
  rw [ee] at h1
  have h1 : dw.take 1 = [40] := by
    by_cases q : dw.take 1 = [40]
    · exact q
    · rw [decide_eq_false q] at h1; cases h1
  rw [if_neg (fun q => q h1)] at hrd
  -- not is_kind(word) or depth == MOST_LINES
  refine ⟨_, rfl, ms tw, rfl, fun H1 s1 => ⟨_, rfl, ?_⟩⟩
  refine iteB (fun hk => ?_) (fun hk => ?_)
  · have hk : isKind (ms tw) = false := by
      cases e : isKind (ms tw) with
      | true => rw [e] at hk; cases hk
      | false => rfl
    rw [if_pos hk] at hrd
    exact kN hrd H1 s1
  have hk : isKind (ms tw) = true := by
    cases e : isKind (ms tw) with
    | true => rfl
    | false => rw [e] at hk; cases hk
  rw [if_neg (by rw [hk]; simp)] at hrd
  refine ⟨_, rfl, rfl, _, rfl, ?_⟩
  refine iteB (fun hd => ?_) (fun hd => ?_)
  · have hd := of_decide_eq_true hd
    have hd : n = 0 := by injection hd with hd; omega
    subst hd
    exact kN hrd H1 s1
  have hd := of_decide_eq_false hd
  obtain ⟨m, rfl⟩ : ∃ m, n = m + 1 := by
    cases n with
    | zero => exact absurd rfl hd
    | succ m => exact ⟨m, rfl⟩
  dsimp only at hrd
  -- parts = []; end += 1
  refine ⟨Nat.zero_le _, fun L hL => ?_⟩
  have hHL : H L = none := s1.free hL
  refine ⟨_, rfl, _, _, rfl, rfl, ?_⟩
  have hdw1 := take1 h1
  have hdl : dw.length = (dw.drop 1).length + 1 := by
    have := congrArg List.length hdw1
    rw [List.length_cons] at this
    exact this
  have e3 : V.int (((i + tw.length : Nat) : Int) + 1) = V.int ((i + tw.length + 1 : Nat) : Int) := congrArg V.int (by omega)
  generalize hR : rdLoop (rd m) l.length [] (dw.drop 1) = R at hrd
  -- the loop
  refine ⟨fun q σ H2 => ∃ (e : Nat) (acc : List T) (ws : List V) (y : Option V), σ = [some (.str x), some (.int (i : Int)), some (.int (8 - ((m + 1 : Nat) : Int))), some (.int (e : Int)), some (.str (ms tw)), some (.ref L), y] ∧
    e ≤ x.length ∧ acc.length ≤ e ∧ Same H H2 ∧ H2 L = some (.lst ws) ∧ Ats H2 ws acc ∧ rdLoop (rd m) q acc ((cs x).drop e) = R ∧ x.length - e < q, ⟨l.length, i + tw.length + 1, [], [], none, ?_, ?_, Nat.zero_le _, same_new s1 hL, upd_same, by simp only [Ats], ?_, ?_⟩, ?_⟩
  · exact congrArg (fun z => [some (V.str x), some (V.int (i : Int)), some (V.int (8 - ((m + 1 : Nat) : Int))), some z, some (V.str (ms tw)), some (V.ref L), none]) e3
  · omega
  · rw [← List.drop_drop, hdrop]; exact hR
  · omega
  rintro q σ H2 ⟨e, acc, ws, y, rfl, he, hacc, s2, hL2, hws, hq, hqe⟩
  refine ⟨_, rfl, ?_⟩
  refine iteT ?_
  obtain ⟨q, rfl⟩ : ∃ q', q = q' + 1 := ⟨q - 1, by omega⟩
  -- found = read_part(text, end, depth + 1)
  refine ⟨fun σ' H' => ∃ m', m' < q + 1 ∧ _, fun _ _ h => h, ?_⟩
  refine ⟨_, rfl, _, rfl, _, rfl, _, _, rfl, rfl, x, e, m, ?_, rfl, he, hz, fun hnone H3 s3 => ?_, fun t r hsome p v H3 s3 hp hv => ?_⟩
  · exact congrArg (fun z => [V.str x, V.int (e : Int), V.int z]) (by omega)
  · refine ⟨_, rfl, _, rfl, ?_⟩
    refine iteT ?_
    have hR0 : R = none := by rw [← hq]; unfold rdLoop; rw [hnone]
    rw [hR0] at hrd
    exact kN hrd H3 (s2.trans s3)
  refine ⟨_, rfl, _, rfl, ?_⟩
  refine iteF ?_
  have hL3 := s3 _ _ hL2
  have hlw := hws.len
  -- parts.append(found[0]); end = found[1]
  refine ⟨_, rfl, .inl ⟨rfl, _, SqL.of hL3⟩, _, rfl, p, _, 0, v, rfl, rfl, SqT.of hp, rfl, L, ws, v, rfl, rfl, hL3, small1000 (by omega), ?_⟩
  have tk : TupK H3 (upd H3 L (.lst (ws ++ [v]))) := fun b xs h => by rw [upd_ne (ne_of h hL3 (by intro z; cases z))]; exact h
  have hp4 := tk _ _ hp
  have hv4 := At.keep tk t v hv
  have hws4 : Ats (upd H3 L (.lst (ws ++ [v]))) (ws ++ [v]) (acc ++ [t]) := Ats.app (Ats.keep (TupK.trans (same_tup s3) tk) acc ws hws) (Ats.one hv4)
  have s4 : Same H (upd H3 L (.lst (ws ++ [v]))) := fun b o h => by rw [upd_ne (ne_of_none h hHL)]; exact s3 _ _ (s2 _ _ h)
  have hL4 : (upd H3 L (.lst (ws ++ [v]))) L = some (.lst (ws ++ [v])) := upd_same
  generalize upd H3 L (.lst (ws ++ [v])) = H4 at hp4 hv4 hws4 s4 hL4
  have hsd := rd_sound _ _ _ _ hsome
  obtain ⟨hr1', hr2'⟩ := suffix_drop hsd (by omega)
  have hrl : r.length ≤ x.length - e := by
    have := congrArg List.length hsd
    rw [List.length_drop, List.length_append] at this
    omega
  rw [hcl] at hr1'
  have hq' := hq
  unfold rdLoop at hq'
  rw [hsome] at hq'
  dsimp only at hq'
  refine ⟨_, rfl, p, _, 1, _, rfl, rfl, SqT.of hp4, rfl, ?_⟩
  have he4 : x.length - r.length ≤ x.length := Nat.sub_le _ _
  generalize hE : x.length - r.length = e4 at hr1' he4
  -- text[end:end + 1] == ')'
  refine ⟨_, rfl, _, rfl, _, rfl, _, rfl, _, _, rfl, rfl, _, rfl, x, rfl, by omega, rfl, _, rfl, ?_⟩
  have ec : decide (V.str (cutS x (some (e4 : Int)) (some ((e4 : Int) + 1))) = V.str ")") = decide (r.take 1 = [41]) := by
    rw [cut1 he4 hr1'.symm]; exact dec_ms c_close
  refine iteB (fun h2 => ?_) (fun h2 => ?_)
  · rw [ec] at h2
    have h2 := of_decide_eq_true h2
    rw [if_pos h2] at hq'
    rw [← hq'] at hrd
    refine ⟨_, rfl, _, rfl, L, _, rfl, .inl ⟨SqL.of hL4, fun b hb => ?_⟩⟩
    refine ⟨(by show 2 ≤ sizeLine; decide), fun a ha => ?_⟩
    refine ⟨_, rfl, _, _, rfl, rfl, (by show 2 ≤ sizeLine; decide), fun p2 hp2 => ?_⟩
    refine kS _ _ hrd p2 (.ref a) _ (same_new (same_new (same_new s4 hb) ha) hp2) ?_ ?_
    · rw [upd_same]
      have hr3 := take1 h2
      have hr4 : r.length = (r.drop 1).length + 1 := by
        have := congrArg List.length hr3
        rw [List.length_cons] at this
        exact this
      have : ((e4 : Int) + 1) = ((x.length - (r.drop 1).length : Nat) : Int) := by omega
      exact congrArg (fun z => some (HO.tup [V.ref a, V.int z])) this
    · have hab : b ≠ a := fun z => by rw [z, upd_same] at ha <;> cases ha
      have hbp : b ≠ p2 := fun z => by
        rw [z, upd_ne (fun z2 => hab (z.trans z2)), upd_same] at hp2
        cases hp2
      have hap : a ≠ p2 := fun z => by rw [z, upd_same] at hp2; cases hp2
      have tk2 := same_tup (same_new (same_new (same_upd hb (o := .tup (ws ++ [v]))) ha (o := .tup [.str (ms tw), .ref b])) hp2 (o := .tup [.ref a, .int ((e4 : Int) + 1)]))
      simp only [At]
      refine ⟨a, b, ws ++ [v], rfl, ?_, ?_, Ats.keep tk2 _ _ hws4⟩
      · rw [upd_ne hap, upd_same]
      · rw [upd_ne hbp, upd_ne hab, upd_same]
  rw [ec] at h2
  have h2 : ¬ r.take 1 = [41] := of_decide_eq_false h2
  rw [if_neg h2] at hq'
  -- text[end:end + 2] != GAP
  refine ⟨_, rfl, _, rfl, _, rfl, _, rfl, _, _, rfl, rfl, _, rfl, x, rfl, by omega, rfl, _, rfl, ?_⟩
  have eg : decide (V.str (cutS x (some (e4 : Int)) (some ((e4 : Int) + 2))) = V.str ", ") = decide (r.take 2 = [44, 32]) := by
    rw [cut2 he4 hr1'.symm]; exact dec_ms c_gap
  refine iteB (fun h3 => ?_) (fun h3 => ?_)
  · rw [eg] at h3
    have h3 : ¬ r.take 2 = [44, 32] := fun z => by rw [decide_eq_true z] at h3; cases h3
    rw [if_neg h3] at hq'
    rw [← hq'] at hrd
    exact kN hrd H4 s4
  rw [eg] at h3
  have h3 : r.take 2 = [44, 32] := by
    by_cases z : r.take 2 = [44, 32]
    · exact z
    · rw [decide_eq_false z] at h3; cases h3
  rw [if_pos h3] at hq'
  have hr5 : r.length = (r.drop 2).length + 2 := by
    have := congrArg List.length (take2 h3)
    simp only [List.length_cons] at this
    omega
  -- end += 2
  refine ⟨_, rfl, _, _, rfl, rfl, q, by omega, e4 + 2, acc ++ [t], ws ++ [v], _, rfl, by omega, ?_, s4, hL4, hws4, ?_, by omega⟩
  · rw [List.length_append]
    simp only [List.length_cons, List.length_nil]
    omega
  · rw [← List.drop_drop, ← hr1']; exact hq'
theorem read_all {f fE fK : Addr} {fd fdE fdK : FuncData} (F : Fun K "read_part" "read_part" sRead f fd) (Z : Names0 mg)
    (FE : Fun K "word_end" "word_end" sEnd fE fdE) (bE : Binds K fdE ["text", "start"] []) (mE : mg "word_end" = some (.ref fE))
    (FK : Fun K "is_kind" "is_kind" sKind fK fdK) (bK : Binds K fdK ["value"] []) (mK : mg "is_kind" = some (.ref fK))
    (bR : Binds K fd ["text", "start", "depth"] []) (mR : mg "read_part" = some (.ref f)) : ∀ n : Nat, FnOk P w K mg base CX0 (n + 1) f fd ["text", "start", "depth"] (spRead n)
  | 0 => fn_none fun vs H Q E h => by
    obtain ⟨x, i, d, _, h, _⟩ := h
    omega
  | n + 1 => ok_read F Z FE bE mE FK bK mK bR mR (read_all F Z FE bE mE FK bK mK bR mR n)
end
end FM
namespace FM
open PySem L2
/-- what the written part says of InvalidText, at C, its __init__ at fI -/
structure TextErr (K : PySem.W.Frag) (mg : Str → Option Value) (C fI : Addr) : Prop where
  gC : mg "InvalidText" = some (.ref C)
  oex : OexC K C
  iC : PySem.W.findIn K (.ref C) "__init__" = some (some (.ref fI))
  tI : PySem.W.typeIn K (.ref fI) = some (.type "function")
  noT : PySem.W.findIn K (.ref C) "text" = some none
  te : PySem.W.exmOne K (.ref C) (.ref C) = some true
section
variable {P : Program} {w : World} {K : PySem.W.Frag} {mg : Str → Option Value} {base : Heap}
def spInit (C : Addr) : Sp := fun vs H Q _ => ∃ (a : Addr) (y : V), vs = [.ref a, y] ∧ H a = some (exo a C none) ∧ ∀ dx, H dx = none → dx ≠ a → Q .non (upd (upd H dx (exd dx [("text", y)])) a (exo a C (some dx)))
theorem scInit : FnScope ["self", "text"] ["self", "text"] (defScope sIText) := ⟨rfl, rfl, rfl, by decide +kernel, rfl, by decide +kernel, by decide +kernel⟩
theorem ok_init {C fI : Addr} {fd : FuncData} (F : Fun K "__init__" "InvalidText.__init__" sIText fI fd) (T : TextErr K mg C fI) : FnOk P w K mg base CX0 1 fI fd ["self", "text"] (spInit C) := by
  refine F.ok scInit (fun vs H Q E h => ?_) (fun cdv A outer s H vs Q E hr h => ?_)
  · obtain ⟨a, y, rfl, _⟩ := h; rfl
  obtain ⟨a, y, rfl, ha, k⟩ := h
  refine ⟨_, pss_one (ps_ost (pv 0) (pv 1)), ?_⟩
  exact ⟨_, rfl, _, rfl, a, C, rfl, T.oex, T.noT, .inl ⟨ha, fun dx hd hn => k dx hd hn⟩⟩
/-! ### parse_plan -/
def spParse (C : Addr) : Sp := fun vs H Q E => ∃ x : Str, vs = [.str x] ∧ x.length ≤ 1000 ∧ (∀ t, parse (cs x) = some t → ∀ v H', Same H H' → At H' v t → Q v H') ∧
  (parse (cs x) = none → ∀ d H', Same H H' → E (.ref C) (some d) H')
abbrev nParse : List Str := ["text", "found"]
theorem scParse : FnScope nParse ["text"] (defScope sParse) := ⟨rfl, rfl, rfl, by decide +kernel, rfl, by decide +kernel, by decide +kernel⟩
theorem lv_len : ∀ (t : T) (s : Str), s ∈ lv t → s.length ≤ (wr t).length := by
  intro t
  refine @T.rec (fun t => ∀ s ∈ lv t, s.length ≤ (wr t).length) (fun ps => (∀ s ∈ lvs ps, s.length ≤ (wrs ps).length) ∧ ∀ s ∈ lvs ps, s.length ≤ (wrt ps).length) ?_ ?_ ?_ ?_ t
  · intro x s hs
    simp only [lv, List.mem_singleton] at hs
    subst hs
    simp only [wr]
    exact Nat.le_of_eq (cs_len s).symm
  · intro k ps ih s hs
    simp only [lv] at hs
    have := ih.1 s hs
    simp only [wr, List.length_append, List.length_cons]
    omega
  · exact ⟨fun s hs => by simp [lvs] at hs, fun s hs => by simp [lvs] at hs⟩
  · intro t r h1 h2
    refine ⟨fun s hs => ?_, fun s hs => ?_⟩
    all_goals
      simp only [lvs, List.mem_append] at hs
      simp only [wrs, wrt, List.length_append, List.length_cons]
      rcases hs with hs | hs
      · have := h1 s hs; omega
      · have := h2.2 s hs; omega
theorem ok_parse {f fR fP fI C : Addr} {fd fdR fdP fdI : FuncData} (F : Fun K "parse_plan" "parse_plan" sParse f fd) (Z : Names0 mg) (T : TextErr K mg C fI)
    (FI : Fun K "__init__" "InvalidText.__init__" sIText fI fdI) (bI : Binds K fdI ["self", "text"] [])
    (GR : FnOk P w K mg base CX0 10 fR fdR ["text", "start", "depth"] (spRead 9)) (bR : Binds K fdR ["text", "start", "depth"] []) (kR : PySem.W.keepIn K (.ref fR) = true) (mR : mg "read_part" = some (.ref fR))
    (GP : FnOk P w K mg base CX0 11 fP fdP ["value"] spPlan) (bP : Binds K fdP ["value"] []) (kP : PySem.W.keepIn K (.ref fP) = true) (mP : mg "is_plan" = some (.ref fP)) :
    FnOk P w K mg base (L2.CX P w) 12 f fd ["text"] (spParse C) := by
  refine F.okX scParse (fun vs H Q E h => ?_) (fun cdv A outer s H vs Q E hr h => ?_)
  · obtain ⟨x, rfl, _⟩ := h; rfl
  obtain ⟨x, rfl, hz, kS, kN⟩ := h
  have GI : FnOk P w K mg base CX0 1 fI fdI ["self", "text"] (spInit C) := ok_init FI T
  refine ⟨_, pss_cons (ps_set (i := 1) scParse.nd rfl (Or.inl rfl) (pe_ifExp (pt_val (pIsi (pv 0) Z.isi Z.str bs_str)) (pe_call GR (hr.mono (by decide)) (by rfl) mR kR bR .nil pass0 (pa_cons (pv 0) (pa_cons pe_int (pa_cons pe_int pa_nil)))) pe_non))
    (pss_cons (ps_if (PW.pt (pw_or (pt_cmp (pc_isN (pv 1))) (pw_or (pt_cmpR op_ne (pe_ix ix_tup (pv 1) pe_int (fun _ _ => rfl)) (pe_callB call_len (by rfl) Z.len PySem.boot_len (pa_cons (pv 0) pa_nil)) (nomark _))
        (pw_or1 (pt_not (pt_val (pe_call GP hr (by rfl) mP kP bP .nil pass0 (pa_cons (pe_ix ix_tup (pv 1) pe_int (fun _ _ => rfl)) pa_nil))))))))
      (pss_one (ps_raise (W := fun cls d _ H' => E cls d H') rfl (takes_of rfl rfl rfl rfl) (pmk_oex T.oex T.iC T.tI GI (hr.mono (by decide)) bI .nil pass0 (by rfl) T.gC (pa_cons (pv 0) pa_nil)))) pss_nil)
    (pss_one (ps_ret (pe_ix ix_tup (pv 1) pe_int (fun _ _ => rfl))))), ?_⟩
  have hsl : sizeLine = 16777216 := sizeLine_eq
  have hcl := cs_len x
  -- the raise
  have bad : parse (cs x) = none → ∀ (y : Option V) (H1 : Hp), Same H H1 → tMkO C (spInit C) [] (tCons (tVar 0) tNil) [some (.str x), y] H1 (fun cls d H' => E cls d H') := fun hp y H1 s1 => by
    refine ⟨_, rfl, (by show 1 ≤ 1000; decide), fun a ha => ⟨a, _, rfl, upd_same, fun dx hd hn => ⟨rfl, dx, _, upd_same, by rw [upd_ne hn, upd_same], by rw [upd_ne hn] at hd; exact hd, ?_⟩⟩⟩
    have hd1 : H1 dx = none := by rw [upd_ne hn] at hd; exact hd
    refine kN hp dx _ (s1.trans fun b o e => ?_)
    rw [upd_ne (ne_of_none e hd1), del_ne (ne_of_none e ha), upd_ne (ne_of_none e ha), upd_ne (ne_of_none e hd1), upd_ne (ne_of_none e ha)]
    exact e
  refine ⟨_, rfl, .str x, .ty "str", _, _, true, rfl, .ty _, .base (.str _), kit_ty (by decide +kernel), _, rfl, ?_⟩
  refine iteT ?_
  refine ⟨_, rfl, x, 0, 8, rfl, rfl, Nat.zero_le _, hz, fun hnone H1 s1 => ?_, fun t r hsome p v H1 s1 hp hv => ?_⟩
  · rw [List.drop_zero] at hnone
    have hp : parse (cs x) = none := by unfold parse; rw [hnone]
    refine ⟨_, rfl, _, rfl, ?_⟩
    refine iteT ?_
    exact bad hp _ H1 s1
  rw [List.drop_zero] at hsome
  have hpar : parse (cs x) = if r = [] ∧ plan t = true then some t else none := by unfold parse; rw [hsome]
  have hsd := rd_sound _ _ _ _ hsome
  have hlen : (wr t).length + r.length = x.length := by
    have := congrArg List.length hsd
    rw [List.length_append, hcl] at this
    omega
  refine ⟨_, rfl, _, rfl, ?_⟩
  refine iteF ?_
  refine ⟨_, rfl, p, _, 1, _, rfl, rfl, SqT.of hp, rfl, _, rfl, _, x.length, rfl, ⟨by omega, rfl⟩, rfl, _, rfl, ?_⟩
  have ei : decide (V.int ((x.length - r.length : Nat) : Int) = V.int (x.length : Int)) = decide (r = []) := by
    by_cases h : r = []
    · rw [decide_eq_true h]; subst h; exact decide_eq_true rfl
    · rw [decide_eq_false h]
      refine decide_eq_false fun q => h ?_
      have q := V.int.inj q
      exact List.length_eq_zero_iff.mp (by omega)
  refine iteB (fun h1 => ?_) (fun h1 => ?_)
  · rw [ei] at h1
    have h1 : r ≠ [] := fun q => by rw [decide_eq_true q] at h1; cases h1
    rw [if_neg (fun q => h1 q.1)] at hpar
    exact bad hpar _ H1 s1
  rw [ei] at h1
  have h1 : r = [] := by
    by_cases q : r = []
    · exact q
    · rw [decide_eq_false q] at h1; cases h1
  refine ⟨_, rfl, p, _, 0, v, rfl, rfl, SqT.of hp, rfl, v, t, rfl, hv, rd_dp _ _ _ _ hsome, fun s hs => ?_, fun H2 s2 => ⟨_, rfl, ?_⟩⟩
  · have := lv_len t s hs
    omega
  refine iteB (fun h2 => ?_) (fun h2 => ?_)
  · have h2 : ¬ plan t = true := fun q => by rw [q] at h2; cases h2
    rw [if_neg (fun q => h2 q.2)] at hpar
    exact bad hpar _ H2 (s1.trans s2)
  have h2 : plan t = true := by
    cases e : plan t with
    | true => rfl
    | false => rw [e] at h2; cases h2
  rw [if_pos ⟨h1, h2⟩] at hpar
  exact ⟨_, rfl, p, _, 0, v, rfl, rfl, SqT.of (s2 _ _ hp), rfl, kS t hpar v H2 (s1.trans s2) (At.keep (same_tup s2) t v hv)⟩
/-! ### _law_told -/
def OptAt (H : Hp) (v : V) : Option T → Prop
  | none => v = .non
  | some t => At H v t
def spTold : Sp := fun vs H Q _ => ∃ x : Str, vs = [.str x] ∧ x.length ≤ 1000 ∧ ∀ v H', Same H H' → OptAt H' v (parse (cs x)) → Q v H'
theorem scTold : FnScope ["_law_text"] ["_law_text"] (defScope sTold) := ⟨rfl, rfl, rfl, by decide +kernel, rfl, by decide +kernel, by decide +kernel⟩
theorem ok_told {f fP fI C : Addr} {fd fdP : FuncData} (F : Fun K "_law_told" "_law_told" sTold f fd) (T : TextErr K mg C fI)
    (GP : FnOk P w K mg base (L2.CX P w) 12 fP fdP ["text"] (spParse C)) (bP : Binds K fdP ["text"] []) (kP : PySem.W.keepIn K (.ref fP) = true) (mP : mg "parse_plan" = some (.ref fP)) :
    FnOk P w K mg base CX0 13 f fd ["_law_text"] spTold := by
  refine F.ok scTold (fun vs H Q E h => ?_) (fun cdv A outer s H vs Q E hr h => ?_)
  · obtain ⟨x, rfl, _⟩ := h; rfl
  obtain ⟨x, rfl, hz, k⟩ := h
  refine ⟨_, pss_one (ps_try_only (tb := fun W => tRet (tCallS (spParse C) (WE W) (tCons (tVar 0) tNil))) (ts := fun _ _ _ => tRet (tC .non)) (Wout := fun _ _ _ _ => False) rfl rfl ⟨rfl, by decide, Or.inl T.gC⟩ takes0
    (fun W pn xe tk _ => pss_one (ps_ret (by exact (pe_callS GP hr rfl mP kP bP (fun σ => passAt tk σ) (by exact (pa_cons (pv 0) pa_nil))))))
    (fun a oe cls d pn hz hf => pss_one (ps_ret pe_non))), ?_⟩
  refine ⟨_, rfl, x, rfl, hz, fun t ht v H1 s1 hv => ?_, fun hn d H1 s1 => ?_⟩
  · have := k v H1 s1
    rw [ht] at this
    exact this hv
  · refine ⟨true, T.te, fun _ a ha => ?_, fun q => Bool.noConfusion q⟩
    have := k .non H1 s1
    rw [hn] at this
    exact this rfl
end
end FM
namespace FM
open PySem L2
section
variable {P : Program} {w : World} {K : PySem.W.Frag} {mg : Str → Option Value} {base : Heap}
/-! ### _law_found: n bounds the depth -/
def spFound (n : Nat) : Sp := fun vs H Q _ => ∃ (v : V) (t : T), vs = [v] ∧ At H v t ∧ dp t < n ∧ fits t ∧ sz t ≤ 1000 ∧
  (okT t = true → ∀ l H', Same H H' → H' l = some (.lst ((lv t).map V.str)) → Q (.ref l) H') ∧ (okT t = false → ∀ H', Same H H' → Q .non H')
abbrev nFound : List Str := ["_law_thing", "_law_fits", "_law_found_here", "_law_part", "_law_some"]
theorem scFound : FnScope nFound ["_law_thing"] (defScope sFound) := ⟨rfl, rfl, rfl, by decide +kernel, rfl, by decide +kernel, by decide +kernel⟩
theorem szs_mem : ∀ (ps : List T) (u : T), u ∈ ps → sz u ≤ szs ps
  | [], _, h => by cases h
  | t :: r, u, h => by
    simp only [szs]
    rcases List.mem_cons.mp h with rfl | h
    · omega
    · have := szs_mem r u h; omega
theorem okTs_step {ps : List T} {i : Nat} {t : T} (h : ps[i]? = some t) : okTs (ps.take (i + 1)) = (okTs (ps.take i) && okT t) := by
  have e : ps.take (i + 1) = ps.take i ++ [t] := by rw [List.take_add_one, h]; rfl
  rw [e, okTs_append]
  simp only [okTs, Bool.and_true]
theorem okTs_mem {ps : List T} {t : T} (h : okTs ps = true) (hm : t ∈ ps) : okT t = true := by
  induction ps with
  | nil => cases hm
  | cons u r ih =>
    simp only [okTs, Bool.and_eq_true] at h
    rcases List.mem_cons.mp hm with rfl | hm
    · exact h.1
    · exact ih h.2 hm
theorem lvs_take_len (ps : List T) (i : Nat) : (lvs (ps.take i)).length ≤ szs ps := by
  have h1 := lvs_szs (ps.take i)
  have h2 : szs ps = szs (ps.take i) + szs (ps.drop i) := by rw [← szs_append, List.take_append_drop]
  omega
theorem ok_found {f : Addr} {fd : FuncData} {n : Nat} (F : Fun K "_law_found" "_law_found" sFound f fd) (Z : Names0 mg) (bF : Binds K fd ["_law_thing"] []) (mF : mg "_law_found" = some (.ref f))
    (ih : FnOk P w K mg base CX0 (n + 1) f fd ["_law_thing"] (spFound n)) : FnOk P w K mg base CX0 (n + 2) f fd ["_law_thing"] (spFound (n + 1)) := by
  refine F.ok scFound (fun vs H Q E h => ?_) (fun cdv A outer s H vs Q E hr h => ?_)
  · obtain ⟨v, t, rfl, _⟩ := h; rfl
  obtain ⟨v, t, rfl, hv, hd, hfit, hsz, kS, kN⟩ := h
  refine ⟨_, pss_cons (ps_if (pt_val (pIsi (pv 0) Z.isi Z.str bs_str))
      (pss_cons (ps_set (i := 1) scFound.nd rfl (Or.inl rfl) (pe_and (pe_chain op_lt op_lt pe_int (pe_callB call_len (by rfl) Z.len PySem.boot_len (pa_cons (pv 0) pa_nil)) pe_int)
        (pe_one (pe_cmpR op_eq (pe_m1 PySem.F.slot_str_strip PySem.F.type_str_strip mt_stripChars (pv 0) pe_str) pe_str (nomark _)))))
      (pss_one (ps_ret (pe_ifExp (pt_val (pv 1)) (pe_lst (pa_cons (pv 0) pa_nil)) pe_non)))) pss_nil)
    (pss_cons (ps_if (PW.pt (pw_or (pt_not (pt_val (pIsi (pv 0) Z.isi Z.tup bs_tuple))) (pw_or (pt_cmpR op_ne (pe_callB call_len (by rfl) Z.len PySem.boot_len (pa_cons (pv 0) pa_nil)) pe_int (nomark _))
        (pw_or1 (pt_not (pt_val (pIsi (pe_ix ix_tup (pv 0) pe_int (fun _ _ => rfl)) Z.isi Z.str bs_str))))))) (pss_one (ps_ret pe_non)) pss_nil)
    (pss_cons (ps_if (PW.pt (pw_or (pt_cmpR op_notIn_seq (pe_ix ix_tup (pv 0) pe_int (fun _ _ => rfl)) (pe_lst (pa_cons pe_str (pa_cons pe_str pa_nil))) rfl)
        (pw_or (pt_not (pt_val (pIsi (pe_ix ix_tup (pv 0) pe_int (fun _ _ => rfl)) Z.isi Z.tup bs_tuple)))
        (pw_or1 (pt_cmpR op_lt (pe_callB call_len (by rfl) Z.len PySem.boot_len (pa_cons (pe_ix ix_tup (pv 0) pe_int (fun _ _ => rfl)) pa_nil)) pe_int (nomark _)))))) (pss_one (ps_ret pe_non)) pss_nil)
    (pss_cons (ps_set (i := 2) scFound.nd rfl (Or.inl rfl) (pe_lst pa_nil))
    (pss_cons (ps_for PassesOwn.never rfl (pi_tup (pe_ix ix_tup (pv 0) pe_int (fun _ _ => rfl))) (pg_name (i := 3) scFound.nd rfl (Or.inl rfl))
      (pss_cons (ps_set (i := 4) scFound.nd rfl (Or.inl rfl) (pe_call ih hr (by rfl) mF F.kp bF .nil pass0 (pa_cons (pv 3) pa_nil)))
      (pss_cons (ps_if (pt_cmp (pc_isN (pv 4))) (pss_one (ps_ret pe_non)) pss_nil)
      (pss_one (ps_expr (pe_bm PySem.F.plainAttrs_list PySem.F.slot_list_extend PySem.F.type_list_extend mt_extend (pv 2) (pa_cons (pv 4) pa_nil)))))))
    (pss_one (ps_ret (pv 2))))))), ?_⟩
  have hsl : sizeLine = 16777216 := sizeLine_eq
  cases t with
  | leaf x =>
    simp only [At] at hv
    subst hv
    have hcl := cs_len x
    have hx : x.length ≤ sizeLine := by rw [sizeLine_eq]; exact hfit x (by simp [lv])
    have eok : okT (.leaf x) = ((cs x).all letter && (decide (1 ≤ x.length) && decide (x.length ≤ 6))) := by
      simp only [okT, isLine]; rw [hcl]
    have yes : okT (.leaf x) = true → ∀ l H', H' l = none → Same H H' → Q (.ref l) (upd H' l (.lst [V.str x])) := fun h l H' hl s1 =>
      kS h l _ (same_new s1 hl) (by simp only [lv]; exact upd_same)
    refine ⟨_, rfl, .str x, .ty "str", _, _, true, rfl, .ty _, .base (.str _), kit_ty (by decide +kernel), _, rfl, ?_⟩
    refine iteT ?_
    refine ⟨_, rfl, _, x.length, rfl, ⟨hx, rfl⟩, _, _, rfl, rfl, _, rfl, ?_⟩
    refine iteB (fun h1 => ?_) (fun h1 => ?_)
    · have h1 := of_decide_eq_true h1
      refine ⟨_, _, rfl, rfl, _, rfl, ?_⟩
      refine iteB (fun h2 => ?_) (fun h2 => ?_)
      · have h2 := of_decide_eq_true h2
        have e2 : okT (.leaf x) = (cs x).all letter := by
          rw [eok, decide_eq_true (show 1 ≤ x.length by omega), decide_eq_true (show x.length ≤ 6 by omega)]
          simp
        refine ⟨_, rfl, ⟨_, rfl⟩, x, _, rfl, rfl, hx, rfl, _, rfl, _, rfl, ?_⟩
        refine iteB (fun h3 => ?_) (fun h3 => ?_)
        · rw [strip_nil] at h3
          exact ⟨_, rfl, (by show 1 ≤ sizeLine; decide), fun l hl => yes (e2.trans h3) l H hl (Same.refl H)⟩
        · rw [strip_nil] at h3
          exact kN (e2.trans h3) H (Same.refl H)
      · have h2 := of_decide_eq_false h2
        have e2 : okT (.leaf x) = false := by
          rw [eok, decide_eq_false (show ¬ x.length ≤ 6 by omega)]
          simp
        exact ⟨_, rfl, _, rfl, iteF (kN e2 H (Same.refl H))⟩
    · have h1 := of_decide_eq_false h1
      have e2 : okT (.leaf x) = false := by
        rw [eok, decide_eq_false (show ¬ 1 ≤ x.length by omega)]
        simp
      exact ⟨_, rfl, iteF ⟨_, rfl, _, rfl, iteF (kN e2 H (Same.refl H))⟩⟩
  | node k ps =>
    simp only [At] at hv
    obtain ⟨a, b, ws, rfl, ha, hb, hws⟩ := hv
    have hlen := Ats.len hws
    have eok : okT (.node k ps) = (isKind k && (decide (2 ≤ ps.length) && okTs ps)) := by simp only [okT]
    have hps : szs ps + 1 ≤ 1000 := by simp only [sz] at hsz; exact hsz
    refine ⟨_, rfl, .ref a, .ty "str", _, _, false, rfl, .ty _, .base (.tup ha), kit_ty (by decide +kernel), _, rfl, ?_⟩
    refine iteF ?_
    refine ⟨_, rfl, .ref a, .ty "tuple", _, _, true, rfl, .ty _, .base (.tup ha), kit_ty (by decide +kernel), _, rfl, ?_⟩
    refine iteF ?_
    refine ⟨_, rfl, _, _, rfl, len_tup ha, rfl, _, rfl, ?_⟩
    refine iteF ?_
    refine ⟨_, rfl, a, _, 0, _, rfl, rfl, SqT.of ha, rfl, .str k, .ty "str", _, _, true, rfl, .ty _, .base (.str _), kit_ty (by decide +kernel), _, rfl, ?_⟩
    refine iteF ?_
    -- not in ['low', 'high']
    refine ⟨_, rfl, a, _, 0, _, rfl, rfl, SqT.of ha, rfl, (by show 2 ≤ sizeLine; decide), fun q hq => ?_⟩
    have s1 : Same H (upd H q (.lst [V.str "low", V.str "high"])) := same_upd hq
    refine ⟨q, _, rfl, .inl (SqL.of upd_same), rfl, rfl, _, rfl, ?_⟩
    refine iteB (b := !inV (V.str k) [V.str "low", V.str "high"]) (fun hk => ?_) (fun hk => ?_)
    · rw [inV_kind] at hk
      have hk : isKind k = false := by
        cases e : isKind k with
        | true => rw [e] at hk; cases hk
        | false => rfl
      exact kN (by rw [eok, hk]; rfl) _ s1
    rw [inV_kind] at hk
    have hk : isKind k = true := by
      cases e : isKind k with
      | true => rfl
      | false => rw [e] at hk; cases hk
    have ha1 := s1 _ _ ha
    have hb1 := s1 _ _ hb
    have ws1 := Ats.keep (same_tup s1) ps ws hws
    generalize upd H q (.lst [V.str "low", V.str "high"]) = H1 at s1 ha1 hb1 ws1
    refine ⟨_, rfl, a, _, 1, _, rfl, rfl, SqT.of ha1, rfl, .ref b, .ty "tuple", _, _, true, rfl, .ty _, .base (.tup hb1), kit_ty (by decide +kernel), _, rfl, ?_⟩
    refine iteF ?_
    refine ⟨_, rfl, a, _, 1, _, rfl, rfl, SqT.of ha1, rfl, _, _, rfl, len_tup hb1, _, _, rfl, rfl, _, rfl, ?_⟩
    refine iteB (fun h2 => ?_) (fun h2 => ?_)
    · have h2 := of_decide_eq_true h2
      exact kN (by rw [eok, decide_eq_false (show ¬ 2 ≤ ps.length by omega)]; simp) _ s1
    have h2 := of_decide_eq_false h2
    have eo2 : okT (.node k ps) = okTs ps := by
      rw [eok, hk, decide_eq_true (show 2 ≤ ps.length by omega)]; simp
    -- found = []
    refine ⟨Nat.zero_le _, fun L hL => ?_⟩
    have hHL : H L = none := s1.free hL
    refine ⟨_, rfl, a, _, 1, _, rfl, rfl, SqT.of ((same_upd hL) _ _ ha1), rfl, b, rfl, ⟨_, SqT.of ((same_upd hL) _ _ hb1)⟩, for_tup (K := K) (a := b) (xs := ws)
      (fun i σ H3 => ∃ x y z, σ = [some (.ref a), z, some (.ref L), x, y] ∧ Same H H3 ∧ H3 L = some (.lst ((lvs (ps.take i)).map V.str)) ∧ okTs (ps.take i) = true) ?_ ?_ ?_ ?_⟩
    · exact ⟨none, none, none, rfl, same_new s1 hL, by simp only [List.take_zero, lvs, List.map_nil]; exact upd_same, by simp only [List.take_zero, okTs]⟩
    · rintro i σ H3 _ ⟨x, y, z, rfl, s3, _, _⟩
      exact SqT.of (s3 _ _ hb)
    · rintro i x σ H3 hx ⟨y, y2, z, rfl, s3, hL3, g⟩
      obtain ⟨u, hu, hu2⟩ := Ats.get hws hx
      have hum : u ∈ ps := List.mem_of_getElem? hu
      have hdu : dp u < n := by
        have := lv_mem_dp (.node k ps) k ps rfl u hum
        omega
      have hsu := szs_mem ps u hum
      refine ⟨_, rfl, x, u, rfl, At.keep (same_tup s3) u x hu2, hdu, fun z hz => hfit z (by simp only [lv]; exact lvs_mem ps u hum z hz), by omega, fun hok l H4 s4 hl4 => ?_, fun hno H4 s4 => ?_⟩
      · refine ⟨_, rfl, _, rfl, ?_⟩
        refine iteF ?_
        have hL4 := s4 _ _ hL3
        have t1 := lvs_take_len ps i
        have t2 := lv_sz u
        refine ⟨_, rfl, .inl ⟨rfl, _, SqL.of hL4⟩, _, rfl, L, l, _, _, rfl, rfl, hL4, hl4, ?_, ?_⟩
        · rw [List.length_map, List.length_map]; omega
        refine ⟨_, _, _, rfl, ?_, ?_, ?_⟩
        · intro c o e
          rw [upd_ne (ne_of_none e hHL)]
          exact s4 _ _ (s3 _ _ e)
        · rw [upd_same, lvs_step hu, List.map_append]
        · rw [okTs_step hu, g, hok]; rfl
      · refine ⟨_, rfl, _, rfl, ?_⟩
        refine iteT ?_
        refine kN ?_ H4 (s3.trans s4)
        rw [eo2]
        cases e : okTs ps with
        | true => rw [okTs_mem e hum] at hno; cases hno
        | false => rfl
    · rintro σ H3 ⟨x, y, z, rfl, s3, hL3, g⟩
      rw [List.take_of_length_le (by omega)] at hL3 g
      exact ⟨_, rfl, kS (eo2.trans g) L H3 s3 (by simp only [lv]; exact hL3)⟩
theorem found_all {f : Addr} {fd : FuncData} (F : Fun K "_law_found" "_law_found" sFound f fd) (Z : Names0 mg) (bF : Binds K fd ["_law_thing"] []) (mF : mg "_law_found" = some (.ref f)) : ∀ n : Nat, FnOk P w K mg base CX0 (n + 1) f fd ["_law_thing"] (spFound n)
  | 0 => fn_none fun vs H Q E h => by
    obtain ⟨v, t, _, _, h, _⟩ := h
    omega
  | n + 1 => ok_found F Z bF mF (found_all F Z bF mF n)
end
end FM
namespace FM
open PySem L2
theorem sz_fits {t : T} (h : sz t ≤ 1000) : fits t := fits_len fun s hs => by
  have := name_sz t s hs
  rw [cs_len] at this
  omega
section
variable {P : Program} {w : World} {K : PySem.W.Frag} {mg : Str → Option Value} {base : Heap}
/-! ### _law_is_tree -/
def spIsTree : Sp := fun vs H Q _ => ∃ (v : V) (t : T), vs = [v] ∧ At H v t ∧ sz t ≤ 110 ∧ ∀ H', Same H H' → Q (.bl (plan t)) H'
abbrev nIsTree : List Str := ["_law_thing", "_law_found_here"]
theorem scIsTree : FnScope nIsTree ["_law_thing"] (defScope sIsTree) := ⟨rfl, rfl, rfl, by decide +kernel, rfl, by decide +kernel, by decide +kernel⟩
theorem ok_isTree {f fF : Addr} {fd fdF : FuncData} (F : Fun K "_law_is_tree" "_law_is_tree" sIsTree f fd) (Z : Names0 mg) (GF : FnOk P w K mg base CX0 112 fF fdF ["_law_thing"] (spFound 111))
    (bF : Binds K fdF ["_law_thing"] []) (kF : PySem.W.keepIn K (.ref fF) = true) (mF : mg "_law_found" = some (.ref fF)) : FnOk P w K mg base CX0 113 f fd ["_law_thing"] spIsTree := by
  refine F.ok scIsTree (fun vs H Q E h => ?_) (fun cdv A outer s H vs Q E hr h => ?_)
  · obtain ⟨v, t, rfl, _⟩ := h; rfl
  obtain ⟨v, t, rfl, hv, hz, k⟩ := h
  have hd := dp_sz t
  refine ⟨_, pss_cons (ps_set (i := 1) scIsTree.nd rfl (Or.inl rfl) (pe_call GF hr (by rfl) mF kF bF .nil pass0 (pa_cons (pv 0) pa_nil)))
    (pss_one (ps_ret (pe_and (pe_cmp (pc_notN (pv 1))) (pe_and (pe_cmpR op_lt (pe_callB call_len (by rfl) Z.len PySem.boot_len (pa_cons (pv 1) pa_nil)) pe_int (nomark _))
      (pe_one (pe_cmpR op_eq (pe_lenSetS (by rfl) Z.len (by rfl) Z.set (pv 1)) (pe_callB call_len (by rfl) Z.len PySem.boot_len (pa_cons (pv 1) pa_nil)) (nomark _))))))), ?_⟩
  refine ⟨_, rfl, v, t, rfl, hv, by omega, sz_fits (by omega), by omega, fun hok l H1 s1 hl => ?_, fun hno H1 s1 => ?_⟩
  · refine ⟨_, rfl, _, rfl, ?_⟩
    refine iteT ?_
    refine ⟨_, rfl, _, _, rfl, len_lst hl, _, _, rfl, rfl, _, rfl, ?_⟩
    have em : ((lv t).map V.str).length = (lv t).length := List.length_map _
    have hlv := lv_sz t
    refine iteB (fun h9 => ?_) (fun h9 => ?_)
    · have h9 := of_decide_eq_true h9
      refine ⟨_, rfl, l, lv t, rfl, SqL.of hl, by omega, fun n hn => ⟨_, rfl, _, _, rfl, len_lst hl, rfl, ?_⟩⟩
      refine qb ?_ (k H1 s1)
      by_cases hnd : (lv t).Nodup
      · rw [plan_iff.mpr ⟨hok, hnd, by omega⟩]
        have := hn.mpr hnd
        exact decide_eq_true (congrArg V.int (by omega))
      · have e : plan t = false := by
          cases e : plan t with
          | true => exact absurd (plan_iff.mp e).2.1 hnd
          | false => rfl
        rw [e]
        refine decide_eq_false fun q => hnd (hn.mp ?_)
        have q := V.int.inj q
        omega
    · have h9 := of_decide_eq_false h9
      have e : plan t = false := by
        cases e : plan t with
        | true => have := (plan_iff.mp e).2.2; omega
        | false => rfl
      have := k H1 s1
      rw [e] at this
      exact this
  · have e : plan t = false := by
      cases e : plan t with
      | true => rw [(plan_iff.mp e).1] at hno; cases hno
      | false => rfl
    have := k H1 s1
    rw [e] at this
    exact ⟨_, rfl, _, rfl, iteF this⟩
/-! ### _law_written: n bounds the depth -/
abbrev nWritten : List Str := ["_law_tree_here", "_law_part"]
theorem scWritten : FnScope nWritten ["_law_tree_here"] (defScope sWritten) := ⟨rfl, rfl, rfl, by decide +kernel, rfl, by decide +kernel, by decide +kernel⟩
theorem ok_written {f : Addr} {fd : FuncData} {n : Nat} (F : Fun K "_law_written" "_law_written" sWritten f fd) (Z : Names0 mg) (bF : Binds K fd ["_law_tree_here"] []) (mF : mg "_law_written" = some (.ref f))
    (ih : FnOk P w K mg base CX0 (n + 1) f fd ["_law_tree_here"] (spForm n)) : FnOk P w K mg base CX0 (n + 2) f fd ["_law_tree_here"] (spForm (n + 1)) := by
  refine F.ok scWritten (fun vs H Q E h => ?_) (fun cdv A outer s H vs Q E hr h => ?_)
  · obtain ⟨v, t, rfl, _⟩ := h; rfl
  obtain ⟨v, t, rfl, hv, hd, hz, k⟩ := h
  refine ⟨_, pss_cons (ps_if (pt_val (pIsi (pv 0) Z.isi Z.str bs_str)) (pss_one (ps_ret (pv 0))) pss_nil)
    (pss_one (ps_ret (pe_op op_add_str (pe_op op_add_str (pe_op op_add_str (pe_ix ix_tup (pv 0) pe_int (fun _ _ => rfl)) pe_str)
      (pe_join pe_str (pe_lc (own := [("_law_part", 1)]) (g := gName 1) (by rfl) scWritten.nd (pi_tup (pe_ix ix_tup (pv 0) pe_int (fun _ _ => rfl)))
        (blkOk_by (N := nWritten) (sc := defScope sWritten) (by decide +kernel)) (fun _ _ _ _ _ => pg_name (i := 1) scWritten.nd rfl (Or.inl rfl)) (fun _ _ _ _ _ => pts_nil)
        (fun _ _ _ _ _ => pe_call ih hr (by rfl) mF F.kp bF .nil pass0 (pa_cons (pv 1) pa_nil))))) pe_str))), ?_⟩
  cases t with
  | leaf x =>
    simp only [At] at hv
    subst hv
    refine ⟨_, rfl, .str x, .ty "str", _, _, true, rfl, .ty _, .base (.str _), kit_ty (by decide +kernel), _, rfl, ?_⟩
    refine iteT ?_
    have := k H (Same.refl H)
    rw [show wr (.leaf x) = cs x by simp only [wr], ms_cs] at this
    exact ⟨_, rfl, this⟩
  | node kd ps =>
    simp only [At] at hv
    obtain ⟨a, b, ws, rfl, ha, hb, hws⟩ := hv
    have hlen := Ats.len hws
    have ew : wr (.node kd ps) = cs kd ++ 40 :: (wrs ps ++ [41]) := by simp only [wr]
    have hz' : (cs kd).length + (wrs ps).length + 2 ≤ 1000000 := by
      rw [ew] at hz
      simp only [List.length_append, List.length_cons, List.length_nil] at hz
      omega
    have hsl : sizeLine = 16777216 := sizeLine_eq
    have ek := cs_len kd
    have e1 : ("(" : Str).length = 1 := by decide +kernel
    have e3 : (")" : Str).length = 1 := by decide +kernel
    refine ⟨_, rfl, .ref a, .ty "str", _, _, false, rfl, .ty _, .base (.tup ha), kit_ty (by decide +kernel), _, rfl, ?_⟩
    refine iteF ?_
    refine ⟨_, rfl, a, _, 0, _, rfl, rfl, SqT.of ha, rfl, _, _, rfl, rfl, by omega, ⟨_, rfl⟩, ?_⟩
    refine ⟨_, rfl, a, _, 1, _, rfl, rfl, SqT.of ha, rfl, b, rfl, ⟨_, SqT.of hb⟩, fun D hD => ?_⟩
    refine lc_tup (K := K) (a := b) (xs := ws) (fun i H' => Same H H' ∧ H' D = some (.lst (((ps.take i).map fun t => ms (wr t)).map V.str))) ⟨same_upd hD, by simp only [List.take_zero, List.map_nil]; exact upd_same⟩ (fun i H' _ h => SqT.of (h.1 _ _ hb)) ?_ ?_
    · rintro i x H1 hx ⟨s1, d1⟩
      obtain ⟨u, hu, hu2⟩ := Ats.get hws hx
      have hum : u ∈ ps := List.mem_of_getElem? hu
      have hdu : dp u < n := by
        have := lv_mem_dp (.node kd ps) kd ps rfl u hum
        omega
      have hwu := wr_mem ps u hum
      refine ⟨rfl, _, rfl, x, u, rfl, At.keep (same_tup s1) u x hu2, hdu, by omega, fun H2 s2 => ?_⟩
      refine ⟨_, s2 _ _ d1, ?_, ?_, ?_⟩
      · have hl := wrs_len ps
        simp only [List.length_map, List.length_take]
        omega
      · intro c o e
        rw [upd_ne (ne_of_none e hD)]
        exact s2 _ _ (s1 _ _ e)
      · rw [upd_same, List.take_add_one, hu]
        simp
    · rintro H1 ⟨s1, d1⟩
      rw [List.take_of_length_le (by omega)] at d1
      have hsum := (sum_wr ps).1
      have hl := (wrs_len ps).1
      have e2 : (", " : Str).length = 2 := by decide +kernel
      refine ⟨_, D, ps.map fun t => ms (wr t), rfl, rfl, .inl (SqL.of d1), ?_, ?_⟩
      · rw [e2, List.length_map]; omega
      rw [join_cs]
      refine ⟨_, _, rfl, rfl, ?_, ?_⟩
      · rw [strLen_append, ms_len]; omega
      refine ⟨_, _, rfl, rfl, ?_, ?_⟩
      · rw [strLen_append, strLen_append, ms_len]; omega
      have e : kd ++ ("(" : Str) ++ ms (wrs ps) ++ (")" : Str) = ms (wr (.node kd ps)) := by
        refine cs_inj ?_
        rw [cs_app, cs_app, cs_app, cs_ms, cs_ms, ew, c_open, c_close]
        simp
      exact qv (congrArg V.str e) (k H1 s1)
theorem written_all {f : Addr} {fd : FuncData} (F : Fun K "_law_written" "_law_written" sWritten f fd) (Z : Names0 mg) (bF : Binds K fd ["_law_tree_here"] []) (mF : mg "_law_written" = some (.ref f)) : ∀ n : Nat, FnOk P w K mg base CX0 (n + 1) f fd ["_law_tree_here"] (spForm n)
  | 0 => fn_none fun vs H Q E h => by
    obtain ⟨v, t, _, _, h, _⟩ := h
    omega
  | n + 1 => ok_written F Z bF mF (written_all F Z bF mF n)
end
end FM
namespace FM
open PySem L2
/-! ### the levels of the law's reader, on the heap: the addresses from the top down -/
def Stk (H : Hp) : List Addr → List (Str × List T) → List T → Prop
  | [a], [], bot => ∃ vs, H a = some (.lst vs) ∧ Ats H vs bot
  | a :: r, (k, ps) :: st, bot => (∃ vs, H a = some (.lst (V.str k :: vs)) ∧ Ats H vs ps) ∧ Stk H r st bot
  | _, _, _ => False
theorem Stk.len {H : Hp} : ∀ {as : List Addr} {st : List (Str × List T)} {bot : List T}, Stk H as st bot → as.length = st.length + 1
  | [a], [], _, _ => rfl
  | a :: r, (k, ps) :: st, bot, h => by
    simp only [Stk] at h
    simp only [List.length_cons, Stk.len h.2]
  | [], _, _, h => by simp [Stk] at h
  | _ :: _ :: _, [], _, h => by simp [Stk] at h
theorem Stk.keep {H H' : Hp} (tk : TupK H H') : ∀ {as : List Addr} {st : List (Str × List T)} {bot : List T}, (∀ b ∈ as, ∀ o, H b = some o → H' b = some o) → Stk H as st bot → Stk H' as st bot
  | [a], [], bot, k, h => by
    simp only [Stk] at h ⊢
    obtain ⟨vs, h1, h2⟩ := h
    exact ⟨vs, k a List.mem_cons_self _ h1, Ats.keep tk bot vs h2⟩
  | a :: r, (kk, ps) :: st, bot, k, h => by
    simp only [Stk] at h ⊢
    obtain ⟨⟨vs, h1, h2⟩, h3⟩ := h
    exact ⟨⟨vs, k a List.mem_cons_self _ h1, Ats.keep tk ps vs h2⟩, Stk.keep tk (fun b hb => k b (List.mem_cons_of_mem _ hb)) h3⟩
  | [], _, _, _, h => by simp [Stk] at h
  | _ :: _ :: _, [], _, _, h => by simp [Stk] at h
/-- the top level's list, and what it is worth to append to it -/
theorem Stk.top {H : Hp} {as : List Addr} {st : List (Str × List T)} {bot : List T} (h : Stk H as st bot) : ∃ a r xs, as = a :: r ∧ H a = some (.lst xs) ∧ xs.length ≤ szk st + szs bot ∧
    ∀ H' y t w, a ∉ r → H' a = some (.lst (xs ++ [y])) → At H' y t → TupK H H' → (∀ b ∈ r, ∀ o, H b = some o → H' b = some o) → Stk H' as (push ⟨st, bot, w⟩ t).stk (push ⟨st, bot, w⟩ t).bot := by
  match as, st, h with
  | [a], [], h =>
    simp only [Stk] at h
    obtain ⟨vs, h1, h2⟩ := h
    have hl := Ats.len h2
    have hl2 := len_szs bot
    refine ⟨a, [], vs, rfl, h1, by simp only [szk]; omega, fun H' y t w _ h3 h4 tk _ => ?_⟩
    unfold push
    simp only [Stk]
    exact ⟨_, h3, Ats.app (Ats.keep tk bot vs h2) (Ats.one h4)⟩
  | a :: r, (k, ps) :: st, h =>
    simp only [Stk] at h
    obtain ⟨⟨vs, h1, h2⟩, h3⟩ := h
    have hl := Ats.len h2
    have hl2 := len_szs ps
    refine ⟨a, r, _, rfl, h1, by simp only [szk, List.length_cons]; omega, fun H' y t w _ h4 h5 tk kp => ?_⟩
    unfold push
    simp only [Stk]
    exact ⟨⟨vs ++ [y], h4, Ats.app (Ats.keep tk ps vs h2) (Ats.one h5)⟩, Stk.keep tk kp h3⟩
  | [], _, h => simp [Stk] at h
  | _ :: _ :: _, [], h => simp [Stk] at h
/-- all that the loop keeps of its heap: H ahead of it, L the list of levels -/
structure LevIn (H H' : Hp) (L : Addr) (as : List Addr) (st : List (Str × List T)) (bot : List T) : Prop where
  same : Same H H'
  lev : H' L = some (.lst (as.reverse.map V.ref))
  stk : Stk H' as st bot
  nd : as.Nodup
  nL : L ∉ as
  new : ∀ a ∈ as, H a = none
  newL : H L = none
theorem lev_there {H' : Hp} {as : List Addr} {st : List (Str × List T)} {bot : List T} (h : Stk H' as st bot) : ∀ a ∈ as, ∃ xs, H' a = some (.lst xs) := by
  intro a ha
  induction as generalizing st with
  | nil => cases ha
  | cons b r ih =>
    match r, st, h with
    | [], [], h =>
      simp only [Stk] at h
      obtain ⟨vs, h1, _⟩ := h
      rw [List.mem_singleton.mp ha]
      exact ⟨_, h1⟩
    | r, (k, ps) :: st, h =>
      simp only [Stk] at h
      rcases List.mem_cons.mp ha with rfl | ha
      · obtain ⟨⟨vs, h1, _⟩, _⟩ := h
        exact ⟨_, h1⟩
      · exact ih h.2 ha
    | _ :: _, [], h => simp [Stk] at h
/-- new objects beside the levels -/
theorem LevIn.more {H H1 H2 : Hp} {L : Addr} {as : List Addr} {st : List (Str × List T)} {bot : List T} (I : LevIn H H1 L as st bot) (s : Same H1 H2) : LevIn H H2 L as st bot :=
  ⟨I.same.trans s, s _ _ I.lev, Stk.keep (same_tup s) (fun b _ o h => s b o h) I.stk, I.nd, I.nL, I.new, I.newL⟩
/-- an item at the top -/
theorem LevIn.push {H H1 : Hp} {L : Addr} {as : List Addr} {st : List (Str × List T)} {bot : List T} (I : LevIn H H1 L as st bot) : ∃ a r xs, as = a :: r ∧ H1 a = some (.lst xs) ∧ xs.length ≤ szk st + szs bot ∧
    ∀ y t w, At H1 y t → LevIn H (upd H1 a (.lst (xs ++ [y]))) L as (FM.push ⟨st, bot, w⟩ t).stk (FM.push ⟨st, bot, w⟩ t).bot := by
  obtain ⟨a, r, xs, rfl, h1, h2, h3⟩ := I.stk.top
  refine ⟨a, r, xs, rfl, h1, h2, fun y t w hy => ?_⟩
  have nr : a ∉ r := (List.nodup_cons.mp I.nd).1
  have tk : TupK H1 (upd H1 a (.lst (xs ++ [y]))) := fun b ys e => by rw [upd_ne (ne_of e h1 (by intro z; cases z))]; exact e
  have hLa : L ≠ a := fun z => I.nL (z ▸ List.mem_cons_self)
  refine ⟨fun b o e => ?_, by rw [upd_ne hLa]; exact I.lev, h3 _ y t w nr upd_same (At.keep tk t y hy) tk fun b hb o e => ?_, I.nd, I.nL, I.new, I.newL⟩
  · rw [upd_ne (ne_of_none e (I.new a List.mem_cons_self))]
    exact I.same b o e
  · rw [upd_ne (show b ≠ a from fun z => nr (by rw [← z]; exact hb))]; exact e
theorem last_ref {as : List Addr} {a : Addr} {r : List Addr} (h : as = a :: r) : atI (as.reverse.map V.ref) (-1) = some (V.ref a) := by
  rw [h, List.reverse_cons, List.map_append]
  exact atI_last _ _
theorem c_comma : cs (",)" : Str) = [44, 41] := by decide +kernel
theorem dec_sign {c k : Nat} {s : Str} (h : cs s = [k]) : decide (V.str ⟨#[c]⟩ = V.str s) = decide (c = k) := by
  have : (⟨#[c]⟩ : Str) = ms [c] := rfl
  rw [this, dec_ms h]
  exact decide_eq_decide.mpr ⟨fun q => by injection q, fun q => by rw [q]⟩
theorem run_snoc {l : List Nat} {i : Nat} {c : Nat} {s : S} (h : run s0 (l.take i) = some s) (hc : l[i]? = some c) : run s0 (l.take (i + 1)) = step s c := by
  rw [List.take_add_one, hc, run_append, h]
  simp only [Option.bind_some, Option.toList_some]
  rw [run_cons]
  cases step s c <;> rfl
theorem run_fail {l : List Nat} {i : Nat} (h : run s0 (l.take i) = none) : lread l = none := by
  have e : run s0 l = none := by
    rw [← List.take_append_drop i l, run_append, h]
    rfl
  unfold lread
  rw [e]
end FM
namespace FM
open PySem L2
theorem upd_id {H : Hp} {a : Addr} {o : HO} (h : H a = some o) : upd H a o = H := by
  funext b
  by_cases e : b = a
  · rw [e, upd_same, h]
  · rw [upd_ne e]
/-- levels[-1].extend([word] * int(word != '')) -/
abbrev tFlush (K : PySem.W.Frag) : TS := tDrop (tBM K "list" rExtend (tOp (rIxL K) (tVar 1) (tUn (rU fun i => .int (-i)) (tC (.int 1))))
  (tCons (tOp rRep (tLst (tCons (tVar 2) tNil)) (tCB (fun xs H Q => (∃ i, xs = [.int i] ∧ Q (.int i) H) ∨ ∃ k, xs = [.bl k] ∧ Q (.int (if k then 1 else 0)) H) (tCons (tOp rNe (tVar 2) (tC (.str ""))) tNil))) tNil))
theorem flush_red {K : PySem.W.Frag} {D : Ends} {H H1 : Hp} {L : Addr} {as : List Addr} {s : S} {v0 y3 y4 : Option V} (I : LevIn H H1 L as s.stk s.bot) (hz : szS s ≤ 110)
    (k : ∀ H2, LevIn H H2 L as (flush s).stk (flush s).bot → D.nx [v0, some (.ref L), some (.str (ms s.w)), y3, y4] H2) : tFlush K D [v0, some (.ref L), some (.str (ms s.w)), y3, y4] H1 := by
  have hsl : sizeLine = 16777216 := sizeLine_eq
  obtain ⟨a, r, xs, rfl, ha, hx, hp⟩ := I.push
  have hlen : xs.length ≤ 110 := by unfold szS at hz; omega
  refine ⟨_, rfl, 1, rfl, L, _, -1, V.ref a, rfl, rfl, SqL.of I.lev, last_ref rfl, .inl ⟨rfl, _, SqL.of ha⟩, ?_⟩
  refine ⟨_, rfl, (by show 1 ≤ sizeLine; decide), fun p1 h1 => ?_⟩
  have s1 : Same H1 (upd H1 p1 (.lst [V.str (ms s.w)])) := same_upd h1
  have e0 : cs ("" : Str) = [] := by decide +kernel
  have ew : decide (V.str (ms s.w) = V.str "") = decide (s.w = []) := dec_ms e0
  refine ⟨_, rfl, rfl, .inr ⟨_, rfl, ?_⟩⟩
  by_cases hw : s.w = []
  · have ek : (!decide (V.str (ms s.w) = V.str "")) = false := by rw [ew, decide_eq_true hw]; rfl
    rw [ek]
    refine ⟨p1, 0, _, rfl, rfl, upd_same, by decide, by decide, by simp, fun p2 h2 => ?_⟩
    have s2 := s1.trans (same_upd (o := .lst (List.replicate (0 : Int).toNat [V.str (ms s.w)]).flatten) h2)
    have ef : flush s = s := flush_nil hw
    refine ⟨a, p2, xs, _, rfl, rfl, s2 _ _ ha, upd_same, by simp; omega, ?_⟩
    have e : xs ++ (List.replicate (0 : Int).toNat [V.str (ms s.w)]).flatten = xs := by simp
    rw [e, upd_id (s2 _ _ ha)]
    refine k _ ?_
    rw [ef]
    exact I.more s2
  · have ek : (!decide (V.str (ms s.w) = V.str "")) = true := by rw [ew, decide_eq_false hw]; rfl
    rw [ek]
    refine ⟨p1, 1, _, rfl, rfl, upd_same, by decide, by decide, by simp; omega, fun p2 h2 => ?_⟩
    have s2 := s1.trans (same_upd (o := .lst (List.replicate (1 : Int).toNat [V.str (ms s.w)]).flatten) h2)
    obtain ⟨a', r', xs', e1, ha', hx', hp'⟩ := (I.more s2).push
    obtain ⟨rfl, rfl⟩ := List.cons.inj e1
    have e2 : xs' = xs := by
      have := s2 _ _ ha
      rw [this] at ha'
      injection ha' with ha'
      injection ha' with ha'
      exact ha'.symm
    subst e2
    refine ⟨a, p2, xs', _, rfl, rfl, ha', upd_same, by simp; omega, ?_⟩
    have e : xs' ++ (List.replicate (1 : Int).toNat [V.str (ms s.w)]).flatten = xs' ++ [V.str (ms s.w)] := by simp
    rw [e]
    refine k _ ?_
    have := hp' (V.str (ms s.w)) (.leaf (ms s.w)) s.w (by simp only [At])
    unfold flush
    rw [if_neg hw]
    exact this
section
variable {P : Program} {w : World} {K : PySem.W.Frag} {mg : Str → Option Value} {base : Heap}
/-! ### _law_read -/
def spLRead : Sp := fun vs H Q _ => ∃ x : Str, vs = [.str x] ∧ x.length ≤ 110 ∧ ∀ v H', Same H H' → OptAt H' v (lread (cs x)) → Q v H'
abbrev nLRead : List Str := ["_law_text", "_law_levels", "_law_word", "_law_sign", "_law_last"]
theorem scLRead : FnScope nLRead ["_law_text"] (defScope sLRead) := ⟨rfl, rfl, rfl, by decide +kernel, rfl, by decide +kernel, by decide +kernel⟩
theorem bs_int : bootBuiltins "int" = some (.type "int") := by decide +kernel
theorem ok_lread {f fT fW : Addr} {fd fdT fdW : FuncData} (F : Fun K "_law_read" "_law_read" sLRead f fd) (Z : Names0 mg)
    (GT : FnOk P w K mg base CX0 113 fT fdT ["_law_thing"] spIsTree) (bT : Binds K fdT ["_law_thing"] []) (kT : PySem.W.keepIn K (.ref fT) = true) (mT : mg "_law_is_tree" = some (.ref fT))
    (GW : FnOk P w K mg base CX0 10 fW fdW ["_law_tree_here"] (spForm 9)) (bW : Binds K fdW ["_law_tree_here"] []) (kW : PySem.W.keepIn K (.ref fW) = true) (mW : mg "_law_written" = some (.ref fW)) :
    FnOk P w K mg base CX0 114 f fd ["_law_text"] spLRead := by
  refine F.ok scLRead (fun vs H Q E h => ?_) (fun cdv A outer s H vs Q E hr h => ?_)
  · obtain ⟨x, rfl, _⟩ := h; rfl
  obtain ⟨x, rfl, hz, k⟩ := h
  refine ⟨_, pss_cons (ps_par rfl scLRead.nd (i := 1) (j := 2) rfl rfl (by decide) rfl rfl (pa_cons (pe_lst (pa_cons (pe_lst pa_nil) pa_nil)) (pa_cons pe_str pa_nil)) (by with_unfolding_all rfl))
    (pss_cons (ps_for PassesOwn.never rfl (pi_str (pv 0)) (pg_name (i := 3) scLRead.nd rfl (Or.inl rfl))
      (pss_one (ps_if (pt_cmpR op_in_sign (pv 3) pe_str rfl) (pss_one (ps_set (i := 2) scLRead.nd rfl (Or.inl rfl) (pe_op op_add_str (pv 2) (pv 3))))
        (pss_one (ps_if (pt_cmpR op_eq (pv 3) pe_str (nomark _)) (pss_cons (ps_expr (pe_bm PySem.F.plainAttrs_list PySem.F.slot_list_append PySem.F.type_list_append mt_append (pv 1) (pa_cons (pe_lst (pa_cons (pv 2) pa_nil)) pa_nil))) (pss_one (ps_set (i := 2) scLRead.nd rfl (Or.inl rfl) pe_str)))
        (pss_one (ps_if (pt_cmpR op_in_sign (pv 3) pe_str rfl)
          (pss_cons (ps_expr (pe_bm PySem.F.plainAttrs_list PySem.F.slot_list_extend PySem.F.type_list_extend mt_extend (pe_ix ix_list (pv 1) (pe_un un_neg pe_int) (fun _ _ => rfl)) (pa_cons (pe_op op_rep (pe_lst (pa_cons (pv 2) pa_nil)) (pe_callTy call_int1 (by rfl) Z.int bs_int (pa_cons (pe_cmpR op_ne (pv 2) pe_str (nomark _)) pa_nil))) pa_nil))) (pss_cons (ps_set (i := 2) scLRead.nd rfl (Or.inl rfl) pe_str)
          (pss_one (ps_if (pt_cmpR op_eq (pv 3) pe_str (nomark _))
            (pss_cons (ps_if (pt_cmpR op_lt (pe_callB call_len (by rfl) Z.len PySem.boot_len (pa_cons (pv 1) pa_nil)) pe_int (nomark _)) (pss_one (ps_ret pe_non)) pss_nil)
            (pss_cons (ps_set (i := 4) scLRead.nd rfl (Or.inl rfl) (pe_bm0 PySem.F.plainAttrs_list PySem.F.slot_list_pop PySem.F.type_list_pop mt_pop (pv 1)))
            (pss_one (ps_expr (pe_bm PySem.F.plainAttrs_list PySem.F.slot_list_append PySem.F.type_list_append mt_append (pe_ix ix_list (pv 1) (pe_un un_neg pe_int) (fun _ _ => rfl))
              (pa_cons (pe_tup (pa_cons (pe_ix ix_list (pv 4) pe_int (fun _ _ => rfl)) (pa_cons (pe_callTy call_tuple_of (by rfl) Z.tup bs_tuple (pa_cons (pe_slice sl_list (pv 4) (po_some pe_int) po_none) pa_nil)) pa_nil))) pa_nil)))))) pss_nil))))
        (pss_one (ps_if (pt_cmpR op_ne (pv 3) pe_str (nomark _)) (pss_one (ps_ret pe_non)) pss_nil)))))))))
    (pss_cons (ps_expr (pe_bm PySem.F.plainAttrs_list PySem.F.slot_list_extend PySem.F.type_list_extend mt_extend (pe_ix ix_list (pv 1) (pe_un un_neg pe_int) (fun _ _ => rfl)) (pa_cons (pe_op op_rep (pe_lst (pa_cons (pv 2) pa_nil)) (pe_callTy call_int1 (by rfl) Z.int bs_int (pa_cons (pe_cmpR op_ne (pv 2) pe_str (nomark _)) pa_nil))) pa_nil)))
    (pss_cons (ps_if (PW.pt (pw_or (pt_cmpR op_ne (pe_callB call_len (by rfl) Z.len PySem.boot_len (pa_cons (pv 1) pa_nil)) pe_int (nomark _))
        (pw_or (pt_cmpR op_ne (pe_callB call_len (by rfl) Z.len PySem.boot_len (pa_cons (pe_ix ix_list (pv 1) pe_int (fun _ _ => rfl)) pa_nil)) pe_int (nomark _))
        (pw_or1 (pt_not (pt_val (pe_call GT hr (by rfl) mT kT bT .nil pass0 (pa_cons (pe_ix ix_list (pe_ix ix_list (pv 1) pe_int (fun _ _ => rfl)) pe_int (fun _ _ => rfl)) pa_nil)))))))) (pss_one (ps_ret pe_non)) pss_nil)
    (pss_one (ps_ret (pe_ifExp (pt_cmpR op_eq (pe_call GW (hr.mono (by decide)) (by rfl) mW kW bW .nil pass0 (pa_cons (pe_ix ix_list (pe_ix ix_list (pv 1) pe_int (fun _ _ => rfl)) pe_int (fun _ _ => rfl)) pa_nil)) (pv 0) (nomark _))
      (pe_ix ix_list (pe_ix ix_list (pv 1) pe_int (fun _ _ => rfl)) pe_int (fun _ _ => rfl)) pe_non)))))), ?_⟩
  have hsl : sizeLine = 16777216 := sizeLine_eq
  have hcl := cs_len x
  have cE : cs ("" : Str) = [] := by decide +kernel
  have mE : ms [] = ("" : Str) := ms_eq.mpr cE.symm
  have bad : lread (cs x) = none → ∀ H', Same H H' → Q .non H' := fun h H' s1 => k .non H' s1 (by rw [h]; rfl)
  -- the lists of the start
  refine ⟨Nat.zero_le _, fun b0 hb0 => ⟨(by show 1 ≤ sizeLine; decide), fun L hL => ⟨_, _, rfl, ?_⟩⟩⟩
  have hLb : L ≠ b0 := fun z => by rw [z, upd_same] at hL; cases hL
  have hL0 : H L = none := by rw [upd_ne hLb] at hL; exact hL
  have s1 : Same H (upd (upd H b0 (.lst [])) L (.lst [V.ref b0])) := same_new (same_upd hb0) hL
  have I0 : LevIn H (upd (upd H b0 (.lst [])) L (.lst [V.ref b0])) L [b0] [] [] := by
    refine ⟨s1, upd_same, ?_, by simp, ?_, ?_, hL0⟩
    · simp only [Stk]
      exact ⟨[], by rw [upd_ne (Ne.symm hLb), upd_same], by simp only [Ats]⟩
    · simp only [List.mem_singleton]; exact hLb
    · intro a ha
      rw [List.mem_singleton.mp ha]; exact hb0
  generalize upd (upd H b0 (.lst [])) L (.lst [V.ref b0]) = H0 at I0
  refine ⟨_, rfl, x, rfl, for_it (walk_str (z := x)) (fun i σ H1 => ∃ (st : S) (as : List Addr) (y3 y4 : Option V), σ = [some (.str x), some (.ref L), some (.str (ms st.w)), y3, y4] ∧
    run s0 ((cs x).take i) = some st ∧ szS st ≤ i ∧ LevIn H H1 L as st.stk st.bot) ⟨s0, [b0], none, none, ?_, rfl, Nat.le_refl _, I0⟩ (fun _ _ _ _ _ => True.intro) ?_ ?_⟩
  · exact congrArg (fun z => [some (V.str x), some (V.ref L), some (V.str z), none, none]) mE.symm
  · -- a turn
    rintro i v σ _ H1 hi ⟨st, as, y3, y4, rfl, hrun, hsz, I1⟩ ⟨rfl, c, hc, rfl⟩
    have hi : i < x.length := hi
    have hc' : (cs x)[i]? = some c := by
      show x.cps.toList[i]? = some c
      rw [Array.getElem?_toList]; exact hc
    have hstep := run_snoc hrun hc'
    have nofail : step st c = none → lread (cs x) = none := fun h => run_fail (i := i + 1) (by rw [hstep, h])
    refine ⟨_, rfl, c, _, rfl, rfl, _, rfl, ?_⟩
    rw [let_dec]
    refine iteB (fun h1 => ?_) (fun h1 => ?_)
    · -- a letter
      have e1 : step st c = some { st with w := st.w ++ [c] } := by unfold step; rw [if_pos h1]
      have hw : st.w.length ≤ szS st := by unfold szS; omega
      refine ⟨_, rfl, _, rfl, _, _, rfl, rfl, ?_, { st with w := st.w ++ [c] }, as, some (V.str ⟨#[c]⟩), y4, ?_, ?_, ?_, I1⟩
      · have : (⟨#[c]⟩ : Str).length = 1 := rfl
        rw [ms_len, this]; omega
      · have : ms st.w ++ (⟨#[c]⟩ : Str) = ms (st.w ++ [c]) := by
          refine cs_inj ?_
          rw [cs_app, cs_ms, cs_ms]
        show [_, _, _, _, _] = _
        exact congrArg (fun z => [some (V.str x), some (V.ref L), some (V.str z), some (V.str ⟨#[c]⟩), y4]) this
      · rw [hstep, e1]
      · have := step_sz e1; omega
    have hl : letter c = false := h1
    have nl : ¬ letter c = true := by rw [hl]; simp
    refine ⟨_, rfl, rfl, _, rfl, ?_⟩
    rw [dec_sign c_open]
    refine iteB (fun h2 => ?_) (fun h2 => ?_)
    · -- an opening
      have h2 := of_decide_eq_true h2
      have e1 : step st c = some { st with stk := (ms st.w, []) :: st.stk, w := [] } := by unfold step; rw [if_neg nl, if_pos h2]
      refine ⟨_, rfl, .inl ⟨rfl, _, SqL.of I1.lev⟩, _, rfl, (by show 1 ≤ sizeLine; decide), fun p hp => ?_⟩
      have I2 := I1.more (same_upd hp (o := .lst [V.str (ms st.w)]))
      have hla := Stk.len I1.stk
      have hk2 : st.stk.length ≤ szk st.stk := by
        have : ∀ l : List (Str × List T), l.length ≤ szk l := by
          intro l
          induction l with
          | nil => simp [szk]
          | cons q r ih => obtain ⟨kk, ps⟩ := q; simp only [szk, List.length_cons]; omega
        exact this _
      have hpL : p ≠ L := fun z => by rw [z, I1.lev] at hp; cases hp
      have hpa : p ∉ as := fun z => by
        obtain ⟨ys, e⟩ := lev_there I1.stk p z
        rw [hp] at e; cases e
      have hpH : H p = none := I1.same.free hp
      refine ⟨L, _, _, rfl, rfl, I2.lev, ?_, ?_⟩
      · rw [List.length_map, List.length_reverse, hla]
        unfold szS at hsz
        omega
      refine ⟨{ st with stk := (ms st.w, []) :: st.stk, w := [] }, p :: as, some (V.str ⟨#[c]⟩), y4, ?_, ?_, ?_, ?_⟩
      · show [_, _, _, _, _] = _
        exact congrArg (fun z => [some (V.str x), some (V.ref L), some (V.str z), some (V.str ⟨#[c]⟩), y4]) mE.symm
      · rw [hstep, e1]
      · have := step_sz e1; omega
      · have tk : TupK (upd H1 p (.lst [V.str (ms st.w)])) (upd (upd H1 p (.lst [V.str (ms st.w)])) L (.lst (as.reverse.map V.ref ++ [V.ref p]))) := fun b ys e => by
          rw [upd_ne (ne_of e I2.lev (by intro z; cases z))]; exact e
        refine ⟨fun b o e => ?_, ?_, ?_, List.nodup_cons.mpr ⟨hpa, I1.nd⟩, ?_, ?_, I1.newL⟩
        · rw [upd_ne (ne_of_none e I1.newL)]; exact I2.same b o e
        · rw [upd_same, List.reverse_cons, List.map_append]; rfl
        · have s4 : Stk (upd (upd H1 p (.lst [V.str (ms st.w)])) L (.lst (as.reverse.map V.ref ++ [V.ref p]))) as st.stk st.bot := Stk.keep tk (fun b hb o e => by
            rw [upd_ne (show b ≠ L from fun z => I1.nL (by rw [← z]; exact hb))]; exact e) I2.stk
          cases as with
          | nil => simp [Stk] at s4
          | cons a r =>
            simp only [Stk]
            exact ⟨⟨[], by rw [upd_ne hpL, upd_same], by simp only [Ats]⟩, s4⟩
        · intro z
          rcases List.mem_cons.mp z with z | z
          · exact hpL z.symm
          · exact I1.nL z
        · intro a ha
          rcases List.mem_cons.mp ha with rfl | ha
          · exact hpH
          · exact I1.new a ha
    have h2 := of_decide_eq_false h2
    refine ⟨_, rfl, c, _, rfl, rfl, _, rfl, ?_⟩
    have e44 : decide (c ∈ (",)" : Str).cps.toList) = decide (c = 44 ∨ c = 41) := by
      have : (",)" : Str).cps.toList = [44, 41] := c_comma
      rw [this]
      exact decide_eq_decide.mpr (by simp)
    rw [e44]
    refine iteB (fun h3 => ?_) (fun h3 => ?_)
    · -- a comma, a closing
      have h3 := of_decide_eq_true h3
      refine flush_red (y3 := some (V.str ⟨#[c]⟩)) I1 (by omega) fun H2 I2 => ?_
      have hfw := flush_w st
      have hfz := flush_sz st
      refine ⟨_, rfl, rfl, _, rfl, ?_⟩
      rw [dec_sign c_close]
      refine iteB (fun h4 => ?_) (fun h4 => ?_)
      · have h4 := of_decide_eq_true h4
        have e1 : step st c = close (flush st) := by unfold step; rw [if_neg nl, if_neg h2, if_pos h3, if_pos h4]
        have hla := Stk.len I2.stk
        have el : (as.reverse.map V.ref).length = as.length := by rw [List.length_map, List.length_reverse]
        refine ⟨_, rfl, _, _, rfl, len_lst I2.lev, _, _, rfl, rfl, _, rfl, ?_⟩
        refine iteB (fun h5 => ?_) (fun h5 => ?_)
        · have h5 := of_decide_eq_true h5
          have h6 : (flush st).stk = [] := List.length_eq_zero_iff.mp (by omega)
          refine bad (nofail ?_) H2 I2.same
          rw [e1]; unfold close; rw [h6]
        have h5 := of_decide_eq_false h5
        -- last = levels.pop()
        have hstk := I2.stk
        have hndp := I2.nd
        have hnLp := I2.nL
        have hnewp := I2.new
        have hlevp := I2.lev
        cases hfs : (flush st).stk with
        | nil => rw [hfs] at hla; simp only [List.length_nil] at hla; omega
        | cons q st2 =>
          obtain ⟨kd, ps⟩ := q
          rw [hfs] at hstk
          cases as with
          | nil => simp [Stk] at hstk
          | cons a r =>
            simp only [Stk] at hstk
            obtain ⟨⟨vs, ha, hvs⟩, hr2⟩ := hstk
            have hlr := Stk.len hr2
            have hlast : (((a :: r).reverse.map V.ref))[((a :: r).reverse.map V.ref).length - 1]? = some (V.ref a) := by
              rw [List.reverse_cons, List.map_append]
              simp
            have hdl : ((a :: r).reverse.map V.ref).dropLast = r.reverse.map V.ref := by
              rw [List.reverse_cons, List.map_append]
              simp
            refine ⟨_, rfl, .inl ⟨rfl, _, SqL.of hlevp⟩, L, _, _, rfl, rfl, hlevp, hlast, ?_⟩
            rw [hdl]
            have haL : a ≠ L := fun z => hnLp (by rw [← z]; exact List.mem_cons_self)
            have har : a ∉ r := (List.nodup_cons.mp hndp).1
            have tk2 : TupK H2 (upd H2 L (.lst (r.reverse.map V.ref))) := fun b ys e => by rw [upd_ne (ne_of e hlevp (by intro z; cases z))]; exact e
            have I3 : LevIn H (upd H2 L (.lst (r.reverse.map V.ref))) L r st2 (flush st).bot := by
              refine ⟨fun b o e => ?_, upd_same, Stk.keep tk2 (fun b hb o e => ?_) hr2, (List.nodup_cons.mp hndp).2, fun z => hnLp (List.mem_cons_of_mem _ z), fun b hb => hnewp b (List.mem_cons_of_mem _ hb), I2.newL⟩
              · rw [upd_ne (ne_of_none e I2.newL)]; exact I2.same b o e
              · rw [upd_ne (show b ≠ L from fun z => hnLp (by rw [← z]; exact List.mem_cons_of_mem _ hb))]; exact e
            have ha3 : (upd H2 L (.lst (r.reverse.map V.ref))) a = some (.lst (V.str kd :: vs)) := by rw [upd_ne haL]; exact ha
            have hvs3 := Ats.keep tk2 ps vs hvs
            generalize upd H2 L (.lst (r.reverse.map V.ref)) = H3 at I3 ha3 hvs3
            have hvl := Ats.len hvs
            have hzt : szk ((kd, ps) :: st2) + szs (flush st).bot ≤ 110 := by
              rw [← hfs]
              unfold szS at hfz
              have := hfz
              unfold szS at hsz
              omega
            have hlp := len_szs ps
            simp only [szk] at hzt
            obtain ⟨a', r', xs, e2, ha', hx', _⟩ := I3.push
            -- levels[-1].append((last[0], tuple(last[1:])))
            refine ⟨_, rfl, 1, rfl, L, _, -1, V.ref a', rfl, rfl, SqL.of I3.lev, last_ref e2, .inl ⟨rfl, _, SqL.of ha'⟩, ?_⟩
            refine ⟨_, rfl, a, _, 0, V.str kd, rfl, rfl, SqL.of ha3, atI_nat (xs := V.str kd :: vs) (j := 0) rfl, ?_⟩
            refine ⟨_, rfl, 1, rfl, a, _, rfl, SqL.of ha3, fun p1 hp1 => ?_⟩
            have ecut : cutV (V.str kd :: vs) (some 1) none = vs := by
              unfold cutV
              rw [HT.sIx_none, show (some (1 : Int)) = some ((1 : Nat) : Int) from rfl, HT.sIx_nat]
              simp only [List.length_cons]
              rw [Nat.min_eq_left (by omega)]
              simp
            rw [ecut]
            refine ⟨p1, _, rfl, .inl ⟨SqL.of upd_same, fun p2 hp2 => ?_⟩⟩
            refine ⟨(by show 2 ≤ sizeLine; decide), fun p3 hp3 => ?_⟩
            have s3 : Same H3 (upd (upd (upd H3 p1 (.lst vs)) p2 (.tup vs)) p3 (.tup [.str kd, .ref p2])) := same_new (same_new (same_upd hp1) hp2) hp3
            have hp23 : p2 ≠ p3 := fun z => by rw [z, upd_same] at hp3; cases hp3
            have hat : At (upd (upd (upd H3 p1 (.lst vs)) p2 (.tup vs)) p3 (.tup [.str kd, .ref p2])) (.ref p3) (.node kd ps) := by
              simp only [At]
              exact ⟨p3, p2, vs, rfl, upd_same, by rw [upd_ne hp23, upd_same], Ats.keep (same_tup s3) ps vs hvs3⟩
            have I4 := I3.more s3
            generalize upd (upd (upd H3 p1 (.lst vs)) p2 (.tup vs)) p3 (.tup [.str kd, .ref p2]) = H4 at s3 hat I4
            obtain ⟨a2, r2, xs2, e3, ha2, hx2, hpush⟩ := I4.push
            rw [e2] at e3
            obtain ⟨rfl, rfl⟩ := List.cons.inj e3
            refine ⟨a', _, V.ref p3, rfl, rfl, ha2, by omega, ?_⟩
            have ec : close (flush st) = some (FM.push ⟨st2, (flush st).bot, (flush st).w⟩ (.node kd ps)) := by unfold close; rw [hfs]
            refine ⟨FM.push ⟨st2, (flush st).bot, (flush st).w⟩ (.node kd ps), r, some (V.str ⟨#[c]⟩), some (V.ref a), ?_, ?_, ?_, hpush (V.ref p3) (.node kd ps) _ hat⟩
            · show [_, _, _, _, _] = _
              rw [push_w]
              show [_, _, _, _, _] = [_, _, some (V.str (ms (flush st).w)), _, _]
              rw [hfw]
              exact congrArg (fun z => [some (V.str x), some (V.ref L), some (V.str z), some (V.str ⟨#[c]⟩), some (V.ref a)]) mE.symm
            · rw [hstep, e1, ec]
            · have := step_sz (e1.trans ec); omega
      · have h4 := of_decide_eq_false h4
        have e1 : step st c = some (flush st) := by unfold step; rw [if_neg nl, if_neg h2, if_pos h3, if_neg h4]
        refine ⟨flush st, as, some (V.str ⟨#[c]⟩), y4, ?_, by rw [hstep, e1], by omega, I2⟩
        show [_, _, _, _, _] = [_, _, some (V.str (ms (flush st).w)), _, _]
        rw [hfw]
        exact congrArg (fun z => [some (V.str x), some (V.ref L), some (V.str z), some (V.str ⟨#[c]⟩), y4]) mE.symm
    have h3 := of_decide_eq_false h3
    have c_blank : cs (" " : Str) = [32] := by decide +kernel
    refine ⟨_, rfl, rfl, _, rfl, ?_⟩
    rw [dec_sign c_blank]
    refine iteB (fun h4 => ?_) (fun h4 => ?_)
    · have h4 : c ≠ 32 := fun z => by rw [decide_eq_true z] at h4; cases h4
      refine bad (nofail ?_) H1 I1.same
      unfold step; rw [if_neg nl, if_neg h2, if_neg h3, if_pos h4]
    · have h4 : c = 32 := by
        by_cases z : c = 32
        · exact z
        · rw [decide_eq_false z] at h4; cases h4
      have e1 : step st c = some st := by unfold step; rw [if_neg nl, if_neg h2, if_neg h3, if_neg (fun z => z h4)]
      exact ⟨st, as, some (V.str ⟨#[c]⟩), y4, rfl, by rw [hstep, e1], by omega, I1⟩
  · -- the end
    rintro σ H1 ⟨st, as, y3, y4, rfl, hrun, hsz, I1⟩
    rw [List.take_of_length_le (by rw [hcl]; exact Nat.le_refl _)] at hrun
    have hsz : szS st ≤ x.length := hsz
    refine flush_red (y3 := y3) I1 (by omega) fun H2 I2 => ?_
    have hfz := flush_sz st
    have hla := Stk.len I2.stk
    have el : (as.reverse.map V.ref).length = as.length := by rw [List.length_map, List.length_reverse]
    have elr : lread (cs x) = match (flush st).stk, (flush st).bot with
      | [], [t] => if plan t = true ∧ wr t = cs x then some t else none
      | _, _ => none := by unfold lread; rw [hrun] <;> rfl
    refine ⟨_, rfl, _, _, rfl, len_lst I2.lev, rfl, _, rfl, ?_⟩
    refine iteB (fun h1 => ?_) (fun h1 => ?_)
    · have h1 : as.length ≠ 1 := fun z => by
        have : decide (V.int ((((as.reverse.map V.ref).length : Nat)) : Int) = V.int 1) = true := decide_eq_true (congrArg V.int (by omega))
        rw [this] at h1; cases h1
      refine bad ?_ H2 I2.same
      rw [elr]
      cases e : (flush st).stk with
      | nil => rw [e] at hla; simp only [List.length_nil] at hla; omega
      | cons q r => rfl
    have h1 : as.length = 1 := by
      by_cases z : as.length = 1
      · exact z
      · have : decide (V.int ((((as.reverse.map V.ref).length : Nat)) : Int) = V.int 1) = false := decide_eq_false fun q => z (by have := V.int.inj q; omega)
        rw [this] at h1; cases h1
    have hst0 : (flush st).stk = [] := List.length_eq_zero_iff.mp (by omega)
    have hstk := I2.stk
    rw [hst0] at hstk
    obtain ⟨a, rfl⟩ : ∃ a, as = [a] := List.length_eq_one_iff.mp h1
    simp only [Stk] at hstk
    obtain ⟨vs, ha, hvs⟩ := hstk
    have hvl := Ats.len hvs
    have hlev : H2 L = some (.lst [V.ref a]) := I2.lev
    refine ⟨_, rfl, L, _, 0, _, rfl, rfl, SqL.of hlev, rfl, _, _, rfl, len_lst ha, rfl, _, rfl, ?_⟩
    rw [hst0] at elr
    refine iteB (fun h2 => ?_) (fun h2 => ?_)
    · have h2 : vs.length ≠ 1 := fun z => by
        have : decide (V.int ((vs.length : Nat) : Int) = V.int 1) = true := decide_eq_true (congrArg V.int (by omega))
        rw [this] at h2; cases h2
      refine bad ?_ H2 I2.same
      rw [elr]
      match hb : (flush st).bot with
      | [] => rfl
      | [t] => rw [hb] at hvl; simp only [List.length_cons, List.length_nil] at hvl; omega
      | _ :: _ :: _ => rfl
    have h2 : vs.length = 1 := by
      by_cases z : vs.length = 1
      · exact z
      · have : decide (V.int ((vs.length : Nat) : Int) = V.int 1) = false := decide_eq_false fun q => z (by have := V.int.inj q; omega)
        rw [this] at h2; cases h2
    obtain ⟨t, hbt⟩ : ∃ t, (flush st).bot = [t] := List.length_eq_one_iff.mp (by omega)
    rw [hbt] at hvs elr
    simp only [Ats] at hvs
    obtain ⟨v, ws, rfl, hv, rfl⟩ := hvs
    dsimp only at elr
    have hzt : sz t ≤ 110 := by
      unfold szS at hfz
      rw [hbt] at hfz
      simp only [szs] at hfz
      unfold szS at hsz
      omega
    refine ⟨_, rfl, L, _, 0, _, rfl, rfl, SqL.of hlev, rfl, a, _, 0, _, rfl, rfl, SqL.of ha, rfl, v, t, rfl, hv, hzt, fun H3 s3 => ⟨_, rfl, ?_⟩⟩
    refine iteB (fun h3 => ?_) (fun h3 => ?_)
    · have h3 : ¬ plan t = true := fun z => by rw [z] at h3; cases h3
      refine bad ?_ H3 (I2.same.trans s3)
      rw [elr, if_neg (fun q => h3 q.1)]
    have h3 : plan t = true := by
      cases e : plan t with
      | true => rfl
      | false => rw [e] at h3; cases h3
    have hdp := plan_dp h3
    have hpl := plan_len h3
    refine ⟨_, rfl, L, _, 0, _, rfl, rfl, SqL.of (s3 _ _ hlev), rfl, a, _, 0, _, rfl, rfl, SqL.of (s3 _ _ ha), rfl, v, t, rfl, At.keep (same_tup s3) t v hv, by omega, by omega, fun H4 s4 => ?_⟩
    refine ⟨_, rfl, rfl, _, rfl, ?_⟩
    have ed : decide (V.str (ms (wr t)) = V.str x) = decide (wr t = cs x) := dec_ms rfl
    refine iteB (fun h4 => ?_) (fun h4 => ?_)
    · rw [ed] at h4
      have h4 := of_decide_eq_true h4
      rw [if_pos ⟨h3, h4⟩] at elr
      have hv4 := At.keep (same_tup (s3.trans s4)) t v hv
      exact ⟨_, rfl, L, _, 0, _, rfl, rfl, SqL.of (s4 _ _ (s3 _ _ hlev)), rfl, a, _, 0, _, rfl, rfl, SqL.of (s4 _ _ (s3 _ _ ha)), rfl, k v H4 ((I2.same.trans s3).trans s4) (by rw [elr]; exact hv4)⟩
    · rw [ed] at h4
      have h4 := of_decide_eq_false h4
      refine bad ?_ H4 ((I2.same.trans s3).trans s4)
      rw [elr, if_neg (fun q => h4 q.2)]
end
end FM
namespace FM
open PySem L2
/-- a pool: a state, digits, a count -/
def PoolAt (H : Hp) (p : Addr) : Prop := ∃ st dg ct : Int, H p = some (.lst [.int st, .int dg, .int ct]) ∧ 0 ≤ st ∧ st < 2147483387 ∧ 0 ≤ dg
theorem PoolAt.keep {H H' : Hp} {p : Addr} (h : PoolAt H p) (k : ∀ o, H p = some o → H' p = some o) : PoolAt H' p := by
  obtain ⟨a, b, c, h1, h2⟩ := h
  exact ⟨a, b, c, k _ h1, h2⟩
section
variable {P : Program} {w : World} {K : PySem.W.Frag} {mg : Str → Option Value} {base : Heap}
/-! ### _law_cell -/
def spCell (K : PySem.W.Frag) : Sp := fun vs H Q _ => ∃ (a : Addr) (ns : List Int) (k : Int), vs = [.ref a, .int k] ∧ SqL K H a (ns.map V.int) ∧ ns.length ≤ 63 ∧ 0 ≤ k ∧ k ≤ 3 ∧ ∀ z H', Same H H' → Q (.int z) H'
abbrev nCell : List Str := ["_law_script", "_law_k", "_law_state", "_law_number_here"]
theorem scCell : FnScope nCell ["_law_script", "_law_k"] (defScope sCell) := ⟨rfl, rfl, rfl, by decide +kernel, rfl, by decide +kernel, by decide +kernel⟩
theorem ok_cell {f : Addr} {fd : FuncData} (F : Fun K "_law_cell" "_law_cell" sCell f fd) (Z : Names0 mg) : FnOk P w K mg base CX0 1 f fd ["_law_script", "_law_k"] (spCell K) := by
  refine F.ok scCell (fun vs H Q E h => ?_) (fun cdv A outer s H vs Q E hr h => ?_)
  · obtain ⟨a, ns, k, rfl, _⟩ := h; rfl
  obtain ⟨a, ns, kk, rfl, hS, h63, hk0, hk3, k⟩ := h
  refine ⟨_, pss_cons (ps_if (pt_cmpR op_lt (pv 1) (pe_callB call_len (by rfl) Z.len PySem.boot_len (pa_cons (pv 0) pa_nil)) (nomark _)) (pss_one (ps_ret (pe_ix ix_list (pv 0) (pv 1) (fun _ _ => rfl)))) pss_nil)
    (pss_cons (ps_set (i := 2) scCell.nd rfl (Or.inl rfl) (pe_op op_mod (pe_op op_mul pe_int (pe_op op_add (pe_op op_add (pe_op op_mul (pv 1) (pv 1)) (pe_op op_mul pe_int (pv 1))) pe_int)) pe_int))
    (pss_cons (ps_for PassesOwn.never rfl (pi_list (pe_slice sl_list (pv 0) po_none (po_some pe_int))) (pg_name (i := 3) scCell.nd rfl (Or.inl rfl))
      (pss_one (ps_set (i := 2) scCell.nd rfl (Or.inl rfl) (pe_op op_mod (pe_op op_add (pe_op op_mul (pv 2) pe_int) (pv 3)) pe_int))))
    (pss_one (ps_ret (pv 2))))), ?_⟩
  refine ⟨_, rfl, _, rfl, _, (ns.map V.int).length, rfl, .inl ⟨_, hS, rfl⟩, _, _, rfl, rfl, _, rfl, ?_⟩
  have el : (ns.map V.int).length = ns.length := List.length_map _
  refine iteB (fun h1 => ?_) (fun h1 => ?_)
  · have h1 := of_decide_eq_true h1
    obtain ⟨n, rfl⟩ : ∃ n : Nat, kk = (n : Int) := ⟨kk.toNat, by omega⟩
    have hn : n < ns.length := by omega
    have e : (ns.map V.int)[n]? = some (V.int ns[n]) := by rw [List.getElem?_map, List.getElem?_eq_getElem hn]; rfl
    exact ⟨_, rfl, _, rfl, a, _, n, _, rfl, rfl, hS, atI_nat e, k _ H (Same.refl H)⟩
  have b1 : ∀ {i j : Int}, 0 ≤ i → i ≤ 3 → 0 ≤ j → j ≤ 3 → 0 ≤ i * j ∧ i * j ≤ 9 := fun {i j} h1 h2 h3 h4 => ⟨Int.mul_nonneg h1 h3, by
    have : i * j ≤ 3 * 3 := Int.mul_le_mul h2 h4 h3 (by decide)
    omega⟩
  refine ⟨_, rfl, _, rfl, _, _, rfl, rfl, .inl ⟨by omega, by omega⟩, _, rfl, _, _, rfl, rfl, .inl ⟨by decide, by decide⟩, _, _, rfl, rfl, _, _, rfl, rfl, _, _, rfl, rfl, .inl ⟨by decide, by decide⟩, _, _, rfl, rfl, (by show (0 : Int) < 2147483387; decide), ?_⟩
  refine ⟨_, rfl, _, rfl, a, _, rfl, hS, fun p hp => ?_⟩
  have s1 : Same H (upd H p (.lst (cutV (ns.map V.int) none (some 3)))) := same_upd hp
  refine ⟨p, rfl, ⟨_, SqL.of upd_same⟩, for_list (K := K) (a := p) (xs := cutV (ns.map V.int) none (some 3)) (fun i σ H2 => ∃ (z : Int) (y : Option V), σ = [some (.ref a), some (.int kk), some (.int z), y] ∧ Same (upd H p (.lst (cutV (ns.map V.int) none (some 3)))) H2 ∧ 0 ≤ z ∧ z < 2147483387)
    ⟨_, none, rfl, Same.refl _, Int.emod_nonneg _ (by decide), Int.emod_lt_of_pos _ (by decide)⟩ (fun i σ H2 _ ⟨_, _, _, s2, _⟩ => s2.seq (SqL.of upd_same)) ?_ ?_⟩
  · rintro i x σ H2 hx ⟨z, y, rfl, s2, hz0, hz1⟩
    have hm : x ∈ ns.map V.int := by
      have := List.mem_of_getElem? hx
      unfold cutV at this
      exact List.mem_of_mem_drop (List.mem_of_mem_take this)
    obtain ⟨q, _, rfl⟩ := List.mem_map.mp hm
    refine ⟨_, rfl, _, _, rfl, rfl, .inl ⟨by omega, by omega⟩, _, rfl, _, _, rfl, rfl, _, _, rfl, rfl, (by show (0 : Int) < 2147483387; decide), ?_⟩
    exact ⟨_, _, rfl, s2, Int.emod_nonneg _ (by decide), Int.emod_lt_of_pos _ (by decide)⟩
  · rintro σ H2 ⟨z, y, rfl, s2, _⟩
    exact ⟨_, rfl, k z H2 (s1.trans s2)⟩
/-! ### _law_pool -/
def spPool : Sp := fun vs H Q _ => ∃ c : Int, vs = [.int c] ∧ ∀ p H', H p = none → Same H H' → PoolAt H' p → Q (.ref p) H'
abbrev nPool : List Str := ["_law_cell_here", "_law_digits"]
theorem scPool : FnScope nPool ["_law_cell_here"] (defScope sPool) := ⟨rfl, rfl, rfl, by decide +kernel, rfl, by decide +kernel, by decide +kernel⟩
theorem ok_pool {f : Addr} {fd : FuncData} (F : Fun K "_law_pool" "_law_pool" sPool f fd) (Z : Names0 mg) : FnOk P w K mg base CX0 1 f fd ["_law_cell_here"] spPool := by
  refine F.ok scPool (fun vs H Q E h => ?_) (fun cdv A outer s H vs Q E hr h => ?_)
  · obtain ⟨c, rfl, _⟩ := h; rfl
  obtain ⟨c, rfl, k⟩ := h
  refine ⟨_, pss_cons (ps_set (i := 1) scPool.nd rfl (Or.inl rfl) (pe_ifExp (PW.pt (pw_or (pt_cmpR op_lt (pv 0) pe_int (nomark _)) (pw_or1 (pt_cmpR op_ge (pv 0) (pe_op op_pow pe_int pe_int) (nomark _)))))
      (pe_callB call_abs (by rfl) Z.abs (by decide +kernel) (pa_cons (pv 0) pa_nil)) pe_int))
    (pss_one (ps_ret (pe_lst (pa_cons (pe_op op_mod (pv 0) pe_int) (pa_cons (pv 1) (pa_cons pe_int pa_nil)))))), ?_⟩
  have fin : ∀ d : Int, 0 ≤ d → tRet (tLst (tCons (tOp (rI (fun _ j => 0 < j) fun i j => V.int (i % j)) (tVar 0) (tC (.int 2147483387))) (tCons (tVar 1) (tCons (tC (.int 0)) tNil)))) { nx := fun _ H' => Q .non H', rt := Q } [some (.int c), some (.int d)] H := fun d hd => by
    refine ⟨_, rfl, _, _, rfl, rfl, (by show (0 : Int) < 2147483387; decide), _, rfl, (by show 3 ≤ sizeLine; decide), fun p hp => ?_⟩
    exact k p _ hp (same_upd hp) ⟨_, d, 0, upd_same, Int.emod_nonneg _ (by decide), Int.emod_lt_of_pos _ (by decide), hd⟩
  have yes : tCB (fun xs H Q => ∃ i, xs = [V.int i] ∧ Q (.int (if i < 0 then -i else i)) H) (tCons (tVar 0) tNil) [some (.int c), none] H (fun x H1 => gName 1 x [some (.int c), none] H1 fun σ' H' => tRet (tLst (tCons (tOp (rI (fun _ j => 0 < j) fun i j => V.int (i % j)) (tVar 0) (tC (.int 2147483387))) (tCons (tVar 1) (tCons (tC (.int 0)) tNil)))) { nx := fun _ H' => Q .non H', rt := Q } σ' H') :=
    ⟨_, rfl, _, rfl, fin _ (by split <;> omega)⟩
  refine ⟨_, rfl, _, _, rfl, rfl, _, rfl, ?_⟩
  refine iteB (fun h1 => ?_) (fun h1 => ?_)
  · exact yes
  · refine ⟨_, rfl, _, _, rfl, rfl, ⟨by decide, by decide, by decide⟩, _, _, rfl, rfl, _, rfl, ?_⟩
    refine iteB (fun h2 => ?_) (fun h2 => ?_)
    · exact yes
    · exact fin 0 (Int.le_refl 0)
/-! ### _law_draw -/
def spDraw : Sp := fun vs H Q _ => ∃ (p : Addr) (u : Int), vs = [.ref p, .int u] ∧ PoolAt H p ∧ 1 ≤ u ∧ u ≤ 1000 ∧ ∀ r H', 0 ≤ r → r < u → PoolAt H' p → SameBut p H H' → Q (.int r) H'
abbrev nDraw : List Str := ["_law_pool_here", "_law_upto", "_law_state", "_law_digit"]
theorem scDraw : FnScope nDraw ["_law_pool_here", "_law_upto"] (defScope sDraw) := ⟨rfl, rfl, rfl, by decide +kernel, rfl, by decide +kernel, by decide +kernel⟩
theorem ok_draw {f : Addr} {fd : FuncData} (F : Fun K "_law_draw" "_law_draw" sDraw f fd) (Z : Names0 mg) : FnOk P w K mg base CX0 1 f fd ["_law_pool_here", "_law_upto"] spDraw := by
  refine F.ok scDraw (fun vs H Q E h => ?_) (fun cdv A outer s H vs Q E hr h => ?_)
  · obtain ⟨p, u, rfl, _⟩ := h; rfl
  obtain ⟨p, u, rfl, ⟨st, dg, ct, hp, hs0, hs1, hd0⟩, hu1, hu2, k⟩ := h
  refine ⟨_, pss_cons (ps_asg (pe_op op_add (pe_ix ix_list (pv 0) pe_int (fun _ _ => rfl)) pe_int) (pg_sub (pv 0) pe_int set_list))
    (pss_cons (ps_set (i := 2) scDraw.nd rfl (Or.inl rfl) (pe_ix ix_list (pv 0) pe_int (fun _ _ => rfl)))
    (pss_cons (ps_asg (pe_op op_mod (pe_op op_add (pe_op op_add (pe_op op_mul (pv 2) (pe_op op_add (pe_op op_mod (pv 2) pe_int) pe_int)) (pe_op op_mul pe_int (pe_ix ix_list (pv 0) pe_int (fun _ _ => rfl)))) pe_int) pe_int) (pg_sub (pv 0) pe_int set_list))
    (pss_cons (ps_if (pt_cmpR op_gt (pe_ix ix_list (pv 0) pe_int (fun _ _ => rfl)) pe_int (nomark _))
      (pss_cons (ps_asg (pe_callB call_divmod (by rfl) Z.divm (by decide +kernel) (pa_cons (pe_ix ix_list (pv 0) pe_int (fun _ _ => rfl)) (pa_cons (pv 1) pa_nil))) (pg_tup rfl (pgs_cons (pg_sub (pv 0) pe_int set_list) (pgs_cons (pg_name (i := 3) scDraw.nd rfl (Or.inl rfl)) pgs_nil))))
      (pss_one (ps_ret (pv 3)))) pss_nil)
    (pss_one (ps_ret (pe_op op_mod (pe_op op_fdiv (pe_ix ix_list (pv 0) pe_int (fun _ _ => rfl)) pe_int) (pv 1))))))), ?_⟩
  -- pool[2] = pool[2] + 1
  refine ⟨_, rfl, p, _, 2, _, rfl, rfl, SqL.of hp, rfl, _, _, rfl, rfl, _, rfl, p, _, 2, 2, rfl, rfl, hp, rfl, ?_⟩
  have hp1 : (upd H p (.lst [.int st, .int dg, .int (ct + 1)])) p = some (.lst [.int st, .int dg, .int (ct + 1)]) := upd_same
  have b1 : SameBut p H (upd H p (.lst [.int st, .int dg, .int (ct + 1)])) := fun b o hb e => by rw [upd_ne hb]; exact e
  show tSeq _ _ _ _ (upd H p (.lst [.int st, .int dg, .int (ct + 1)]))
  generalize upd H p (.lst [.int st, .int dg, .int (ct + 1)]) = H1 at hp1 b1
  -- state = pool[0]
  refine ⟨_, rfl, p, _, 0, _, rfl, rfl, SqL.of hp1, rfl, ?_⟩
  have m0 : 0 ≤ st % 43019 := Int.emod_nonneg _ (by decide)
  have m1 : st % 43019 < 43019 := Int.emod_lt_of_pos _ (by decide)
  -- pool[0] = ..
  refine ⟨_, rfl, _, rfl, _, _, rfl, rfl, (by show (0 : Int) < 43019; decide), _, _, rfl, rfl, _, _, rfl, rfl, .inl ⟨by omega, by omega⟩, _, rfl, p, _, 0 + 2, _, rfl, rfl, SqL.of hp1, rfl, _, _, rfl, rfl, .inl ⟨by decide, by decide⟩, _, _, rfl, rfl, _, _, rfl, rfl, _, _, rfl, rfl, (by show (0 : Int) < 2147483387; decide), _, rfl, p, _, 0, 0, rfl, rfl, hp1, rfl, ?_⟩
  generalize hst2 : (st * (st % 43019 + 28001) + 80021 * (ct + 1) + 7) % 2147483387 = st2
  have hs2 : 0 ≤ st2 ∧ st2 < 2147483387 := by
    rw [← hst2]
    exact ⟨Int.emod_nonneg _ (by decide), Int.emod_lt_of_pos _ (by decide)⟩
  have hp2 : (upd H1 p (.lst [.int st2, .int dg, .int (ct + 1)])) p = some (.lst [.int st2, .int dg, .int (ct + 1)]) := upd_same
  have b2 : SameBut p H (upd H1 p (.lst [.int st2, .int dg, .int (ct + 1)])) := fun b o hb e => by rw [upd_ne hb]; exact b1 b o hb e
  show tSeq _ _ _ _ (upd H1 p (.lst [.int ((st * (st % 43019 + 28001) + 80021 * (ct + 1) + 7) % 2147483387), .int dg, .int (ct + 1)]))
  rw [hst2]
  generalize upd H1 p (.lst [.int st2, .int dg, .int (ct + 1)]) = H2 at hp2 b2
  -- if pool[1] > 0
  refine ⟨_, rfl, p, _, 1, _, rfl, rfl, SqL.of hp2, rfl, _, _, rfl, rfl, _, rfl, ?_⟩
  refine iteB (fun h1 => ?_) (fun h1 => ?_)
  · refine ⟨_, rfl, p, _, 1, _, rfl, rfl, SqL.of hp2, rfl, _, rfl, _, _, rfl, ⟨by omega, by omega⟩, fun q hq => ?_⟩
    have hqp : q ≠ p := fun z => by rw [z, hp2] at hq; cases hq
    have hp3 : (upd H2 q (.tup [.int (dg / u), .int (dg % u)])) p = some (.lst [.int st2, .int dg, .int (ct + 1)]) := by rw [upd_ne (Ne.symm hqp)]; exact hp2
    refine ⟨q, _, rfl, SqT.of upd_same, rfl, _, _, rfl, _, rfl, p, _, 1, 1, rfl, rfl, hp3, rfl, ?_⟩
    refine ⟨_, _, rfl, rfl, _, rfl, ?_⟩
    refine k _ _ (Int.emod_nonneg _ (by omega)) (Int.emod_lt_of_pos _ (by omega)) ⟨st2, dg / u, ct + 1, upd_same, hs2.1, hs2.2, Int.ediv_nonneg hd0 (by omega)⟩ fun b o hb e => ?_
    have e2 := b2 b o hb e
    rw [upd_ne hb, upd_ne (ne_of_none e2 hq)]
    exact e2
  · refine ⟨_, rfl, p, _, 0, _, rfl, rfl, SqL.of hp2, rfl, _, _, rfl, rfl, ⟨by decide, by decide⟩, _, rfl, _, _, rfl, rfl, (by show (0 : Int) < u; omega), ?_⟩
    exact k _ _ (Int.emod_nonneg _ (by omega)) (Int.emod_lt_of_pos _ (by omega)) ⟨st2, dg, ct + 1, hp2, hs2.1, hs2.2, hd0⟩ b2
end
end FM
namespace FM
open PySem L2
section
variable {P : Program} {w : World} {K : PySem.W.Frag} {mg : Str → Option Value} {base : Heap}
theorem bs_list : bootBuiltins "list" = some (.type "list") := by decide +kernel
theorem perm_take {α : Type} : ∀ {l : List α} {k : Nat} {y : α}, l[k]? = some y → (y :: l.eraseIdx k).Perm l
  | [], k, y, h => by simp at h
  | a :: r, 0, y, h => by simp at h; subst h; exact List.Perm.refl _
  | a :: r, k + 1, y, h => by
    have ih := perm_take (l := r) (k := k) (y := y) (by simpa using h)
    simp only [List.eraseIdx_cons_succ]
    exact (List.Perm.swap a y _).trans (ih.cons a)
theorem erase_map {α β : Type} (f : α → β) : ∀ (l : List α) (k : Nat), (l.map f).eraseIdx k = (l.eraseIdx k).map f
  | [], k => by simp
  | a :: r, 0 => by simp
  | a :: r, k + 1 => by simp [erase_map f r k]
/-! ### _law_mixed: the texts of a list in some order -/
def spMixed (K : PySem.W.Frag) : Sp := fun vs H Q _ => ∃ (p l : Addr) (xs : List Str), vs = [.ref p, .ref l] ∧ PoolAt H p ∧ H l = some (.lst (xs.map V.str)) ∧ l ≠ p ∧ xs.length ≤ 8 ∧
  ∀ (m : Addr) (ys : List Str) H', ys.Perm xs → PoolAt H' p → SameBut p H H' → H' m = some (.lst (ys.map V.str)) → m ≠ p → Q (.ref m) H'
abbrev nMixed : List Str := ["_law_pool_here", "_law_things", "_law_left", "_law_found_here", "_law_k"]
theorem scMixed : FnScope nMixed ["_law_pool_here", "_law_things"] (defScope sMixed) := ⟨rfl, rfl, rfl, by decide +kernel, rfl, by decide +kernel, by decide +kernel⟩
theorem ok_mixed {f fD : Addr} {fd fdD : FuncData} (F : Fun K "_law_mixed" "_law_mixed" sMixed f fd) (Z : Names0 mg)
    (FD : Fun K "_law_draw" "_law_draw" sDraw fD fdD) (bD : Binds K fdD ["_law_pool_here", "_law_upto"] []) (mD : mg "_law_draw" = some (.ref fD)) :
    FnOk P w K mg base CX0 2 f fd ["_law_pool_here", "_law_things"] (spMixed K) := by
  have GD : FnOk P w K mg base CX0 1 fD fdD ["_law_pool_here", "_law_upto"] spDraw := ok_draw FD Z
  refine F.ok scMixed (fun vs H Q E h => ?_) (fun cdv A outer s H vs Q E hr h => ?_)
  · obtain ⟨p, l, xs, rfl, _⟩ := h; rfl
  obtain ⟨p, l, xs, rfl, hp, hl, hlp, h8, k⟩ := h
  refine ⟨_, pss_cons (ps_par rfl scMixed.nd (i := 2) (j := 3) rfl rfl (by decide) rfl rfl (pa_cons (pe_callTy call_list_of (by rfl) Z.lst bs_list (pa_cons (pv 1) pa_nil)) (pa_cons (pe_lst pa_nil) pa_nil)) (by with_unfolding_all rfl))
    (pss_cons (ps_for PassesOwn.never rfl (pi_range1 (by rfl) Z.rng (pa_cons (pe_callB call_len (by rfl) Z.len PySem.boot_len (pa_cons (pv 1) pa_nil)) pa_nil)) (pg_name (i := 4) scMixed.nd rfl (Or.inl rfl))
      (pss_one (ps_expr (pe_bm PySem.F.plainAttrs_list PySem.F.slot_list_append PySem.F.type_list_append mt_append (pv 3)
        (pa_cons (pe_bm PySem.F.plainAttrs_list PySem.F.slot_list_pop PySem.F.type_list_pop mt_popAt (pv 2)
          (pa_cons (pe_call GD hr (by rfl) mD FD.kp bD .nil pass0 (pa_cons (pv 0) (pa_cons (pe_callB call_len (by rfl) Z.len PySem.boot_len (pa_cons (pv 2) pa_nil)) pa_nil))) pa_nil)) pa_nil)))))
    (pss_one (ps_ret (pv 3)))), ?_⟩
  have el : (xs.map V.str).length = xs.length := List.length_map _
  refine ⟨_, rfl, l, _, rfl, .inl (SqL.of hl), fun a ha => ⟨Nat.zero_le _, fun b hb => ⟨_, _, rfl, ?_⟩⟩⟩
  have hab : a ≠ b := fun z => by rw [← z, upd_same] at hb; cases hb
  have hbH : H b = none := by rw [upd_ne (Ne.symm hab)] at hb; exact hb
  have hpa : p ≠ a := fun z => by obtain ⟨_, _, _, q, _⟩ := hp; rw [z, ha] at q; cases q
  have hpb : p ≠ b := fun z => by obtain ⟨_, _, _, q, _⟩ := hp; rw [z, hbH] at q; cases q
  have hla : l ≠ a := ne_of_none hl ha
  have hlb : l ≠ b := ne_of_none hl hbH
  have s1 : Same H (upd (upd H a (.lst (xs.map V.str))) b (.lst [])) := same_new (same_upd ha) hb
  have ha1 : (upd (upd H a (.lst (xs.map V.str))) b (.lst [])) a = some (.lst (xs.map V.str)) := by rw [upd_ne hab, upd_same]
  have hb1 : (upd (upd H a (.lst (xs.map V.str))) b (.lst [])) b = some (.lst []) := upd_same
  generalize upd (upd H a (.lst (xs.map V.str))) b (.lst []) = H1 at s1 ha1 hb1
  refine ⟨_, rfl, _, _, rfl, len_lst (s1 _ _ hl), _, rfl, by omega, by omega, ?_⟩
  rw [el, Int.toNat_natCast]
  refine for_range (n := xs.length) (fun i σ H2 => ∃ (rest done : List Str) (y : Option V), σ = [some (.ref p), some (.ref l), some (.ref a), some (.ref b), y] ∧ (done ++ rest).Perm xs ∧ done.length = i ∧ PoolAt H2 p ∧ SameBut p H H2 ∧
    H2 a = some (.lst (rest.map V.str)) ∧ H2 b = some (.lst (done.map V.str))) ?_ ?_ ?_
  · exact ⟨xs, [], none, rfl, List.Perm.refl _, rfl, hp.keep fun o => s1 p o, Same.but p s1, ha1, hb1⟩
  · rintro i σ H2 hi ⟨rest, done, y, rfl, hperm, hd, hp2, sb, ha2, hb2⟩
    have hlen := hperm.length_eq
    rw [List.length_append] at hlen
    have er : (rest.map V.str).length = rest.length := List.length_map _
    refine ⟨_, rfl, .inl ⟨rfl, _, SqL.of hb2⟩, _, rfl, .inl ⟨rfl, _, SqL.of ha2⟩, _, rfl, _, rfl, _, _, rfl, len_lst ha2, p, _, rfl, hp2, by omega, by omega, fun r H3 hr0 hr1 hp3 sb3 => ?_⟩
    obtain ⟨n, rfl⟩ : ∃ n : Nat, r = (n : Int) := ⟨r.toNat, by omega⟩
    have hn : n < rest.length := by omega
    have ha3 := sb3 a _ (Ne.symm hpa) ha2
    have hb3 := sb3 b _ (Ne.symm hpb) hb2
    have hget : rest[n]? = some rest[n] := List.getElem?_eq_getElem hn
    refine ⟨a, _, (n : Int), n, V.str rest[n], rfl, rfl, ha3, by omega, by omega, ?_, ?_, ?_⟩
    · unfold seqIndex?
      have h0 : ¬ ((n : Int) < 0) := by omega
      have h1 : (n : Int) < (((rest.map V.str).length : Nat) : Int) := by rw [er]; omega
      have h2 : 0 ≤ (n : Int) := by omega
      simp only [h0, if_false, decide_eq_true h1, decide_eq_true h2, Bool.and_self, if_true, Int.toNat_natCast]
    · rw [List.getElem?_map, hget]; rfl
    have hb4 : (upd H3 a (.lst ((rest.map V.str).eraseIdx n))) b = some (.lst (done.map V.str)) := by rw [upd_ne (Ne.symm hab)]; exact hb3
    refine ⟨b, _, _, rfl, rfl, hb4, small1000 (by rw [List.length_map]; omega), ?_⟩
    refine ⟨rest.eraseIdx n, done ++ [rest[n]], _, rfl, ?_, by rw [List.length_append]; simp [hd], ?_, ?_, ?_, ?_⟩
    · have h1 := perm_take hget
      rw [List.append_assoc]
      exact ((h1.append_left done)).trans hperm
    · exact hp3.keep fun o e => by rw [upd_ne hpb, upd_ne hpa]; exact e
    · refine fun c o hc e => ?_
      have e3 := sb3 c o hc (sb c o hc e)
      rw [upd_ne (ne_of_none e hbH), upd_ne (ne_of_none e ha)]
      exact e3
    · rw [upd_ne hab, upd_same, erase_map]
    · rw [upd_same, List.map_append]; rfl
  · rintro σ H2 ⟨rest, done, y, rfl, hperm, hd, hp2, sb, ha2, hb2⟩
    have hlen := hperm.length_eq
    rw [List.length_append] at hlen
    have : rest = [] := List.length_eq_zero_iff.mp (by omega)
    subst this
    rw [List.append_nil] at hperm
    exact ⟨_, rfl, k b done H2 hperm hp2 sb hb2 (Ne.symm hpb)⟩
/-! ### _law_sort -/
def spSort : Sp := fun vs H Q _ => ∃ p : Addr, vs = [.ref p] ∧ PoolAt H p ∧ ∀ (s : Str) H', isKind s = true → PoolAt H' p → SameBut p H H' → Q (.str s) H'
theorem scSort : FnScope ["_law_pool_here"] ["_law_pool_here"] (defScope sSort) := ⟨rfl, rfl, rfl, by decide +kernel, rfl, by decide +kernel, by decide +kernel⟩
theorem ok_sort {f fD : Addr} {fd fdD : FuncData} (F : Fun K "_law_sort" "_law_sort" sSort f fd) (Z : Names0 mg)
    (FD : Fun K "_law_draw" "_law_draw" sDraw fD fdD) (bD : Binds K fdD ["_law_pool_here", "_law_upto"] []) (mD : mg "_law_draw" = some (.ref fD)) :
    FnOk P w K mg base CX0 2 f fd ["_law_pool_here"] spSort := by
  have GD : FnOk P w K mg base CX0 1 fD fdD ["_law_pool_here", "_law_upto"] spDraw := ok_draw FD Z
  refine F.ok scSort (fun vs H Q E h => ?_) (fun cdv A outer s H vs Q E hr h => ?_)
  · obtain ⟨p, rfl, _⟩ := h; rfl
  obtain ⟨p, rfl, hp, k⟩ := h
  refine ⟨_, pss_one (ps_ret (pe_ix ix_list (pe_lst (pa_cons pe_str (pa_cons pe_str pa_nil))) (pe_call GD hr (by rfl) mD FD.kp bD .nil pass0 (pa_cons (pv 0) (pa_cons pe_int pa_nil))) (fun _ _ => rfl))), ?_⟩
  refine ⟨(by show 2 ≤ sizeLine; decide), fun l hl => ?_⟩
  have hlp : l ≠ p := fun z => by obtain ⟨_, _, _, q, _⟩ := hp; rw [← z, hl] at q; cases q
  have hp1 : PoolAt (upd H l (.lst [V.str "low", V.str "high"])) p := hp.keep fun o e => by rw [upd_ne (Ne.symm hlp)]; exact e
  refine ⟨_, rfl, p, 2, rfl, hp1, by decide, by decide, fun r H1 hr0 hr1 hp2 sb => ?_⟩
  have hl1 := sb l _ hlp upd_same
  have sb0 : SameBut p H H1 := fun b o hb e => sb b o hb (by rw [upd_ne (ne_of_none e hl)]; exact e)
  have hr : r = 0 ∨ r = 1 := by omega
  rcases hr with rfl | rfl
  · exact ⟨l, _, 0, _, rfl, rfl, SqL.of hl1, rfl, k _ H1 (by decide +kernel) hp2 sb0⟩
  · exact ⟨l, _, 1, _, rfl, rfl, SqL.of hl1, rfl, k _ H1 (by decide +kernel) hp2 sb0⟩
end
end FM
namespace FM
open PySem L2
/-! ### the names -/
abbrev OWN : List Str := ["low", "high", "enter", "go", "rest", "same", "a", "none", "line", "plan", "kind", "undo"]
theorem own_nodup : OWN.Nodup := by decide +kernel
theorem own_line : ∀ s ∈ OWN, isLine (cs s) = true := by decide +kernel
def goodStride (s : Int) : Prop := s = 1 ∨ s = 5 ∨ s = 7 ∨ s = 11
theorem stride12 {f s i j : Int} (hs : goodStride s) (hi : 0 ≤ i) (hj : j < 8) (hij : i < j) : (f + s * i) % 12 ≠ (f + s * j) % 12 := by
  rcases hs with rfl | rfl | rfl | rfl <;> omega
theorem stride26 {f s i j : Int} (hs : goodStride s) (hi : 0 ≤ i) (hj : j < 8) (hij : i < j) : (f + s * i) % 26 ≠ (f + s * j) % 26 := by
  rcases hs with rfl | rfl | rfl | rfl <;> omega
theorem stride_pos {s i : Int} (hs : goodStride s) (hi : 0 ≤ i) : 0 ≤ s * i := Int.mul_nonneg (by rcases hs with rfl | rfl | rfl | rfl <;> decide) hi
theorem stride_big {s : Int} (hs : goodStride s) : -(2 ^ 64) < s ∧ s < 2 ^ 64 := by rcases hs with rfl | rfl | rfl | rfl <;> decide
def pick12 (f s : Int) (k : Nat) : Str := OWN.getD ((f + s * (k : Int)) % 12).toNat ""
def pick26 (f s : Int) (k : Nat) : Nat := 97 + ((f + s * (k : Int)) % 26).toNat
theorem pick12_get (f s : Int) (k : Nat) : OWN[((f + s * (k : Int)) % 12).toNat]? = some (pick12 f s k) := by
  have h0 : 0 ≤ (f + s * (k : Int)) % 12 := Int.emod_nonneg _ (by decide)
  have h1 : (f + s * (k : Int)) % 12 < 12 := Int.emod_lt_of_pos _ (by decide)
  have hl : ((f + s * (k : Int)) % 12).toNat < OWN.length := by show _ < 12; omega
  unfold pick12
  rw [List.getD_eq_getElem?_getD, List.getElem?_eq_getElem hl]
  rfl
theorem pick12_mem (f s : Int) (k : Nat) : pick12 f s k ∈ OWN := List.mem_of_getElem? (pick12_get f s k)
theorem pick12_ne {f s : Int} (hs : goodStride s) {i j : Nat} (hj : j < 8) (hij : i < j) : pick12 f s i ≠ pick12 f s j := by
  intro e
  have g1 := pick12_get f s i
  have g2 := pick12_get f s j
  rw [e] at g1
  have q := nd_ix own_nodup g1 g2
  have h0 : 0 ≤ (f + s * (i : Int)) % 12 := Int.emod_nonneg _ (by decide)
  have h1 : 0 ≤ (f + s * (j : Int)) % 12 := Int.emod_nonneg _ (by decide)
  exact stride12 (f := f) hs (i := (i : Int)) (j := (j : Int)) (by omega) (by omega) (by omega) (by omega)
theorem pick26_ne {f s : Int} (hs : goodStride s) {i j : Nat} (hj : j < 8) (hij : i < j) : pick26 f s i ≠ pick26 f s j := by
  intro e
  unfold pick26 at e
  have h0 : 0 ≤ (f + s * (i : Int)) % 26 := Int.emod_nonneg _ (by decide)
  have h1 : 0 ≤ (f + s * (j : Int)) % 26 := Int.emod_nonneg _ (by decide)
  exact stride26 (f := f) hs (i := (i : Int)) (j := (j : Int)) (by omega) (by omega) (by omega) (by omega)
theorem pick26_letter (f s : Int) (k : Nat) : letter (pick26 f s k) = true := by
  have h0 : 0 ≤ (f + s * (k : Int)) % 26 := Int.emod_nonneg _ (by decide)
  have h1 : (f + s * (k : Int)) % 26 < 26 := Int.emod_lt_of_pos _ (by decide)
  unfold pick26 letter
  simp only [Bool.and_eq_true, decide_eq_true_eq]
  omega
theorem let_get {n : Nat} (h : n < 26) : LET.cps.toList[n]? = some (97 + n) := by
  have e : LET.cps.toList = List.range' 97 26 := by decide +kernel
  rw [e, List.getElem?_range' (by omega)]
  simp
theorem range_map_nodup {α : Type} {f : Nat → α} {n : Nat} (h : ∀ i j, j < n → i < j → f i ≠ f j) : ((List.range n).map f).Nodup := by
  induction n with
  | zero => simp
  | succ n ih =>
    rw [List.range_succ, List.map_append, List.nodup_append]
    refine ⟨ih fun i j hj hij => h i j (by omega) hij, by simp, fun a ha b hb => ?_⟩
    obtain ⟨i, hi, rfl⟩ := List.mem_map.mp ha
    simp only [List.map_cons, List.map_nil, List.mem_singleton] at hb
    subst hb
    exact h i n (by omega) (List.mem_range.mp hi)
theorem join_nil : ∀ l : List Nat, TL.joinL [] (l.map fun c => [c]) = l
  | [] => rfl
  | [a] => rfl
  | a :: b :: r => by
    have ih := join_nil (b :: r)
    simp only [List.map_cons] at ih
    simp only [List.map_cons, TL.joinL]
    rw [ih]
    rfl
theorem join_signs (l : List Nat) : Txt.join "" (l.map fun c => (⟨#[c]⟩ : Str)) = ms l := by
  refine cs_inj ?_
  rw [cs_ms]
  show TL.tl (Txt.join _ _) = _
  rw [TL.join_eq, TL.tl_join]
  have e1 : TL.tl ("" : Str) = [] := by decide +kernel
  have e2 : (l.map fun c => (⟨#[c]⟩ : Str)).map TL.tl = l.map fun c => [c] := by rw [List.map_map]; rfl
  rw [e1, e2, join_nil]
theorem cut_to {x : Str} {c : Nat} (h : c ≤ x.length) : cutS x none (some (c : Int)) = ms ((cs x).take c) := by
  unfold cutS ms
  rw [HT.sIx_nat, HT.sIx_none, Nat.min_eq_left h, List.drop_zero, Nat.sub_zero]
theorem cut_from {x : Str} {c : Nat} (h : c ≤ x.length) : cutS x (some (c : Int)) none = ms ((cs x).drop c) := by
  unfold cutS ms
  rw [HT.sIx_nat, HT.sIx_none, Nat.min_eq_left h]
  have hl := cs_len x
  have : ((cs x).drop c).take (x.length - c) = (cs x).drop c := List.take_of_length_le (by rw [List.length_drop]; omega)
  show (⟨(((cs x).drop c).take (x.length - c)).toArray⟩ : Str) = _
  rw [this]
/-- a name that differs at one place -/
def nameAt (st : List Nat) (cut : Nat) (c : Nat) : Str := ms (st.take cut ++ [c] ++ st.drop cut)
theorem name_eq {x : Str} {u c : Nat} (h : u ≤ x.length) : cutS x none (some (u : Int)) ++ (⟨#[c]⟩ : Str) ++ cutS x (some (u : Int)) none = nameAt (cs x) u c := by
  refine cs_inj ?_
  unfold nameAt
  rw [cs_app, cs_app, cut_to h, cut_from h, cs_ms, cs_ms, cs_ms]
theorem nameAt_inj {st : List Nat} {cut c d : Nat} (h : nameAt st cut c = nameAt st cut d) : c = d := by
  have := ms_eq.mp h
  unfold nameAt at this
  rw [cs_ms] at this
  have h1 := List.append_cancel_right this
  have h2 := List.append_cancel_left h1
  injection h2
theorem nameAt_line {st : List Nat} {cut c : Nat} (h : st.all letter = true) (hl : st.length ≤ 5) (hc : letter c = true) : isLine (cs (nameAt st cut c)) = true := by
  unfold nameAt isLine
  rw [cs_ms]
  have h1 : (st.take cut ++ [c] ++ st.drop cut).length = st.length + 1 := by
    simp only [List.length_append, List.length_take, List.length_drop, List.length_cons, List.length_nil]; omega
  rw [h1]
  have h2 : (st.take cut ++ [c] ++ st.drop cut).all letter = true := by
    rw [List.all_eq_true] at h ⊢
    intro x hx
    rcases List.mem_append.mp hx with hx | hx
    · rcases List.mem_append.mp hx with hx | hx
      · exact h x (List.mem_of_mem_take hx)
      · rw [List.mem_singleton.mp hx]; exact hc
    · exact h x (List.mem_of_mem_drop hx)
  rw [h2, decide_eq_true (show 1 ≤ st.length + 1 by omega), decide_eq_true (show st.length + 1 ≤ 6 by omega)]
  rfl
section
variable {P : Program} {w : World} {K : PySem.W.Frag} {mg : Str → Option Value} {base : Heap}
/-! ### _law_calls: up to eight different names -/
def spCalls : Sp := fun vs H Q _ => ∃ (p : Addr) (n : Nat), vs = [.ref p, .int (n : Int)] ∧ PoolAt H p ∧ 1 ≤ n ∧ n ≤ 8 ∧
  ∀ (l : Addr) (xs : List Str) H', xs.Nodup → xs.length = n → (∀ s ∈ xs, isLine (cs s) = true) → PoolAt H' p → SameBut p H H' → H' l = some (.lst (xs.map V.str)) → l ≠ p → Q (.ref l) H'
abbrev nCalls : List Str := ["_law_pool_here", "_law_many", "_law_own", "_law_first", "_law_stride", "_law_letters", "_law_stem", "_law_cut", "_law_begin", "_law_signs", "_law_k", "_law_sign"]
theorem scCalls : FnScope nCalls ["_law_pool_here", "_law_many"] (defScope sCalls) := ⟨rfl, rfl, rfl, by decide +kernel, rfl, by decide +kernel, by decide +kernel⟩
theorem ixL (K : PySem.W.Frag) {X : Cx} (h : X.K = K := by rfl) : IxR X (rIxL K) := by subst h; exact ix_list
theorem bs_sorted : bootBuiltins "sorted" = some (.builtin "sorted") := by decide +kernel
theorem ok_calls {f fD : Addr} {fd fdD : FuncData} (F : Fun K "_law_calls" "_law_calls" sCalls f fd) (Z : Names0 mg)
    (FD : Fun K "_law_draw" "_law_draw" sDraw fD fdD) (bD : Binds K fdD ["_law_pool_here", "_law_upto"] []) (mD : mg "_law_draw" = some (.ref fD)) :
    FnOk P w K mg base CX0 2 f fd ["_law_pool_here", "_law_many"] spCalls := by
  have GD : FnOk P w K mg base CX0 1 fD fdD ["_law_pool_here", "_law_upto"] spDraw := ok_draw FD Z
  refine F.ok scCalls (fun vs H Q E h => ?_) (fun cdv A outer s H vs Q E hr h => ?_)
  · obtain ⟨p, n, rfl, _⟩ := h; rfl
  obtain ⟨p, n, rfl, hp, hn1, hn8, k⟩ := h
  have nd := scCalls.nd
  refine ⟨_, pss_cons (ps_set (i := 2) nd rfl (Or.inr rfl) (pe_lst (pa_cons pe_str (pa_cons pe_str (pa_cons pe_str (pa_cons pe_str (pa_cons pe_str (pa_cons pe_str (pa_cons pe_str (pa_cons pe_str (pa_cons pe_str (pa_cons pe_str (pa_cons pe_str (pa_cons pe_str pa_nil))))))))))))))
    (pss_cons (ps_asg (pe_tup (pa_cons (pe_call GD hr (by rfl) mD FD.kp bD .nil pass0 (pa_cons (pv 0) (pa_cons pe_int pa_nil))) (pa_cons (pe_ix ix_list (pe_lst (pa_cons pe_int (pa_cons pe_int (pa_cons pe_int (pa_cons pe_int pa_nil)))))
        (pe_call GD hr (by rfl) mD FD.kp bD .nil pass0 (pa_cons (pv 0) (pa_cons pe_int pa_nil))) (fun _ _ => rfl)) pa_nil))) (pg_tup rfl (pgs_cons (pg_name (i := 3) nd rfl (Or.inr rfl)) (pgs_cons (pg_name (i := 4) nd rfl (Or.inr rfl)) pgs_nil))))
    (pss_cons (ps_if (pt_cmpR op_eq (pe_call GD hr (by rfl) mD FD.kp bD .nil pass0 (pa_cons (pv 0) (pa_cons pe_int pa_nil))) pe_int (nomark _))
      (pss_one (ps_ret (pe_callB cr_sortedS (by rfl) Z.srt bs_sorted (pa_cons (pe_lc (own := [("_law_k", 10)]) (g := gName 10) (by rfl) nd (pi_range1 (by rfl) Z.rng (pa_cons (pv 1) pa_nil))
        (blkOk_by (N := nCalls) (sc := defScope sCalls) (by decide +kernel)) (fun _ _ _ _ _ => pg_name (i := 10) nd rfl (Or.inl rfl)) (fun _ _ _ _ _ => pts_nil)
        (fun _ _ _ _ _ => pe_ix (ixL K) (pv 2) (pe_op op_mod (pe_op op_add (pv 3) (pe_op op_mul (pv 4) (pv 10))) pe_int) (fun _ _ => rfl))) pa_nil)))) pss_nil)
    (pss_cons (ps_set (i := 5) nd rfl (Or.inr rfl) pe_str)
    (pss_cons (ps_set (i := 6) nd rfl (Or.inr rfl) (pe_join pe_str (pe_lc (own := [("_law_k", 10)]) (g := gName 10) (by rfl) nd (pi_range1 (by rfl) Z.rng (pa_cons (pe_call GD hr (by rfl) mD FD.kp bD .nil pass0 (pa_cons (pv 0) (pa_cons pe_int pa_nil))) pa_nil))
        (blkOk_by (N := nCalls) (sc := defScope sCalls) (by decide +kernel)) (fun _ _ _ _ _ => pg_name (i := 10) nd rfl (Or.inl rfl)) (fun _ _ _ _ _ => pts_nil)
        (fun _ _ _ _ _ => pe_ix ix_str (pv 5) (pe_call GD hr (by rfl) mD FD.kp bD .nil pass0 (pa_cons (pv 0) (pa_cons pe_int pa_nil))) (fun _ _ => rfl)))))
    (pss_cons (ps_asg (pe_tup (pa_cons (pe_call GD hr (by rfl) mD FD.kp bD .nil pass0 (pa_cons (pv 0) (pa_cons (pe_op op_add (pe_callB call_len (by rfl) Z.len PySem.boot_len (pa_cons (pv 6) pa_nil)) pe_int) pa_nil)))
        (pa_cons (pe_call GD hr (by rfl) mD FD.kp bD .nil pass0 (pa_cons (pv 0) (pa_cons pe_int pa_nil))) pa_nil))) (pg_tup rfl (pgs_cons (pg_name (i := 7) nd rfl (Or.inr rfl)) (pgs_cons (pg_name (i := 8) nd rfl (Or.inr rfl)) pgs_nil))))
    (pss_cons (ps_setLc (i := 9) (own := [("_law_k", 10)]) (g := gName 10) (by rfl) nd rfl rfl (sw_true rfl rfl rfl (by decide +kernel)) (pi_range1 (by rfl) Z.rng (pa_cons (pv 1) pa_nil))
        (blkOk_by (N := nCalls) (sc := defScope sCalls) (by decide +kernel)) (fun _ _ _ _ _ => pg_name (i := 10) nd rfl (Or.inl rfl)) (fun _ _ _ _ _ => pts_nil)
        (fun _ _ _ _ _ => pe_ix ix_str (pv 5) (pe_op op_mod (pe_op op_add (pv 8) (pe_op op_mul (pv 4) (pv 10))) pe_int) (fun _ _ => rfl)))
    (pss_one (ps_ret (pe_callB cr_sortedS (by rfl) Z.srt bs_sorted (pa_cons (pe_lc (own := [("_law_sign", 11)]) (g := gName 11) (by rfl) nd (pi_list (pv 9))
        (blkOk_by (N := nCalls) (sc := defScope sCalls) (by decide +kernel)) (fun _ _ _ _ _ => pg_name (i := 11) nd rfl (Or.inl rfl)) (fun _ _ _ _ _ => pts_nil)
        (fun _ _ _ _ _ => pe_op op_add_str (pe_op op_add_str (pe_slice sl_str (pv 6) po_none (po_some (pv 7))) (pv 11)) (pe_slice sl_str (pv 6) (po_some (pv 7)) po_none))) pa_nil)))))))))), ?_⟩
  have pne : ∀ {H' : Hp} {a : Addr}, PoolAt H' p → H' a = none → a ≠ p := fun q e z => by obtain ⟨_, _, _, q, _⟩ := q; rw [← z, e] at q; cases q
  refine ⟨(by show 12 ≤ sizeLine; decide), fun l hl => ?_⟩
  have hlp := pne hp hl
  have hp1 : PoolAt (upd H l (.lst (OWN.map V.str))) p := hp.keep fun o e => by rw [upd_ne (Ne.symm hlp)]; exact e
  have so1 : SameBut p H (upd H l (.lst (OWN.map V.str))) := Same.but p (same_upd hl)
  have hl1 : (upd H l (.lst (OWN.map V.str))) l = some (.lst (OWN.map V.str)) := upd_same
  show tSeq _ _ _ _ (upd H l (.lst (OWN.map V.str)))
  generalize upd H l (.lst (OWN.map V.str)) = H1 at hp1 so1 hl1
  refine ⟨_, rfl, p, 12, rfl, hp1, by decide, by decide, fun fi H2 hf0 hf1 hp2 sb2 => ?_⟩
  refine ⟨(by show 4 ≤ sizeLine; decide), fun q hq => ?_⟩
  have hqp := pne hp2 hq
  refine ⟨_, rfl, p, 4, rfl, hp2.keep fun o e => by rw [upd_ne (Ne.symm hqp)]; exact e, by decide, by decide, fun r H3 hr0 hr1 hp3 sb3 => ?_⟩
  have hq3 := sb3 q _ hqp upd_same
  have hl3 := sb3 l _ hlp (by rw [upd_ne (ne_of_none (sb2 l _ hlp hl1) hq)]; exact sb2 l _ hlp hl1)
  have so3 : SameBut p H H3 := so1.trans (sb2.trans fun b o hb e => sb3 b o hb (by rw [upd_ne (ne_of_none e hq)]; exact e))
  obtain ⟨st, hst, hat⟩ : ∃ st, goodStride st ∧ atI [V.int 1, V.int 5, V.int 7, V.int 11] r = some (V.int st) := by
    have : r = 0 ∨ r = 1 ∨ r = 2 ∨ r = 3 := by omega
    rcases this with rfl | rfl | rfl | rfl
    · exact ⟨1, .inl rfl, rfl⟩
    · exact ⟨5, .inr (.inl rfl), rfl⟩
    · exact ⟨7, .inr (.inr (.inl rfl)), rfl⟩
    · exact ⟨11, .inr (.inr (.inr rfl)), rfl⟩
  refine ⟨q, _, r, _, rfl, rfl, SqL.of hq3, hat, (by show 2 ≤ sizeLine; decide), fun t ht => ?_⟩
  have htp := pne hp3 ht
  have hp4 : PoolAt (upd H3 t (.tup [V.int fi, V.int st])) p := hp3.keep fun o e => by rw [upd_ne (Ne.symm htp)]; exact e
  have so4 : SameBut p H (upd H3 t (.tup [V.int fi, V.int st])) := so3.trans (Same.but p (same_upd ht))
  refine ⟨t, _, rfl, SqT.of upd_same, rfl, ?_⟩
  have hl4 : (upd H3 t (.tup [V.int fi, V.int st])) l = some (.lst (OWN.map V.str)) := by rw [upd_ne (ne_of_none hl3 ht)]; exact hl3
  generalize upd H3 t (.tup [V.int fi, V.int st]) = H4 at hp4 so4 hl4
  refine ⟨_, _, rfl, _, _, rfl, rfl, _, rfl, p, 3, rfl, hp4, by decide, by decide, fun d H5 _ _ hp5 sb5 => ?_⟩
  have so5 := so4.trans sb5
  have hl5 := sb5 l _ hlp hl4
  have hnn : ((n : Int)).toNat = n := Int.toNat_natCast n
  refine ⟨rfl, _, rfl, iteB (fun _ => ?_) (fun _ => ?_)⟩
  · refine ⟨_, rfl, _, rfl, by omega, by omega, fun D hD => ?_⟩
    have hDl := ne_of_none hl5 hD
    have hDp := pne hp5 hD
    rw [hnn]
    refine lc_range (lo := 0) (n := n) (fun i H' => Same H5 H' ∧ H' D = some (.lst (((List.range i).map fun j => pick12 fi st j).map V.str))) ⟨same_upd hD, upd_same⟩ ?_ ?_
    · rintro i H' hi ⟨s1, d1⟩
      refine ⟨rfl, _, rfl, _, rfl, _, rfl, _, rfl, _, _, rfl, rfl, .inl (stride_big hst), _, _, rfl, rfl, _, _, rfl, rfl, (by show (0 : Int) < 12; decide), l, _, _, V.str (pick12 fi st i), rfl, rfl, SqL.of (s1 _ _ hl5), ?_, ?_⟩
      · have h0 : 0 ≤ (fi + st * (i : Int)) % 12 := Int.emod_nonneg _ (by decide)
        have e : (OWN.map V.str)[((fi + st * (i : Int)) % 12).toNat]? = some (V.str (pick12 fi st i)) := by rw [List.getElem?_map, pick12_get]; rfl
        have := atI_nat e
        rw [Int.toNat_of_nonneg h0] at this
        rw [Int.zero_add]
        exact this
      refine ⟨_, d1, small1000 (by simp only [List.length_map, List.length_range]; omega), ?_, ?_⟩
      · intro c o e
        rw [upd_ne (ne_of_none e hD)]
        exact s1 _ _ e
      · rw [upd_same, List.range_succ]
        simp
    · rintro H' ⟨s1, d1⟩
      refine ⟨D, _, rfl, SqL.of d1, by simp only [List.length_map, List.length_range]; omega, fun ys q hperm _ hq => ?_⟩
      have hqp := pne (hp5.keep fun o => s1 p o) hq
      have hnd : ((List.range n).map fun j => pick12 fi st j).Nodup := range_map_nodup fun i j hj hij => pick12_ne hst (by omega) hij
      refine k q ys _ (hperm.nodup_iff.mpr hnd) (by rw [hperm.length_eq]; simp) (fun x hx => ?_) (hp5.keep fun o e => by rw [upd_ne (Ne.symm hqp)]; exact s1 p o e) (so5.trans ((Same.but p s1).trans (Same.but p (same_upd hq)))) upd_same hqp
      obtain ⟨j, _, rfl⟩ := List.mem_map.mp (hperm.mem_iff.mp hx)
      exact own_line _ (pick12_mem fi st j)
  -- the letters, the stem
  refine ⟨⟨_, rfl⟩, _, rfl, p, 6, rfl, hp5, by decide, by decide, fun m H6 hm0 hm1 hp6 sb6 => ?_⟩
  have so6 := so5.trans sb6
  obtain ⟨m, rfl⟩ : ∃ k : Nat, m = (k : Int) := ⟨m.toNat, by omega⟩
  refine ⟨_, rfl, by omega, by omega, fun D hD => ?_⟩
  have hDp := pne hp6 hD
  rw [Int.toNat_natCast]
  refine lc_range (lo := 0) (n := m) (fun i H' => PoolAt H' p ∧ SameBut p H6 H' ∧ ∃ ls : List Nat, ls.length = i ∧ ls.all letter = true ∧ H' D = some (.lst (ls.map fun c => V.str ⟨#[c]⟩))) ⟨hp6.keep fun o e => by rw [upd_ne (Ne.symm hDp)]; exact e, Same.but p (same_upd hD), [], rfl, rfl, upd_same⟩ ?_ ?_
  · rintro i H' hi ⟨hp', s1, ls, e1, e2, d1⟩
    refine ⟨rfl, _, rfl, _, rfl, p, 26, rfl, hp', by decide, by decide, fun u H2' hu0 hu1 hp2' sb' => ?_⟩
    obtain ⟨u, rfl⟩ : ∃ k : Nat, u = (k : Int) := ⟨u.toNat, by omega⟩
    have hu : u < 26 := by omega
    refine ⟨_, _, 97 + u, rfl, rfl, (by decide +kernel), atI_nat (let_get hu), _, sb' D _ hDp d1, small1000 (by rw [List.length_map]; omega), hp2'.keep fun o e => by rw [upd_ne (Ne.symm hDp)]; exact e, ?_, ls ++ [97 + u], ?_, ?_, ?_⟩
    · intro c o hc e
      rw [upd_ne (ne_of_none e hD)]
      exact sb' c o hc (s1 c o hc e)
    · rw [List.length_append, e1]; rfl
    · rw [List.all_append, e2]
      simp [letter]
      omega
    · rw [upd_same]; simp
  rintro H7 ⟨hp7, sb7, ls, e1, e2, d1⟩
  have so7 := so6.trans sb7
  refine ⟨_, D, ls.map fun c => (⟨#[c]⟩ : Str), rfl, rfl, .inl (SqL.of (by rw [List.map_map]; exact d1)), ?_, ?_⟩
  · have : ("" : Str).length = 0 := by decide +kernel
    rw [this, List.map_map]
    have e3 : (ls.map ((fun x : Str => x.length) ∘ fun c => (⟨#[c]⟩ : Str))).sum = ls.length := by
      clear d1 e1 e2
      induction ls with
      | nil => rfl
      | cons a r ih => simp only [List.map_cons, List.sum_cons, ih, List.length_cons]; show 1 + r.length = _; omega
    rw [e3]
    omega
  rw [join_signs]
  generalize hst' : (ms ls : Str) = stem
  have hsl : stem.length = ls.length := by rw [← hst', ms_len]
  have hcs : cs stem = ls := by rw [← hst', cs_ms]
  -- the cut, the beginning
  refine ⟨_, rfl, _, rfl, _, stem.length, rfl, ⟨(show stem.length ≤ sizeLine from Nat.le_of_lt (small1000 (by omega))), rfl⟩, _, _, rfl, rfl, p, _, rfl, hp7, by omega, by omega, fun cu H8 hc0 hc1 hp8 sb8 => ?_⟩
  obtain ⟨cu, rfl⟩ : ∃ k : Nat, cu = (k : Int) := ⟨cu.toNat, by omega⟩
  refine ⟨_, rfl, p, 26, rfl, hp8, by decide, by decide, fun bg H9 hb0 hb1 hp9 sb9 => ?_⟩
  have so9 := so7.trans (sb8.trans sb9)
  refine ⟨(by show 2 ≤ sizeLine; decide), fun t ht => ?_⟩
  have htp := pne hp9 ht
  refine ⟨t, _, rfl, SqT.of upd_same, rfl, _, _, rfl, _, _, rfl, rfl, ?_⟩
  have hpA : PoolAt (upd H9 t (.tup [V.int (cu : Int), V.int bg])) p := hp9.keep fun o e => by rw [upd_ne (Ne.symm htp)]; exact e
  have soA : SameBut p H (upd H9 t (.tup [V.int (cu : Int), V.int bg])) := so9.trans (Same.but p (same_upd ht))
  show tSeq _ _ _ _ (upd H9 t (.tup [V.int (cu : Int), V.int bg]))
  generalize upd H9 t (.tup [V.int (cu : Int), V.int bg]) = HA at hpA soA
  -- the signs
  refine ⟨_, rfl, _, rfl, by omega, by omega, fun E1 hE => ?_⟩
  have hEp := pne hpA hE
  rw [hnn]
  refine lc_range (lo := 0) (n := n) (fun i H' => Same HA H' ∧ H' E1 = some (.lst (((List.range i).map fun j => pick26 bg st j).map fun c => V.str ⟨#[c]⟩))) ⟨same_upd hE, upd_same⟩ ?_ ?_
  · rintro i H' hi ⟨s1, d1⟩
    have h0 : 0 ≤ (bg + st * (i : Int)) % 26 := Int.emod_nonneg _ (by decide)
    have h26 : (bg + st * (i : Int)) % 26 < 26 := Int.emod_lt_of_pos _ (by decide)
    refine ⟨rfl, _, rfl, _, rfl, _, rfl, _, rfl, _, _, rfl, rfl, .inl (stride_big hst), _, _, rfl, rfl, _, _, rfl, rfl, (by show (0 : Int) < 26; decide), _, _, pick26 bg st i, rfl, rfl, (by decide +kernel), ?_, _, d1, small1000 (by simp only [List.length_map, List.length_range]; omega), ?_, ?_⟩
    · have := atI_nat (let_get (n := ((bg + st * (i : Int)) % 26).toNat) (by omega))
      rw [Int.toNat_of_nonneg h0] at this
      rw [Int.zero_add]
      exact this
    · intro c o e
      rw [upd_ne (ne_of_none e hE)]
      exact s1 _ _ e
    · rw [upd_same, List.range_succ]
      simp
  rintro HB ⟨sB, dB⟩
  have hpB : PoolAt HB p := hpA.keep fun o => sB p o
  refine ⟨_, rfl, E1, rfl, ⟨_, SqL.of dB⟩, fun E2 hE2 => ?_⟩
  have hEp2 := pne hpB hE2
  refine lc_list (K := K) (a := E1) (xs := ((List.range n).map fun j => pick26 bg st j).map fun c => V.str ⟨#[c]⟩) (fun i H' => Same HB H' ∧ H' E2 = some (.lst (((List.range i).map fun j => nameAt ls cu (pick26 bg st j)).map V.str))) ⟨same_upd hE2, upd_same⟩ (fun i H' _ h => SqL.of (h.1 _ _ dB)) ?_ ?_
  · rintro i x H' hx ⟨s1, d1⟩
    have hi : i < n := by
      have := (List.getElem?_eq_some_iff.mp hx).1
      simpa using this
    have hxe : x = V.str ⟨#[pick26 bg st i]⟩ := by
      rw [List.getElem?_map, List.getElem?_map, List.getElem?_range hi] at hx
      simpa using hx.symm
    subst hxe
    have c1 := cutS_length stem none (some (cu : Int))
    have c2 := cutS_length stem (some (cu : Int)) none
    have hz : stem.length ≤ sizeLine := Nat.le_of_lt (small1000 (by omega))
    have one : (⟨#[pick26 bg st i]⟩ : Str).length = 1 := rfl
    refine ⟨rfl, _, rfl, _, rfl, _, rfl, stem, rfl, hz, _, rfl, _, _, rfl, rfl, Nat.le_of_lt (small1000 (by rw [one]; omega)), _, rfl, _, rfl, _, rfl, stem, rfl, hz, _, _, rfl, rfl, Nat.le_of_lt (small1000 (by rw [strLen_append, one]; omega)), _, d1, small1000 (by simp only [List.length_map, List.length_range]; omega), ?_, ?_⟩
    · intro c o e
      rw [upd_ne (ne_of_none e hE2)]
      exact s1 _ _ e
    · rw [upd_same, List.range_succ, name_eq (by omega), hcs]
      simp
  · rintro HC ⟨sC, dC⟩
    have len : (((List.range n).map fun j => pick26 bg st j).map fun c => V.str ⟨#[c]⟩).length = n := by simp
    rw [len] at dC
    have hpC : PoolAt HC p := hpB.keep fun o => sC p o
    refine ⟨E2, _, rfl, SqL.of dC, by simp only [List.length_map, List.length_range]; omega, fun ys q hperm _ hq => ?_⟩
    have hqp := pne hpC hq
    have hnd : ((List.range n).map fun j => nameAt ls cu (pick26 bg st j)).Nodup := range_map_nodup fun i j hj hij e => pick26_ne hst (by omega) hij (nameAt_inj e)
    refine k q ys _ (hperm.nodup_iff.mpr hnd) (by rw [hperm.length_eq]; simp) (fun x hx => ?_) (hpC.keep fun o e => by rw [upd_ne (Ne.symm hqp)]; exact e) (soA.trans ((Same.but p sB).trans ((Same.but p sC).trans (Same.but p (same_upd hq))))) upd_same hqp
    obtain ⟨j, _, rfl⟩ := List.mem_map.mp (hperm.mem_iff.mp hx)
    exact nameAt_line e2 (by omega) (pick26_letter bg st j)
end
end FM
namespace FM
open PySem L2
theorem cutV_to {xs : List V} {c : Nat} (h : c ≤ xs.length) : cutV xs none (some (c : Int)) = xs.take c := by
  unfold cutV
  rw [HT.sIx_nat, HT.sIx_none, Nat.min_eq_left h, List.drop_zero, Nat.sub_zero]
theorem cutV_from {xs : List V} {c : Nat} (h : c ≤ xs.length) : cutV xs (some (c : Int)) none = xs.drop c := by
  unfold cutV
  rw [HT.sIx_nat, HT.sIx_none, Nat.min_eq_left h]
  exact List.take_of_length_le (by rw [List.length_drop]; omega)
theorem cutV_mid {xs : List V} {c d : Nat} (h : c + d ≤ xs.length) : cutV xs (some (c : Int)) (some ((c : Int) + (d : Int))) = (xs.drop c).take d := by
  unfold cutV
  have : ((c : Int) + (d : Int)) = ((c + d : Nat) : Int) := by omega
  rw [this, HT.sIx_nat, HT.sIx_nat, Nat.min_eq_left (show c ≤ xs.length by omega), Nat.min_eq_left h, Nat.add_sub_cancel_left]
theorem cutV_from2 {xs : List V} {c d : Nat} (h : c + d ≤ xs.length) : cutV xs (some ((c : Int) + (d : Int))) none = xs.drop (c + d) := by
  have : ((c : Int) + (d : Int)) = ((c + d : Nat) : Int) := by omega
  rw [this, cutV_from h]
theorem tupP {H H' : Hp} {p : Addr} (h : PoolAt H p) (s : SameBut p H H') : TupK H H' := by
  obtain ⟨_, _, _, q, _⟩ := h
  exact s.tup q
/-- one gathering -/
def gather (ts : List T) (k : Str) (a m : Nat) : List T := ts.take a ++ [.node k ((ts.drop a).take m)] ++ ts.drop (a + m)
theorem split3 {α : Type} (ts : List α) (a m : Nat) : ts = ts.take a ++ (ts.drop a).take m ++ ts.drop (a + m) := by
  rw [← List.drop_drop, List.append_assoc, List.take_append_drop, List.take_append_drop]
theorem gather_lvs (ts : List T) (k : Str) (a m : Nat) : lvs (gather ts k a m) = lvs ts := by
  conv => rhs; rw [split3 ts a m]
  unfold gather
  rw [lvs_append, lvs_append, lvs_append, lvs_append]
  simp only [lvs, lv, List.append_nil]
theorem gather_ok {ts : List T} {k : Str} {a m : Nat} (h : okTs ts = true) (hk : isKind k = true) (hm : 2 ≤ m) (ha : a + m ≤ ts.length) : okTs (gather ts k a m) = true := by
  rw [split3 ts a m, okTs_append, okTs_append] at h
  simp only [Bool.and_eq_true] at h
  unfold gather
  rw [okTs_append, okTs_append, h.1.1, h.2]
  simp only [okTs, okT, hk, h.1.2, Bool.and_true, Bool.true_and, decide_eq_true_eq]
  rw [List.length_take, List.length_drop]
  omega
theorem gather_len {ts : List T} {k : Str} {a m : Nat} (ha : a + m ≤ ts.length) : (gather ts k a m).length = ts.length - m + 1 := by
  unfold gather
  simp only [List.length_append, List.length_take, List.length_drop, List.length_cons, List.length_nil]
  omega
theorem leaves_lvs : ∀ xs : List Str, lvs (xs.map T.leaf) = xs
  | [] => rfl
  | a :: r => by simp only [List.map_cons, lvs, lv, leaves_lvs r]; rfl
theorem leaves_ok : ∀ {xs : List Str}, (∀ s ∈ xs, isLine (cs s) = true) → okTs (xs.map T.leaf) = true
  | [], _ => rfl
  | a :: r, h => by
    simp only [List.map_cons, okTs, okT]
    rw [h a (List.mem_cons_self ..), leaves_ok fun s hs => h s (List.mem_cons_of_mem _ hs)]
    rfl
theorem leaves_at (H : Hp) : ∀ xs : List Str, Ats H (xs.map V.str) (xs.map T.leaf)
  | [] => by simp only [List.map_nil, Ats]
  | a :: r => by
    simp only [List.map_cons, Ats, At]
    exact ⟨_, _, rfl, rfl, leaves_at H r⟩
section
variable {P : Program} {w : World} {K : PySem.W.Frag} {mg : Str → Option Value} {base : Heap}
/-! ### _law_tree: a plan of these names -/
def spTree : Sp := fun vs H Q _ => ∃ (p l : Addr) (xs : List Str), vs = [.ref p, .ref l] ∧ PoolAt H p ∧ H l = some (.lst (xs.map V.str)) ∧ l ≠ p ∧ xs.Nodup ∧ 1 ≤ xs.length ∧ xs.length ≤ 8 ∧ (∀ s ∈ xs, isLine (cs s) = true) ∧
  ∀ v t H', At H' v t → plan t = true → PoolAt H' p → SameBut p H H' → Q v H'
abbrev nTree : List Str := ["_law_pool_here", "_law_calls_here", "_law_left", "_law_many", "_law_at"]
theorem scTree : FnScope nTree ["_law_pool_here", "_law_calls_here"] (defScope sTree) := ⟨rfl, rfl, rfl, by decide +kernel, rfl, by decide +kernel, by decide +kernel⟩
theorem bs_min : bootBuiltins "min" = some (.builtin "min") := by decide +kernel
theorem ok_tree {f fD fM fS : Addr} {fd fdD fdM fdS : FuncData} (F : Fun K "_law_tree" "_law_tree" sTree f fd) (Z : Names0 mg)
    (FD : Fun K "_law_draw" "_law_draw" sDraw fD fdD) (bD : Binds K fdD ["_law_pool_here", "_law_upto"] []) (mD : mg "_law_draw" = some (.ref fD))
    (FM' : Fun K "_law_mixed" "_law_mixed" sMixed fM fdM) (bM : Binds K fdM ["_law_pool_here", "_law_things"] []) (mM : mg "_law_mixed" = some (.ref fM))
    (FS : Fun K "_law_sort" "_law_sort" sSort fS fdS) (bS : Binds K fdS ["_law_pool_here"] []) (mS : mg "_law_sort" = some (.ref fS)) :
    FnOk P w K mg base CX0 3 f fd ["_law_pool_here", "_law_calls_here"] spTree := by
  have GD : FnOk P w K mg base CX0 2 fD fdD ["_law_pool_here", "_law_upto"] spDraw := (ok_draw FD Z).mono (by decide)
  have GM : FnOk P w K mg base CX0 2 fM fdM ["_law_pool_here", "_law_things"] (spMixed K) := ok_mixed FM' Z FD bD mD
  have GS : FnOk P w K mg base CX0 2 fS fdS ["_law_pool_here"] spSort := ok_sort FS Z FD bD mD
  refine F.ok scTree (fun vs H Q E h => ?_) (fun cdv A outer s H vs Q E hr h => ?_)
  · obtain ⟨p, l, xs, rfl, _⟩ := h; rfl
  obtain ⟨p, l, xs, rfl, hp, hl, hlp, hnd, h1, h8, hln, k⟩ := h
  have nd := scTree.nd
  refine ⟨_, pss_cons (ps_set (i := 2) nd rfl (Or.inl rfl) (pe_call GM hr (by rfl) mM FM'.kp bM .nil pass0 (pa_cons (pv 0) (pa_cons (pv 1) pa_nil))))
    (pss_cons (ps_while PassesOwn.never (pt_cmpR op_gt (pe_callB call_len (by rfl) Z.len PySem.boot_len (pa_cons (pv 2) pa_nil)) pe_int (nomark _))
      (pss_cons (ps_set (i := 3) nd rfl (Or.inl rfl) (pe_op op_add pe_int (pe_call GD hr (by rfl) mD FD.kp bD .nil pass0 (pa_cons (pv 0) (pa_cons (pe_callB (call_min2 (by rfl)) (by rfl) Z.min bs_min (pa_cons pe_int (pa_cons (pe_op op_sub (pe_callB call_len (by rfl) Z.len PySem.boot_len (pa_cons (pv 2) pa_nil)) pe_int) pa_nil))) pa_nil)))))
      (pss_cons (ps_set (i := 4) nd rfl (Or.inl rfl) (pe_call GD hr (by rfl) mD FD.kp bD .nil pass0 (pa_cons (pv 0) (pa_cons (pe_op op_add (pe_op op_sub (pe_callB call_len (by rfl) Z.len PySem.boot_len (pa_cons (pv 2) pa_nil)) (pv 3)) pe_int) pa_nil))))
      (pss_one (ps_set (i := 2) nd rfl (Or.inl rfl) (pe_op op_cat (pe_op op_cat (pe_slice sl_list (pv 2) po_none (po_some (pv 4)))
          (pe_lst (pa_cons (pe_tup (pa_cons (pe_call GS hr (by rfl) mS FS.kp bS .nil pass0 (pa_cons (pv 0) pa_nil)) (pa_cons (pe_callTy call_tuple_of (by rfl) Z.tup bs_tuple (pa_cons (pe_slice sl_list (pv 2) (po_some (pv 4)) (po_some (pe_op op_add (pv 4) (pv 3)))) pa_nil)) pa_nil))) pa_nil)))
          (pe_slice sl_list (pv 2) (po_some (pe_op op_add (pv 4) (pv 3))) po_none)))))))
    (pss_one (ps_ret (pe_ix ix_list (pv 2) pe_int (fun _ _ => rfl))))), ?_⟩
  have pne : ∀ {H' : Hp} {a : Addr}, PoolAt H' p → H' a = none → a ≠ p := fun q e z => by obtain ⟨_, _, _, q, _⟩ := q; rw [← z, e] at q; cases q
  have pk : ∀ {H' : Hp} {a : Addr} {o : HO}, PoolAt H' p → H' a = none → PoolAt (upd H' a o) p := fun q e => q.keep fun o' e' => by rw [upd_ne (Ne.symm (pne q e))]; exact e'
  refine ⟨_, rfl, _, rfl, p, l, xs, rfl, hp, hl, hlp, h8, fun a ys H1 hperm hp1 sb1 ha1 hap => ?_⟩
  have hys := hperm.length_eq
  refine ⟨fun m σ H' => ∃ (a : Addr) (vs : List V) (ts : List T) (y z : Option V), σ = [some (.ref p), some (.ref l), some (.ref a), y, z] ∧ a ≠ p ∧ H' a = some (.lst vs) ∧ Ats H' vs ts ∧ okTs ts = true ∧ (lvs ts).Perm xs ∧ 1 ≤ ts.length ∧ m = ts.length ∧ PoolAt H' p ∧ SameBut p H H',
    ⟨_, a, _, ys.map T.leaf, none, none, rfl, hap, ha1, leaves_at H1 ys, leaves_ok fun s hs => hln s (hperm.mem_iff.mp hs), by rw [leaves_lvs]; exact hperm, by rw [List.length_map]; omega, rfl, hp1, sb1⟩, ?_⟩
  rintro m σ H2 ⟨a, vs, ts, y, z, rfl, hap, ha, hat, hok, hpm, hts, rfl, hp2, sb2⟩
  have hvl := hat.len
  have hlen : ts.length ≤ 8 := by
    have := (oks_dps ts hok).1
    rw [hpm.length_eq] at this
    omega
  refine ⟨_, rfl, _, _, rfl, len_lst ha, _, _, rfl, rfl, _, rfl, iteB (fun hgt => ?_) (fun hgt => ?_)⟩
  · have hgt := of_decide_eq_true hgt
    refine ⟨fun σ' H' => ∃ m', m' < ts.length ∧ _, fun _ _ h => h, ?_⟩
    -- many
    refine ⟨_, rfl, _, rfl, _, _, rfl, len_lst ha, _, _, rfl, rfl, _, _, rfl, p, _, rfl, hp2, ?_, ?_, fun r1 H3 hr0 hr1 hp3 sb3 => ?_⟩
    · by_cases h : (vs.length : Int) - 1 < 3
      · rw [if_pos h]; omega
      · rw [if_neg h]; decide
    · by_cases h : (vs.length : Int) - 1 < 3
      · rw [if_pos h]; omega
      · rw [if_neg h]; decide
    have hr2 : r1 ≤ 2 ∧ r1 + 2 ≤ vs.length := by
      by_cases h : (vs.length : Int) - 1 < 3
      · rw [if_pos h] at hr1; omega
      · rw [if_neg h] at hr1; omega
    clear hr1
    obtain ⟨r1, rfl⟩ : ∃ k : Nat, r1 = (k : Int) := ⟨r1.toNat, by omega⟩
    refine ⟨_, _, rfl, rfl, ?_⟩
    have ha3 := sb3 a _ hap ha
    have hat3 := Ats.keep (tupP hp2 sb3) _ _ hat
    have so3 := sb2.trans sb3
    -- at
    refine ⟨_, rfl, _, rfl, _, _, rfl, len_lst ha3, _, rfl, _, _, rfl, rfl, _, _, rfl, rfl, p, _, rfl, hp3, by omega, by omega, fun r2 H4 ht0 ht1 hp4 sb4 => ?_⟩
    obtain ⟨r2, rfl⟩ : ∃ k : Nat, r2 = (k : Int) := ⟨r2.toNat, by omega⟩
    have hfit : r2 + (2 + r1) ≤ vs.length := by omega
    have ha4 := sb4 a _ hap ha3
    have hat4 := Ats.keep (tupP hp3 sb4) _ _ hat3
    have so4 := so3.trans sb4
    have em : (2 : Int) + (r1 : Int) = ((2 + r1 : Nat) : Int) := by omega
    have ec1 : cutV vs (some (r2 : Int)) (some ((r2 : Int) + (2 + (r1 : Int)))) = (vs.drop r2).take (2 + r1) := by rw [em]; exact cutV_mid hfit
    have ec2 : cutV vs (some ((r2 : Int) + (2 + (r1 : Int)))) none = vs.drop (r2 + (2 + r1)) := by rw [em]; exact cutV_from2 hfit
    -- left[:at]
    refine ⟨_, rfl, _, rfl, _, rfl, a, _, rfl, SqL.of ha4, fun q1 hq1 => ?_⟩
    rw [cutV_to (by omega)]
    have s5 := same_upd (o := .lst (vs.take r2)) hq1
    have hp5 : PoolAt (upd H4 q1 (.lst (vs.take r2))) p := pk hp4 hq1
    have hq5 : (upd H4 q1 (.lst (vs.take r2))) q1 = some (.lst (vs.take r2)) := upd_same
    generalize upd H4 q1 (.lst (vs.take r2)) = H5 at s5 hp5 hq5
    have hq1p : q1 ≠ p := fun z => by obtain ⟨_, _, _, q, _⟩ := hp4; rw [← z, hq1] at q; cases q
    -- the sort
    refine ⟨_, rfl, p, rfl, hp5, fun kd H6 hk hp6 sb6 => ?_⟩
    have so6 := so4.trans ((Same.but p s5).trans sb6)
    have ha6 := sb6 a _ hap (s5 _ _ ha4)
    have hat6 := Ats.keep (tupP hp5 sb6) _ _ (Ats.keep (same_tup s5) _ _ hat4)
    have hq6 := sb6 q1 _ hq1p hq5
    -- tuple(left[at:at + many])
    refine ⟨_, rfl, _, rfl, _, rfl, _, rfl, _, rfl, _, _, rfl, rfl, _, rfl, a, _, rfl, SqL.of ha6, fun q2 hq2 => ?_⟩
    rw [ec1]
    have hp7 : PoolAt (upd H6 q2 (.lst ((vs.drop r2).take (2 + r1)))) p := pk hp6 hq2
    have s7 := same_upd (o := .lst ((vs.drop r2).take (2 + r1))) hq2
    have hq7 : (upd H6 q2 (.lst ((vs.drop r2).take (2 + r1)))) q2 = some (.lst ((vs.drop r2).take (2 + r1))) := upd_same
    generalize upd H6 q2 (.lst ((vs.drop r2).take (2 + r1))) = H7 at s7 hp7 hq7
    refine ⟨q2, _, rfl, .inl ⟨SqL.of hq7, fun b hb => ?_⟩⟩
    have hp8 : PoolAt (upd H7 b (.tup ((vs.drop r2).take (2 + r1)))) p := pk hp7 hb
    have s8 := same_new (o := .tup ((vs.drop r2).take (2 + r1))) s7 hb
    have hb8 : (upd H7 b (.tup ((vs.drop r2).take (2 + r1)))) b = some (.tup ((vs.drop r2).take (2 + r1))) := upd_same
    generalize upd H7 b (.tup ((vs.drop r2).take (2 + r1))) = H8 at s8 hp8 hb8
    -- the pair
    refine ⟨(by show 2 ≤ sizeLine; decide), fun c hc => ?_⟩
    have hp9 : PoolAt (upd H8 c (.tup [.str kd, .ref b])) p := pk hp8 hc
    have s9 := same_new (o := .tup [.str kd, .ref b]) s8 hc
    have hc9 : (upd H8 c (.tup [.str kd, .ref b])) c = some (.tup [.str kd, .ref b]) := upd_same
    have hb9 : (upd H8 c (.tup [.str kd, .ref b])) b = some (.tup ((vs.drop r2).take (2 + r1))) := by rw [upd_ne (ne_of_none hb8 hc)]; exact hb8
    generalize upd H8 c (.tup [.str kd, .ref b]) = H9 at s9 hp9 hc9 hb9
    refine ⟨(by show 1 ≤ sizeLine; decide), fun d hd => ?_⟩
    have hpA : PoolAt (upd H9 d (.lst [.ref c])) p := pk hp9 hd
    have sA := same_new (o := .lst [.ref c]) s9 hd
    have hdA : (upd H9 d (.lst [.ref c])) d = some (.lst [.ref c]) := upd_same
    have hcA : (upd H9 d (.lst [.ref c])) c = some (.tup [.str kd, .ref b]) := by rw [upd_ne (ne_of_none hc9 hd)]; exact hc9
    have hbA : (upd H9 d (.lst [.ref c])) b = some (.tup ((vs.drop r2).take (2 + r1))) := by rw [upd_ne (ne_of_none hb9 hd)]; exact hb9
    generalize upd H9 d (.lst [.ref c]) = HA at sA hpA hdA hcA hbA
    -- left[:at] + [..]
    refine ⟨q1, d, _, _, rfl, rfl, sA _ _ hq6, hdA, Nat.le_of_lt (small1000 (by rw [List.length_take]; simp only [List.length_cons, List.length_nil]; omega)), fun e he => ?_⟩
    have hpB : PoolAt (upd HA e (.lst (vs.take r2 ++ [.ref c]))) p := pk hpA he
    have sB := same_new (o := .lst (vs.take r2 ++ [.ref c])) sA he
    have sBA := same_upd (o := .lst (vs.take r2 ++ [.ref c])) he
    have heB : (upd HA e (.lst (vs.take r2 ++ [.ref c]))) e = some (.lst (vs.take r2 ++ [.ref c])) := upd_same
    generalize upd HA e (.lst (vs.take r2 ++ [.ref c])) = HB at sB hpB heB sBA
    -- left[at + many:]
    refine ⟨_, rfl, _, rfl, _, rfl, _, _, rfl, rfl, _, rfl, a, _, rfl, SqL.of (sB _ _ ha6), fun g hg => ?_⟩
    rw [ec2]
    have hpC : PoolAt (upd HB g (.lst (vs.drop (r2 + (2 + r1))))) p := pk hpB hg
    have sCB := same_upd (o := .lst (vs.drop (r2 + (2 + r1)))) hg
    have hgC : (upd HB g (.lst (vs.drop (r2 + (2 + r1))))) g = some (.lst (vs.drop (r2 + (2 + r1)))) := upd_same
    generalize upd HB g (.lst (vs.drop (r2 + (2 + r1)))) = HC at hpC sCB hgC
    refine ⟨e, g, _, _, rfl, rfl, sCB _ _ heB, hgC, Nat.le_of_lt (small1000 (by simp only [List.length_append, List.length_take, List.length_drop, List.length_cons, List.length_nil]; omega)), fun z' hz => ?_⟩
    have sD := same_upd (o := .lst (vs.take r2 ++ [.ref c] ++ vs.drop (r2 + (2 + r1)))) hz
    have all6 : Same H6 (upd HC z' (.lst (vs.take r2 ++ [.ref c] ++ vs.drop (r2 + (2 + r1))))) := sB.trans (sCB.trans sD)
    have tl := gather_len (k := kd) (ts := ts) (a := r2) (m := 2 + r1) (by omega)
    refine ⟨(gather ts kd r2 (2 + r1)).length, by omega, z', _, gather ts kd r2 (2 + r1), _, _, rfl, pne hpC hz, upd_same, ?_, gather_ok hok hk (by omega) (by omega), by rw [gather_lvs]; exact hpm, by omega, rfl, pk hpC hz, so6.trans (Same.but p all6)⟩
    have hatD := Ats.keep (same_tup all6) _ _ hat6
    unfold gather
    refine Ats.app (Ats.app (Ats.take r2 hatD) (Ats.one ?_)) (Ats.drop _ hatD)
    simp only [At]
    have t1 := same_tup (sBA.trans (sCB.trans sD))
    exact ⟨c, b, _, rfl, t1 _ _ hcA, t1 _ _ hbA, Ats.take _ (Ats.drop _ hatD)⟩
  · have hle : ¬ (1 : Int) < (vs.length : Int) := of_decide_eq_false hgt
    obtain ⟨t, rfl⟩ : ∃ t, ts = [t] := by
      match ts, hts, hvl with
      | [t], _, _ => exact ⟨t, rfl⟩
      | _ :: _ :: _, _, h => simp only [List.length_cons] at h; omega
    simp only [Ats] at hat
    obtain ⟨v, ws, rfl, hv, rfl⟩ := hat
    simp only [lvs, List.append_nil] at hpm
    simp only [okTs, Bool.and_true] at hok
    exact ⟨_, rfl, a, _, 0, v, rfl, rfl, SqL.of ha, rfl, k v t H2 hv (plan_iff.mpr ⟨hok, hpm.nodup_iff.mpr hnd, by rw [hpm.length_eq]; exact h8⟩) hp2 sb2⟩
end
end FM
namespace FM
open PySem PySem.Spec PyProof.Rows L2
/-! ### a tree as data -/
mutual
def toD : T → PyData
  | .leaf s => .str s
  | .node k ps => .tuple [.str k, .tuple (toDs ps)]
def toDs : List T → List PyData
  | [] => []
  | t :: r => toD t :: toDs r
end
def toDo : Option T → PyData
  | none => .none
  | some t => toD t
mutual
theorem toD_dp {K : PySem.W.Frag} {H : Hp} : ∀ (t : T) (v : V), At H v t → Dp K H v (toD t)
  | .leaf s, v, h => by simp only [At] at h; subst h; exact .str s
  | .node k ps, v, h => by
    simp only [At] at h
    obtain ⟨a, b, vs, rfl, ha, hb, hp⟩ := h
    exact .tup (SqT.of ha) (.cons (.str k) (.cons (.tup (SqT.of hb) (toDs_dp ps vs hp)) .nil))
theorem toDs_dp {K : PySem.W.Frag} {H : Hp} : ∀ (ps : List T) (vs : List V), Ats H vs ps → DpAll K H vs (toDs ps)
  | [], vs, h => by simp only [Ats] at h; subst h; exact .nil
  | t :: r, vs, h => by
    simp only [Ats] at h
    obtain ⟨v, ws, rfl, h1, h2⟩ := h
    exact .cons (toD_dp t v h1) (toDs_dp r ws h2)
end
mutual
theorem toD_depth : ∀ t : T, (toD t).depth ≤ 2 * dp t
  | .leaf s => by simp [toD, PyData.depth]
  | .node k ps => by
    have := toDs_depth ps
    simp only [toD, PyData.depth, PyData.depthAll, dp]
    omega
theorem toDs_depth : ∀ ps : List T, PyData.depthAll (toDs ps) ≤ 2 * dps ps
  | [] => by simp [toDs, PyData.depthAll]
  | t :: r => by
    have := toD_depth t
    have := toDs_depth r
    simp only [toDs, PyData.depthAll, dps]
    omega
end
mutual
theorem toD_show : ∀ t : T, (toD t).showable = true
  | .leaf s => rfl
  | .node k ps => by simp only [toD, PyData.showable, PyData.showableAll, toDs_show ps, Bool.and_self]
theorem toDs_show : ∀ ps : List T, PyData.showableAll (toDs ps) = true
  | [] => rfl
  | t :: r => by simp only [toDs, PyData.showableAll, toD_show t, toDs_show r, Bool.and_self]
end
mutual
theorem toD_nod : ∀ t : T, (toD t).hasDict = false
  | .leaf s => rfl
  | .node k ps => by simp only [toD, PyData.hasDict, PyData.hasDictAll, toDs_nod ps, Bool.or_self]
theorem toDs_nod : ∀ ps : List T, PyData.hasDictAll (toDs ps) = false
  | [] => rfl
  | t :: r => by simp only [toDs, PyData.hasDictAll, toD_nod t, toDs_nod r, Bool.or_self]
end
theorem line_small {l : List Nat} (h : l.all letter = true) : ∀ c ∈ l, c ≤ 122 := fun c hc => by
  have := List.all_eq_true.mp h c hc
  unfold letter at this
  simp only [Bool.and_eq_true, decide_eq_true_eq] at this
  exact this.2
theorem strOk_line {s : Str} (h : (cs s).all letter = true) : PyData.strOk s = true := by
  unfold PyData.strOk
  rw [← Array.all_toList, List.all_eq_true]
  intro c hc
  have := line_small h c hc
  exact decide_eq_true (by omega)
theorem line_letters {l : List Nat} (h : isLine l = true) : l.all letter = true ∧ l.length ≤ 6 := by
  unfold isLine at h
  simp only [Bool.and_eq_true, decide_eq_true_eq] at h
  exact ⟨h.1, h.2.2⟩
mutual
theorem toD_lay : ∀ t : T, okT t = true → (toD t).canLay0 = true
  | .leaf s, h => by
    simp only [okT] at h
    simp only [toD, PyData.canLay0]
    exact strOk_line (line_letters h).1
  | .node k ps, h => by
    simp only [okT, Bool.and_eq_true] at h
    simp only [toD, PyData.canLay0, PyData.canLayAll0, toDs_lay ps h.2.2, strOk_line (kind_letters h.1).1, Bool.and_self]
theorem toDs_lay : ∀ ps : List T, okTs ps = true → PyData.canLayAll0 (toDs ps) = true
  | [], _ => rfl
  | t :: r, h => by
    simp only [okTs, Bool.and_eq_true] at h
    simp only [toDs, PyData.canLayAll0, toD_lay t h.1, toDs_lay r h.2, Bool.and_self]
end
theorem toD_shaped {t : T} (h : plan t = true) : SeqAt.shaped (toD t) = true := by
  unfold SeqAt.shaped
  have := toD_depth t
  have := plan_dp h
  rw [toD_lay t (plan_iff.mp h).1, decide_eq_true (by omega)]
  rfl
mutual
theorem toD_eqv : ∀ t u : T, PyData.eqv (toD t) (toD u) = true ↔ t = u
  | .leaf s, .leaf s' => by simp [toD, PyData.eqv]
  | .leaf s, .node k ps => by simp [toD, PyData.eqv]
  | .node k ps, .leaf s => by simp [toD, PyData.eqv]
  | .node k ps, .node k' ps' => by
    have := toDs_eqv ps ps'
    simp only [toD, PyData.eqv, PyData.eqvAll, Bool.and_true, Bool.and_eq_true, beq_iff_eq, this]
    constructor
    · rintro ⟨rfl, rfl⟩; rfl
    · intro h; injection h with h1 h2; exact ⟨h1, h2⟩
theorem toDs_eqv : ∀ ps qs : List T, PyData.eqvAll (toDs ps) (toDs qs) = true ↔ ps = qs
  | [], [] => by simp [toDs, PyData.eqvAll]
  | [], _ :: _ => by simp [toDs, PyData.eqvAll]
  | _ :: _, [] => by simp [toDs, PyData.eqvAll]
  | t :: r, u :: q => by
    have h1 := toD_eqv t u
    have h2 := toDs_eqv r q
    simp only [toDs, PyData.eqvAll, Bool.and_eq_true, h1, h2, List.cons.injEq]
end
theorem repr_line {s : Str} (h : (cs s).all letter = true) : (reprText s).length ≤ 10 * s.length + 2 := StrLaws.reprText_len s fun c hc => by
  have := line_small h c hc
  omega
theorem tupleText_le (ts : List Str) : (tupleText ts).length ≤ piled ts + 3 := by
  unfold tupleText
  rw [strLen_append, strLen_append]
  have e1 : ((("(" : String) : Str)).length = 1 := rfl
  have e3 : (((if ts.length == 1 then ",)" else ")" : String) : Str)).length ≤ 2 := by split <;> decide
  have e2 : (Str.join ", " ts).length ≤ piled ts := by
    cases ts with
    | nil => decide +kernel
    | cons x r => have := join_length_add (x :: r) (by simp); omega
  rw [e1]
  omega
mutual
theorem toD_len : ∀ t : T, okT t = true → (toD t).shown.length + 100 ≤ 200 * (lv t).length
  | .leaf s, h => by
    simp only [okT] at h
    have h1 := line_letters h
    have := repr_line h1.1
    have e : (cs s).length = s.length := cs_len s
    simp only [toD, PyData.shown, lv, List.length_cons, List.length_nil]
    omega
  | .node k ps, h => by
    simp only [okT, Bool.and_eq_true, decide_eq_true_eq] at h
    have h1 := kind_letters h.1
    have h2 := repr_line h1.1
    have e : (cs k).length = k.length := cs_len k
    have h3 := toDs_len ps h.2.2
    have h4 := tupleText_le (PyData.shownAll (toDs ps))
    have h5 := tupleText_le [reprText k, tupleText (PyData.shownAll (toDs ps))]
    simp only [piled_cons] at h5
    have h6 : piled [] = 0 := rfl
    simp only [toD, PyData.shown, PyData.shownAll, lv]
    have := h.2.1
    omega
theorem toDs_len : ∀ ps : List T, okTs ps = true → piled (PyData.shownAll (toDs ps)) + 98 * ps.length ≤ 200 * (lvs ps).length
  | [], _ => by simp [toDs, PyData.shownAll, lvs, piled]
  | t :: r, h => by
    simp only [okTs, Bool.and_eq_true] at h
    have h1 := toD_len t h.1
    have h2 := toDs_len r h.2
    simp only [toDs, PyData.shownAll, piled_cons, lvs, List.length_append, List.length_cons]
    omega
end
theorem plan_shown {t : T} (h : plan t = true) : (toD t).shown.length ≤ sizeLine := by
  have := toD_len t (plan_iff.mp h).1
  have := (plan_iff.mp h).2.2
  have e : 1600 ≤ sizeLine := by decide
  omega
/-! ### repr of None, of a text, of a tuple -/
def rRepr (K : PySem.W.Frag) : List V → Hp → VK → Prop := fun xs H Q => ∃ x d, xs = [x] ∧ Dp K H x d ∧ d.showable = true ∧ d.hasDict = false ∧ d.depth ≤ 60 ∧ d.shown.length ≤ sizeLine ∧ (∀ z, d ≠ .list z) ∧ (∀ z, d ≠ .bool z) ∧ (∀ z, d ≠ .int z) ∧ Q (.str d.shown) H
theorem call_repr {X : Cx} (hg : X.A.guards = some []) (hu : X.A.units + 64 < cLine) : CallR X (.builtin "repr") (rRepr X.K) := by
  intro pins s σ H xs us Q I r h
  obtain ⟨x, d, rfl, hd, hs, hn, hdep, hlen, _, hb, hi, q⟩ := h
  obtain ⟨u, rfl, ru⟩ := vals1 r
  obtain ⟨as, rd⟩ := Dp.reads I d x u hd ru
  cases hd with
  | non =>
    cases ru
    exact PySem.P.repr_of_none ⟨.str "None", H, I.tok _, ⟨_, rfl⟩, q⟩
  | str x =>
    obtain ⟨t, rfl⟩ := ru
    exact PySem.P.repr_of_str ⟨.str (reprText x), H, I.tok _, ⟨_, rfl⟩, q⟩ hlen
  | bl z => exact absurd rfl (hb z)
  | int z => exact absurd rfl (hi z)
  | lst h1 h2 =>
    cases ru
    exact repr_of_reads' rd hs (PyData.noDict_hsm hn) hg (by omega) (fun _ _ e => e) (fun h' u tk hk => ⟨.str _, H, I.kept hk, ⟨_, rfl⟩, q⟩) hlen
  | tup h1 h2 =>
    cases ru
    exact repr_of_reads' rd hs (PyData.noDict_hsm hn) hg (by omega) (fun _ _ e => e) (fun h' u tk hk => ⟨.str _, H, I.kept hk, ⟨_, rfl⟩, q⟩) hlen
end FM
namespace FM
open PySem PySem.Spec PyProof.Rows L2
/-! ### a def that may show a tuple: its promise, where nothing is guarded -/
abbrev NoGuard (A : Around) : Prop := A.guards = some []
section
variable (P : Program) (w : World) (K : PySem.W.Frag) (mg : Str → Option Value) (base : Heap)
structure OkG (k : Nat) (f : Addr) (fd : FuncData) (ps : List Str) (sp : Sp) : Prop where
  arity : ∀ {vs H Q E}, sp vs H Q E → vs.length = ps.length
  goes : ∀ {A : Around} {outer s H args us vs Q}, NoGuard A → Room k A → Env0 P w K mg base A outer s H → BindsTo s fd args (ps.zip us) → Vals vs us → sp vs H Q E0 →
    codeAny (model P w) A (.call (.ref f) args) (fun r s' => ∃ u, r = .ok (.ret u) ∧ CE outer P w H s Q u s') s
end
section
variable {P : Program} {w : World} {K : PySem.W.Frag} {mg : Str → Option Value} {base : Heap} {k : Nat} {f : Addr} {fd : FuncData} {ps : List Str} {sp : Sp}
theorem okG {x qual : Str} {st : Stmt} {N : List Str} (F : Fun K x qual st f fd) (S : FnScope N ps (defScope st)) (arity : ∀ {vs H Q E}, sp vs H Q E → vs.length = ps.length)
    (reading : ∀ cdv A outer s H vs Q, NoGuard (A.deeper (envOfC qual (defScope st) s.heap.objs.size f cdv)) → Room k (A.deeper (envOfC qual (defScope st) s.heap.objs.size f cdv)) → sp vs H Q E0 →
      ∃ t, PSs (cxOf CX0 P w K mg base N qual (defScope st) f cdv A outer s H E0).nox (defBody st) t ∧ t { nx := fun _ H' => Q .non H', rt := Q } (start N vs) H) :
    OkG P w K mg base (k + 1) f fd ps sp := by
  obtain ⟨oc, od, kV, doc, pm, an, cdv, ct, osl, rfl, look, code⟩ := F.ex
  refine ⟨arity, ?_⟩
  intro A outer s H args us vs Q guard room entry bound rel want
  have old : ∀ b o, base.get? b = some o → s.heap.get? b = some o := fun b o e => (entry.bs b o e).1
  have here := entry.mod.kin.keeps old
  obtain ⟨t, reads, says⟩ := reading cdv A outer s H vs Q guard (room.deeper _) want
  have ends : codeAny (model P w) A (.call (.ref f) args) (CR CX0 outer P w H s Q E0) s := by
    refine codeAny_call_function room.depth (here _ _ look) rfl S.co S.gen rfl (PySem.W.codeRec_of here code) (bound _ _ _ _ (wpAny_newFunctionEnv_cells S.kind ?kinds ?body))
    case kinds =>
      rintro ⟨y, z⟩ hy
      exact (S.par y (List.of_mem_zip hy).1).imp id fun q => ⟨q, PySem.W.cellsFrom_some _ _ _ (.inl q)⟩
    case body =>
      rintro _ rfl s1 made
      have I := inv_start (CX := CX0) (E := E0) S room.hd entry (arity want) rel made
      refine ⟨(entry.mod.nolimit.keeps old).keeps made.toInCall.keep, codeAny_func (wpAny_mono (reads.nox.run [] s1 (start N vs) H _ I says) (fun fl s2 h => ?_) fun _ _ => id)⟩
      match fl, h with
      | .next, ⟨_, H2, J, q⟩ => exact ⟨.non, H2, J.os, J.bare, J.base, J.hok, rfl, q⟩
      | .ret u, ⟨v, _, H2, J, r, q⟩ => exact ⟨v, H2, J.os, J.bare, J.base, J.hok, r, q⟩
      | .brk, ⟨_, _, _, no⟩ => exact no.elim
      | .cont, ⟨_, _, _, no⟩ => exact no.elim
  refine codeAny_mono ends fun r s2 h => ?_
  match r, h with
  | .ok (.ret u), h => exact ⟨u, rfl, h⟩
  | .ok .next, no => exact no.elim
  | .ok .brk, no => exact no.elim
  | .ok .cont, no => exact no.elim
  | .error _, no => exact no.elim
end
section
variable {X : Cx} {k : Nat} {f : Addr} {fd : FuncData} {ps : List Str} {sp : Sp} {x : Str} {p pos : Pos} {e : Expr} {es : List Expr} {t : TA}
/-- the call of such a def -/
theorem pe_callG (G : OkG X.prog X.w X.K X.mg X.base k f fd ps sp) (guard : NoGuard X.A) (room : Room k X.A) (hg : Gl X x) (hm : X.mg x = some (.ref f)) (hk : PySem.W.keepIn X.K (.ref f) = true) (hb : Binds X.K fd ps []) (ha : PA X (e :: es) t)
    (hdb : (x == ("__debug__" : Str)) = false := by decide) (he : starEach (e :: es) X.env = (false, eval e X.env) :: starEach es X.env := by rfl) (hpl : (backTo pos (starEach es X.env)).any (·.1) = false := by rfl) :
    PE X (.Call (.Name x p) (e :: es) [] pos) (tCall sp [] E0 t) := by
  constructor
  intro pins s σ H Q I h
  refine wpAny_Call_Name_kw (ld_glob I hg hm (PySem.W.callWith_K (h₀ := X.base) I.ok.mod.kin hk (thn (ha.run pos pins s σ H _ I h) ?_) he hpl) hdb)
  rintro us s1 ⟨vs, H1, I1, rel, want⟩
  rw [List.append_nil] at want
  have bound := hb s1 us I1.kIn (by rw [List.append_nil, ← rel.length]; exact G.arity want)
  rw [List.append_nil] at bound
  refine ⟨I1.kIn, wpAny_call (codeAny_mono (G.goes guard room I1.env0 bound rel want) ?_)⟩
  rintro _ s2 ⟨u, rfl, done⟩
  exact I1.after done
end
/-! ### the law's head: the abstract heap holds the script alone, and that only where it is no object of the module -/
section
variable {P : Program} {w : World} {K : PySem.W.Frag} {mg mb : Str → Option Value} {a : Addr} {vs : List Value} {ns : List Int} {s : Shared}
abbrev scriptO (vs : List Value) : Obj := { cls := .type "list", data := .seq vs.toArray }
def scriptH (K : PySem.W.Frag) (a : Addr) (vs : List Value) (ns : List Int) : Hp := fun b => if b = a ∧ K.lookup a = none then some (.frz (scriptO vs) (.lst (ns.map V.int))) else none
theorem script_is {b : Addr} {u : HO} (h : scriptH K a vs ns b = some u) : b = a ∧ K.lookup a = none ∧ u = .frz (scriptO vs) (.lst (ns.map V.int)) := by
  unfold scriptH at h
  split at h
  · rename_i q
    exact ⟨q.1, q.2, (Option.some.inj h).symm⟩
  · cases h
theorem script_free {b : Addr} (h : b = a → K.lookup a = none → False) : scriptH K a vs ns b = none := if_neg fun q => h q.1 q.2
theorem script_only : Only (scriptH K a vs ns) := fun b => by
  cases e : scriptH K a vs ns b with
  | none => exact .inl rfl
  | some u => rw [(script_is e).2.2]; exact .inr ⟨_, _, rfl⟩
theorem script_seq (KX : K.In s.heap) (at_ : s.heap.get? a = some (scriptO vs)) (rv : Vals (ns.map V.int) vs) (fits : ns.length ≤ sizeLine) : SqL K (scriptH K a vs ns) a (ns.map V.int) := by
  cases e : K.lookup a with
  | none => exact .inl (.inr ⟨_, if_pos ⟨rfl, e⟩⟩)
  | some o =>
    have q : o = scriptO vs := Option.some.inj ((KX a o e).symm.trans at_)
    subst q
    have len := rv.length
    rw [List.length_map] at len
    exact .inr ⟨_, vs.toArray, _, e, rfl, rfl, rfl, by rw [List.size_toArray, ← len]; exact fits, rv⟩
theorem script_hok (at_ : s.heap.get? a = some (scriptO vs)) (rv : Vals (ns.map V.int) vs) (fits : ns.length ≤ sizeLine) : HOk P w (scriptH K a vs ns) s.heap := fun b u e => by
  obtain ⟨rfl, -, rfl⟩ := script_is e
  exact ⟨at_, by rw [List.length_map]; exact fits, vs, _, rv, at_⟩
theorem script_ns {b : Addr} {m : Str → Option Value} (at_ : s.heap.get? a = some (scriptO vs)) (h : s.heap.Ns b m) : (hidT s.heap (scriptH K a vs ns)).Ns b m := by
  obtain ⟨o, es, ep, e, d, r⟩ := h
  refine ⟨o, es, ep, hidT_get e (script_free fun z _ => ?_), d, r⟩
  subst z
  rw [at_] at e
  cases e
  have no : Data.seq vs.toArray _ = Data.dict es ep := d
  cases no
/-- the law's call, from the promise of its def -/
theorem law_goes {k : Nat} {fa : Addr} {fd : FuncData} {x : Str} {sp : Sp} (KX : K.In s.heap) (glob : s.heap.Ns mainGlobals mg) (blt : s.heap.Ns builtinsNs mb) (boot : ∀ x : Str, x ≠ "__name__" → mb x = bootBuiltins x) (lim : s.heap.NoLimit) (gens : s.gens = #[])
    (at_ : s.heap.get? a = some (scriptO vs)) (whole : IntsAre vs ns) (fits : ns.length ≤ sizeLine) (room : Room k callerA)
    (G : ∀ base : Heap, K.In base → base.Ns mainGlobals mg → OkG P w K mg base k fa fd [x] sp) (bind : ∀ (s : Shared) (u : Value), BindsTo s fd ⟨[u], []⟩ [(x, u)])
    (want : ∀ H : Hp, Only H → SqL K H a (ns.map V.int) → sp [.ref a] H (fun v _ => v = .bl true) E0) :
    codeAny (model P w) callerA (.call (.ref fa) ⟨[.ref a], []⟩) (fun r s' => r = .ok (.ret (.bool true)) ∧ OldK s.heap s'.heap ∧ s'.os = s.os ∧ AllBare s'.gens) s := by
  have rv := vals_ints whole
  have seq := script_seq KX at_ rv fits
  have inBase : K.In (hidT s.heap (scriptH K a vs ns)) := fun b o e => hidT_get (KX b o e) (script_free fun z no => by subst z; rw [no] at e; cases e)
  obtain ⟨lm, lim1, lim2⟩ := lim
  have entry : Env0 P w K mg (hidT s.heap (scriptH K a vs ns)) callerA [] s (scriptH K a vs ns) :=
    { frames := rfl, mod := ⟨inBase, script_ns at_ glob, ⟨mb, script_ns at_ blt, boot⟩, ⟨lm, script_ns at_ lim1, lim2⟩⟩, bs := fun b o e => of_hidT e, bsz := Nat.le_of_eq (hidT_size _ _), funs := trivial
      frf := fun b hb => by cases (show b ∈ ([] : List Addr) from hb)
      hok := script_hok at_ rv fits, bare := .of_eq gens }
  refine codeAny_mono ((G _ inBase (script_ns at_ glob)).goes rfl room entry (us := [.ref a]) (vs := [.ref a]) (bind s (.ref a)) (.cons rfl .nil) (want _ script_only seq)) ?_
  rintro _ s2 ⟨u, rfl, v, H2, os, bare, un, hok2, rel, isTrue⟩
  have isTrue : v = .bl true := isTrue
  subst isTrue
  have rel : u = Value.bool true := rel
  subst rel
  refine ⟨rfl, OldK.of_keep fun b o e => ?_, os, bare⟩
  cases q : scriptH K a vs ns b with
  | none => exact un.keep b o e q (fun z => by cases (show b ∈ ([] : List Addr) from z)) (fun z => by cases z)
  | some u =>
    obtain ⟨rfl, -, rfl⟩ := script_is q
    rw [← e, at_]
    exact (hok2 _ _ (un.frzs _ _ _ q)).1
end
end FM
namespace FM
open PySem L2
theorem len_to {x : Str} {c : Nat} (h : c ≤ x.length) : (cutS x none (some (c : Int))).length = c := by
  rw [cut_to h, ms_len, List.length_take, cs_len]; omega
theorem len_from {x : Str} {c : Nat} (h : c ≤ x.length) : (cutS x (some (c : Int)) none).length = x.length - c := by
  rw [cut_from h, ms_len, List.length_drop, cs_len]
theorem len_to1 {x : Str} {c : Nat} (h : c + 1 ≤ x.length) : (cutS x none (some ((c : Int) + 1))).length = c + 1 := by
  rw [show (c : Int) + 1 = ((c + 1 : Nat) : Int) by omega]; exact len_to h
theorem len_from1 {x : Str} {c : Nat} (h : c + 1 ≤ x.length) : (cutS x (some ((c : Int) + 1)) none).length = x.length - (c + 1) := by
  rw [show (c : Int) + 1 = ((c + 1 : Nat) : Int) by omega]; exact len_from h
theorem repr_at {K : PySem.W.Frag} {H : Hp} {v : V} {o : Option T} (h : OptAt H v o) (hp : ∀ t, o = some t → plan t = true) :
    Dp K H v (toDo o) ∧ (toDo o).showable = true ∧ (toDo o).hasDict = false ∧ (toDo o).depth ≤ 60 ∧ (toDo o).shown.length ≤ sizeLine ∧ (∀ z, toDo o ≠ .list z) ∧ (∀ z, toDo o ≠ .bool z) ∧ (∀ z, toDo o ≠ .int z) := by
  cases o with
  | none =>
    have e : v = .non := h
    subst e
    exact ⟨.non, rfl, rfl, by decide, by decide +kernel, fun _ => nofun, fun _ => nofun, fun _ => nofun⟩
  | some t =>
    have pt := hp t rfl
    refine ⟨toD_dp t v h, toD_show t, toD_nod t, ?_, plan_shown pt, ?_, ?_, ?_⟩
    · have := toD_depth t
      have := plan_dp pt
      show (toD t).depth ≤ 60
      omega
    · cases t <;> exact fun _ => nofun
    · cases t <;> exact fun _ => nofun
    · cases t <;> exact fun _ => nofun
section
variable {P : Program} {w : World} {K : PySem.W.Frag} {mg : Str → Option Value} {base : Heap}
/-! ### _law_right: one plan, all its neighbours by one sign -/
def spRight : Sp := fun vs H Q _ => ∃ p : Addr, vs = [.ref p] ∧ PoolAt H p ∧ ∀ H', SameBut p H H' → Q (.bl true) H'
abbrev nRight : List Str := ["_law_pool_here", "_law_tree_here", "_law_text", "_law_texts", "_law_signs", "_law_k", "_law_sign", "_law_bent", "_law_told_here"]
theorem scRight : FnScope nRight ["_law_pool_here"] (defScope sRight) := ⟨rfl, rfl, rfl, by decide +kernel, rfl, by decide +kernel, by decide +kernel⟩
theorem bs_repr : bootBuiltins "repr" = some (.builtin "repr") := by decide +kernel
theorem ok_right {f fD fM fC fT fW fR fO fF : Addr} {fd fdD fdM fdC fdT fdW fdR fdO fdF : FuncData} (F : Fun K "_law_right" "_law_right" sRight f fd) (Z : Names0 mg)
    (GD : FnOk P w K mg base CX0 1 fD fdD ["_law_pool_here", "_law_upto"] spDraw) (bD : Binds K fdD ["_law_pool_here", "_law_upto"] []) (kD : PySem.W.keepIn K (.ref fD) = true) (mD : mg "_law_draw" = some (.ref fD))
    (GM : FnOk P w K mg base CX0 2 fM fdM ["_law_pool_here", "_law_things"] (spMixed K)) (bM : Binds K fdM ["_law_pool_here", "_law_things"] []) (kM : PySem.W.keepIn K (.ref fM) = true) (mM : mg "_law_mixed" = some (.ref fM))
    (GC : FnOk P w K mg base CX0 2 fC fdC ["_law_pool_here", "_law_many"] spCalls) (bC : Binds K fdC ["_law_pool_here", "_law_many"] []) (kC : PySem.W.keepIn K (.ref fC) = true) (mC : mg "_law_calls" = some (.ref fC))
    (GT : FnOk P w K mg base CX0 3 fT fdT ["_law_pool_here", "_law_calls_here"] spTree) (bT : Binds K fdT ["_law_pool_here", "_law_calls_here"] []) (kT : PySem.W.keepIn K (.ref fT) = true) (mT : mg "_law_tree" = some (.ref fT))
    (GW : FnOk P w K mg base CX0 10 fW fdW ["_law_tree_here"] (spForm 9)) (bW : Binds K fdW ["_law_tree_here"] []) (kW : PySem.W.keepIn K (.ref fW) = true) (mW : mg "_law_written" = some (.ref fW))
    (GR : FnOk P w K mg base CX0 114 fR fdR ["_law_text"] spLRead) (bR : Binds K fdR ["_law_text"] []) (kR : PySem.W.keepIn K (.ref fR) = true) (mR : mg "_law_read" = some (.ref fR))
    (GO : FnOk P w K mg base CX0 13 fO fdO ["_law_text"] spTold) (bO : Binds K fdO ["_law_text"] []) (kO : PySem.W.keepIn K (.ref fO) = true) (mO : mg "_law_told" = some (.ref fO))
    (GF : FnOk P w K mg base CX0 13 fF fdF ["plan"] spFormat) (bF : Binds K fdF ["plan"] []) (kF : PySem.W.keepIn K (.ref fF) = true) (mF : mg "format_plan" = some (.ref fF)) :
    OkG P w K mg base 115 f fd ["_law_pool_here"] spRight := by
  refine okG F scRight (fun {vs H Q E} h => ?_) (fun cdv A outer s H vs Q hgd hr h => ?_)
  · obtain ⟨p, rfl, _⟩ := h; rfl
  obtain ⟨p, rfl, hp, k⟩ := h
  have nd := scRight.nd
  have hr1 := hr.mono (show 1 ≤ 114 by decide)
  have hr2 := hr.mono (show 2 ≤ 114 by decide)
  have hr3 := hr.mono (show 3 ≤ 114 by decide)
  have hr10 := hr.mono (show 10 ≤ 114 by decide)
  have hr13 := hr.mono (show 13 ≤ 114 by decide)
  refine ⟨_, pss_cons (ps_set (i := 1) nd rfl (Or.inl rfl) (pe_call GT hr3 (by rfl) mT kT bT .nil pass0 (pa_cons (pv 0) (pa_cons (pe_call GM hr2 (by rfl) mM kM bM .nil pass0 (pa_cons (pv 0) (pa_cons
        (pe_call GC hr2 (by rfl) mC kC bC .nil pass0 (pa_cons (pv 0) (pa_cons (pe_op op_add pe_int (pe_call GD hr1 (by rfl) mD kD bD .nil pass0 (pa_cons (pv 0) (pa_cons pe_int pa_nil)))) pa_nil))) pa_nil))) pa_nil))))
    (pss_cons (ps_par rfl nd (i := 2) (j := 3) rfl rfl (by decide) rfl rfl (pa_cons (pe_call GW hr10 (by rfl) mW kW bW .nil pass0 (pa_cons (pv 1) pa_nil)) (pa_cons (pe_lst pa_nil) pa_nil)) (by with_unfolding_all rfl))
    (pss_cons (ps_set (i := 4) nd rfl (Or.inl rfl) (pe_op op_add_str (pe_op op_add_str pe_str (pv 2)) pe_str))
    (pss_cons (ps_for PassesOwn.never rfl (pi_range1 (by rfl) Z.rng (pa_cons (pe_callB call_len (by rfl) Z.len PySem.boot_len (pa_cons (pv 2) pa_nil)) pa_nil)) (pg_name (i := 5) nd rfl (Or.inl rfl))
      (pss_cons (ps_set (i := 6) nd rfl (Or.inl rfl) (pe_ix ix_str (pv 4) (pe_call GD hr1 (by rfl) mD kD bD .nil pass0 (pa_cons (pv 0) (pa_cons (pe_callB call_len (by rfl) Z.len PySem.boot_len (pa_cons (pv 4) pa_nil)) pa_nil))) (fun _ _ => rfl)))
      (pss_one (ps_expr (pe_bm PySem.F.plainAttrs_list PySem.F.slot_list_extend PySem.F.type_list_extend mt_extend (pv 3) (pa_cons (pe_lst
        (pa_cons (pe_op op_add_str (pe_slice sl_str (pv 2) po_none (po_some (pv 5))) (pe_slice sl_str (pv 2) (po_some (pe_op op_add (pv 5) pe_int)) po_none))
        (pa_cons (pe_op op_add_str (pe_slice sl_str (pv 2) po_none (po_some (pe_op op_add (pv 5) pe_int))) (pe_slice sl_str (pv 2) (po_some (pv 5)) po_none))
        (pa_cons (pe_op op_add_str (pe_op op_add_str (pe_slice sl_str (pv 2) po_none (po_some (pv 5))) (pv 6)) (pe_slice sl_str (pv 2) (po_some (pe_op op_add (pv 5) pe_int)) po_none)) pa_nil)))) pa_nil))))))
    (pss_cons (ps_for PassesOwn.never rfl (pi_list (pv 3)) (pg_name (i := 7) nd rfl (Or.inl rfl))
      (pss_cons (ps_set (i := 8) nd rfl (Or.inl rfl) (pe_call GO hr13 (by rfl) mO kO bO .nil pass0 (pa_cons (pv 7) pa_nil)))
      (pss_cons (ps_if (pt_cmpR op_ne (pe_callB (call_repr hgd hr.units) (by rfl) Z.rpr bs_repr (pa_cons (pv 8) pa_nil)) (pe_callB (call_repr hgd hr.units) (by rfl) Z.rpr bs_repr (pa_cons (pe_call GR hr (by rfl) mR kR bR .nil pass0 (pa_cons (pv 7) pa_nil)) pa_nil)) (nomark _))
        (pss_one (ps_ret pe_bl)) pss_nil)
      (pss_cons (ps_if (PW.pt (pw_and (pt_cmp (pc_notN (pv 8))) (pw_and1 (pt_cmpR op_ne (pe_call GF hr13 (by rfl) mF kF bF .nil pass0 (pa_cons (pv 8) pa_nil)) (pv 7) (nomark _))))) (pss_one (ps_ret pe_bl)) pss_nil)
      (pss_one (ps_if (PW.pt (pw_and (pt_cmp (pc_notN (pv 8))) (pw_and1 (pt_cmpR op_ne (pe_cmpR (op_eqD hr.units) (pv 8) (pv 1) (nomark _)) (pe_cmpR op_eq (pv 7) (pv 2) (nomark _)) (nomark _))))) (pss_one (ps_ret pe_bl)) pss_nil))))))
    (pss_one (ps_ret (pe_cmpR (op_eqD hr.units) (pe_call GO hr13 (by rfl) mO kO bO .nil pass0 (pa_cons (pv 2) pa_nil)) (pv 1) (nomark _)))))))), ?_⟩
  have hsl : sizeLine = 16777216 := sizeLine_eq
  refine ⟨_, rfl, _, rfl, _, rfl, _, rfl, p, 8, rfl, hp, by decide, by decide, fun r H1 hr0 hr8 hp1 sb1 => ?_⟩
  obtain ⟨r, rfl⟩ : ∃ k : Nat, r = (k : Int) := ⟨r.toNat, by omega⟩
  refine ⟨_, _, rfl, rfl, p, 1 + r, congrArg (fun z => [V.ref p, V.int z]) (show (1 : Int) + (r : Int) = ((1 + r : Nat) : Int) by omega), hp1, by omega, by omega, fun l xs H2 hnd hxl hln hp2 sb2 hl hlp => ?_⟩
  refine ⟨p, l, xs, rfl, hp2, hl, hlp, by omega, fun m ys H3 hperm hp3 sb3 hm hmp => ?_⟩
  have hyl := hperm.length_eq
  refine ⟨p, m, ys, rfl, hp3, hm, hmp, hperm.nodup_iff.mpr hnd, by omega, by omega, fun s hs => hln s (hperm.mem_iff.mp hs), fun v t H4 hv hpl hp4 sb4 => ?_⟩
  have so4 := sb1.trans (sb2.trans (sb3.trans sb4))
  have hdp := plan_dp hpl
  have hwl := plan_len hpl
  refine ⟨_, rfl, v, t, rfl, hv, by omega, by omega, fun H5 s5 => ⟨(by show 0 ≤ sizeLine; decide), fun tx htx => ⟨_, _, rfl, ?_⟩⟩⟩
  generalize hx : (ms (wr t) : Str) = x
  have hxl : x.length = (wr t).length := by rw [← hx, ms_len]
  have hcx : cs x = wr t := by rw [← hx, cs_ms]
  have hp5 : PoolAt H5 p := hp4.keep fun o => s5 p o
  have htp : tx ≠ p := fun z => by obtain ⟨_, _, _, q, _⟩ := hp5; rw [← z, htx] at q; cases q
  have s6 := same_new (o := .lst []) s5 htx
  have hp6 : PoolAt (upd H5 tx (.lst [])) p := hp4.keep fun o => s6 p o
  have htx6 : (upd H5 tx (.lst [])) tx = some (.lst []) := upd_same
  generalize upd H5 tx (.lst []) = H6 at s6 hp6 htx6
  have so6 := so4.trans (Same.but p s6)
  have hv6 := At.keep (same_tup s6) t v hv
  -- the signs
  have e4 : ("(), " : Str).length = 4 := by decide +kernel
  have e27 : ("abcdefghijklmnopqrstuvwxyz0" : Str).length = 27 := by decide +kernel
  refine ⟨_, rfl, _, _, rfl, rfl, by rw [e4]; omega, _, _, rfl, rfl, by rw [strLen_append, e4, e27]; omega, ?_⟩
  have hsg : (("(), " : Str) ++ x ++ ("abcdefghijklmnopqrstuvwxyz0" : Str)).length = x.length + 31 := by rw [strLen_append, strLen_append, e4, e27]; omega
  generalize (("(), " : Str) ++ x ++ ("abcdefghijklmnopqrstuvwxyz0" : Str)) = sg at hsg
  refine ⟨_, rfl, _, x.length, rfl, ⟨(by omega : x.length ≤ sizeLine), rfl⟩, _, rfl, by omega, by omega, ?_⟩
  rw [Int.toNat_natCast]
  refine for_range (n := x.length) (fun i σ H' => ∃ (y5 y6 : Option V) (bs : List Str), σ = [some (.ref p), some v, some (.str x), some (.ref tx), some (.str sg), y5, y6, none, none] ∧ H' tx = some (.lst (bs.map V.str)) ∧ bs.length = 3 * i ∧ (∀ b ∈ bs, b.length ≤ 110) ∧ PoolAt H' p ∧ SameBut p H H' ∧ At H' v t) ?_ ?_ ?_
  · exact ⟨none, none, [], rfl, htx6, rfl, fun b hb => by simp at hb, hp6, so6, hv6⟩
  · rintro i σ H' hi ⟨y5, y6, bs, rfl, ht', hbl, hbs, hp', so', hv'⟩
    refine ⟨_, rfl, _, rfl, _, rfl, _, sg.length, rfl, ⟨(by omega : sg.length ≤ sizeLine), rfl⟩, p, _, rfl, hp', by omega, by omega, fun u H7 hu0 hu1 hp7 sb7 => ?_⟩
    obtain ⟨u, rfl⟩ : ∃ k : Nat, u = (k : Int) := ⟨u.toNat, by omega⟩
    have hul : u < (cs sg).length := by rw [cs_len]; omega
    refine ⟨sg, _, (cs sg)[u], rfl, rfl, by omega, atI_nat (List.getElem?_eq_getElem hul), ?_⟩
    generalize (cs sg)[u] = c
    rw [Int.zero_add]
    have so7 := so'.trans sb7
    have hv7 := At.keep (tupP hp' sb7) t v hv'
    have ht7 := sb7 tx _ htp ht'
    have hz : x.length ≤ sizeLine := by omega
    have l1 := len_to (x := x) (c := i) (by omega)
    have l2 := len_from (x := x) (c := i) (by omega)
    have l3 := len_to1 (x := x) (c := i) (by omega)
    have l4 := len_from1 (x := x) (c := i) (by omega)
    have one : (⟨#[c]⟩ : Str).length = 1 := rfl
    refine ⟨_, rfl, .inl ⟨rfl, _, SqL.of ht7⟩, _, rfl, _, rfl, _, rfl, x, rfl, hz, _, rfl, _, rfl, _, _, rfl, rfl, _, rfl, x, rfl, hz, _, _, rfl, rfl, by rw [l1, l4]; omega, ?_⟩
    refine ⟨_, rfl, _, rfl, _, _, rfl, rfl, _, rfl, x, rfl, hz, _, rfl, _, rfl, _, rfl, x, rfl, hz, _, _, rfl, rfl, by rw [l3, l2]; omega, ?_⟩
    refine ⟨_, rfl, _, rfl, _, rfl, x, rfl, hz, _, rfl, _, _, rfl, rfl, by rw [l1, one]; omega, _, rfl, _, rfl, _, _, rfl, rfl, _, rfl, x, rfl, hz, _, _, rfl, rfl, by rw [strLen_append, l1, one, l4]; omega, ?_⟩
    refine ⟨(by show 3 ≤ sizeLine; decide), fun q hq => ?_⟩
    have hqt : q ≠ tx := fun z => by rw [z, ht7] at hq; cases hq
    have hqp : q ≠ p := fun z => by obtain ⟨_, _, _, q', _⟩ := hp7; rw [← z, hq] at q'; cases q'
    refine ⟨tx, q, bs.map V.str, _, rfl, rfl, by rw [upd_ne (Ne.symm hqt)]; exact ht7, upd_same, by rw [List.length_map]; simp only [List.length_cons, List.length_nil]; omega, ?_⟩
    refine ⟨some (.int (i : Int)), some (.str ⟨#[c]⟩), bs ++ [cutS x none (some (i : Int)) ++ cutS x (some ((i : Int) + 1)) none, cutS x none (some ((i : Int) + 1)) ++ cutS x (some (i : Int)) none, cutS x none (some (i : Int)) ++ (⟨#[c]⟩ : Str) ++ cutS x (some ((i : Int) + 1)) none], rfl, ?_, ?_, ?_, ?_, ?_, ?_⟩
    · rw [upd_same, List.map_append]; rfl
    · rw [List.length_append, hbl]; simp only [List.length_cons, List.length_nil]; omega
    · intro b hb
      rcases List.mem_append.mp hb with hb | hb
      · exact hbs b hb
      · simp only [List.mem_cons, List.not_mem_nil, or_false] at hb
        rcases hb with rfl | rfl | rfl
        · rw [strLen_append, l1, l4]; omega
        · rw [strLen_append, l3, l2]; omega
        · rw [strLen_append, strLen_append, l1, one, l4]; omega
    · exact hp7.keep fun o e => by rw [upd_ne (Ne.symm htp), upd_ne (Ne.symm hqp)]; exact e
    · intro b o hb e
      have e1 := so7 b o hb e
      have : b ≠ tx := fun z => by
        have e0 := so4 b o hb e
        rw [z] at e0
        exact ne_of_none (s5 _ _ e0) htx rfl
      rw [upd_ne this, upd_ne (ne_of_none e1 hq)]
      exact e1
    · refine At.keep (fun b ys e => ?_) t v hv7
      have : b ≠ tx := fun z => by rw [z, ht7] at e; cases e
      rw [upd_ne this, upd_ne (ne_of_none e hq)]
      exact e
  rintro σ H7 ⟨y5, y6, bs, rfl, ht7, hbl, hbs, hp7, so7, hv7⟩
  refine ⟨_, rfl, tx, rfl, ⟨_, SqL.of ht7⟩, ?_⟩
  have hlx : (bs.map V.str).length = bs.length := List.length_map _
  refine for_list (K := K) (a := tx) (xs := bs.map V.str) (fun i σ H' => ∃ y7 y8 : Option V, σ = [some (.ref p), some v, some (.str x), some (.ref tx), some (.str sg), y5, y6, y7, y8] ∧ Same H7 H') ⟨none, none, rfl, Same.refl _⟩ (fun i σ H' _ ⟨_, _, _, s'⟩ => SqL.of (s' _ _ ht7)) ?_ ?_
  · rintro i z σ H8 hz ⟨y7, y8, rfl, s8⟩
    obtain ⟨b, hbm, rfl⟩ := List.mem_map.mp (List.mem_of_getElem? hz)
    have hb := hbs b hbm
    refine ⟨_, rfl, b, rfl, by omega, fun u H9 s9 hu => ?_⟩
    obtain ⟨q1, q2, q3, q4, q5, q6, q7, q8⟩ := repr_at (K := K) hu fun t' e => (parse_iff.mp e).1
    refine ⟨_, rfl, u, _, rfl, q1, q2, q3, q4, q5, q6, q7, q8, _, rfl, b, rfl, hb, fun u' HA sA hu' => ?_⟩
    obtain ⟨q1, q2, q3, q4, q5, q6, q7, q8⟩ := repr_at (K := K) hu' fun t' e => (lread_iff.mp e).1
    refine ⟨u', _, rfl, q1, q2, q3, q4, q5, q6, q7, q8, ?_⟩
    rw [readers_agree]
    refine ⟨rfl, _, rfl, ?_⟩
    rw [decide_eq_true rfl]
    refine iteF ?_
    have s9' := s8.trans (s9.trans sA)
    have huA : OptAt HA u (parse (cs b)) := by
      cases e : parse (cs b) with
      | none => rw [e] at hu; exact hu
      | some t' => rw [e] at hu; exact At.keep (same_tup sA) t' u hu
    cases hpo : parse (cs b) with
    | none =>
      rw [hpo] at huA
      have e : u = .non := huA
      subst e
      refine ⟨_, rfl, _, rfl, ?_⟩
      rw [decide_eq_true rfl]
      refine iteF (iteF ⟨_, rfl, _, rfl, ?_⟩)
      rw [decide_eq_true rfl]
      exact iteF (iteF ⟨_, _, rfl, s9'⟩)
    | some t' =>
      rw [hpo] at huA
      have hu' : At HA u t' := huA
      have hne : decide (u = V.non) = false := decide_eq_false fun e => by
        subst e
        cases t' with
        | leaf s => simp only [At] at hu'; cases hu'
        | node k ps => simp only [At] at hu'; obtain ⟨_, _, _, e, _⟩ := hu'; cases e
      obtain ⟨hp', hw'⟩ := parse_iff.mp hpo
      have hmb : (ms (wr t') : Str) = b := by rw [hw', ms_cs]
      refine ⟨_, rfl, _, rfl, ?_⟩
      rw [hne]
      refine iteT ⟨_, rfl, u, t', rfl, hu', hp', fun HB sB => ⟨_, rfl, rfl, _, rfl, ?_⟩⟩
      rw [hmb, decide_eq_true rfl]
      refine iteF ⟨_, rfl, _, rfl, ?_⟩
      rw [hne]
      have huB := At.keep (same_tup sB) t' u hu'
      have hvB := At.keep (same_tup (s9'.trans sB)) t v hv7
      refine iteT ⟨_, rfl, _, rfl, toD t', toD t, toD_dp t' u huB, toD_dp t v hvB, toD_shaped hp', toD_shaped hpl, _, rfl, _, rfl, rfl, rfl, _, rfl, ?_⟩
      have e : PyData.eqv (toD t') (toD t) = decide (V.str b = V.str x) := by
        by_cases q : t' = t
        · subst q
          rw [(toD_eqv t' t').mpr rfl, decide_eq_true]
          rw [← hmb, hx]
        · have h1 : PyData.eqv (toD t') (toD t) = false := by
            cases z : PyData.eqv (toD t') (toD t) with
            | false => rfl
            | true => exact absurd ((toD_eqv t' t).mp z) q
          rw [h1, decide_eq_false]
          intro z
          have z := V.str.inj z
          exact q (wr_inj hp' hpl (by rw [hw', z, hcx]))
      rw [e, decide_eq_true rfl]
      exact iteF ⟨_, _, rfl, s9'.trans sB⟩
  · rintro σ H8 ⟨y7, y8, rfl, s8⟩
    refine ⟨_, rfl, x, rfl, by omega, fun u H9 s9 hu => ?_⟩
    rw [hcx, parse_iff.mpr ⟨hpl, rfl⟩] at hu
    have hu' : At H9 u t := hu
    refine ⟨_, rfl, toD t, toD t, toD_dp t u hu', toD_dp t v (At.keep (same_tup (s8.trans s9)) t v hv7), toD_shaped hpl, toD_shaped hpl, ?_⟩
    rw [(toD_eqv t t).mpr rfl]
    exact k H9 (so7.trans (Same.but p (s8.trans s9)))
end
end FM
namespace FM
open PySem L2
section
variable {P : Program} {w : World} {K : PySem.W.Frag} {mg : Str → Option Value} {base : Heap}
/-! ### law -/
def spLaw (K : PySem.W.Frag) : Sp := fun vs H Q _ => ∃ (a : Addr) (ns : List Int), vs = [.ref a] ∧ SqL K H a (ns.map V.int) ∧ ns.length ≤ 63 ∧ ∀ H', Q (.bl true) H'
abbrev nLaw : List Str := ["_law_script", "_law_k"]
theorem scLaw : FnScope nLaw ["_law_script"] (defScope sLaw) := ⟨rfl, rfl, rfl, by decide +kernel, rfl, by decide +kernel, by decide +kernel⟩
theorem bs_max : bootBuiltins "max" = some (.builtin "max") := by decide +kernel
theorem ok_law {f fR fP fC : Addr} {fd fdR fdP fdC : FuncData} (F : Fun K "law" "law" sLaw f fd) (Z : Names0 mg)
    (GR : OkG P w K mg base 115 fR fdR ["_law_pool_here"] spRight) (bR : Binds K fdR ["_law_pool_here"] []) (kR : PySem.W.keepIn K (.ref fR) = true) (mR : mg "_law_right" = some (.ref fR))
    (GP : FnOk P w K mg base CX0 1 fP fdP ["_law_cell_here"] spPool) (bP : Binds K fdP ["_law_cell_here"] []) (kP : PySem.W.keepIn K (.ref fP) = true) (mP : mg "_law_pool" = some (.ref fP))
    (GC : FnOk P w K mg base CX0 1 fC fdC ["_law_script", "_law_k"] (spCell K)) (bC : Binds K fdC ["_law_script", "_law_k"] []) (kC : PySem.W.keepIn K (.ref fC) = true) (mC : mg "_law_cell" = some (.ref fC)) :
    OkG P w K mg base 116 f fd ["_law_script"] (spLaw K) := by
  refine okG F scLaw (fun {vs H Q E} h => ?_) (fun cdv A outer s H vs Q hgd hr h => ?_)
  · obtain ⟨a, ns, rfl, _⟩ := h; rfl
  obtain ⟨a, ns, rfl, hS, h63, k⟩ := h
  have nd := scLaw.nd
  have hr1 := hr.mono (show 1 ≤ 115 by decide)
  refine ⟨_, pss_one (ps_ret (pe_callB (cr_all rfl) (by rfl) Z.all (by decide +kernel) (pa_cons (pe_lc (own := [("_law_k", 1)]) (g := gName 1) (by rfl) nd
      (pi_range1 (by rfl) Z.rng (pa_cons (pe_callB (call_max2 (by rfl)) (by rfl) Z.max bs_max (pa_cons pe_int (pa_cons (pe_callB (call_min2 (by rfl)) (by rfl) Z.min bs_min (pa_cons (pe_callB call_len (by rfl) Z.len PySem.boot_len (pa_cons (pv 0) pa_nil)) (pa_cons pe_int pa_nil))) pa_nil))) pa_nil))
      (blkOk_by (N := nLaw) (sc := defScope sLaw) (by decide +kernel)) (fun _ _ _ _ _ => pg_name (i := 1) nd rfl (Or.inl rfl)) (fun _ _ _ _ _ => pts_nil)
      (fun _ _ _ _ _ => pe_callG GR hgd hr (by rfl) mR kR bR (pa_cons (pe_call GP hr1 (by rfl) mP kP bP .nil pass0 (pa_cons (pe_call GC hr1 (by rfl) mC kC bC .nil pass0 (pa_cons (pv 0) (pa_cons (pv 1) pa_nil))) pa_nil)) pa_nil))) pa_nil))), ?_⟩
  have el : (ns.map V.int).length = ns.length := List.length_map _
  refine ⟨_, rfl, _, (ns.map V.int).length, rfl, .inl ⟨_, hS, rfl⟩, _, _, rfl, _, _, rfl, ?_⟩
  have hj : ∃ n : Nat, (if (if (3 : Int) < ((ns.map V.int).length : Int) then (3 : Int) else ((ns.map V.int).length : Int)) > 2 then (if (3 : Int) < ((ns.map V.int).length : Int) then (3 : Int) else ((ns.map V.int).length : Int)) else 2) = (n : Int) ∧ n ≤ 3 := by
    by_cases h1 : (3 : Int) < ((ns.map V.int).length : Int)
    · rw [if_pos h1]; exact ⟨3, rfl, by decide⟩
    · rw [if_neg h1]
      by_cases h2 : ((ns.map V.int).length : Int) > 2
      · rw [if_pos h2]; exact ⟨(ns.map V.int).length, rfl, by omega⟩
      · rw [if_neg h2]; exact ⟨2, rfl, by decide⟩
  obtain ⟨n, hn, hn3⟩ := hj
  refine ⟨(n : Int), congrArg (fun z => [V.int z]) hn, by omega, by omega, fun D hD => ?_⟩
  rw [Int.toNat_natCast]
  refine lc_range (lo := 0) (n := n) (fun i H' => Same H H' ∧ H' D = some (.lst ((List.replicate i true).map V.bl))) ⟨same_upd hD, upd_same⟩ ?_ ?_
  · rintro i H' hi ⟨s1, d1⟩
    refine ⟨rfl, _, rfl, _, rfl, a, ns, _, rfl, s1.seq hS, h63, by omega, by omega, fun z H1 t1 => ⟨z, rfl, fun p H2 hp1 t2 hp2 => ⟨p, rfl, hp2, fun H3 sb => ?_⟩⟩⟩
    have t3 : Same H' H3 := fun b o e => by
      have e1 := t1 b o e
      exact sb b o (ne_of_none e1 hp1) (t2 b o e1)
    refine ⟨_, t3 _ _ d1, small1000 (by simp only [List.length_map, List.length_replicate]; omega), ?_, ?_⟩
    · intro c o e
      rw [upd_ne (ne_of_none e hD)]
      exact t3 _ _ (s1 _ _ e)
    · rw [upd_same, List.replicate_succ', List.map_append]; rfl
  · rintro H' ⟨s1, d1⟩
    refine ⟨D, List.replicate n true, rfl, SqL.of d1, ?_⟩
    have e : (List.replicate n true).all id = true := by
      rw [List.all_eq_true]
      intro b hb
      rw [List.eq_of_mem_replicate hb]; rfl
    show Q (.bl ((List.replicate n true).all id)) _
    rw [e]
    exact k H'
end
end FM
namespace FM
open PySem L2 PyProof.Rows
/-! ### what the top has written, gathered -/
def DefAt (K : PySem.W.Frag) (mg : Str → Option Value) (x : Str) (st : Stmt) (ps : List Str) : Prop := ∃ f fd, mg x = some (.ref f) ∧ Fun K x x st f fd ∧ ∀ us : List Value, us.length = ps.length → bindArgs fd ⟨us, []⟩ = pure (ps.zip us)
def TextAt (K : PySem.W.Frag) (mg : Str → Option Value) : Prop := ∃ C fI fdI, TextErr K mg C fI ∧ Fun K "__init__" "InvalidText.__init__" sIText fI fdI ∧ Binds K fdI ["self", "text"] []
section
variable {K : PySem.W.Frag} {h : Heap} {mg : Str → Option Value}
theorem def_at {x : Str} {st : Stmt} {ps : List Str} {f : Addr} {oc : Value} {od an : Option Addr} {osl : Array (Option Value)} {kV doc pm cdv ct : Value} (X : K.In h) (G : h.Ns mainGlobals mg)
    (hb : ∀ (kV doc pm : Value) (an : Option Addr) (cdv ct : Value) (us : List Value), us.length = ps.length → bindArgs (PySem.W.fnOf x x (defArgs st) (defBody st) (defScope st) .none kV doc pm an cdv ct) ⟨us, []⟩ = pure (ps.zip us))
    (a : PySem.W.nsIn K mainGlobals x = some (some (.ref f))) (l : K.lookup f = some ⟨oc, od, .func (PySem.W.fnOf x x (defArgs st) (defBody st) (defScope st) .none kV doc pm an cdv ct), osl⟩)
    (c : PySem.W.codeIn K cdv x = true) (k : PySem.W.keepIn K (.ref f) = true) : DefAt K mg x st ps := ⟨f, _, PySem.W.mg_of X G a, fun_mk l c k, hb kV doc pm an cdv ct⟩
theorem names_at (X : K.In h) (G : h.Ns mainGlobals mg)
    {t0 t1 t2 t3 t4 t5 : Tok}
    (c0 : PySem.W.nsIn K mainGlobals "MOST_LINES" = some (some (.int 8 t0))) (c1 : PySem.W.nsIn K mainGlobals "LOW" = some (some (.str "low" t1))) (c2 : PySem.W.nsIn K mainGlobals "HIGH" = some (some (.str "high" t2))) (c3 : PySem.W.nsIn K mainGlobals "LETTERS" = some (some (.str "abcdefghijklmnopqrstuvwxyz" t3))) (c4 : PySem.W.nsIn K mainGlobals "MOST_LETTERS" = some (some (.int 6 t4))) (c5 : PySem.W.nsIn K mainGlobals "GAP" = some (some (.str ", " t5)))
    (b0 : PySem.W.nsIn K mainGlobals "isinstance" = some none) (b1 : PySem.W.nsIn K mainGlobals "str" = some none) (b2 : PySem.W.nsIn K mainGlobals "len" = some none) (b3 : PySem.W.nsIn K mainGlobals "all" = some none) (b4 : PySem.W.nsIn K mainGlobals "tuple" = some none) (b5 : PySem.W.nsIn K mainGlobals "abs" = some none) (b6 : PySem.W.nsIn K mainGlobals "divmod" = some none) (b7 : PySem.W.nsIn K mainGlobals "list" = some none) (b8 : PySem.W.nsIn K mainGlobals "range" = some none) (b9 : PySem.W.nsIn K mainGlobals "sorted" = some none) (b10 : PySem.W.nsIn K mainGlobals "min" = some none) (b11 : PySem.W.nsIn K mainGlobals "max" = some none) (b12 : PySem.W.nsIn K mainGlobals "set" = some none) (b13 : PySem.W.nsIn K mainGlobals "int" = some none) (b14 : PySem.W.nsIn K mainGlobals "repr" = some none) : Names0 mg :=
  { most := ⟨_, PySem.W.mg_of X G c0⟩, low := ⟨_, PySem.W.mg_of X G c1⟩, high := ⟨_, PySem.W.mg_of X G c2⟩, letters := ⟨_, PySem.W.mg_of X G c3⟩, mostL := ⟨_, PySem.W.mg_of X G c4⟩, gap := ⟨_, PySem.W.mg_of X G c5⟩, isi := PySem.W.mg_none_of X G b0, str := PySem.W.mg_none_of X G b1, len := PySem.W.mg_none_of X G b2, all := PySem.W.mg_none_of X G b3, tup := PySem.W.mg_none_of X G b4, abs := PySem.W.mg_none_of X G b5, divm := PySem.W.mg_none_of X G b6, lst := PySem.W.mg_none_of X G b7, rng := PySem.W.mg_none_of X G b8, srt := PySem.W.mg_none_of X G b9, min := PySem.W.mg_none_of X G b10, max := PySem.W.mg_none_of X G b11, set := PySem.W.mg_none_of X G b12, int := PySem.W.mg_none_of X G b13, rpr := PySem.W.mg_none_of X G b14 }
theorem names_self {C : Addr} (sub : PySem.W.subIn K (.ref C) (.type "BaseException") = some true) (isC : PySem.W.isClsIn K C = true) (ty : PySem.W.typeIn K (.ref C) = some (.type "type")) (self : PySem.W.subIn K (.ref C) (.ref C) = some true) :
    PySem.W.exmOne K (.ref C) (.ref C) = some true := by
  unfold PySem.W.exmOne
  rw [sub, if_pos (by decide)]
  unfold PySem.W.kitCls
  unfold PySem.W.isClsIn at isC
  simp only [isC, ty, self]
  rfl
theorem text_at (X : K.In h) (G : h.Ns mainGlobals mg) {nm q : Str} {C N M fI : Addr} {bs : List Value} {sn : List Str} {sub : List Value} {ab : Bool} {col : Option Bool} {dd : Option Addr} {m0 m1 m2 m3 m5 : Option Value}
    {od an : Option Addr} {osl : Array (Option Value)} {oc kV doc pm cdv ct : Value}
    (aC : PySem.W.nsIn K mainGlobals "InvalidText" = some (some (.ref C)))
    (lC : K.lookup C = some (excClassObj nm q C N bs [.ref M, .type "ValueError", .type "Exception", .type "BaseException", .type "object"] true sn sub ab col dd m0 m1 m2 m3 m5 "ValueError.__new__"))
    (sa : PySem.W.findIn K (.ref C) "__setattr__" = some (some (.builtin "object.__setattr__"))) (noT : PySem.W.findIn K (.ref C) "text" = some none)
    (iC : PySem.W.findIn K (.ref C) "__init__" = some (some (.ref fI))) (tI : PySem.W.typeIn K (.ref fI) = some (.type "function"))
    (lI : K.lookup fI = some ⟨oc, od, .func (PySem.W.fnOf "__init__" "InvalidText.__init__" (defArgs sIText) (defBody sIText) (defScope sIText) .none kV doc pm an cdv ct), osl⟩) (cI : PySem.W.codeIn K cdv "InvalidText.__init__" = true) (kI : PySem.W.keepIn K (.ref fI) = true)
    (kC : PySem.W.keepIn K (.ref C) = true) (eC : PySem.W.subIn K (.ref C) (.type "BaseException") = some true) (tC : PySem.W.typeIn K (.ref C) = some (.type "type")) (isC : PySem.W.isClsIn K C = true) (sC : PySem.W.subIn K (.ref C) (.ref C) = some true) : TextAt K mg := by
  have FI := fun_mk (st := sIText) lI cI kI
  refine ⟨C, fI, _, ⟨PySem.W.mg_of X G aC, ⟨⟨_, _, _, _, _, _, _, _, _, _, _, _, _, _, _, lC, ?_⟩, sa, eC, tC, kC⟩, iC, tI, noT, names_self eC isC tC sC⟩, FI, FI.binds fun _ _ _ _ _ _ us hl => match us, hl with | [_, _], _ => rfl⟩
  show PySem.HandSPX.refsVE [.type "ValueError", .type "Exception", .type "BaseException", .type "object"] = true
  decide +kernel
end
/-! ### all walks, joined -/
section
variable {P : Program} {w : World} {K : PySem.W.Frag} {mg : Str → Option Value}
theorem law_all {fa : Addr} (Z : Names0 mg) (hT : TextAt K mg) (hfa : mg "law" = some (.ref fa))
    (d0 : DefAt K mg "is_kind" sKind ["value"])
    (d1 : DefAt K mg "is_line" sLine ["value"])
    (d2 : DefAt K mg "is_part" sPart ["value", "lines"])
    (d3 : DefAt K mg "is_plan" sPlan ["value"])
    (d4 : DefAt K mg "check_plan" sCheck ["plan"])
    (d5 : DefAt K mg "written_form" sForm ["plan"])
    (d6 : DefAt K mg "word_end" sEnd ["text", "start"])
    (d7 : DefAt K mg "read_part" sRead ["text", "start", "depth"])
    (d8 : DefAt K mg "format_plan" sFormat ["plan"])
    (d9 : DefAt K mg "parse_plan" sParse ["text"])
    (d10 : DefAt K mg "_law_cell" sCell ["_law_script", "_law_k"])
    (d11 : DefAt K mg "_law_pool" sPool ["_law_cell_here"])
    (d12 : DefAt K mg "_law_draw" sDraw ["_law_pool_here", "_law_upto"])
    (d13 : DefAt K mg "_law_mixed" sMixed ["_law_pool_here", "_law_things"])
    (d14 : DefAt K mg "_law_calls" sCalls ["_law_pool_here", "_law_many"])
    (d15 : DefAt K mg "_law_sort" sSort ["_law_pool_here"])
    (d16 : DefAt K mg "_law_tree" sTree ["_law_pool_here", "_law_calls_here"])
    (d17 : DefAt K mg "_law_found" sFound ["_law_thing"])
    (d18 : DefAt K mg "_law_is_tree" sIsTree ["_law_thing"])
    (d19 : DefAt K mg "_law_written" sWritten ["_law_tree_here"])
    (d20 : DefAt K mg "_law_read" sLRead ["_law_text"])
    (d21 : DefAt K mg "_law_told" sTold ["_law_text"])
    (d22 : DefAt K mg "_law_right" sRight ["_law_pool_here"])
    (d23 : DefAt K mg "law" sLaw ["_law_script"])
    : ∃ fd : FuncData, (∀ (s : Shared) (u : Value), BindsTo s fd ⟨[u], []⟩ [("_law_script", u)]) ∧ ∀ base : Heap, K.In base → base.Ns mainGlobals mg → OkG P w K mg base 116 fa fd ["_law_script"] (spLaw K) := by
  obtain ⟨C, fI, fdI, T, FI, bI⟩ := hT
  obtain ⟨_, _, mKind, FKind, aKind⟩ := d0
  have bKind : Binds K _ ["value"] [] := .all aKind
  obtain ⟨_, _, mLine, FLine, aLine⟩ := d1
  have bLine : Binds K _ ["value"] [] := .all aLine
  obtain ⟨_, _, mPart, FPart, aPart⟩ := d2
  have bPart : Binds K _ ["value", "lines"] [] := .all aPart
  obtain ⟨_, _, mPlan, FPlan, aPlan⟩ := d3
  have bPlan : Binds K _ ["value"] [] := .all aPlan
  obtain ⟨_, _, mCheck, FCheck, aCheck⟩ := d4
  have bCheck : Binds K _ ["plan"] [] := .all aCheck
  obtain ⟨_, _, mForm, FForm, aForm⟩ := d5
  have bForm : Binds K _ ["plan"] [] := .all aForm
  obtain ⟨_, _, mEnd, FEnd, aEnd⟩ := d6
  have bEnd : Binds K _ ["text", "start"] [] := .all aEnd
  obtain ⟨_, _, mRead, FRead, aRead⟩ := d7
  have bRead : Binds K _ ["text", "start", "depth"] [] := .all aRead
  obtain ⟨_, _, mFormat, FFormat, aFormat⟩ := d8
  have bFormat : Binds K _ ["plan"] [] := .all aFormat
  obtain ⟨_, _, mParse, FParse, aParse⟩ := d9
  have bParse : Binds K _ ["text"] [] := .all aParse
  obtain ⟨_, _, mCell, FCell, aCell⟩ := d10
  have bCell : Binds K _ ["_law_script", "_law_k"] [] := .all aCell
  obtain ⟨_, _, mPool, FPool, aPool⟩ := d11
  have bPool : Binds K _ ["_law_cell_here"] [] := .all aPool
  obtain ⟨_, _, mDraw, FDraw, aDraw⟩ := d12
  have bDraw : Binds K _ ["_law_pool_here", "_law_upto"] [] := .all aDraw
  obtain ⟨_, _, mMixed, FMixed, aMixed⟩ := d13
  have bMixed : Binds K _ ["_law_pool_here", "_law_things"] [] := .all aMixed
  obtain ⟨_, _, mCalls, FCalls, aCalls⟩ := d14
  have bCalls : Binds K _ ["_law_pool_here", "_law_many"] [] := .all aCalls
  obtain ⟨_, _, mSort, FSort, aSort⟩ := d15
  have bSort : Binds K _ ["_law_pool_here"] [] := .all aSort
  obtain ⟨_, _, mTree, FTree, aTree⟩ := d16
  have bTree : Binds K _ ["_law_pool_here", "_law_calls_here"] [] := .all aTree
  obtain ⟨_, _, mFound, FFound, aFound⟩ := d17
  have bFound : Binds K _ ["_law_thing"] [] := .all aFound
  obtain ⟨_, _, mIsTree, FIsTree, aIsTree⟩ := d18
  have bIsTree : Binds K _ ["_law_thing"] [] := .all aIsTree
  obtain ⟨_, _, mWritten, FWritten, aWritten⟩ := d19
  have bWritten : Binds K _ ["_law_tree_here"] [] := .all aWritten
  obtain ⟨_, _, mLRead, FLRead, aLRead⟩ := d20
  have bLRead : Binds K _ ["_law_text"] [] := .all aLRead
  obtain ⟨_, _, mTold, FTold, aTold⟩ := d21
  have bTold : Binds K _ ["_law_text"] [] := .all aTold
  obtain ⟨_, _, mRight, FRight, aRight⟩ := d22
  have bRight : Binds K _ ["_law_pool_here"] [] := .all aRight
  obtain ⟨_, _, mLaw, FLaw, aLaw⟩ := d23
  have e := hfa.symm.trans mLaw
  cases e
  refine ⟨_, fun s u => .of_eq (aLaw [u] rfl), fun base _ _ => ?_⟩
  have GPart : FnOk P w K mg base CX0 10 _ _ ["value", "lines"] (spPart 9) := part_all FPart Z FLine bLine mLine FKind bKind mKind bPart mPart 9
  have GPlan : FnOk P w K mg base CX0 11 _ _ ["value"] spPlan := ok_plan FPlan GPart bPart FPart.kp mPart
  have GCheck : FnOk P w K mg base CX0 12 _ _ ["plan"] spCheck := ok_check FCheck GPlan bPlan FPlan.kp mPlan
  have GForm : FnOk P w K mg base CX0 10 _ _ ["plan"] (spForm 9) := form_all FForm Z bForm mForm 9
  have GFormat : FnOk P w K mg base CX0 13 _ _ ["plan"] spFormat := ok_format FFormat GCheck bCheck FCheck.kp mCheck GForm bForm FForm.kp mForm
  have GRead : FnOk P w K mg base CX0 10 _ _ ["text", "start", "depth"] (spRead 9) := read_all FRead Z FEnd bEnd mEnd FKind bKind mKind bRead mRead 9
  have GParse : FnOk P w K mg base (L2.CX P w) 12 _ _ ["text"] (spParse C) := ok_parse FParse Z T FI bI GRead bRead FRead.kp mRead GPlan bPlan FPlan.kp mPlan
  have GTold : FnOk P w K mg base CX0 13 _ _ ["_law_text"] spTold := ok_told FTold T GParse bParse FParse.kp mParse
  have GFound : FnOk P w K mg base CX0 112 _ _ ["_law_thing"] (spFound 111) := found_all FFound Z bFound mFound 111
  have GIsTree : FnOk P w K mg base CX0 113 _ _ ["_law_thing"] spIsTree := ok_isTree FIsTree Z GFound bFound FFound.kp mFound
  have GWritten : FnOk P w K mg base CX0 10 _ _ ["_law_tree_here"] (spForm 9) := written_all FWritten Z bWritten mWritten 9
  have GLRead : FnOk P w K mg base CX0 114 _ _ ["_law_text"] spLRead := ok_lread FLRead Z GIsTree bIsTree FIsTree.kp mIsTree GWritten bWritten FWritten.kp mWritten
  have GTree : FnOk P w K mg base CX0 3 _ _ ["_law_pool_here", "_law_calls_here"] spTree := ok_tree FTree Z FDraw bDraw mDraw FMixed bMixed mMixed FSort bSort mSort
  have GRight : OkG P w K mg base 115 _ _ ["_law_pool_here"] spRight := ok_right FRight Z (ok_draw FDraw Z) bDraw FDraw.kp mDraw (ok_mixed FMixed Z FDraw bDraw mDraw) bMixed FMixed.kp mMixed (ok_calls FCalls Z FDraw bDraw mDraw) bCalls FCalls.kp mCalls
    GTree bTree FTree.kp mTree GWritten bWritten FWritten.kp mWritten GLRead bLRead FLRead.kp mLRead GTold bTold FTold.kp mTold GFormat bFormat FFormat.kp mFormat
  exact ok_law FLaw Z GRight bRight FRight.kp mRight (ok_pool FPool Z) bPool FPool.kp mPool (ok_cell FCell Z) bCell FCell.kp mCell
end
theorem walk_law {l : PySem.W.OpenLaw} {q : Program} {loose : List Str} {XP : (Str → Option Value) → Heap → Prop} {YP : World → Heap → Prop} {d : DefRec} {K : Params → PySem.W.Frag} (most : l.most = some 63) (hdf : d.params.defaults = [])
    (hY : ∀ (w : World) (h : Heap), YP w h → (K w.params).In h)
    (F : ∀ (w : World) (mg : Str → Option Value) (fa : Addr) (h : Heap), (K w.params).In h → h.Ns mainGlobals mg → mg d.name = some (.ref fa) →
      ∃ fd : FuncData, (∀ (s : Shared) (u : Value), BindsTo s fd ⟨[u], []⟩ [("_law_script", u)]) ∧ ∀ base : Heap, (K w.params).In base → base.Ns mainGlobals mg → OkG l.prog w (K w.params) mg base 116 fa fd ["_law_script"] (spLaw (K w.params))) :
    PySem.W.WalkO q loose XP YP l.row.toRowW d [] (fun f vs => PySem.call f vs) := by
  apply Att.attach_call most hdf
  intro w _ s1 mg mb fa o pm cd doc a vs ns G Y _ _ _ hmg at_ whole few gens
  obtain ⟨fd, bind, promise⟩ := F w mg fa _ (hY w _ Y) G.T.g hmg
  exact law_goes (hY w _ Y) G.T.g G.T.b G.T.builtins G.T.nolimit gens at_ whole (Nat.le_trans few (by decide)) ⟨rfl, by decide, by decide⟩ promise bind fun H _ hS => ⟨a, ns, rfl, hS, few, fun _ => rfl⟩
end FM
open PySem PySem.W PyProof.Rows
set_option maxRecDepth 100000 in
set_option maxHeartbeats 0 in
theorem PySem.Challenge.cw_frontmeets_k22_whole_one_character_chang_holds : PySem.Challenge.rw_frontmeets_k22_whole_one_character_chang.Holds := by
  w_on; o_law; k_head; (case hw => w_witness2)
  k_fill
  refine FM.walk_law (l := PySem.Challenge.rw_frontmeets_k22_whole_one_character_chang) rfl rfl (fun w h Y => PySem.W.kIn_of Y) ?F
  case F =>
    intro w mg fa h KX G hmg
    refine FM.law_all ?Z ?T hmg ?d0 ?d1 ?d2 ?d3 ?d4 ?d5 ?d6 ?d7 ?d8 ?d9 ?d10 ?d11 ?d12 ?d13 ?d14 ?d15 ?d16 ?d17 ?d18 ?d19 ?d20 ?d21 ?d22 ?d23
    case Z =>
      refine' FM.names_at KX G ?c0 ?c1 ?c2 ?c3 ?c4 ?c5 ?b0 ?b1 ?b2 ?b3 ?b4 ?b5 ?b6 ?b7 ?b8 ?b9 ?b10 ?b11 ?b12 ?b13 ?b14
      (case c0 => k_is); (case c1 => k_is); (case c2 => k_is); (case c3 => k_is); (case c4 => k_is); (case c5 => k_is)
      (case b0 => k_is); (case b1 => k_is); (case b2 => k_is); (case b3 => k_is); (case b4 => k_is); (case b5 => k_is); (case b6 => k_is); (case b7 => k_is); (case b8 => k_is); (case b9 => k_is); (case b10 => k_is); (case b11 => k_is); (case b12 => k_is); (case b13 => k_is); (case b14 => k_is)
    case T =>
      refine' FM.text_at KX G ?aC ?lC ?sa ?noT ?iC ?tI ?lI ?cI ?kI ?kC ?eC ?tC ?isC ?sC
      (case aC => k_is); (case lC => k_is); (case sa => k_is); (case noT => k_is); (case iC => k_is); (case tI => k_is); (case lI => k_is); (case cI => k_is); (case kI => k_is); (case kC => k_is); (case eC => k_is); (case tC => k_is); (case isC => k_is); (case sC => first | rfl | k_is)
    case d0 =>
      refine' FM.def_at KX G (fun _ _ _ _ _ _ us hl => match us, hl with | [_], _ => rfl) ?a ?l ?c ?k
      (case a => k_is); (case l => k_is); (case c => k_is); (case k => k_is)
    case d1 =>
      refine' FM.def_at KX G (fun _ _ _ _ _ _ us hl => match us, hl with | [_], _ => rfl) ?a ?l ?c ?k
      (case a => k_is); (case l => k_is); (case c => k_is); (case k => k_is)
    case d2 =>
      refine' FM.def_at KX G (fun _ _ _ _ _ _ us hl => match us, hl with | [_, _], _ => rfl) ?a ?l ?c ?k
      (case a => k_is); (case l => k_is); (case c => k_is); (case k => k_is)
    case d3 =>
      refine' FM.def_at KX G (fun _ _ _ _ _ _ us hl => match us, hl with | [_], _ => rfl) ?a ?l ?c ?k
      (case a => k_is); (case l => k_is); (case c => k_is); (case k => k_is)
    case d4 =>
      refine' FM.def_at KX G (fun _ _ _ _ _ _ us hl => match us, hl with | [_], _ => rfl) ?a ?l ?c ?k
      (case a => k_is); (case l => k_is); (case c => k_is); (case k => k_is)
    case d5 =>
      refine' FM.def_at KX G (fun _ _ _ _ _ _ us hl => match us, hl with | [_], _ => rfl) ?a ?l ?c ?k
      (case a => k_is); (case l => k_is); (case c => k_is); (case k => k_is)
    case d6 =>
      refine' FM.def_at KX G (fun _ _ _ _ _ _ us hl => match us, hl with | [_, _], _ => rfl) ?a ?l ?c ?k
      (case a => k_is); (case l => k_is); (case c => k_is); (case k => k_is)
    case d7 =>
      refine' FM.def_at KX G (fun _ _ _ _ _ _ us hl => match us, hl with | [_, _, _], _ => rfl) ?a ?l ?c ?k
      (case a => k_is); (case l => k_is); (case c => k_is); (case k => k_is)
    case d8 =>
      refine' FM.def_at KX G (fun _ _ _ _ _ _ us hl => match us, hl with | [_], _ => rfl) ?a ?l ?c ?k
      (case a => k_is); (case l => k_is); (case c => k_is); (case k => k_is)
    case d9 =>
      refine' FM.def_at KX G (fun _ _ _ _ _ _ us hl => match us, hl with | [_], _ => rfl) ?a ?l ?c ?k
      (case a => k_is); (case l => k_is); (case c => k_is); (case k => k_is)
    case d10 =>
      refine' FM.def_at KX G (fun _ _ _ _ _ _ us hl => match us, hl with | [_, _], _ => rfl) ?a ?l ?c ?k
      (case a => k_is); (case l => k_is); (case c => k_is); (case k => k_is)
    case d11 =>
      refine' FM.def_at KX G (fun _ _ _ _ _ _ us hl => match us, hl with | [_], _ => rfl) ?a ?l ?c ?k
      (case a => k_is); (case l => k_is); (case c => k_is); (case k => k_is)
    case d12 =>
      refine' FM.def_at KX G (fun _ _ _ _ _ _ us hl => match us, hl with | [_, _], _ => rfl) ?a ?l ?c ?k
      (case a => k_is); (case l => k_is); (case c => k_is); (case k => k_is)
    case d13 =>
      refine' FM.def_at KX G (fun _ _ _ _ _ _ us hl => match us, hl with | [_, _], _ => rfl) ?a ?l ?c ?k
      (case a => k_is); (case l => k_is); (case c => k_is); (case k => k_is)
    case d14 =>
      refine' FM.def_at KX G (fun _ _ _ _ _ _ us hl => match us, hl with | [_, _], _ => rfl) ?a ?l ?c ?k
      (case a => k_is); (case l => k_is); (case c => k_is); (case k => k_is)
    case d15 =>
      refine' FM.def_at KX G (fun _ _ _ _ _ _ us hl => match us, hl with | [_], _ => rfl) ?a ?l ?c ?k
      (case a => k_is); (case l => k_is); (case c => k_is); (case k => k_is)
    case d16 =>
      refine' FM.def_at KX G (fun _ _ _ _ _ _ us hl => match us, hl with | [_, _], _ => rfl) ?a ?l ?c ?k
      (case a => k_is); (case l => k_is); (case c => k_is); (case k => k_is)
    case d17 =>
      refine' FM.def_at KX G (fun _ _ _ _ _ _ us hl => match us, hl with | [_], _ => rfl) ?a ?l ?c ?k
      (case a => k_is); (case l => k_is); (case c => k_is); (case k => k_is)
    case d18 =>
      refine' FM.def_at KX G (fun _ _ _ _ _ _ us hl => match us, hl with | [_], _ => rfl) ?a ?l ?c ?k
      (case a => k_is); (case l => k_is); (case c => k_is); (case k => k_is)
    case d19 =>
      refine' FM.def_at KX G (fun _ _ _ _ _ _ us hl => match us, hl with | [_], _ => rfl) ?a ?l ?c ?k
      (case a => k_is); (case l => k_is); (case c => k_is); (case k => k_is)
    case d20 =>
      refine' FM.def_at KX G (fun _ _ _ _ _ _ us hl => match us, hl with | [_], _ => rfl) ?a ?l ?c ?k
      (case a => k_is); (case l => k_is); (case c => k_is); (case k => k_is)
    case d21 =>
      refine' FM.def_at KX G (fun _ _ _ _ _ _ us hl => match us, hl with | [_], _ => rfl) ?a ?l ?c ?k
      (case a => k_is); (case l => k_is); (case c => k_is); (case k => k_is)
    case d22 =>
      refine' FM.def_at KX G (fun _ _ _ _ _ _ us hl => match us, hl with | [_], _ => rfl) ?a ?l ?c ?k
      (case a => k_is); (case l => k_is); (case c => k_is); (case k => k_is)
    case d23 =>
      refine' FM.def_at KX G (fun _ _ _ _ _ _ us hl => match us, hl with | [_], _ => rfl) ?a ?l ?c ?k
      (case a => k_is); (case l => k_is); (case c => k_is); (case k => k_is)
