import PyProof.Rows.All
import Wide.All
import OpenK.AllK
import Wide.FinOn
import HandS.ForMost
import HandS.Codes
import HandS.Exc
import HandS.TryOnly
import HandS.TryMany
import HandS.ExcInit
import HandS.ExcField
import HandS.WordsExc
import HandS.Lambda
import HandS.EndTab
import HandS.Star
import HandS.Flow
import HandS.Style
import HandS.IsInst
import HandS.Deep
import HandS.Replace
import HandS.ReplaceLit
import HandS.ReplaceList
import HandS.FStr
import HandS.SetKeys
import HandS.Strs
import HandS.Walk
import HandS.Zip
import HandS.ClsMeth
import HandS.Wide
import PySem.Challenge.RW_pooledeyes_k05_whole_wrong_circle_texts
import KE.GoesEnum
import KE.KExcSuper
import KE.KCallOwn
import KE.KFmtOwn
import HandS.SlotsOwn
import HandS.RaiseMore
import HandS.Set
import HandS.SetFor
import PyProof.Rows.SortStr
import PyProof.StrBlock2
import HandS.Steps
set_option linter.all false
/-! Pooled eyes, the plain law, part A: circle texts as lists of signs; the machine that scans them; what a whole text is built of. -/
namespace Pe
abbrev L := List Nat
def isL (c : Nat) : Bool := decide (97 ≤ c) && decide (c ≤ 122)
/-- the scanner: what is awaited (0 an item, 1 within a name, 2 behind a parenthesis, 3 behind a blank, 4 behind a sign), letters, signs of the open levels (the innermost first) -/
structure Sc where
  aw : Nat
  le : Nat
  st : List Nat
deriving DecidableEq
def sc0 : Sc := ⟨0, 0, [0]⟩
def stepN (s : Sc) (c : Nat) : Option Sc := if isL c = true then (if s.le < 6 then some ⟨1, s.le + 1, s.st⟩ else none) else none
def stepE (s : Sc) (c : Nat) : Option Sc := if c = 32 then some ⟨3, s.le, s.st⟩ else if c = 41 then (match s.st with | _ :: b :: r => some ⟨2, s.le, b :: r⟩ | _ => none) else none
def step (s : Sc) (c : Nat) : Option Sc :=
  if s.aw = 0 then (if c = 40 then (if s.st.length < 21 then some ⟨0, s.le, 0 :: s.st⟩ else none) else if isL c = true then some ⟨1, 1, s.st⟩ else none)
  else if s.aw = 4 then (if c = 32 then some ⟨0, s.le, s.st⟩ else none)
  else if s.aw = 3 then (match s.st with | a :: r => if (c = 38 ∨ c = 124) ∧ (a = 0 ∨ a = c) then some ⟨4, s.le, c :: r⟩ else none | [] => none)
  else if s.aw = 1 ∧ isL c = true then stepN s c
  else stepE s c
def endOk (s : Sc) : Bool := (decide (s.aw = 1) || decide (s.aw = 2)) && decide (s.st.length = 1)
def scanGo : Sc → L → Nat → Nat × Bool
  | s, [], k => (k, endOk s)
  | s, c :: r, k => match step s c with
    | none => (k, false)
    | some s' => scanGo s' r (k + 1)
def scanRes (x : L) : Nat × Bool := scanGo sc0 x 0
/-- the states behind a beginning that goes on -/
def runTo : Sc → L → Option Sc
  | s, [] => some s
  | s, c :: r => match step s c with
    | none => none
    | some s' => runTo s' r
theorem scanGo_whole : ∀ (x : L) (s : Sc) (k n : Nat), scanGo s x k = (n, true) → ∃ s', runTo s x = some s' ∧ endOk s' = true ∧ n = k + x.length
  | [], s, k, n, h => by
    have h1 : (k, endOk s) = (n, true) := h
    injection h1 with h2 h3
    exact ⟨s, rfl, h3, by simp [h2]⟩
  | c :: r, s, k, n, h => by
    cases e : step s c with
    | none =>
      rw [scanGo, e] at h
      injection h with h2 h3
      cases h3
    | some s' =>
      rw [scanGo, e] at h
      obtain ⟨s2, h1, h2, h3⟩ := scanGo_whole r s' (k + 1) n h
      refine ⟨s2, ?_, h2, ?_⟩
      · rw [runTo, e]
        exact h1
      · rw [h3, List.length_cons]
        omega

/-! ### what a text is built of -/
inductive Itm where
  | nm (x : L)
  | par (sg : Nat) (l : List Itm)
mutual
def itext : Itm → L
  | .nm x => x
  | .par sg l => 40 :: (ltext sg l ++ [41])
def ltext (sg : Nat) : List Itm → L
  | [] => []
  | i :: r => itext i ++ rtext sg r
def rtext (sg : Nat) : List Itm → L
  | [] => []
  | i :: r => 32 :: sg :: 32 :: (itext i ++ rtext sg r)
end
mutual
def okI : Itm → Prop
  | .nm x => x ≠ [] ∧ x.length ≤ 6 ∧ ∀ c ∈ x, isL c = true
  | .par sg l => okL l ∧ ((sg = 0 ∧ l.length = 1) ∨ ((sg = 38 ∨ sg = 124) ∧ 2 ≤ l.length))
def okL : List Itm → Prop
  | [] => True
  | i :: r => okI i ∧ okL r
end
mutual
/-- how deep its parentheses stand -/
def pd : Itm → Nat
  | .nm _ => 0
  | .par _ l => pds l + 1
def pds : List Itm → Nat
  | [] => 0
  | i :: r => max (pd i) (pds r)
end
theorem okL_mem : ∀ {l : List Itm} {i : Itm}, okL l → i ∈ l → okI i
  | [], _, _, h => by cases h
  | a :: r, i, h, m => by
    rw [okL] at h
    rcases List.mem_cons.mp m with e | e
    · rw [e]; exact h.1
    · exact okL_mem h.2 e
theorem okL_app : ∀ {l : List Itm} {i : Itm}, okL l → okI i → okL (l ++ [i])
  | [], i, _, h => by
    show okL [i]
    rw [okL, okL]
    exact ⟨h, trivial⟩
  | a :: r, i, h, hi => by
    rw [okL] at h
    show okL (a :: (r ++ [i]))
    rw [okL]
    exact ⟨h.1, okL_app h.2 hi⟩
theorem pds_app : ∀ (l : List Itm) (i : Itm), pds (l ++ [i]) = max (pds l) (pd i)
  | [], i => by
    show pds [i] = _
    rw [pds, pds, pds]
    omega
  | a :: r, i => by
    show pds (a :: (r ++ [i])) = _
    rw [pds, pds_app r i, pds]
    omega
/-- items, each with its sign behind it -/
def pre (sg : Nat) : List Itm → L
  | [] => []
  | i :: r => itext i ++ 32 :: sg :: 32 :: pre sg r
theorem pre_app (sg : Nat) : ∀ (l : List Itm) (i : Itm), pre sg (l ++ [i]) = pre sg l ++ (itext i ++ [32, sg, 32])
  | [], i => by simp [pre]
  | a :: r, i => by
    show itext a ++ 32 :: sg :: 32 :: pre sg (r ++ [i]) = _
    rw [pre_app sg r i]
    simp [pre]
theorem ltext_last (sg : Nat) : ∀ (l : List Itm) (i : Itm), ltext sg (l ++ [i]) = pre sg l ++ itext i
  | [], i => by
    show ltext sg [i] = _
    rw [ltext, rtext, pre]
    simp
  | a :: r, i => by
    have key : ∀ (r : List Itm), rtext sg (r ++ [i]) = 32 :: sg :: 32 :: (pre sg r ++ itext i) := by
      intro r
      induction r with
      | nil =>
        show rtext sg [i] = _
        rw [rtext, rtext, pre]
        simp
      | cons b r ih =>
        show rtext sg (b :: (r ++ [i])) = _
        rw [rtext, ih, pre]
        simp
    show ltext sg (a :: (r ++ [i])) = _
    rw [ltext, key r, pre]
    simp

/-! ### a level that is open: its sign, its items so far -/
structure Fr where
  sg : Nat
  its : List Itm
def frOk (f : Fr) : Prop := okL f.its ∧ ((f.sg = 0 ∧ f.its = []) ∨ ((f.sg = 38 ∨ f.sg = 124) ∧ f.its ≠ []))
/-- what stands ahead in the levels, the innermost first -/
def lower : List Fr → L
  | [] => []
  | [f] => pre f.sg f.its
  | f :: g :: r => lower (g :: r) ++ 40 :: pre f.sg f.its
/-- the sign of a level with one more item -/
def lastOk (f : Fr) : Prop := okL f.its ∧ ((f.sg = 0 ∧ f.its = []) ∨ ((f.sg = 38 ∨ f.sg = 124) ∧ f.its ≠ []))
def fsd : Nat → List Fr → Prop
  | _, [] => True
  | d, f :: r => pds f.its ≤ d ∧ fsd (d + 1) r
/-- what is known behind a beginning p: the levels, and what stands of the item at hand -/
def Beg (s : Sc) (p : L) : Prop := ∃ (f : Fr) (fs : List Fr), s.st = f.sg :: fs.map Fr.sg ∧ s.st.length ≤ 21 ∧ (∀ g ∈ fs, frOk g) ∧ fsd (21 - s.st.length) (f :: fs) ∧
  ((s.aw = 0 ∧ frOk f ∧ p = lower (f :: fs)) ∨
   (s.aw = 1 ∧ frOk f ∧ ∃ x : L, x ≠ [] ∧ x.length = s.le ∧ s.le ≤ 6 ∧ (∀ c ∈ x, isL c = true) ∧ p = lower (f :: fs) ++ x) ∨
   (s.aw = 2 ∧ frOk f ∧ ∃ i : Itm, okI i ∧ pd i ≤ 21 - s.st.length ∧ p = lower (f :: fs) ++ itext i) ∨
   (s.aw = 3 ∧ frOk f ∧ ∃ i : Itm, okI i ∧ pd i ≤ 21 - s.st.length ∧ p = lower (f :: fs) ++ (itext i ++ [32])) ∨
   (s.aw = 4 ∧ okL f.its ∧ (f.sg = 38 ∨ f.sg = 124) ∧ ∃ i : Itm, okI i ∧ pd i ≤ 21 - s.st.length ∧ p = lower (f :: fs) ++ (itext i ++ [32, f.sg])))
theorem lower_app (f : Fr) (fs : List Fr) (i : Itm) : lower ({ f with its := f.its ++ [i] } :: fs) = lower (f :: fs) ++ (itext i ++ [32, f.sg, 32]) := by
  cases fs with
  | nil =>
    show pre f.sg (f.its ++ [i]) = pre f.sg f.its ++ _
    exact pre_app _ _ _
  | cons g r =>
    show lower (g :: r) ++ 40 :: pre f.sg (f.its ++ [i]) = (lower (g :: r) ++ 40 :: pre f.sg f.its) ++ _
    rw [pre_app]
    simp
/-- a level's sign is given by its first sign: its one item had none -/
theorem lower_sg (f : Fr) (c : Nat) (fs : List Fr) (h : f.its = []) : lower ({ f with sg := c } :: fs) = lower (f :: fs) := by
  cases fs with
  | nil =>
    show pre c f.its = pre f.sg f.its
    rw [h, pre, pre]
  | cons g r =>
    show lower (g :: r) ++ 40 :: pre c f.its = lower (g :: r) ++ 40 :: pre f.sg f.its
    rw [h, pre, pre]
theorem lower_open (f : Fr) (fs : List Fr) : lower (⟨0, []⟩ :: f :: fs) = lower (f :: fs) ++ [40] := by
  show lower (f :: fs) ++ 40 :: pre 0 [] = _
  rw [pre]
theorem par_text (f : Fr) (i : Itm) : itext (.par f.sg (f.its ++ [i])) = 40 :: (pre f.sg f.its ++ (itext i ++ [41])) := by
  rw [itext, ltext_last]
  simp
theorem par_ok {f : Fr} {i : Itm} (h : frOk f) (hi : okI i) : okI (.par f.sg (f.its ++ [i])) := by
  rw [okI]
  refine ⟨okL_app h.1 hi, ?_⟩
  rcases h.2 with ⟨h1, h2⟩ | ⟨h1, h2⟩
  · left
    rw [h2]
    exact ⟨h1, rfl⟩
  · right
    refine ⟨h1, ?_⟩
    rw [List.length_append, List.length_singleton]
    cases e : f.its with
    | nil => exact absurd e h2
    | cons a r =>
      rw [List.length_cons]
      omega
theorem frOk_app {f : Fr} {i : Itm} (h : okL f.its) (hs : f.sg = 38 ∨ f.sg = 124) (hi : okI i) : frOk { f with its := f.its ++ [i] } :=
  ⟨okL_app h hi, Or.inr ⟨hs, by simp⟩⟩
theorem beg_start : Beg sc0 [] := ⟨⟨0, []⟩, [], rfl, (by decide), (by simp), ⟨by show pds [] ≤ 20; rw [pds]; omega, trivial⟩, Or.inl ⟨rfl, ⟨(by show okL []; rw [okL]; trivial), Or.inl ⟨rfl, rfl⟩⟩, rfl⟩⟩

theorem beg_name {s : Sc} {p : L} {f : Fr} {fs : List Fr} {x : L} {c : Nat} (h1 : s.st = f.sg :: fs.map Fr.sg) (h2 : s.st.length ≤ 21) (h3 : ∀ g ∈ fs, frOk g) (h4 : fsd (21 - s.st.length) (f :: fs)) (hf : frOk f)
    (hx : ∀ d ∈ x, isL d = true) (hl : x.length < 6) (hc : isL c = true) (hp : p = lower (f :: fs) ++ x) : Beg ⟨1, x.length + 1, s.st⟩ (p ++ [c]) := by
  refine ⟨f, fs, h1, h2, h3, h4, Or.inr (Or.inl ⟨rfl, hf, x ++ [c], by simp, by simp, by show x.length + 1 ≤ 6; omega, ?_, ?_⟩)⟩
  · intro d hd
    rcases List.mem_append.mp hd with e | e
    · exact hx d e
    · rw [List.mem_singleton.mp e]; exact hc
  · rw [hp, List.append_assoc]
/-- behind an item: a blank, or a closing parenthesis -/
theorem beg_end {s s' : Sc} {p : L} {f : Fr} {fs : List Fr} {i : Itm} {c : Nat} (h1 : s.st = f.sg :: fs.map Fr.sg) (h2 : s.st.length ≤ 21) (h3 : ∀ g ∈ fs, frOk g) (h4 : fsd (21 - s.st.length) (f :: fs)) (hf : frOk f)
    (hi : okI i) (hd : pd i ≤ 21 - s.st.length) (hp : p = lower (f :: fs) ++ itext i) (h : stepE s c = some s') : Beg s' (p ++ [c]) := by
  unfold stepE at h
  by_cases hc : c = 32
  · rw [if_pos hc] at h
    injection h with h
    subst h
    refine ⟨f, fs, h1, h2, h3, h4, Or.inr (Or.inr (Or.inr (Or.inl ⟨rfl, hf, i, hi, hd, ?_⟩)))⟩
    rw [hp, hc, List.append_assoc]
  · rw [if_neg hc] at h
    by_cases hc2 : c = 41
    · rw [if_pos hc2] at h
      cases fs with
      | nil =>
        rw [h1] at h
        cases h
      | cons g r =>
        rw [h1] at h
        have h : (some ⟨2, s.le, g.sg :: r.map Fr.sg⟩ : Option Sc) = some s' := h
        injection h with h
        subst h
        have hlen : s.st.length = r.length + 2 := by rw [h1]; simp
        refine ⟨g, r, rfl, by show (g.sg :: r.map Fr.sg).length ≤ 21; simp; omega, fun x hx => h3 x (List.mem_cons_of_mem _ hx), ?_, Or.inr (Or.inr (Or.inl ⟨rfl, h3 g List.mem_cons_self, .par f.sg (f.its ++ [i]), par_ok hf hi, ?_, ?_⟩))⟩
        · have e : 21 - (g.sg :: r.map Fr.sg).length = 21 - s.st.length + 1 := by
            rw [hlen]
            simp
            omega
          show fsd (21 - (g.sg :: r.map Fr.sg).length) (g :: r)
          rw [e]
          exact h4.2
        · show pd (.par f.sg (f.its ++ [i])) ≤ 21 - (g.sg :: r.map Fr.sg).length
          have e : 21 - (g.sg :: r.map Fr.sg).length = 21 - s.st.length + 1 := by
            rw [hlen]
            simp
            omega
          rw [e, pd, pds_app]
          have h41 := h4.1
          omega
        · rw [hp, hc2, par_text]
          show (lower (g :: r) ++ 40 :: pre f.sg f.its) ++ itext i ++ [41] = _
          simp
    · rw [if_neg hc2] at h
      cases h
theorem beg_step {s s' : Sc} {p : L} {c : Nat} (B : Beg s p) (h : step s c = some s') : Beg s' (p ++ [c]) := by
  obtain ⟨f, fs, h1, h2, h3, h4, hB⟩ := B
  unfold step at h
  rcases hB with ⟨ha, hf, hp⟩ | ⟨ha, hf, x, hx0, hxl, hl6, hx, hp⟩ | ⟨ha, hf, i, hi, hd, hp⟩ | ⟨ha, hf, i, hi, hd, hp⟩ | ⟨ha, hf, hs, i, hi, hd, hp⟩
  · -- an item is awaited
    rw [if_pos ha] at h
    by_cases hc : c = 40
    · rw [if_pos hc] at h
      by_cases hn : s.st.length < 21
      · rw [if_pos hn] at h
        injection h with h
        subst h
        refine ⟨⟨0, []⟩, f :: fs, by show 0 :: s.st = 0 :: f.sg :: fs.map Fr.sg; rw [h1], by show s.st.length + 1 ≤ 21; omega, ?_, ?_, Or.inl ⟨rfl, ⟨by show okL []; rw [okL]; trivial, Or.inl ⟨rfl, rfl⟩⟩, ?_⟩⟩
        · intro g hg
          rcases List.mem_cons.mp hg with e | e
          · rw [e]; exact hf
          · exact h3 g e
        · refine ⟨by show pds [] ≤ _; rw [pds]; omega, ?_⟩
          show fsd (21 - (s.st.length + 1) + 1) (f :: fs)
          have e : 21 - (s.st.length + 1) + 1 = 21 - s.st.length := by omega
          rw [e]
          exact h4
        · rw [lower_open, hp, hc]
      · rw [if_neg hn] at h
        cases h
    · rw [if_neg hc] at h
      by_cases hL : isL c = true
      · rw [if_pos hL] at h
        injection h with h
        subst h
        exact beg_name (x := []) h1 h2 h3 h4 hf (by simp) (by decide) hL (by rw [hp, List.append_nil])
      · rw [if_neg hL] at h
        cases h
  · -- within a name
    rw [if_neg (by omega), if_neg (by omega), if_neg (by omega)] at h
    by_cases hL : isL c = true
    · rw [if_pos ⟨ha, hL⟩] at h
      unfold stepN at h
      rw [if_pos hL] at h
      by_cases hn : s.le < 6
      · rw [if_pos hn] at h
        injection h with h
        subst h
        have q := beg_name (s := s) h1 h2 h3 h4 hf hx (by omega) hL hp
        rw [hxl] at q
        exact q
      · rw [if_neg hn] at h
        cases h
    · rw [if_neg (fun z => hL z.2)] at h
      exact beg_end (i := .nm x) h1 h2 h3 h4 hf (by rw [okI]; exact ⟨hx0, by omega, hx⟩) (by rw [pd]; omega) (by rw [hp, itext]) h
  · -- behind a parenthesis
    rw [if_neg (by omega), if_neg (by omega), if_neg (by omega), if_neg (fun z => by omega)] at h
    exact beg_end h1 h2 h3 h4 hf hi hd hp h
  · -- behind a blank
    rw [if_neg (by omega), if_neg (by omega), if_pos ha, h1] at h
    have h : (if (c = 38 ∨ c = 124) ∧ (f.sg = 0 ∨ f.sg = c) then (some ⟨4, s.le, c :: fs.map Fr.sg⟩ : Option Sc) else none) = some s' := h
    by_cases hc : (c = 38 ∨ c = 124) ∧ (f.sg = 0 ∨ f.sg = c)
    · rw [if_pos hc] at h
      injection h with h
      subst h
      obtain ⟨hc1, hc2⟩ := hc
      have hlen : s.st.length = fs.length + 1 := by rw [h1]; simp
      have e0 : 21 - (c :: fs.map Fr.sg).length = 21 - s.st.length := by rw [hlen]; simp
      refine ⟨{ f with sg := c }, fs, rfl, by show (c :: fs.map Fr.sg).length ≤ 21; simp; omega, h3, ?_, Or.inr (Or.inr (Or.inr (Or.inr ⟨rfl, hf.1, hc1, i, hi, ?_, ?_⟩)))⟩
      · show fsd (21 - (c :: fs.map Fr.sg).length) _
        rw [e0]
        exact ⟨h4.1, h4.2⟩
      · show pd i ≤ 21 - (c :: fs.map Fr.sg).length
        rw [e0]
        exact hd
      · have e : lower ({ f with sg := c } :: fs) = lower (f :: fs) := by
          rcases hf.2 with ⟨z1, z2⟩ | ⟨z1, z2⟩
          · exact lower_sg f c fs z2
          · have ef : f.sg = c := by
              rcases hc2 with z | z
              · omega
              · exact z
            rw [← ef]
        rw [e, hp]
        simp
    · rw [if_neg hc] at h
      cases h
  · -- behind a sign
    rw [if_neg (by omega), if_pos ha] at h
    by_cases hc : c = 32
    · rw [if_pos hc] at h
      injection h with h
      subst h
      refine ⟨{ f with its := f.its ++ [i] }, fs, h1, h2, h3, ⟨?_, h4.2⟩, Or.inl ⟨rfl, frOk_app hf hs hi, ?_⟩⟩
      · show pds (f.its ++ [i]) ≤ 21 - s.st.length
        rw [pds_app]
        have h41 := h4.1
        omega
      · rw [lower_app, hp, hc]
        simp
    · rw [if_neg hc] at h
      cases h
theorem beg_run : ∀ (x : L) {s s' : Sc} {p : L}, Beg s p → runTo s x = some s' → Beg s' (p ++ x)
  | [], s, s', p, B, h => by
    injection h with h
    rw [List.append_nil, ← h]
    exact B
  | c :: r, s, s', p, B, h => by
    cases e : step s c with
    | none =>
      rw [runTo, e] at h
      cases h
    | some s2 =>
      rw [runTo, e] at h
      have q := beg_run r (beg_step B e) h
      rw [List.append_assoc] at q
      exact q
/-- a whole text: one item, or items with one sign between -/
structure Tx where
  sg : Nat
  l : List Itm
def Tx.text (t : Tx) : L := ltext t.sg t.l
def Tx.ok (t : Tx) : Prop := okI (.par t.sg t.l) ∧ pds t.l ≤ 20
theorem whole_text {x : L} {n : Nat} (h : scanRes x = (n, true)) : n = x.length ∧ ∃ t : Tx, t.ok ∧ x = t.text := by
  obtain ⟨s', h1, h2, h3⟩ := scanGo_whole x sc0 0 n h
  have B := beg_run x beg_start h1
  rw [List.nil_append] at B
  refine ⟨by omega, ?_⟩
  obtain ⟨f, fs, b1, b2, b3, b4, hB⟩ := B
  unfold endOk at h2
  rw [Bool.and_eq_true, Bool.or_eq_true, decide_eq_true_eq, decide_eq_true_eq, decide_eq_true_eq] at h2
  obtain ⟨ha, hl⟩ := h2
  have hfs : fs = [] := by
    rw [b1] at hl
    cases fs with
    | nil => rfl
    | cons g r =>
      simp at hl
  subst hfs
  have fin : ∀ i : Itm, frOk f → okI i → pd i ≤ 21 - s'.st.length → x = lower [f] ++ itext i → ∃ t : Tx, t.ok ∧ x = t.text := by
    intro i hf hi hd hx
    rw [hl] at hd
    refine ⟨⟨f.sg, f.its ++ [i]⟩, ⟨par_ok hf hi, ?_⟩, ?_⟩
    · show pds (f.its ++ [i]) ≤ 20
      rw [pds_app]
      have q := b4.1
      rw [hl] at q
      omega
    · show x = ltext f.sg (f.its ++ [i])
      rw [ltext_last, hx]
      rfl
  rcases hB with ⟨a, _⟩ | ⟨a, hf, y, hy0, hyl, hl6, hy, hp⟩ | ⟨a, hf, i, hi, hd, hp⟩ | ⟨a, _⟩ | ⟨a, _⟩
  · omega
  · exact fin (.nm y) hf (by rw [okI]; exact ⟨hy0, by omega, hy⟩) (by rw [pd]; omega) (by rw [hp, itext])
  · exact fin i hf hi hd hp
  · omega
  · omega
end Pe
/-! Pooled eyes, the plain law, part B: circles as trees; what a whole text is read as; the machine over words gives just that. -/
namespace Pe
/-- a circle: an eye, or a pool (true) or a common (false) of parts -/
inductive Nd where
  | eye (x : L)
  | nd (b : Bool) (l : List Nd)
mutual
def size : Nd → Nat
  | .eye _ => 1
  | .nd _ l => sizes l
def sizes : List Nd → Nat
  | [] => 0
  | n :: r => size n + sizes r
end
mutual
def depth : Nd → Nat
  | .eye _ => 0
  | .nd _ l => 1 + depths l
def depths : List Nd → Nat
  | [] => 0
  | n :: r => max (depth n) (depths r)
end
mutual
def leaves : Nd → List L
  | .eye x => [x]
  | .nd _ l => leavess l
def leavess : List Nd → List L
  | [] => []
  | n :: r => leaves n ++ leavess r
end
def sgOf (b : Bool) : Nat := if b then 38 else 124
mutual
def toI : Nd → Itm
  | .eye x => .nm x
  | .nd b l => .par (sgOf b) (toIs l)
def toIs : List Nd → List Itm
  | [] => []
  | n :: r => toI n :: toIs r
end
/-- the text of a circle -/
def words : Nd → L
  | .eye x => x
  | .nd b l => ltext (sgOf b) (toIs l)
/-- the text of a circle as a part -/
def pwords (n : Nd) : L := itext (toI n)
theorem pwords_eye (x : L) : pwords (.eye x) = x := by unfold pwords; rw [toI, itext]
theorem pwords_nd (b : Bool) (l : List Nd) : pwords (.nd b l) = 40 :: (words (.nd b l) ++ [41]) := by unfold pwords; rw [toI, itext, words]

open Classical in
/-- each once, where it comes first -/
noncomputable def dedup (acc : List Nd) : List Nd → List Nd
  | [] => acc
  | n :: r => if n ∈ acc then dedup acc r else dedup (acc ++ [n]) r
def flat1 (b : Bool) : Nd → List Nd
  | .eye x => [.eye x]
  | .nd c l => if c = b then l else [.nd c l]
def flat (b : Bool) (l : List Nd) : List Nd := l.flatMap (flat1 b)
def pack (b : Bool) : List Nd → Nd
  | [n] => n
  | l => .nd b l
noncomputable def rowsOf (b : Bool) (l : List Nd) : List Nd := dedup [] (flat b l)
noncomputable def joinN (b : Bool) (l : List Nd) : Nd := pack b (rowsOf b l)
/-- true: too many eyes; false: too deep -/
noncomputable def chk (b : Bool) (l : List Nd) : Except Bool Nd :=
  if 60 < size (joinN b l) then .error true else if 20 < depth (joinN b l) then .error false else .ok (joinN b l)
noncomputable def close (sg : Nat) (l : List Nd) : Except Bool Nd :=
  if sg = 38 then chk true l else if sg = 124 then chk false l else match l with
    | n :: _ => .ok n
    | [] => .ok (.eye [])
mutual
noncomputable def ev : Itm → Except Bool Nd
  | .nm x => .ok (.eye x)
  | .par sg l => match evs l with
    | .error e => .error e
    | .ok ns => close sg ns
noncomputable def evs : List Itm → Except Bool (List Nd)
  | [] => .ok []
  | i :: r => match ev i with
    | .error e => .error e
    | .ok n => match evs r with
      | .error e => .error e
      | .ok ns => .ok (n :: ns)
end
noncomputable def Tx.ev (t : Tx) : Except Bool Nd := Pe.ev (.par t.sg t.l)

/-! ### the words of a text, and the machine over them -/
mutual
def itoks : Itm → List L
  | .nm x => [x]
  | .par sg l => [40] :: (ltoks sg l ++ [[41]])
def ltoks (sg : Nat) : List Itm → List L
  | [] => []
  | i :: r => itoks i ++ rtoks sg r
def rtoks (sg : Nat) : List Itm → List L
  | [] => []
  | i :: r => [sg] :: (itoks i ++ rtoks sg r)
end
def Tx.toks (t : Tx) : List L := ltoks t.sg t.l
abbrev Stk := List (Nat × List Nd)
/-- one word -/
noncomputable def tstep (w : L) (S : Stk) : Except Bool Stk :=
  if w = [40] then .ok ((0, []) :: S)
  else if w = [41] then (match S with
    | (sg, its) :: (sg2, its2) :: S2 => (match close sg its with
      | .error e => .error e
      | .ok n => .ok ((sg2, its2 ++ [n]) :: S2))
    | S => .ok S)
  else if w = [38] ∨ w = [124] then (match S with
    | (_, its) :: S2 => .ok ((w.headD 0, its) :: S2)
    | [] => .ok [])
  else (match S with
    | (sg, its) :: S2 => .ok ((sg, its ++ [.eye w]) :: S2)
    | [] => .ok [])
noncomputable def tend : Stk → Except Bool Nd
  | (sg, its) :: _ => close sg its
  | [] => .ok (.eye [])
noncomputable def trun : List L → Stk → Except Bool Nd
  | [], S => tend S
  | w :: ws, S => match tstep w S with
    | .error e => .error e
    | .ok S' => trun ws S'
theorem isL_ne {c d : Nat} (h : isL c = true) (hd : d < 97 ∨ 122 < d) : c ≠ d := by
  unfold isL at h
  rw [Bool.and_eq_true, decide_eq_true_eq, decide_eq_true_eq] at h
  omega
theorem name_ne {x : L} (h0 : x ≠ []) (h : ∀ c ∈ x, isL c = true) {d : Nat} (hd : d < 97 ∨ 122 < d) : x ≠ [d] := by
  intro e
  subst e
  exact isL_ne (h d List.mem_cons_self) hd rfl
theorem trun_ok {w : L} {ws : List L} {S S' : Stk} (h : tstep w S = .ok S') : trun (w :: ws) S = trun ws S' := by
  rw [trun, h]
theorem tstep_open (S : Stk) : tstep [40] S = .ok ((0, []) :: S) := by
  unfold tstep
  rw [if_pos rfl]
theorem tstep_close (sg sg2 : Nat) (its its2 : List Nd) (S : Stk) : tstep [41] ((sg, its) :: (sg2, its2) :: S) = (match close sg its with
    | .error e => .error e
    | .ok n => .ok ((sg2, its2 ++ [n]) :: S)) := by
  unfold tstep
  rw [if_neg (by decide), if_pos rfl]
theorem tstep_sign {c : Nat} (hc : c = 38 ∨ c = 124) (sg : Nat) (its : List Nd) (S : Stk) : tstep [c] ((sg, its) :: S) = .ok ((c, its) :: S) := by
  unfold tstep
  rw [if_neg (by rcases hc with e | e <;> subst e <;> decide), if_neg (by rcases hc with e | e <;> subst e <;> decide), if_pos (by rcases hc with e | e <;> subst e <;> simp)]
  rfl
theorem tstep_name {x : L} (h0 : x ≠ []) (h : ∀ c ∈ x, isL c = true) (sg : Nat) (its : List Nd) (S : Stk) : tstep x ((sg, its) :: S) = .ok ((sg, its ++ [.eye x]) :: S) := by
  unfold tstep
  rw [if_neg (name_ne h0 h (by omega)), if_neg (name_ne h0 h (by omega)), if_neg]
  intro z
  rcases z with z | z
  · exact name_ne h0 h (by omega) z
  · exact name_ne h0 h (by omega) z
theorem trun_open (ws : List L) (S : Stk) : trun ([40] :: ws) S = trun ws ((0, []) :: S) := trun_ok (tstep_open S)
theorem trun_close (ws : List L) (sg sg2 : Nat) (its its2 : List Nd) (S : Stk) : trun ([41] :: ws) ((sg, its) :: (sg2, its2) :: S) = (match close sg its with
    | .error e => .error e
    | .ok n => trun ws ((sg2, its2 ++ [n]) :: S)) := by
  rw [trun, tstep_close]
  cases close sg its <;> rfl
theorem trun_sign {c : Nat} (hc : c = 38 ∨ c = 124) (ws : List L) (sg : Nat) (its : List Nd) (S : Stk) : trun ([c] :: ws) ((sg, its) :: S) = trun ws ((c, its) :: S) := trun_ok (tstep_sign hc sg its S)
theorem trun_name {x : L} (h0 : x ≠ []) (h : ∀ c ∈ x, isL c = true) (ws : List L) (sg : Nat) (its : List Nd) (S : Stk) : trun (x :: ws) ((sg, its) :: S) = trun ws ((sg, its ++ [.eye x]) :: S) := trun_ok (tstep_name h0 h sg its S)
mutual
theorem trun_item : ∀ (i : Itm), okI i → ∀ (ws : List L) (sg : Nat) (its : List Nd) (S : Stk), trun (itoks i ++ ws) ((sg, its) :: S) = (match ev i with
    | .error e => .error e
    | .ok n => trun ws ((sg, its ++ [n]) :: S))
  | .nm x, h, ws, sg, its, S => by
    rw [okI] at h
    rw [itoks, ev]
    exact trun_name h.1 h.2.2 ws sg its S
  | .par sg l, h, ws, sg2, its2, S => by
    rw [okI] at h
    obtain ⟨hl, hs⟩ := h
    rw [itoks, ev]
    show trun ([40] :: ((ltoks sg l ++ [[41]]) ++ ws)) _ = _
    rw [trun_open, List.append_assoc]
    have key := trun_items l hl sg ([[41]] ++ ws) ((sg2, its2) :: S) (by
      rcases hs with ⟨_, h2⟩ | ⟨h1, _⟩
      · exact Or.inl h2
      · exact Or.inr h1)
    rw [key]
    cases e : evs l with
    | error e => rfl
    | ok ns =>
      have hlen : (if l.length ≤ 1 then 0 else sg) = sg := by
        rcases hs with ⟨h1, h2⟩ | ⟨_, h2⟩
        · rw [if_pos (by omega), h1]
        · rw [if_neg (by omega)]
      show trun ([[41]] ++ ws) (((if l.length ≤ 1 then 0 else sg), ns) :: (sg2, its2) :: S) = _
      rw [hlen]
      exact trun_close ws sg sg2 ns its2 S
/-- the items of a level that is just open -/
theorem trun_items : ∀ (l : List Itm), okL l → ∀ (sg : Nat) (ws : List L) (S : Stk), (l.length = 1 ∨ (sg = 38 ∨ sg = 124)) → trun (ltoks sg l ++ ws) ((0, []) :: S) = (match evs l with
    | .error e => .error e
    | .ok ns => trun ws (((if l.length ≤ 1 then 0 else sg), ns) :: S))
  | [], _, sg, ws, S, _ => by
    rw [ltoks, evs]
    rfl
  | i :: r, h, sg, ws, S, hs => by
    rw [okL] at h
    rw [ltoks, List.append_assoc, trun_item i h.1, evs]
    cases e : ev i with
    | error e => rfl
    | ok n =>
      show trun (rtoks sg r ++ ws) ((0, [] ++ [n]) :: S) = _
      rw [trun_rest r h.2 sg ws 0 ([] ++ [n]) S (by
        rcases hs with z | z
        · left
          rw [List.length_cons] at z
          exact List.length_eq_zero_iff.mp (by omega)
        · exact Or.inr z)]
      cases e2 : evs r with
      | error e => rfl
      | ok ns =>
        show trun ws (((if r.length = 0 then 0 else sg), ([] ++ [n]) ++ ns) :: S) = trun ws (((if (i :: r).length ≤ 1 then 0 else sg), n :: ns) :: S)
        have e3 : (if r.length = 0 then 0 else sg) = (if (i :: r).length ≤ 1 then 0 else sg) := by
          rw [List.length_cons]
          by_cases hr : r.length = 0
          · rw [if_pos hr, if_pos (by omega)]
          · rw [if_neg hr, if_neg (by omega)]
        rw [e3]
        rfl
theorem trun_rest : ∀ (r : List Itm), okL r → ∀ (sg : Nat) (ws : List L) (sg0 : Nat) (its : List Nd) (S : Stk), (r = [] ∨ (sg = 38 ∨ sg = 124)) → trun (rtoks sg r ++ ws) ((sg0, its) :: S) = (match evs r with
    | .error e => .error e
    | .ok ns => trun ws (((if r.length = 0 then sg0 else sg), its ++ ns) :: S))
  | [], _, sg, ws, sg0, its, S, _ => by
    rw [rtoks, evs]
    show trun ws ((sg0, its) :: S) = trun ws (((if ([] : List Itm).length = 0 then sg0 else sg), its ++ []) :: S)
    rw [List.append_nil, if_pos (show ([] : List Itm).length = 0 from rfl)]
  | i :: r, h, sg, ws, sg0, its, S, hs => by
    rw [okL] at h
    have hsg : sg = 38 ∨ sg = 124 := by
      rcases hs with z | z
      · cases z
      · exact z
    rw [rtoks]
    show trun ([sg] :: (itoks i ++ rtoks sg r ++ ws)) _ = _
    rw [trun_sign hsg, List.append_assoc, trun_item i h.1, evs]
    cases e : ev i with
    | error e => rfl
    | ok n =>
      show trun (rtoks sg r ++ ws) ((sg, its ++ [n]) :: S) = _
      rw [trun_rest r h.2 sg ws sg (its ++ [n]) S (Or.inr hsg)]
      cases e2 : evs r with
      | error e => rfl
      | ok ns =>
        show trun ws (((if r.length = 0 then sg else sg), (its ++ [n]) ++ ns) :: S) = trun ws (((if (i :: r).length = 0 then sg0 else sg), its ++ (n :: ns)) :: S)
        have e3 : (if r.length = 0 then sg else sg) = sg := by
          by_cases hr : r.length = 0
          · rw [if_pos hr]
          · rw [if_neg hr]
        have e4 : (if (i :: r).length = 0 then sg0 else sg) = sg := by rw [if_neg (by rw [List.length_cons]; omega)]
        rw [e3, e4, List.append_assoc]
        rfl
end
/-- the machine over the words of a whole text gives what it is read as -/
theorem trun_whole {t : Tx} (h : t.ok) : trun t.toks [(0, [])] = t.ev := by
  obtain ⟨h1, _⟩ := h
  have h1 := h1
  rw [okI] at h1
  obtain ⟨hl, hs⟩ := h1
  have key := trun_items t.l hl t.sg [] [] (by
    rcases hs with ⟨_, h2⟩ | ⟨h1, _⟩
    · exact Or.inl h2
    · exact Or.inr h1)
  rw [List.append_nil] at key
  show trun (ltoks t.sg t.l) [(0, [])] = ev (.par t.sg t.l)
  rw [key, ev]
  cases e : evs t.l with
  | error e => rfl
  | ok ns =>
    have hlen : (if t.l.length ≤ 1 then 0 else t.sg) = t.sg := by
      rcases hs with ⟨h1, h2⟩ | ⟨_, h2⟩
      · rw [if_pos (by omega), h1]
      · rw [if_neg (by omega)]
    show trun [] [((if t.l.length ≤ 1 then 0 else t.sg), ns)] = close t.sg ns
    rw [hlen, trun, tend]
end Pe
/-! Pooled eyes, the plain law, part C: the words of a text, by blanks; a text says its words, and so what it is read as. -/
namespace Pe
/-- a sign put in for another -/
def r1 (c : Nat) (z : L) (l : L) : L := l.flatMap fun d => if d = c then z else [d]
theorem r1_app (c : Nat) (z a b : L) : r1 c z (a ++ b) = r1 c z a ++ r1 c z b := by
  unfold r1
  rw [List.flatMap_append]
theorem r1_free (c : Nat) (z : L) : ∀ (l : L), c ∉ l → r1 c z l = l
  | [], _ => rfl
  | d :: r, h => by
    have h1 : d ≠ c := fun e => h (by rw [e]; exact List.mem_cons_self)
    have h2 : c ∉ r := fun e => h (List.mem_cons_of_mem _ e)
    have ih := r1_free c z r h2
    show (if d = c then z else [d]) ++ r1 c z r = _
    rw [if_neg h1, ih]
    rfl
/-- blanks laid around the parentheses -/
def rr (l : L) : L := r1 41 [32, 41] (r1 40 [40, 32] l)
theorem rr_app (a b : L) : rr (a ++ b) = rr a ++ rr b := by unfold rr; rw [r1_app, r1_app]
theorem rr_free (l : L) (h : 40 ∉ l) (h2 : 41 ∉ l) : rr l = l := by unfold rr; rw [r1_free 40 _ l h, r1_free 41 _ l h2]
theorem rr_open (l : L) : rr (40 :: l) = 40 :: 32 :: rr l := by
  have e : 40 :: l = [40] ++ l := rfl
  rw [e, rr_app]
  rfl
theorem rr_shut : rr [41] = [32, 41] := rfl
/-- words with one blank between -/
def joinB : List L → L
  | [] => []
  | [w] => w
  | w :: v :: r => w ++ 32 :: joinB (v :: r)
theorem joinB_cons (w : L) {r : List L} (h : r ≠ []) : joinB (w :: r) = w ++ 32 :: joinB r := by
  cases r with
  | nil => exact absurd rfl h
  | cons v r => rfl
theorem joinB_app : ∀ (a : List L) {b : List L}, a ≠ [] → b ≠ [] → joinB (a ++ b) = joinB a ++ 32 :: joinB b
  | [], _, h, _ => absurd rfl h
  | [w], b, _, hb => joinB_cons w hb
  | w :: v :: r, b, _, hb => by
    have ih := joinB_app (v :: r) (b := b) (by simp) hb
    show joinB (w :: (v :: r ++ b)) = _
    rw [joinB_cons w (by simp), ih]
    show _ = (w ++ 32 :: joinB (v :: r)) ++ 32 :: joinB b
    simp
theorem itoks_ne : ∀ i : Itm, itoks i ≠ []
  | .nm x => by rw [itoks]; simp
  | .par sg l => by rw [itoks]; simp
theorem ltoks_ne (sg : Nat) : ∀ {l : List Itm}, l ≠ [] → ltoks sg l ≠ []
  | [], h => absurd rfl h
  | i :: r, _ => by
    rw [ltoks]
    intro e
    exact itoks_ne i (List.append_eq_nil_iff.mp e).1
theorem letters_free {x : L} (h : ∀ c ∈ x, isL c = true) {d : Nat} (hd : d < 97 ∨ 122 < d) : d ∉ x := fun m => isL_ne (h d m) hd rfl
theorem ok_ne {sg : Nat} {l : List Itm} (h : okI (.par sg l)) : l ≠ [] := by
  rw [okI] at h
  intro e
  subst e
  rcases h.2 with ⟨_, h⟩ | ⟨_, h⟩
  · cases h
  · exact absurd h (by decide)
mutual
theorem rr_item : ∀ (i : Itm), okI i → rr (itext i) = joinB (itoks i)
  | .nm x, h => by
    rw [okI] at h
    rw [itext, itoks, rr_free x (letters_free h.2.2 (by omega)) (letters_free h.2.2 (by omega))]
    rfl
  | .par sg l, h => by
    have hne := ok_ne h
    rw [okI] at h
    rw [itext, itoks, rr_open, rr_app, rr_shut, joinB_cons _ (by simp), joinB_app _ (ltoks_ne sg hne) (by simp)]
    rw [rr_items l h.1 sg (by
      rcases h.2 with ⟨_, z⟩ | ⟨z, _⟩
      · exact Or.inl z
      · exact Or.inr z) hne]
    simp [joinB]
theorem rr_items : ∀ (l : List Itm), okL l → ∀ (sg : Nat), (l.length = 1 ∨ (sg = 38 ∨ sg = 124)) → l ≠ [] → rr (ltext sg l) = joinB (ltoks sg l)
  | [], _, _, _, h => absurd rfl h
  | i :: r, h, sg, hs, _ => by
    rw [okL] at h
    rw [ltext, ltoks, rr_app, rr_item i h.1]
    cases r with
    | nil => rw [rtext, rtoks, List.append_nil]; show joinB (itoks i) ++ [] = _; rw [List.append_nil]
    | cons j r =>
      have hsg : sg = 38 ∨ sg = 124 := by
        rcases hs with z | z
        · rw [List.length_cons, List.length_cons] at z
          omega
        · exact z
      rw [joinB_app _ (itoks_ne i) (by rw [rtoks]; simp), rr_rest (j :: r) h.2 sg hsg (by simp)]
theorem rr_rest : ∀ (r : List Itm), okL r → ∀ (sg : Nat), (sg = 38 ∨ sg = 124) → r ≠ [] → rr (rtext sg r) = 32 :: joinB (rtoks sg r)
  | [], _, _, _, h => absurd rfl h
  | i :: r, h, sg, hsg, _ => by
    rw [okL] at h
    have e : rtext sg (i :: r) = [32, sg, 32] ++ (itext i ++ rtext sg r) := by rw [rtext]; rfl
    have e2 : rr [32, sg, 32] = [32, sg, 32] := rr_free _ (by simp; omega) (by simp; omega)
    rw [e, rr_app, rr_app, rr_item i h.1, e2, rtoks]
    cases r with
    | nil =>
      rw [rtext, rtoks, List.append_nil, joinB_cons _ (itoks_ne i)]
      show [32, sg, 32] ++ (joinB (itoks i) ++ []) = 32 :: ([sg] ++ 32 :: joinB (itoks i))
      simp
    | cons j r =>
      rw [rr_rest (j :: r) h.2 sg hsg (by simp), joinB_cons _ (by intro z; exact itoks_ne i (List.append_eq_nil_iff.mp z).1), joinB_app _ (itoks_ne i) (by rw [rtoks]; simp)]
      simp
end
theorem rr_text {t : Tx} (h : t.ok) : rr t.text = joinB t.toks := by
  have h1 := h.1
  rw [okI] at h1
  exact rr_items t.l h1.1 t.sg (by
    rcases h1.2 with ⟨_, z⟩ | ⟨z, _⟩
    · exact Or.inl z
    · exact Or.inr z) (ok_ne h.1)
/-! no word has a blank -/
mutual
theorem toks_free : ∀ (i : Itm), okI i → ∀ w ∈ itoks i, 32 ∉ w
  | .nm x, h => by
    rw [okI] at h
    rw [itoks]
    intro w hw
    rw [List.mem_singleton.mp hw]
    exact letters_free h.2.2 (by omega)
  | .par sg l, h => by
    rw [okI] at h
    rw [itoks]
    intro w hw
    rcases List.mem_cons.mp hw with e | hw
    · rw [e]; decide
    · rcases List.mem_append.mp hw with hw | hw
      · exact ltoks_free l h.1 sg (by
          rcases h.2 with ⟨_, z⟩ | ⟨z, _⟩
          · exact Or.inl z
          · exact Or.inr z) w hw
      · rw [List.mem_singleton.mp hw]; decide
theorem ltoks_free : ∀ (l : List Itm), okL l → ∀ (sg : Nat), (l.length = 1 ∨ (sg = 38 ∨ sg = 124)) → ∀ w ∈ ltoks sg l, 32 ∉ w
  | [], _, sg, _ => by
    rw [ltoks]
    intro w hw
    cases hw
  | i :: r, h, sg, hs => by
    rw [okL] at h
    rw [ltoks]
    intro w hw
    rcases List.mem_append.mp hw with hw | hw
    · exact toks_free i h.1 w hw
    · cases r with
      | nil => rw [rtoks] at hw; cases hw
      | cons j r =>
        exact rtoks_free (j :: r) h.2 sg (by
          rcases hs with z | z
          · rw [List.length_cons, List.length_cons] at z
            omega
          · exact z) w hw
theorem rtoks_free : ∀ (r : List Itm), okL r → ∀ (sg : Nat), (sg = 38 ∨ sg = 124) → ∀ w ∈ rtoks sg r, 32 ∉ w
  | [], _, sg, _ => by
    rw [rtoks]
    intro w hw
    cases hw
  | i :: r, h, sg, hsg => by
    rw [okL] at h
    rw [rtoks]
    intro w hw
    rcases List.mem_cons.mp hw with e | hw
    · rw [e]
      simp
      omega
    · rcases List.mem_append.mp hw with hw | hw
      · exact toks_free i h.1 w hw
      · exact rtoks_free r h.2 sg hsg w hw
end
theorem Tx.toks_free {t : Tx} (h : t.ok) : ∀ w ∈ t.toks, 32 ∉ w := by
  have h1 := h.1
  rw [okI] at h1
  exact Pe.ltoks_free t.l h1.1 t.sg (by
    rcases h1.2 with ⟨_, z⟩ | ⟨z, _⟩
    · exact Or.inl z
    · exact Or.inr z)
theorem Tx.toks_ne {t : Tx} (h : t.ok) : t.toks ≠ [] := Pe.ltoks_ne t.sg (ok_ne h.1)
/-- words without blanks are told by their joined text -/
def spB : L → L → List L
  | acc, [] => [acc]
  | acc, c :: r => if c = 32 then acc :: spB [] r else spB (acc ++ [c]) r
theorem spB_word : ∀ (w acc r : L), 32 ∉ w → spB acc (w ++ r) = spB (acc ++ w) r
  | [], acc, r, _ => by rw [List.append_nil]; rfl
  | c :: w, acc, r, h => by
    have h1 : c ≠ 32 := fun e => h (by rw [e]; exact List.mem_cons_self)
    have h2 : 32 ∉ w := fun e => h (List.mem_cons_of_mem _ e)
    show spB acc (c :: (w ++ r)) = _
    rw [spB, if_neg h1, spB_word w _ r h2, List.append_assoc]
    rfl
theorem spB_join : ∀ (ws : List L), ws ≠ [] → (∀ w ∈ ws, 32 ∉ w) → spB [] (joinB ws) = ws
  | [], h, _ => absurd rfl h
  | [w], _, h => by
    have q := spB_word w [] [] (h w List.mem_cons_self)
    rw [List.append_nil, List.nil_append] at q
    exact q
  | w :: v :: r, _, h => by
    have q := spB_word w [] (32 :: joinB (v :: r)) (h w List.mem_cons_self)
    rw [List.nil_append, spB, if_pos rfl, spB_join (v :: r) (by simp) (fun x hx => h x (List.mem_cons_of_mem _ hx))] at q
    exact q
theorem Tx.split {t : Tx} (h : t.ok) : spB [] (rr t.text) = t.toks := by
  rw [rr_text h]
  exact spB_join _ (Tx.toks_ne h) (Tx.toks_free h)
/-- the text alone says what it is read as -/
theorem ev_text {t u : Tx} (h : t.ok) (hu : u.ok) (e : t.text = u.text) : t.ev = u.ev := by
  have e2 : t.toks = u.toks := by rw [← Tx.split h, ← Tx.split hu, e]
  rw [← trun_whole h, ← trun_whole hu, e2]
end Pe
/-! Pooled eyes, the plain law, part D: circles in their one form; their texts tell them. -/
namespace Pe
mutual
def can : Nd → Prop
  | .eye x => x ≠ [] ∧ x.length ≤ 6 ∧ ∀ c ∈ x, isL c = true
  | .nd b l => cans l ∧ 2 ≤ l.length ∧ (∀ n ∈ l, ∀ k, n ≠ .nd b k) ∧ l.Nodup ∧ sizes l ≤ 60 ∧ 1 + depths l ≤ 20
def cans : List Nd → Prop
  | [] => True
  | n :: r => can n ∧ cans r
end
theorem cans_mem : ∀ {l : List Nd} {n : Nd}, cans l → n ∈ l → can n
  | [], _, _, h => by cases h
  | a :: r, n, h, m => by
    rw [cans] at h
    rcases List.mem_cons.mp m with e | e
    · rw [e]; exact h.1
    · exact cans_mem h.2 e
theorem cans_of : ∀ {l : List Nd}, (∀ n ∈ l, can n) → cans l
  | [], _ => by rw [cans]; trivial
  | a :: r, h => by
    rw [cans]
    exact ⟨h a List.mem_cons_self, cans_of fun n hn => h n (List.mem_cons_of_mem _ hn)⟩
theorem mem_dedup : ∀ (l acc : List Nd) (n : Nd), n ∈ dedup acc l ↔ n ∈ acc ∨ n ∈ l
  | [], acc, n => by rw [dedup]; simp
  | a :: r, acc, n => by
    rw [dedup]
    by_cases h : a ∈ acc
    · rw [if_pos h, mem_dedup r acc n]
      constructor
      · rintro (z | z)
        · exact Or.inl z
        · exact Or.inr (List.mem_cons_of_mem _ z)
      · rintro (z | z)
        · exact Or.inl z
        · rcases List.mem_cons.mp z with e | e
          · rw [e]; exact Or.inl h
          · exact Or.inr e
    · rw [if_neg h, mem_dedup r _ n]
      constructor
      · rintro (z | z)
        · rcases List.mem_append.mp z with e | e
          · exact Or.inl e
          · rw [List.mem_singleton.mp e]; exact Or.inr List.mem_cons_self
        · exact Or.inr (List.mem_cons_of_mem _ z)
      · rintro (z | z)
        · exact Or.inl (List.mem_append_left _ z)
        · rcases List.mem_cons.mp z with e | e
          · rw [e]; exact Or.inl (List.mem_append_right _ (List.mem_singleton.mpr rfl))
          · exact Or.inr e
theorem nodup_snoc {acc : List Nd} {a : Nd} (h : acc.Nodup) (ha : a ∉ acc) : (acc ++ [a]).Nodup := by
  rw [List.nodup_append]
  refine ⟨h, by simp, fun x hx y hy => ?_⟩
  rw [List.mem_singleton.mp hy]
  intro e
  exact ha (by rw [← e]; exact hx)
theorem nodup_dedup : ∀ (l acc : List Nd), acc.Nodup → (dedup acc l).Nodup
  | [], acc, h => by rw [dedup]; exact h
  | a :: r, acc, h => by
    rw [dedup]
    by_cases ha : a ∈ acc
    · rw [if_pos ha]; exact nodup_dedup r acc h
    · rw [if_neg ha]; exact nodup_dedup r _ (nodup_snoc h ha)
theorem dedup_nodup : ∀ (l acc : List Nd), (acc ++ l).Nodup → dedup acc l = acc ++ l
  | [], acc, _ => by rw [dedup, List.append_nil]
  | a :: r, acc, h => by
    have ha : a ∉ acc := by
      intro z
      rw [List.nodup_append] at h
      exact h.2.2 a z a List.mem_cons_self rfl
    rw [dedup, if_neg ha, dedup_nodup r (acc ++ [a]) (by rw [List.append_assoc]; exact h), List.append_assoc]
    rfl
theorem dedup_len : ∀ (l acc : List Nd), (dedup acc l).length ≤ acc.length + l.length
  | [], acc => by rw [dedup]; simp
  | a :: r, acc => by
    rw [dedup]
    by_cases ha : a ∈ acc
    · rw [if_pos ha]
      have := dedup_len r acc
      rw [List.length_cons]
      omega
    · rw [if_neg ha]
      have := dedup_len r (acc ++ [a])
      rw [List.length_append, List.length_singleton] at this
      rw [List.length_cons]
      omega
theorem mem_flat {b : Bool} {ns : List Nd} {n : Nd} (h : n ∈ flat b ns) : ∃ m ∈ ns, n ∈ flat1 b m := by
  unfold flat at h
  exact List.mem_flatMap.mp h
theorem flat1_can {b : Bool} {m n : Nd} (hm : can m) (h : n ∈ flat1 b m) : can n ∧ ∀ k, n ≠ .nd b k := by
  cases m with
  | eye x =>
    rw [flat1] at h
    rw [List.mem_singleton.mp h]
    exact ⟨hm, fun k e => by cases e⟩
  | nd c l =>
    rw [flat1] at h
    by_cases hc : c = b
    · rw [if_pos hc] at h
      rw [can] at hm
      subst hc
      exact ⟨cans_mem hm.1 h, hm.2.2.1 n h⟩
    · rw [if_neg hc] at h
      rw [List.mem_singleton.mp h]
      exact ⟨hm, fun k e => by injection e with e1 _; exact hc e1⟩
theorem rows_can {b : Bool} {ns : List Nd} (h : cans ns) : ∀ n ∈ rowsOf b ns, can n ∧ ∀ k, n ≠ .nd b k := by
  intro n hn
  unfold rowsOf at hn
  rcases (mem_dedup _ _ n).mp hn with z | z
  · cases z
  · obtain ⟨m, hm, hf⟩ := mem_flat z
    exact flat1_can (cans_mem h hm) hf
theorem flat1_ne {b : Bool} {m : Nd} (hm : can m) : flat1 b m ≠ [] := by
  cases m with
  | eye x => rw [flat1]; simp
  | nd c l =>
    rw [flat1]
    by_cases hc : c = b
    · rw [if_pos hc]
      rw [can] at hm
      intro e
      rw [e] at hm
      exact absurd hm.2.1 (by decide)
    · rw [if_neg hc]; simp
theorem rows_ne {b : Bool} {ns : List Nd} (h : cans ns) (hn : ns ≠ []) : rowsOf b ns ≠ [] := by
  cases ns with
  | nil => exact absurd rfl hn
  | cons m r =>
    rw [cans] at h
    cases e : flat1 b m with
    | nil => exact absurd e (flat1_ne h.1)
    | cons a q =>
      intro z
      have hm : a ∈ rowsOf b (m :: r) := by
        unfold rowsOf
        refine (mem_dedup _ _ a).mpr (Or.inr ?_)
        unfold flat
        exact List.mem_flatMap.mpr ⟨m, List.mem_cons_self, by rw [e]; exact List.mem_cons_self⟩
      rw [z] at hm
      cases hm
theorem chk_can {b : Bool} {ns : List Nd} {n : Nd} (h : cans ns) (hn : ns ≠ []) (e : chk b ns = .ok n) : can n := by
  unfold chk at e
  by_cases h1 : 60 < size (joinN b ns)
  · rw [if_pos h1] at e; cases e
  · rw [if_neg h1] at e
    by_cases h2 : 20 < depth (joinN b ns)
    · rw [if_pos h2] at e; cases e
    · rw [if_neg h2] at e
      injection e with e
      have hr := rows_can (b := b) h
      have hd : (rowsOf b ns).Nodup := nodup_dedup _ _ List.nodup_nil
      have hne := rows_ne (b := b) h hn
      unfold joinN at e h1 h2
      cases er : rowsOf b ns with
      | nil => exact absurd er hne
      | cons a r =>
        rw [er] at e h1 h2 hr hd
        cases r with
        | nil =>
          have e : a = n := e
          rw [← e]
          exact (hr a List.mem_cons_self).1
        | cons c r =>
          have e : Nd.nd b (a :: c :: r) = n := e
          rw [← e, can]
          have h1 : ¬ 60 < size (.nd b (a :: c :: r)) := h1
          have h2 : ¬ 20 < depth (.nd b (a :: c :: r)) := h2
          rw [size] at h1
          rw [depth] at h2
          exact ⟨cans_of fun x hx => (hr x hx).1, by simp, fun x hx => (hr x hx).2, hd, by omega, by omega⟩
theorem evs_len : ∀ {l : List Itm} {ns : List Nd}, evs l = .ok ns → ns.length = l.length
  | [], ns, e => by
    rw [evs] at e
    injection e with e
    rw [← e]
    rfl
  | i :: r, ns, e => by
    rw [evs] at e
    cases e1 : ev i with
    | error x => rw [e1] at e; cases e
    | ok n =>
      rw [e1] at e
      cases e2 : evs r with
      | error x => rw [e2] at e; cases e
      | ok ms =>
        rw [e2] at e
        have e : (Except.ok (n :: ms) : Except Bool (List Nd)) = .ok ns := e
        injection e with e
        rw [← e, List.length_cons, List.length_cons, evs_len e2]
theorem close_can {sg : Nat} {ns : List Nd} {n : Nd} (h : cans ns) (hn : ns ≠ []) (e : close sg ns = .ok n) : can n := by
  unfold close at e
  by_cases h1 : sg = 38
  · rw [if_pos h1] at e; exact chk_can h hn e
  · rw [if_neg h1] at e
    by_cases h2 : sg = 124
    · rw [if_pos h2] at e; exact chk_can h hn e
    · rw [if_neg h2] at e
      cases ns with
      | nil => exact absurd rfl hn
      | cons a r =>
        have e : (Except.ok a : Except Bool Nd) = .ok n := e
        injection e with e
        rw [← e]
        rw [cans] at h
        exact h.1
mutual
theorem ev_can : ∀ (i : Itm) (n : Nd), okI i → ev i = .ok n → can n
  | .nm x, n, h, e => by
    rw [ev] at e
    injection e with e
    rw [okI] at h
    rw [← e, can]
    exact h
  | .par sg l, n, h, e => by
    have hne := ok_ne h
    rw [okI] at h
    rw [ev] at e
    cases e1 : evs l with
    | error x => rw [e1] at e; cases e
    | ok ns =>
      rw [e1] at e
      refine close_can (evs_can l ns h.1 e1) ?_ e
      intro z
      have q := evs_len e1
      rw [z] at q
      exact hne (List.length_eq_zero_iff.mp q.symm)
theorem evs_can : ∀ (l : List Itm) (ns : List Nd), okL l → evs l = .ok ns → cans ns
  | [], ns, _, e => by
    rw [evs] at e
    injection e with e
    rw [← e, cans]
    trivial
  | i :: r, ns, h, e => by
    rw [okL] at h
    rw [evs] at e
    cases e1 : ev i with
    | error x => rw [e1] at e; cases e
    | ok n =>
      rw [e1] at e
      cases e2 : evs r with
      | error x => rw [e2] at e; cases e
      | ok ms =>
        rw [e2] at e
        have e : (Except.ok (n :: ms) : Except Bool (List Nd)) = .ok ns := e
        injection e with e
        rw [← e, cans]
        exact ⟨ev_can i n h.1 e1, evs_can r ms h.2 e2⟩
end
theorem Tx.ev_can {t : Tx} {n : Nd} (h : t.ok) (e : t.ev = .ok n) : can n := Pe.ev_can _ n h.1 e

/-! ### a circle in its one form reads as itself -/
theorem sgOf_two (b : Bool) : sgOf b = 38 ∨ sgOf b = 124 := by cases b <;> simp [sgOf]
theorem toIs_len : ∀ l : List Nd, (toIs l).length = l.length
  | [] => by rw [toIs]; rfl
  | n :: r => by rw [toIs, List.length_cons, List.length_cons, toIs_len r]
mutual
theorem toI_ok : ∀ n : Nd, can n → okI (toI n)
  | .eye x, h => by
    rw [can] at h
    rw [toI, okI]
    exact h
  | .nd b l, h => by
    rw [can] at h
    rw [toI, okI]
    exact ⟨toIs_ok l h.1, Or.inr ⟨sgOf_two b, by rw [toIs_len]; exact h.2.1⟩⟩
theorem toIs_ok : ∀ l : List Nd, cans l → okL (toIs l)
  | [], _ => by rw [toIs, okL]; trivial
  | n :: r, h => by
    rw [cans] at h
    rw [toIs, okL]
    exact ⟨toI_ok n h.1, toIs_ok r h.2⟩
end
mutual
theorem toI_pd : ∀ n : Nd, pd (toI n) ≤ depth n
  | .eye x => by rw [toI, pd, depth]; omega
  | .nd b l => by
    have := toIs_pd l
    rw [toI, pd, depth]
    omega
theorem toIs_pd : ∀ l : List Nd, pds (toIs l) ≤ depths l
  | [] => by rw [toIs, pds, depths]; omega
  | n :: r => by
    have h1 := toI_pd n
    have h2 := toIs_pd r
    rw [toIs, pds, depths]
    omega
end
theorem flat_self : ∀ {b : Bool} {l : List Nd}, (∀ n ∈ l, ∀ k, n ≠ .nd b k) → flat b l = l
  | b, [], _ => rfl
  | b, n :: r, h => by
    have ih := flat_self (b := b) (l := r) fun m hm => h m (List.mem_cons_of_mem _ hm)
    have h1 := h n List.mem_cons_self
    have e : flat1 b n = [n] := by
      cases n with
      | eye x => rw [flat1]
      | nd c k =>
        rw [flat1]
        by_cases hc : c = b
        · subst hc
          exact absurd rfl (h1 k)
        · rw [if_neg hc]
    show flat1 b n ++ flat b r = _
    rw [e, ih]
    rfl
theorem rows_self {b : Bool} {l : List Nd} (h : ∀ n ∈ l, ∀ k, n ≠ .nd b k) (hd : l.Nodup) : rowsOf b l = l := by
  unfold rowsOf
  rw [flat_self h, dedup_nodup l [] (by rw [List.nil_append]; exact hd), List.nil_append]
theorem pack_two {b : Bool} {l : List Nd} (h : 2 ≤ l.length) : pack b l = .nd b l := by
  cases l with
  | nil => exact absurd h (by decide)
  | cons a r =>
    cases r with
    | nil => exact absurd h (by simp)
    | cons c r => rfl
theorem chk_self {b : Bool} {l : List Nd} (h : can (.nd b l)) : chk b l = .ok (.nd b l) := by
  rw [can] at h
  obtain ⟨_, h2, h3, h4, h5, h6⟩ := h
  unfold chk joinN
  rw [rows_self h3 h4, pack_two h2, if_neg (by rw [size]; omega), if_neg (by rw [depth]; omega)]
theorem close_self {b : Bool} {l : List Nd} (h : can (.nd b l)) : close (sgOf b) l = .ok (.nd b l) := by
  unfold close
  cases b with
  | true => rw [if_pos (show sgOf true = 38 from rfl)]; exact chk_self h
  | false => rw [if_neg (by decide), if_pos (show sgOf false = 124 from rfl)]; exact chk_self h
mutual
theorem ev_self : ∀ n : Nd, can n → ev (toI n) = .ok n
  | .eye x, _ => by rw [toI, ev]
  | .nd b l, h => by
    have h0 := h
    rw [can] at h
    rw [toI, ev, evs_self l h.1]
    exact close_self h0
theorem evs_self : ∀ l : List Nd, cans l → evs (toIs l) = .ok l
  | [], _ => by rw [toIs, evs]
  | n :: r, h => by
    rw [cans] at h
    rw [toIs, evs, ev_self n h.1, evs_self r h.2]
end
def txOf : Nd → Tx
  | .eye x => ⟨0, [.nm x]⟩
  | .nd b l => ⟨sgOf b, toIs l⟩
theorem txOf_text : ∀ n : Nd, (txOf n).text = words n
  | .eye x => by
    show ltext 0 [.nm x] = _
    rw [ltext, itext, rtext, words, List.append_nil]
  | .nd b l => by
    show ltext (sgOf b) (toIs l) = _
    rw [words]
theorem txOf_ok : ∀ {n : Nd}, can n → (txOf n).ok
  | .eye x, h => by
    rw [can] at h
    refine ⟨?_, ?_⟩
    · show okI (.par 0 [.nm x])
      rw [okI, okL, okL, okI]
      exact ⟨⟨h, trivial⟩, Or.inl ⟨rfl, rfl⟩⟩
    · show pds [.nm x] ≤ 20
      rw [pds, pds, pd]
      omega
  | .nd b l, h => by
    have q := toI_ok _ h
    rw [toI] at q
    refine ⟨q, ?_⟩
    rw [can] at h
    have := toIs_pd l
    show pds (toIs l) ≤ 20
    omega
theorem txOf_ev : ∀ {n : Nd}, can n → (txOf n).ev = .ok n
  | .eye x, _ => by
    show ev (.par 0 [.nm x]) = _
    rw [ev, evs, ev, evs]
    rfl
  | .nd b l, h => by
    have q := ev_self _ h
    rw [toI] at q
    exact q
/-- circles in their one form with one text are one -/
theorem words_inj {n m : Nd} (hn : can n) (hm : can m) (e : words n = words m) : n = m := by
  have q := ev_text (txOf_ok hn) (txOf_ok hm) (by rw [txOf_text, txOf_text, e])
  rw [txOf_ev hn, txOf_ev hm] at q
  injection q
/-- each text once, where it comes first: the same -/
def dedT (acc : List Nd) : List Nd → List Nd
  | [] => acc
  | n :: r => if words n ∈ acc.map words then dedT acc r else dedT (acc ++ [n]) r
theorem dedT_eq : ∀ (l acc : List Nd), (∀ n ∈ acc, can n) → (∀ n ∈ l, can n) → dedT acc l = dedup acc l
  | [], acc, _, _ => by rw [dedT, dedup]
  | n :: r, acc, h, hl => by
    have hn := hl n List.mem_cons_self
    have hr : ∀ m ∈ r, can m := fun m hm => hl m (List.mem_cons_of_mem _ hm)
    rw [dedT, dedup]
    by_cases hm : n ∈ acc
    · rw [if_pos hm, if_pos (List.mem_map.mpr ⟨n, hm, rfl⟩)]
      exact dedT_eq r acc h hr
    · rw [if_neg hm, if_neg]
      · refine dedT_eq r _ (fun m hm2 => ?_) hr
        rcases List.mem_append.mp hm2 with z | z
        · exact h m z
        · rw [List.mem_singleton.mp z]; exact hn
      · intro z
        obtain ⟨m, hm2, e⟩ := List.mem_map.mp z
        rw [words_inj (h m hm2) hn e] at hm2
        exact hm hm2
end Pe
/-! Pooled eyes, the plain law, part E: the pieces that the law's own reader cuts a text into. -/
namespace Pe
structure RS where
  pcs : List L
  mark : L
  here : Int
  begun : Nat
def rstep (x : L) (k c : Nat) (s : RS) : RS :=
  let h1 := if c = 40 then s.here + 1 else s.here
  let h2 := if c = 41 then h1 - 1 else h1
  if h2 = 0 ∧ (c = 38 ∨ c = 124) then ⟨s.pcs ++ [(x.drop s.begun).take (k - 1 - s.begun)], [c], h2, k + 2⟩ else ⟨s.pcs, s.mark, h2, s.begun⟩
def rgo (x : L) : L → Nat → RS → RS
  | [], _, s => s
  | c :: r, k, s => rgo x r (k + 1) (rstep x k c s)
theorem rgo_app (x : L) : ∀ (a b : L) (k : Nat) (s : RS), rgo x (a ++ b) k s = rgo x b (k + a.length) (rgo x a k s)
  | [], b, k, s => rfl
  | c :: a, b, k, s => by
    show rgo x (a ++ b) (k + 1) (rstep x k c s) = _
    rw [rgo_app x a b (k + 1) _, List.length_cons]
    have e : k + 1 + a.length = k + (a.length + 1) := by omega
    rw [e]
    rfl
/-- a sign that is no parenthesis, and no & or | or not at the top -/
theorem rstep_still {x : L} {k c : Nat} {s : RS} (h : c ≠ 40) (h2 : c ≠ 41) (h3 : (c ≠ 38 ∧ c ≠ 124) ∨ s.here ≠ 0) : rstep x k c s = s := by
  unfold rstep
  simp only [if_neg h, if_neg h2]
  rw [if_neg]
  rintro ⟨h4, h5⟩
  rcases h3 with h3 | h3
  · rcases h5 with e | e
    · exact h3.1 e
    · exact h3.2 e
  · exact h3 h4
theorem rstep_open {x : L} {k : Nat} {s : RS} : rstep x k 40 s = { s with here := s.here + 1 } := by
  unfold rstep
  simp
theorem rstep_shut {x : L} {k : Nat} {s : RS} : rstep x k 41 s = { s with here := s.here - 1 } := by
  unfold rstep
  simp
theorem rstep_cut {x : L} {k c : Nat} {s : RS} (hc : c = 38 ∨ c = 124) (h : s.here = 0) : rstep x k c s = ⟨s.pcs ++ [(x.drop s.begun).take (k - 1 - s.begun)], [c], 0, k + 2⟩ := by
  unfold rstep
  have h40 : c ≠ 40 := by omega
  have h41 : c ≠ 41 := by omega
  simp only [if_neg h40, if_neg h41]
  rw [if_pos ⟨h, hc⟩, h]
theorem rgo_name (x : L) : ∀ (w : L), (∀ c ∈ w, isL c = true) → ∀ (k : Nat) (s : RS), rgo x w k s = s
  | [], _, _, _ => rfl
  | c :: w, h, k, s => by
    have hc := h c List.mem_cons_self
    rw [rgo, rstep_still (isL_ne hc (by omega)) (isL_ne hc (by omega)) (Or.inl ⟨isL_ne hc (by omega), isL_ne hc (by omega)⟩)]
    exact rgo_name x w (fun d hd => h d (List.mem_cons_of_mem _ hd)) _ _
theorem rs_back (s : RS) : ({ ({ s with here := s.here + 1 } : RS) with here := ({ s with here := s.here + 1 } : RS).here - 1 } : RS) = s := by
  obtain ⟨a, b, c, d⟩ := s
  show RS.mk a b (c + 1 - 1) d = _
  have e : c + 1 - 1 = c := by omega
  rw [e]
mutual
theorem rgo_item (x : L) : ∀ (i : Itm), okI i → ∀ (k : Nat) (s : RS), 0 ≤ s.here → rgo x (itext i) k s = s
  | .nm w, h, k, s, _ => by
    rw [okI] at h
    rw [itext]
    exact rgo_name x w h.2.2 k s
  | .par sg l, h, k, s, hs => by
    have hok := h
    rw [okI] at h
    rw [itext, rgo, rstep_open, rgo_app, rgo_items x l h.1 sg (by
      rcases h.2 with ⟨_, z⟩ | ⟨z, _⟩
      · exact Or.inl z
      · exact Or.inr z) _ { s with here := s.here + 1 } (by show 0 < s.here + 1; omega)]
    rw [rgo, rgo, rstep_shut]
    exact rs_back s
theorem rgo_items (x : L) : ∀ (l : List Itm), okL l → ∀ (sg : Nat), (l.length = 1 ∨ (sg = 38 ∨ sg = 124)) → ∀ (k : Nat) (s : RS), 0 < s.here → rgo x (ltext sg l) k s = s
  | [], _, sg, _, k, s, _ => by rw [ltext]; rfl
  | i :: r, h, sg, hs, k, s, hp => by
    rw [okL] at h
    rw [ltext, rgo_app, rgo_item x i h.1 k s (by omega)]
    cases r with
    | nil => rw [rtext]; rfl
    | cons j r =>
      exact rgo_rest x (j :: r) h.2 sg (by
        rcases hs with z | z
        · rw [List.length_cons, List.length_cons] at z
          omega
        · exact z) _ s hp
theorem rgo_rest (x : L) : ∀ (r : List Itm), okL r → ∀ (sg : Nat), (sg = 38 ∨ sg = 124) → ∀ (k : Nat) (s : RS), 0 < s.here → rgo x (rtext sg r) k s = s
  | [], _, sg, _, k, s, _ => by rw [rtext]; rfl
  | i :: r, h, sg, hsg, k, s, hp => by
    rw [okL] at h
    rw [rtext, rgo, rstep_still (by decide) (by decide) (Or.inl (by decide)), rgo, rstep_still (by omega) (by omega) (Or.inr (by omega)), rgo, rstep_still (by decide) (by decide) (Or.inl (by decide)), rgo_app, rgo_item x i h.1 _ s (by omega)]
    exact rgo_rest x r h.2 sg hsg _ s hp
end
/-- at the top: the items behind the first one -/
theorem rgo_top (x : L) {sg : Nat} (hsg : sg = 38 ∨ sg = 124) : ∀ (r : List Itm) (i : Itm) (p : L) (pcs : List L) (m : L), okL r → x = p ++ (itext i ++ rtext sg r) →
    ∃ b, rgo x (rtext sg r) (p.length + (itext i).length) ⟨pcs, m, 0, p.length⟩ = ⟨pcs ++ ((i :: r).dropLast.map itext), (if r = [] then m else [sg]), 0, b⟩ ∧ (pcs ++ ((i :: r).dropLast.map itext)) ++ [x.drop b] = pcs ++ (i :: r).map itext
  | [], i, p, pcs, m, _, hx => by
    refine ⟨p.length, ?_, ?_⟩
    · rw [rtext, rgo]
      simp
    · rw [hx, rtext, List.append_nil, List.drop_left]
      simp
  | j :: r, i, p, pcs, m, h, hx => by
    rw [okL] at h
    have hx2 : x = (p ++ (itext i ++ [32, sg, 32])) ++ (itext j ++ rtext sg r) := by
      rw [hx, rtext]
      simp
    have e1 : (x.drop p.length).take (p.length + (itext i).length + 1 - 1 - p.length) = itext i := by
      have e : p.length + (itext i).length + 1 - 1 - p.length = (itext i).length := by omega
      rw [e, hx, List.drop_left, List.take_left]
    obtain ⟨b, hb1, hb2⟩ := rgo_top x hsg r j (p ++ (itext i ++ [32, sg, 32])) (pcs ++ [itext i]) [sg] h.2 hx2
    refine ⟨b, ?_, ?_⟩
    · rw [rtext, rgo, rstep_still (by decide) (by decide) (Or.inl (by decide)), rgo, rstep_cut hsg rfl, rgo, rstep_still (by decide) (by decide) (Or.inl (by decide)), rgo_app, rgo_item x j h.1 _ _ (by show (0 : Int) ≤ 0; omega)]
      have el : (p ++ (itext i ++ [32, sg, 32])).length = p.length + (itext i).length + 3 := by simp; omega
      rw [el] at hb1
      show rgo x (rtext sg r) (p.length + (itext i).length + 1 + 1 + 1 + (itext j).length) ⟨pcs ++ [(x.drop p.length).take (p.length + (itext i).length + 1 - 1 - p.length)], [sg], 0, p.length + (itext i).length + 1 + 2⟩ = _
      rw [e1]
      have e3 : p.length + (itext i).length + 1 + 1 + 1 = p.length + (itext i).length + 3 := by omega
      have e4 : p.length + (itext i).length + 1 + 2 = p.length + (itext i).length + 3 := by omega
      rw [e3, e4, hb1]
      have e5 : (if r = [] then [sg] else [sg]) = [sg] := by
        by_cases hr : r = []
        · rw [if_pos hr]
        · rw [if_neg hr]
      rw [e5, if_neg (by simp)]
      simp
    · have e6 : pcs ++ List.map itext (i :: j :: r).dropLast = (pcs ++ [itext i]) ++ List.map itext (j :: r).dropLast := by simp
      rw [e6, hb2]
      simp
/-- behind the whole text: the pieces but the last, the sign, where the last one begins -/
theorem rgo_text {t : Tx} (h : t.ok) : ∃ b, rgo t.text t.text 0 ⟨[], [], 0, 0⟩ = ⟨t.l.dropLast.map itext, (if t.l.length = 1 then [] else [t.sg]), 0, b⟩ ∧ t.l.dropLast.map itext ++ [t.text.drop b] = t.l.map itext := by
  have h1 := h.1
  have hne := ok_ne h.1
  rw [okI] at h1
  obtain ⟨hl, hs⟩ := h1
  obtain ⟨sg, l⟩ := t
  cases l with
  | nil => exact absurd rfl hne
  | cons i r =>
    have hl : okL (i :: r) := hl
    rw [okL] at hl
    show ∃ b, rgo (ltext sg (i :: r)) (ltext sg (i :: r)) 0 ⟨[], [], 0, 0⟩ = _ ∧ (i :: r).dropLast.map itext ++ [(ltext sg (i :: r)).drop b] = (i :: r).map itext
    have ex : ltext sg (i :: r) = itext i ++ rtext sg r := by rw [ltext]
    rw [ex, rgo_app, rgo_item _ i hl.1 _ _ (by show (0 : Int) ≤ 0; omega)]
    rcases hs with ⟨h1, h2⟩ | ⟨h1, h2⟩
    · have er : r = [] := List.length_eq_zero_iff.mp (by
        have h2 : (i :: r).length = 1 := h2
        rw [List.length_cons] at h2
        omega)
      subst er
      refine ⟨0, ?_, ?_⟩
      · rw [rtext, rgo]
        simp
      · rw [rtext]
        simp
    · obtain ⟨b, hb1, hb2⟩ := rgo_top (itext i ++ rtext sg r) h1 r i [] [] [] hl.2 rfl
      refine ⟨b, ?_, ?_⟩
      · have hr : r ≠ [] := by
          intro e
          subst e
          exact absurd h2 (by simp)
        rw [if_neg hr] at hb1
        have e2 : (if (i :: r).length = 1 then ([] : L) else [sg]) = [sg] := by
          rw [if_neg]
          have h2 : 2 ≤ (i :: r).length := h2
          omega
        show rgo _ (rtext sg r) (0 + (itext i).length) ⟨[], [], 0, 0⟩ = ⟨(i :: r).dropLast.map itext, (if (i :: r).length = 1 then ([] : L) else [sg]), 0, b⟩
        rw [e2]
        exact hb1
      · exact hb2
end Pe
set_option Elab.async false
set_option maxRecDepth 100000
set_option maxHeartbeats 4000000
/-! Pooled eyes: the places of the text. -/
namespace Pe
open PySem L2
def top (i : Nat) : Stmt := PySem.Challenge.pw_pooledeyes_k05_whole_wrong_circle_texts.main.body.getD i (.Pass ⟨0, 0, 0, 0⟩)
theorem letters_list : (("abcdefghijklmnopqrstuvwxyz" : Str)).cps.toList = [97, 98, 99, 100, 101, 102, 103, 104, 105, 106, 107, 108, 109, 110, 111, 112, 113, 114, 115, 116, 117, 118, 119, 120, 121, 122] := by decide +kernel
theorem in_letters (c : Nat) : decide (c ∈ (("abcdefghijklmnopqrstuvwxyz" : Str)).cps.toList) = isL c := by
  rw [letters_list]
  unfold isL
  by_cases h : 97 ≤ c ∧ c ≤ 122
  · rw [decide_eq_true h.1, decide_eq_true h.2]
    refine decide_eq_true ?_
    simp
    omega
  · have e : (decide (97 ≤ c) && decide (c ≤ 122)) = false := by
      rw [Bool.and_eq_false_iff, decide_eq_false_iff_not, decide_eq_false_iff_not]
      omega
    rw [e]
    refine decide_eq_false ?_
    simp
    omega
section
variable {X : Cx} {x : Str} {pos : Pos}
/-- a name of the module that holds a number, a text -/
theorem pe_gi {i : Int} (h : ∃ t, X.mg x = some (.int i t)) (hg : Gl X x := by rfl) (hd : (x == ("__debug__" : Str)) = false := by decide) : PE X (.Name x pos) (tC (.int i)) := by
  obtain ⟨t, e⟩ := h
  exact pe_glob hg e ⟨t, rfl⟩ hd
theorem pe_gs {z : Str} (h : ∃ t, X.mg x = some (.str z t)) (hg : Gl X x := by rfl) (hd : (x == ("__debug__" : Str)) = false := by decide) : PE X (.Name x pos) (tC (.str z)) := by
  obtain ⟨t, e⟩ := h
  exact pe_glob hg e ⟨t, rfl⟩ hd
end
theorem inV_str (x : Str) : ∀ ys : List Str, inV (.str x) (ys.map V.str) = decide (x ∈ ys)
  | [] => by simp [inV]
  | y :: r => by
    have ih := inV_str x r
    unfold inV at ih ⊢
    rw [List.map_cons, List.any_cons, ih]
    show (y == x || decide (x ∈ r)) = decide (x ∈ y :: r)
    rw [Bool.eq_iff_iff]
    simp only [Bool.or_eq_true, decide_eq_true_eq, beq_iff_eq, List.mem_cons]
    constructor
    · rintro (e | e)
      · exact Or.inl e.symm
      · exact Or.inr e
    · rintro (e | e)
      · exact Or.inl e.symm
      · exact Or.inr e
theorem pe_mk0 {X : Cx} {k j : Nat} {x : Str} {C : Addr} {sp : Sp} {dvs : List V} {p pos : Pos} (c : C8.Mak X.prog X.w X.K X.mg X.base k x C sp dvs) (hr : Room j X.A) (hk : k + 1 ≤ j) (hg : Gl X x) (hdb : (x == ("__debug__" : Str)) = false := by decide) :
    PE X (.Call (.Name x p) [] [] pos) (tMake C sp dvs C8.E0 tNil) := by
  obtain ⟨f, fd, ps, ds, M, F, hm, b, d⟩ := c.ex
  exact pe_make0 M F (hr.mono hk) hg hm b d C8.pass0 hdb
theorem same_new {H : Hp} {p : Addr} {o : HO} (h : H p = none) : Same H (upd H p o) := fun b u e => by rw [upd_ne (ne_of_none e h)]; exact e
theorem same_upd {H H1 : Hp} {p : Addr} {o : HO} (s : Same H H1) (h : H p = none) : Same H (upd H1 p o) := fun b u e => by rw [upd_ne (ne_of_none e h)]; exact s b u e
theorem same_add {H H1 : Hp} {p : Addr} {o : HO} (s : Same H H1) (h : H1 p = none) : Same H (upd H1 p o) := s.trans (same_new h)
end Pe
set_option Elab.async false
set_option maxRecDepth 100000
set_option maxHeartbeats 4000000
/-! Pooled eyes, plain: sums, lengths, texts of parts, names -/
namespace Pe
open PySem L2
theorem sizes_sum : ∀ l : List Nd, (l.map fun n => (size n : Int)).sum = (sizes l : Int)
  | [] => by simp [sizes]
  | n :: r => by
    rw [List.map_cons, List.sum_cons, sizes_sum r, sizes]
    omega
theorem depths_max : ∀ (l : List Nd), l ≠ [] → ∃ n ∈ l, depth n = depths l
  | [], h => absurd rfl h
  | n :: r, _ => by
    rw [depths]
    by_cases hr : r = []
    · subst hr
      exact ⟨n, List.mem_cons_self, by rw [depths]; omega⟩
    · obtain ⟨m, hm, e⟩ := depths_max r hr
      by_cases h : depth n ≤ depths r
      · exact ⟨m, List.mem_cons_of_mem _ hm, by rw [e]; omega⟩
      · exact ⟨n, List.mem_cons_self, by omega⟩
theorem depth_le : ∀ {l : List Nd} {n : Nd}, n ∈ l → depth n ≤ depths l
  | [], n, h => by cases h
  | m :: r, n, h => by
    rw [depths]
    rcases List.mem_cons.mp h with e | e
    · rw [e]; omega
    · have := depth_le e
      omega
/-- the max of the depths, as max tells it -/
theorem depths_eq {l : List Nd} {m : Int} (h1 : m ∈ l.map fun n => (depth n : Int)) (h2 : ∀ y, y ∈ (l.map fun n => (depth n : Int)) → y ≤ m) : m = (depths l : Int) := by
  obtain ⟨n, hn, rfl⟩ := List.mem_map.mp h1
  have hne : l ≠ [] := by
    intro e
    rw [e] at hn
    cases hn
  obtain ⟨k, hk, e⟩ := depths_max l hne
  have h3 := h2 _ (List.mem_map.mpr ⟨k, hk, rfl⟩)
  have h4 := depth_le hn
  omega
mutual
theorem leaves_len : ∀ n : Nd, (leaves n).length = size n
  | .eye x => by rw [leaves, size]; rfl
  | .nd b l => by rw [leaves, size, leavess_len l]
theorem leavess_len : ∀ l : List Nd, (leavess l).length = sizes l
  | [] => by rw [leavess, sizes]; rfl
  | n :: r => by rw [leavess, sizes, List.length_append, leaves_len n, leavess_len r]
end
theorem leavess_flat : ∀ l : List Nd, leavess l = l.flatMap leaves
  | [] => by rw [leavess]; rfl
  | n :: r => by rw [leavess, leavess_flat r, List.flatMap_cons]
theorem leavess_snoc : ∀ (l : List Nd) (n : Nd), leavess (l ++ [n]) = leavess l ++ leaves n
  | [], n => by
    simp [leavess]
  | m :: r, n => by
    show leavess (m :: (r ++ [n])) = _
    rw [leavess, leavess_snoc r n, leavess, List.append_assoc]
theorem sizes_snoc : ∀ (l : List Nd) (n : Nd), sizes (l ++ [n]) = sizes l + size n
  | [], n => by
    simp [sizes]
  | m :: r, n => by
    show sizes (m :: (r ++ [n])) = _
    rw [sizes, sizes_snoc r n, sizes]
    omega
theorem size_pos : ∀ n : Nd, can n → 1 ≤ size n
  | .eye x, _ => by rw [size]; omega
  | .nd b l, h => by
    rw [can] at h
    obtain ⟨h1, h2, _⟩ := h
    match l, h2 with
    | n :: r, _ =>
      rw [cans] at h1
      have := size_pos n h1.1
      rw [size, sizes]
      omega
theorem rtext_join (sg : Nat) : ∀ (r : List Nd) (n : Nd), itext (toI n) ++ rtext sg (toIs r) = TL.joinL [32, sg, 32] ((n :: r).map pwords)
  | [], n => by
    rw [toIs, rtext, List.append_nil]
    rfl
  | m :: r, n => by
    rw [toIs, rtext, rtext_join sg r m]
    rfl
theorem words_join (b : Bool) {l : List Nd} (h : l ≠ []) : words (.nd b l) = TL.joinL [32, sgOf b, 32] (l.map pwords) := by
  cases l with
  | nil => exact absurd rfl h
  | cons n r => rw [words, toIs, ltext, rtext_join]
theorem joinL_len (s : L) : ∀ (ps : List L), ps ≠ [] → (TL.joinL s ps).length + s.length ≤ (ps.map fun p => p.length + s.length).sum
  | [], h => absurd rfl h
  | [p], _ => by simp [TL.joinL]
  | p :: q :: r, _ => by
    have ih := joinL_len s (q :: r) (by simp)
    rw [TL.joinL, List.length_append, List.length_append, List.map_cons, List.sum_cons]
    omega
mutual
theorem pw_len : ∀ n : Nd, can n → (pwords n).length + 5 ≤ 16 * size n
  | .eye x, h => by
    rw [can] at h
    rw [pwords_eye, size]
    omega
  | .nd b l, h => by
    rw [can] at h
    obtain ⟨h1, h2, _⟩ := h
    have hne : l ≠ [] := by
      intro e
      rw [e] at h2
      simp at h2
    have h3 := pws_len l h1
    have h4 := joinL_len [32, sgOf b, 32] (l.map pwords) (by simpa using hne)
    rw [← words_join b hne] at h4
    have h5 : ((l.map pwords).map fun p => p.length + [32, sgOf b, 32].length) = l.map fun n => (pwords n).length + 3 := by rw [List.map_map]; rfl
    rw [h5] at h4
    have h6 : ([32, sgOf b, 32] : L).length = 3 := rfl
    rw [h6] at h4
    rw [pwords_nd, size, List.length_cons, List.length_append]
    show (words (.nd b l)).length + 1 + 1 + 5 ≤ _
    omega
theorem pws_len : ∀ l : List Nd, cans l → (l.map fun n => (pwords n).length + 3).sum + 2 * l.length ≤ 16 * sizes l
  | [], _ => by simp [sizes]
  | n :: r, h => by
    rw [cans] at h
    have h1 := pw_len n h.1
    have h2 := pws_len r h.2
    rw [List.map_cons, List.sum_cons, sizes, List.length_cons]
    omega
end
theorem can_size : ∀ {n : Nd}, can n → size n ≤ 60
  | .eye x, _ => by rw [size]; omega
  | .nd b l, h => by
    rw [can] at h
    rw [size]
    exact h.2.2.2.2.1
theorem can_depth : ∀ {n : Nd}, can n → depth n ≤ 20
  | .eye x, _ => by rw [depth]; omega
  | .nd b l, h => by
    rw [can] at h
    rw [depth]
    exact h.2.2.2.2.2
theorem pw_1000 {n : Nd} (h : can n) : (pwords n).length ≤ 1000 := by
  have h1 := pw_len n h
  have h2 := can_size h
  omega
theorem words_le (n : Nd) : (words n).length ≤ (pwords n).length := by
  cases n with
  | eye x =>
    rw [pwords_eye, words]
    exact Nat.le_refl _
  | nd b l =>
    rw [pwords_nd, List.length_cons, List.length_append]
    omega
theorem w_1000 {n : Nd} (h : can n) : (words n).length ≤ 1000 := Nat.le_trans (words_le n) (pw_1000 h)
/-! ### names -/
/-- the names of a circle: in order, each once -/
def NamesOf (ys : List Str) (l : List L) : Prop := PyProof.Rows.sortedS ys = true ∧ ys.Nodup ∧ ∀ y, y ∈ ys ↔ y ∈ l.map SX.S
theorem NamesOf.one (x : L) : NamesOf [SX.S x] [x] := ⟨rfl, by simp, fun y => Iff.rfl⟩
theorem NamesOf.le {ys : List Str} {l : List L} (h : NamesOf ys l) : ys.length ≤ l.length := by
  have key : ∀ (a b : List Str), a.Nodup → (∀ y ∈ a, y ∈ b) → a.length ≤ b.length := by
    intro a
    induction a with
    | nil => intro b _ _; exact Nat.zero_le _
    | cons x a ih =>
      intro b n s
      rw [List.nodup_cons] at n
      have hx := s x List.mem_cons_self
      have h2 := ih (b.erase x) n.2 fun y hy => by
        refine (List.mem_erase_of_ne ?_).mpr (s y (List.mem_cons_of_mem _ hy))
        intro e
        exact n.1 (by rw [← e]; exact hy)
      rw [List.length_erase_of_mem hx] at h2
      have := List.length_pos_of_mem hx
      rw [List.length_cons]
      omega
  have := key ys (l.map SX.S) h.2.1 fun y hy => (h.2.2 y).mp hy
  rw [List.length_map] at this
  exact this
theorem lec_trans {a b c : L} (h1 : ¬ b < a) (h2 : ¬ c < b) : ¬ c < a := by
  intro h
  exact h1 (List.lt_of_le_of_lt (List.not_lt.mp h2) h)
theorem ltc_of : ∀ {a b : L}, a < b → PySem.Spec.ltCps a b = true
  | [], [], h => absurd h (List.lt_irrefl [])
  | [], _ :: _, _ => rfl
  | _ :: _, [], h => absurd h (List.not_lt_nil _)
  | x :: r, y :: t, h => by
    rw [List.cons_lt_cons_iff] at h
    show (decide (x < y) || (x == y && PySem.Spec.ltCps r t)) = true
    rcases h with h | ⟨e, h⟩
    · rw [decide_eq_true h, Bool.true_or]
    · rw [e, beq_self_eq_true, ltc_of h]
      simp
theorem rising_all : ∀ (r : List Str) (x : Str), PyProof.Rows.risingS x r = true → ∀ y ∈ r, ¬ y.cps.toList < x.cps.toList
  | [], x, _, y, hy => by cases hy
  | z :: r, x, h, y, hy => by
    unfold PyProof.Rows.risingS at h
    rw [Bool.and_eq_true] at h
    obtain ⟨h1, h2⟩ := h
    have hz : ¬ z.cps.toList < x.cps.toList := by
      intro q
      rw [Bool.not_eq_true'] at h1
      rw [ltc_of q] at h1
      cases h1
    rcases List.mem_cons.mp hy with e | e
    · rw [e]; exact hz
    · exact lec_trans hz (rising_all r z h2 y e)
theorem rising_tl {x : Str} : ∀ {r : List Str}, PyProof.Rows.risingS x r = true → PyProof.Rows.sortedS r = true
  | [], _ => rfl
  | z :: r, h => by
    unfold PyProof.Rows.risingS at h
    rw [Bool.and_eq_true] at h
    exact h.2
theorem sorted_one : ∀ {ys zs : List Str}, PyProof.Rows.sortedS ys = true → PyProof.Rows.sortedS zs = true → ys.Nodup → zs.Nodup → (∀ y, y ∈ ys ↔ y ∈ zs) → ys = zs
  | [], [], _, _, _, _, _ => rfl
  | [], z :: zs, _, _, _, _, h => by
    have := (h z).mpr List.mem_cons_self
    cases this
  | y :: ys, [], _, _, _, _, h => by
    have := (h y).mp List.mem_cons_self
    cases this
  | y :: ys, z :: zs, a, b, c, d, h => by
    rw [List.nodup_cons] at c d
    have e : y = z := by
      have h1 := (h y).mp List.mem_cons_self
      have h2 := (h z).mpr List.mem_cons_self
      rcases List.mem_cons.mp h1 with q | q
      · exact q
      rcases List.mem_cons.mp h2 with q2 | q2
      · exact q2.symm
      have k1 := rising_all zs z b y q
      have k2 := rising_all ys y a z q2
      have k3 : y.cps.toList = z.cps.toList := List.le_antisymm (List.not_lt.mp k2) (List.not_lt.mp k1)
      rw [← SX.S_tl y, ← SX.S_tl z, k3]
    subst e
    rw [sorted_one (rising_tl a) (rising_tl b) c.2 d.2 fun w => by
      constructor
      · intro hw
        rcases List.mem_cons.mp ((h w).mp (List.mem_cons_of_mem _ hw)) with q | q
        · rw [q] at hw
          exact absurd hw c.1
        · exact q
      · intro hw
        rcases List.mem_cons.mp ((h w).mpr (List.mem_cons_of_mem _ hw)) with q | q
        · rw [q] at hw
          exact absurd hw d.1
        · exact q]
theorem NamesOf.uniq {ys zs : List Str} {l : List L} (a : NamesOf ys l) (b : NamesOf zs l) : ys = zs := sorted_one a.1 b.1 a.2.1 b.2.1 fun y => (a.2.2 y).trans (b.2.2 y).symm
end Pe
/-! Pooled eyes, the plain law, part G: over the words of a whole text the machine never lacks a level -/
namespace Pe
def sgOk (s : Nat) : Prop := s = 0 ∨ s = 38 ∨ s = 124
def nameOk (w : L) : Prop := w ≠ [] ∧ w.length ≤ 6 ∧ ∀ c ∈ w, isL c = true
/-- the word w finds what it needs -/
def fits (w : L) (S : Stk) : Prop :=
  (w = [40] ∧ S ≠ []) ∨ (w = [41] ∧ ∃ sg its sg2 its2 S2, S = (sg, its) :: (sg2, its2) :: S2 ∧ its ≠ []) ∨ ((w = [38] ∨ w = [124]) ∧ S ≠ []) ∨ (nameOk w ∧ S ≠ [])
def safe : List L → Stk → Prop
  | [], S => ∃ sg its, S = [(sg, its)] ∧ its ≠ []
  | w :: ws, S => fits w S ∧ match tstep w S with
    | .error _ => True
    | .ok S' => safe ws S'
theorem safe_ok {w : L} {ws : List L} {S S' : Stk} (f : fits w S) (e : tstep w S = .ok S') (h : safe ws S') : safe (w :: ws) S := by
  rw [safe, e]
  exact ⟨f, h⟩
theorem evs_ne {l : List Itm} {ns : List Nd} (h : l ≠ []) (e : evs l = .ok ns) : ns ≠ [] := by
  intro z
  have := evs_len e
  rw [z] at this
  exact h (List.length_eq_zero_iff.mp this.symm)
mutual
theorem safe_item : ∀ (i : Itm), okI i → ∀ (ws : List L) (sg : Nat) (its : List Nd) (S : Stk), (∀ n, ev i = .ok n → safe ws ((sg, its ++ [n]) :: S)) → safe (itoks i ++ ws) ((sg, its) :: S)
  | .nm x, h, ws, sg, its, S, k => by
    rw [okI] at h
    rw [itoks]
    refine safe_ok (Or.inr (Or.inr (Or.inr ⟨h, by simp⟩))) (tstep_name h.1 h.2.2 sg its S) (k _ ?_)
    rw [ev]
  | .par sg l, h, ws, sg2, its2, S, k => by
    have hne := ok_ne h
    rw [okI] at h
    obtain ⟨hl, hs⟩ := h
    rw [itoks]
    show safe ([40] :: ((ltoks sg l ++ [[41]]) ++ ws)) _
    refine safe_ok (Or.inl ⟨rfl, by simp⟩) (tstep_open _) ?_
    rw [List.append_assoc]
    refine safe_items l hl sg ([[41]] ++ ws) ((sg2, its2) :: S) hne (by
      rcases hs with ⟨_, h2⟩ | ⟨h1, _⟩
      · exact Or.inl h2
      · exact Or.inr h1) fun ns e => ?_
    have hlen : (if l.length ≤ 1 then 0 else sg) = sg := by
      rcases hs with ⟨h1, h2⟩ | ⟨_, h2⟩
      · rw [if_pos (by omega), h1]
      · rw [if_neg (by omega)]
    rw [hlen]
    show safe ([41] :: ws) _
    rw [safe, tstep_close]
    refine ⟨Or.inr (Or.inl ⟨rfl, sg, ns, sg2, its2, S, rfl, evs_ne hne e⟩), ?_⟩
    cases ec : close sg ns with
    | error b => trivial
    | ok n =>
      refine k n ?_
      rw [ev, e]
      exact ec
theorem safe_items : ∀ (l : List Itm), okL l → ∀ (sg : Nat) (ws : List L) (S : Stk), l ≠ [] → (l.length = 1 ∨ (sg = 38 ∨ sg = 124)) → (∀ ns, evs l = .ok ns → safe ws (((if l.length ≤ 1 then 0 else sg), ns) :: S)) → safe (ltoks sg l ++ ws) ((0, []) :: S)
  | [], _, _, _, _, h, _, _ => absurd rfl h
  | i :: r, h, sg, ws, S, _, hs, k => by
    rw [okL] at h
    rw [ltoks, List.append_assoc]
    refine safe_item i h.1 _ _ _ _ fun n e => ?_
    refine safe_rest r h.2 sg ws 0 _ S (by
      rcases hs with z | z
      · left
        rw [List.length_cons] at z
        exact List.length_eq_zero_iff.mp (by omega)
      · exact Or.inr z) fun ns e2 => ?_
    have e3 : (if r.length = 0 then 0 else sg) = (if (i :: r).length ≤ 1 then 0 else sg) := by
      rw [List.length_cons]
      by_cases hr : r.length = 0
      · rw [if_pos hr, if_pos (by omega)]
      · rw [if_neg hr, if_neg (by omega)]
    rw [e3]
    refine k (n :: ns) ?_
    rw [evs, e, e2]
theorem safe_rest : ∀ (r : List Itm), okL r → ∀ (sg : Nat) (ws : List L) (sg0 : Nat) (its : List Nd) (S : Stk), (r = [] ∨ (sg = 38 ∨ sg = 124)) → (∀ ns, evs r = .ok ns → safe ws (((if r.length = 0 then sg0 else sg), its ++ ns) :: S)) → safe (rtoks sg r ++ ws) ((sg0, its) :: S)
  | [], _, sg, ws, sg0, its, S, _, k => by
    rw [rtoks]
    have := k [] (by rw [evs])
    rw [List.append_nil] at this
    exact this
  | i :: r, h, sg, ws, sg0, its, S, hs, k => by
    rw [okL] at h
    have hsg : sg = 38 ∨ sg = 124 := by
      rcases hs with z | z
      · cases z
      · exact z
    rw [rtoks]
    show safe ([sg] :: (itoks i ++ rtoks sg r ++ ws)) _
    refine safe_ok (Or.inr (Or.inr (Or.inl ⟨by rcases hsg with e | e <;> simp [e], by simp⟩))) (tstep_sign hsg sg0 its S) ?_
    rw [List.append_assoc]
    refine safe_item i h.1 _ _ _ _ fun n e => ?_
    refine safe_rest r h.2 sg ws sg _ S (Or.inr hsg) fun ns e2 => ?_
    have e3 : (if r.length = 0 then sg else sg) = sg := by
      by_cases hr : r.length = 0
      · rw [if_pos hr]
      · rw [if_neg hr]
    have e4 := k (n :: ns) (by rw [evs, e, e2])
    rw [if_neg (by rw [List.length_cons]; omega)] at e4
    rw [e3, List.append_assoc]
    exact e4
end
theorem safe_whole {t : Tx} (h : t.ok) : safe t.toks [(0, [])] := by
  obtain ⟨h1, _⟩ := h
  have hne := ok_ne h1
  rw [okI] at h1
  obtain ⟨hl, hs⟩ := h1
  have key := safe_items t.l hl t.sg [] [] hne (by
    rcases hs with ⟨_, h2⟩ | ⟨h1, _⟩
    · exact Or.inl h2
    · exact Or.inr h1) fun ns e => by
      rw [safe]
      exact ⟨_, ns, rfl, evs_ne hne e⟩
  rw [List.append_nil] at key
  exact key
end Pe
set_option Elab.async false
set_option maxRecDepth 100000
set_option maxHeartbeats 4000000
/-! enumerate(text), enumerate(tuple) in a for -/
namespace PySem
open AutoSeq1 (wpAny_loadPart')
theorem pex_newB {v : Value} {o : Obj} {H : Heap → Prop} (B : Begins v o H) :
    Meets (Builtin.«enumerate.__new__» ⟨[.type "enumerate", v], []⟩) (fun _ R s => H s.heap ∧
      R (.ok (.ret (.ref (s.heap.push o).objs.size))) { s with heap := (s.heap.push o).push { cls := .type "enumerate", data := .fields #[.none, .bool false, .ref s.heap.objs.size, rawInt 0, .none, .none] } }) :=
  .of_wp fun prog w A R s h => by
    obtain ⟨hp, g, d, tk, os⟩ := s
    obtain ⟨h1, h⟩ := h
    have hsub := sub_enumerate
    have q1 : ∀ {A' : Around} {E : Value → Shared → Prop} {Q : Value → Shared → Prop}, Q (.ref hp.objs.size) ⟨hp.push o, g, d, tk, os⟩ → wpAny (model prog w) A' (pyIter v) Q E ⟨hp, g, d, tk, os⟩ :=
      fun q => B.iter prog w _ _ ⟨hp, g, d, tk, os⟩ _ h1 q
    wp_walk using q1
    refine wpAny_stack_any fun st => wpAny_pure ?_
    split
    · rename_i c _ _ _ _ _
      cases (c == Value.type "enumerate")
      all_goals
        wp_walk using q1
        exact ⟨_, rfl, h⟩
    · wp_walk using q1
      exact ⟨_, rfl, h⟩
theorem pex_begins {prog : Program} {w : World} {A : Around} {E : Value → Shared → Prop} {s : Shared} {v : Value} {o : Obj} {H : Heap → Prop} {Q : Value → Shared → Prop} (B : Begins v o H) (h1 : H s.heap)
    (h : ∀ h', IsEnum h' (s.heap.objs.size + 1) s.heap.objs.size 0 .none → h'.get? s.heap.objs.size = some o →
      (∀ b o, s.heap.get? b = some o → h'.get? b = some o) → Q (.ref (s.heap.objs.size + 1)) { s with heap := h' }) :
    wpAny (model prog w) A (call (.type "enumerate") [v]) Q E s := by
  refine callType_new F.called_enumerate (by decide) (F.typeCall_enumerate_1 _) (F.newCall_enumerate_1 _) (fun obj => F.args_object_init_2 obj _) F.entry_enumerate_new (pex_newB B) ⟨h1, ?_⟩
  have hz : (s.heap.push o).objs.size = s.heap.objs.size + 1 := Heap.size_push ..
  show _ ∧ _
  rw [hz]
  have he : IsEnum ((s.heap.push o).push { cls := .type "enumerate", data := .fields #[.none, .bool false, .ref s.heap.objs.size, rawInt 0, .none, .none] }) (s.heap.objs.size + 1) s.heap.objs.size 0 .none := by
    have q := Heap.get?_push_size (s.heap.push o) (o := { cls := .type "enumerate", data := .fields #[.none, .bool false, .ref s.heap.objs.size, rawInt 0, .none, .none] }) rfl
    rw [hz] at q
    exact q
  exact ⟨⟨_, he, rfl⟩, h _ he (Heap.get?_push_of_some _ (Heap.get?_push_size _ B.free)) fun b o x => Heap.get?_push_of_some _ (Heap.get?_push_of_some _ x)⟩
end PySem
namespace Pe
open PySem PySem.Spec PyProof.Rows L2
/-- what enumerate draws from: told by the state of the source's iterator (own cell: it) and of what it reads; n turns, the i-th value -/
structure Src (G : Hp → Prop) (n : Nat) (val : Nat → V → Prop) (it : Addr) (St : Nat → Heap → Prop) : Prop where
  obj : ∀ i h, St i h → ∃ o, h.get? it = some o ∧ ∀ v, o.data ≠ .cell v
  keep : ∀ i h h', St i h → (∀ o, h.get? it = some o → h'.get? it = some o) → St i h'
  drawn : ∀ (X : Cx) (pins : List (Addr × Obj)) (σ : L2.St) (H : Hp) (s : Shared), Inv X pins σ H s → X.A.handled = none → G H → (it : Addr) = it → H it = none → ∃ (fp : List Addr) (P : Nat → Value → Prop) (S2 : Nat → Heap → Prop), Draws X.prog X.w X.A.in1 it fp n P S2 ∧
    (∀ i h, S2 i h → St i h) ∧ (∀ i, St i s.heap → S2 i s.heap) ∧ (∀ b ∈ fp, b = it ∨ H b ≠ none) ∧ ∀ i u, P i u → ∃ x, RelV x u ∧ val i x
/-- the items in new pairs with their numbers -/
def ItE (G : Hp → Prop) (n : Nat) (val : Nat → V → Prop) : It :=
  ⟨fun i H => i < n ∧ G H, fun i H v H' => ∃ T x, v = .ref T ∧ H T = none ∧ H' = upd H T (.tup [.int (i : Nat), x]) ∧ val i x, fun i H => i = n ∧ G H⟩
theorem turn_en {P : Program} {w : World} {K : PySem.W.Frag} {elts : List Expr} {kk : Nat} {tpos : Pos} {G : Hp → Prop} {n : Nat} {val : Nat → V → Prop} {St : Nat → Heap → Prop} {e it : Addr}
    (S0 : Src G n val it St) :
    Turn P w K (.Tuple elts kk tpos) (ItE G n val) [e, it] e (fun i h => (∃ old, IsEnum h e it ((i : Nat) : Int) old) ∧ St i h ∧ e ≠ it) where
  mem := by simp
  obj := fun i h st b hb => by
    obtain ⟨⟨old, he⟩, hs, _⟩ := st
    have e' : b = e ∨ b = it := by simpa using hb
    rcases e' with z | z
    · rw [z]; exact ⟨_, he, fun v q => nomatch q⟩
    · rw [z]; exact S0.obj i h hs
  keep := fun i h h' st k => by
    obtain ⟨⟨old, he⟩, hs, hne⟩ := st
    exact ⟨⟨old, k e (by simp) _ he⟩, S0.keep i h h' hs (k it (by simp)), hne⟩
  item := by
    intro X hP hw hK hc i pins s σ H E I hf st hg
    subst hP hw hK
    obtain ⟨⟨old, he⟩, hit, hne⟩ := st
    obtain ⟨hin, hG⟩ := hg
    obtain ⟨f0, f1, f2, f3, f4, f5⟩ := hf it (by simp)
    obtain ⟨e0, e1, e2, e3, e4, e5⟩ := hf e (by simp)
    obtain ⟨fp, Pr, S2, D, back, fwd, hfp, hval⟩ := S0.drawn X pins σ H s I (I.ok.hd hc) hG rfl f0
    have hel : e < s.heap.objs.size := Heap.lt_size he
    have hil : it < s.heap.objs.size := by
      obtain ⟨_, q, _⟩ := S0.obj i _ hit
      exact Heap.lt_size q
    have hef : e ∉ fp := fun hm => by
      rcases hfp e hm with z | z
      · exact hne z
      · exact z e0
    refine wpAny_pyNext_enum_itemD D he (fwd i hit) hin hne hef fun u h' tk hPu ho hst' hT hsz hk => ?_
    obtain ⟨x, ru, hv⟩ := hval i u hPu
    refine ⟨_, rfl, wpAny_letOwnedTupleGo_enum (s := { s with heap := h', toks := tk + 1 }) ho fun h'' he' sb => ?_⟩
    have hT2 : h''.get? s.heap.objs.size = some { cls := .type "tuple", data := .seq #[.int i tk, u] } := (sb.2 _ (Nat.ne_of_gt hel)).trans hT
    have new : ObjOk X.prog X.w (upd H s.heap.objs.size (.tup [.int (i : Nat), x])) h'' s.heap.objs.size (.tup [.int (i : Nat), x]) :=
      ⟨by show 2 ≤ sizeLine; decide, [.int i tk, u], .cons ⟨_, rfl⟩ (.cons ru .nil), ⟨_, hT2, rfl, _, rfl⟩⟩
    have I1 : Inv X pins σ (upd H s.heap.objs.size (.tup [.int (i : Nat), x])) { s with heap := h'', toks := tk + 1 } :=
      I.turnedNew (ch := [e, it]) (fun b ob hb q => (sb.2 b (fun z => hb (by simp [z]))).trans (hk b ob (fun z => hb (by simp [z])) (fun z => hb (by simp [z])) q)) hf (Nat.le_refl _) new
    refine ⟨.ref s.heap.objs.size, _, I1, rfl, ⟨_, x, rfl, I.hok.fresh (Nat.le_refl _), rfl, hv⟩, ⟨⟨u, ?_⟩, S0.keep (i + 1) h' h'' (back _ _ hst') fun o q => (sb.2 it (Ne.symm hne)).trans q, hne⟩, fun b hb => ?_⟩
    · have ei : ((i + 1 : Nat) : Int) = (i : Int) + 1 := by omega
      rw [ei]
      exact he'
    · have hb' : b < s.heap.objs.size := by
        have e' : b = e ∨ b = it := by simpa using hb
        rcases e' with z | z
        · rw [z]; exact hel
        · rw [z]; exact hil
      rw [upd_ne (Nat.ne_of_lt hb')]
      exact (hf b hb).1
  done := by
    intro X hP hw hK hc i pins s σ H E I hf st hg
    subst hP hw hK
    obtain ⟨⟨old, he⟩, hit, hne⟩ := st
    obtain ⟨hin, hG⟩ := hg
    subst hin
    obtain ⟨f0, f1, f2, f3, f4, f5⟩ := hf it (by simp)
    obtain ⟨fp, Pr, S2, D, back, fwd, hfp, hval⟩ := S0.drawn X pins σ H s I (I.ok.hd hc) hG rfl f0
    exact wpAny_pyNext_enum_endD D he (fwd _ hit) fun h' eb => ⟨rfl, I.turned (t' := s.toks) (fun b o hb q => eb b o hb q) f0 f1 f3 f4 f5⟩
  self := fun A i s Q E st h => by
    obtain ⟨⟨_, he⟩, _⟩ := st
    exact wpAny_pyIter_enum he h
/-- a text -/
theorem src_text (z : Str) (t : Tok) (it : Addr) : Src (fun _ => True) z.cps.size (fun i x => ∃ c, z.cps[i]? = some c ∧ x = .str (SX.S [c])) it (fun i h => h.IsStrIter it (strIterType z) z t i) where
  obj := fun i h st => by
    obtain ⟨o, ho, hc, hd⟩ := st
    exact ⟨o, ho, fun v q => by rw [hd] at q; cases q⟩
  keep := fun i h h' st k => by
    obtain ⟨o, ho, hc, hd⟩ := st
    exact ⟨o, k o ho, hc, hd⟩
  drawn := fun X pins σ H s I hh _ _ _ => ⟨[it], _, _, Draws.text (A := X.A.in1) hh it z t, fun _ _ q => q, fun _ q => q, fun b hb => Or.inl (by simpa using hb), fun i u hp => by
    obtain ⟨c, tk, e1, e2⟩ := hp
    exact ⟨.str (SX.S [c]), ⟨tk, e2⟩, c, e1, rfl⟩⟩
/-- a tuple that stands -/
theorem src_tup (a : Addr) (xs : List V) (it : Addr) (hit : it ≠ a) : Src (fun H => H a = some (.tup xs)) xs.length (fun i x => xs[i]? = some x) it (fun i h => h.IsTupleIter it a i) where
  obj := fun i h st => by
    obtain ⟨o, ho, hc, hd⟩ := st
    exact ⟨o, ho, fun v q => by rw [hd] at q; cases q⟩
  keep := fun i h h' st k => st.at fun o q => k o q
  drawn := fun X pins σ H s I hh hG _ hn => by
    obtain ⟨its, rv, p, hz⟩ := I.tuple (SqT.of hG)
    have hlen : its.toArray.size = xs.length := by simp [rv.length]
    have D := Draws.tuple (prog := X.prog) (w := X.w) (A := X.A.in1) hh it a hit.symm its.toArray
    rw [hlen] at D
    refine ⟨[it, a], _, _, D, fun _ _ q => q.1, fun _ q => ⟨q, p⟩, fun b hb => ?_, fun i u hp => ?_⟩
    · have e' : b = it ∨ b = a := by simpa using hb
      rcases e' with z | z
      · exact Or.inl z
      · exact Or.inr (by rw [z, hG]; simp)
    · have hp : its[i]? = some u := by simpa using hp
      cases ex : xs[i]? with
      | none =>
        have q := rv.none_of ex
        rw [q] at hp
        cases hp
      | some x =>
        obtain ⟨u2, hu2, r2⟩ := rv.get ex
        rw [hu2] at hp
        cases hp
        exact ⟨x, r2, rfl⟩
theorem walk_en {G : Hp → Prop} {n : Nat} {val : Nat → V → Prop} : Walk (ItE G n val) n G (fun i H v H' => ∃ T x, v = .ref T ∧ H T = none ∧ H' = upd H T (.tup [.int (i : Nat), x]) ∧ val i x) :=
  ⟨fun _ _ hi g => ⟨hi, g⟩, fun _ g => ⟨rfl, g⟩, fun _ _ _ _ _ _ y => y⟩
abbrev sgAt (z : Str) : Nat → V → Prop := fun i x => ∃ c, z.cps[i]? = some c ∧ x = .str (SX.S [c])
def iEnT (te : TE) : TI := fun σ H R => te σ H fun v H1 => ∃ z, v = .str z ∧ R (ItE (fun _ => True) z.cps.size (sgAt z)) H1
def iEnU (te : TE) : TI := fun σ H R => te σ H fun v H1 => ∃ a xs, v = .ref a ∧ H1 a = some (.tup xs) ∧ R (ItE (fun H => H a = some (.tup xs)) xs.length (fun i x => xs[i]? = some x)) H1
section
variable {X : Cx} {e : Expr} {te : TE} {p pos tpos : Pos} {elts : List Expr} {kk : Nat}
theorem pie_of {pins : List (Addr × Obj)} {σ : L2.St} {H1 : Hp} {s1 : Shared} {R : It → Hp → Prop} {G : Hp → Prop} {n : Nat} {val : Nat → V → Prop} {St : Nat → Heap → Prop} {h' : Heap} (I1 : Inv X pins σ H1 s1)
    (S0 : Src G n val s1.heap.objs.size St) (he : IsEnum h' (s1.heap.objs.size + 1) s1.heap.objs.size 0 .none) (hst : St 0 h') (hk : ∀ b o, s1.heap.get? b = some o → h'.get? b = some o) (q : R (ItE G n val) H1) :
    PIE X pins σ (.Tuple elts kk tpos) R (.ref (s1.heap.objs.size + 1)) { s1 with heap := h' } := by
  have I2 : Inv X pins σ H1 { s1 with heap := h' } := I1.kept (t' := s1.toks) hk
  refine ⟨s1.heap.objs.size + 1, [s1.heap.objs.size + 1, s1.heap.objs.size], _, _, H1, rfl, I2, turn_en (e := s1.heap.objs.size + 1) S0, ⟨⟨.none, he⟩, hst, Nat.succ_ne_self _⟩, fun b hb => ?_, q⟩
  have e' : b = s1.heap.objs.size + 1 ∨ b = s1.heap.objs.size := by simpa using hb
  have hle : s1.heap.objs.size ≤ b := by
    rcases e' with z | z
    · rw [z]; exact Nat.le_add_right _ _
    · rw [z]; exact Nat.le_refl _
  exact I1.fpOk hle (I1.hok.fresh hle)
theorem pi_enT (hg : Gl X "enumerate") (hm : X.mg "enumerate" = none) (ha : PE X e te) (hs : starEach [e] X.env = [(false, eval e X.env)] := by rfl) : PI X (.Tuple elts kk tpos) (.Call (.Name "enumerate" p) [e] [] pos) (iEnT te) := by
  refine ⟨fun pins s σ H R I h => ?_⟩
  refine Call_ (ld_blt I hg hm boot_enumerate (PyProof.Rows.callWith_type1 (thn ((pa_cons ha pa_nil hs).run pos pins s σ H (fun vs H1 => match vs with
    | [v] => ∃ z, v = .str z ∧ R (ItE (fun _ => True) z.cps.size (sgAt z)) H1
    | _ => False) I h) fun us s1 ⟨vs, H1, I1, r1, q1⟩ => ?_) hs rfl))
  cases r1 with
  | nil => exact q1.elim
  | cons r rr =>
    cases rr with
    | cons _ _ => exact q1.elim
    | nil =>
      obtain ⟨z, ez, q⟩ := q1
      subst ez
      obtain ⟨t, eu⟩ := r
      subst eu
      refine pex_begins (begins_text z t) trivial fun h' he hit hk => wpAny_pyIter_enum he ?_
      exact pie_of I1 (src_text z t _) he ⟨_, hit, rfl, rfl⟩ hk q
theorem pi_enU (hg : Gl X "enumerate") (hm : X.mg "enumerate" = none) (ha : PE X e te) (hs : starEach [e] X.env = [(false, eval e X.env)] := by rfl) : PI X (.Tuple elts kk tpos) (.Call (.Name "enumerate" p) [e] [] pos) (iEnU te) := by
  refine ⟨fun pins s σ H R I h => ?_⟩
  refine Call_ (ld_blt I hg hm boot_enumerate (PyProof.Rows.callWith_type1 (thn ((pa_cons ha pa_nil hs).run pos pins s σ H (fun vs H1 => match vs with
    | [v] => ∃ a xs, v = .ref a ∧ H1 a = some (.tup xs) ∧ R (ItE (fun H => H a = some (.tup xs)) xs.length (fun i x => xs[i]? = some x)) H1
    | _ => False) I h) fun us s1 ⟨vs, H1, I1, r1, q1⟩ => ?_) hs rfl))
  cases r1 with
  | nil => exact q1.elim
  | cons r rr =>
    cases rr with
    | cons _ _ => exact q1.elim
    | nil =>
      obtain ⟨a, xs, ez, hG, q⟩ := q1
      subst ez
      cases r
      obtain ⟨its, rv, p', hz⟩ := I1.tuple (SqT.of hG)
      have hne : s1.heap.objs.size ≠ a := fun z => by
        obtain ⟨o, ho, _⟩ := p'
        rw [← z] at ho
        exact Nat.lt_irrefl _ (Heap.lt_size ho)
      refine pex_begins (begins_tuple a its.toArray) p' fun h' he hit hk => wpAny_pyIter_enum he ?_
      exact pie_of I1 (src_tup a xs _ hne) he ⟨_, hit, rfl, rfl⟩ hk q
end
end Pe
set_option Elab.async false
set_option maxRecDepth 100000
set_option maxHeartbeats 4000000
/-! an own exception's __init__ that begins with super().__init__('..') -/
namespace Pe
open PySem PySem.Spec PyProof.Rows L2
/-- what the written part says of C's __init__, a closure over __class__ -/
structure SupF (P : Program) (K : PySem.W.Frag) (mg : Str → Option Value) (C f : Addr) (qual : Str) (st : Stmt) (fd : FuncData) (cda cc : Addr) : Prop where
  fn : ∃ (oc : Value) (od : Option Addr) (dV kV doc pm : Value) (an : Option Addr) (ct : Value) (osl : Array (Option Value)),
    fd = PySem.W.ksFn "__init__" qual (C8.fnArgs st) (C8.fnBody st) (C8.fnScope st) dV kV doc pm an (.ref cda) ct cc ∧ K.lookup f = some ⟨oc, od, .func fd, osl⟩
  cdq : PySem.W.codeIn K (.ref cda) qual = true
  code : ∃ ccl cdd vs ccs file tf, K.lookup cda = some ⟨ccl, cdd, .fields vs, ccs⟩ ∧ vs[2]? = some (.str file tf) ∧ ((P.main.file : Str) == file) = true
  cell : ∃ cl cld csl, K.lookup cc = some ⟨cl, cld, .cell (some (.ref C)), csl⟩
  cls : ∃ cd, PySem.W.clsIn K C = some cd
  sub : PySem.W.mroIn K C (.ref C) = some true
  up : PySem.W.ks_superIn K C C "__init__" = some (some (.builtin "ValueError.__init__"))
  opq : PySem.W.nsIn K cStatics "thirdparty.any" = some none
  isV : PySem.W.subIn K (.ref C) (.type "ValueError") = some true
  sup : mg "super" = none
  tf : PySem.W.typeIn K (.ref f) = some (.type "function")
/-- the context of the body -/
def sxOf (CX : CXT) (P : Program) (w : World) (K : PySem.W.Frag) (mg : Str → Option Value) (base : Heap) (N : List Str) (qual : Str) (scope : Scope) (f cda cc : Addr) (A : Around) (outer : List Env) (s : Shared) (H : Hp) (E : XK) : Cx where
  prog := P
  w := w
  K := K
  mg := mg
  base := base
  A := A.deeper (PySem.W.ksEnv qual scope s.heap.objs.size f (.ref cda) cc)
  N := N
  s_0 := s
  H_0 := H
  env := PySem.W.ksEnv qual scope s.heap.objs.size f (.ref cda) cc
  outer := outer
  stack := PySem.W.ksEnv qual scope s.heap.objs.size f (.ref cda) cc :: outer
  ex := []
  calm := true
  fn := fun _ => false
  pn := []
  xe := fun e s' => wpAny (model P w) (A.deeper (PySem.W.ksEnv qual scope s.heap.objs.size f (.ref cda) cc)) (leaving (PySem.W.ksEnv qual scope s.heap.objs.size f (.ref cda) cc) e) (fun _ s'' => CX outer H s E e s'') (fun e' s'' => CX outer H s E e' s'') s'
/-- the names of such a def -/
structure SupS (ps : List Str) (scope : Scope) : Prop where
  kind : scope.kind = .function
  co : scope.isCoroutine = false
  gen : scope.isGenerator = false
  nd : ps.Nodup
  par : ∀ x ∈ ps, scope.names.lookup x = some .local
  nocell : ∀ y ∈ scope.names, y.2 ≠ .cell
  free : ∀ y ∈ scope.names, y.2 = .free → y.1 = "__class__"
  ks : scope.names.lookup ("super" : Str) = some .globalImplicit
  kc : scope.names.lookup ("__class__" : Str) = some .free
def supSB (ps : List Str) (sc : Scope) : Bool :=
  decide (sc.kind = .function) && !sc.isCoroutine && !sc.isGenerator && decide ps.Nodup && ps.all (fun x => decide (sc.names.lookup x = some .local)) && sc.names.all (fun y => !decide (y.2 = .cell)) && sc.names.all (fun y => !decide (y.2 = .free) || decide (y.1 = "__class__")) &&
    decide (sc.names.lookup ("super" : Str) = some .globalImplicit) && decide (sc.names.lookup ("__class__" : Str) = some .free)
theorem supS_by {ps : List Str} {sc : Scope} (h : supSB ps sc = true) : SupS ps sc := by
  unfold supSB at h
  simp only [Bool.and_eq_true, Bool.not_eq_true', decide_eq_true_eq, List.all_eq_true, Bool.or_eq_true, decide_eq_false_iff_not] at h
  obtain ⟨⟨⟨⟨⟨⟨⟨⟨h1, h2⟩, h3⟩, h4⟩, h5⟩, h6⟩, h7⟩, h8⟩, h9⟩ := h
  exact ⟨h1, h2, h3, h4, h5, h6, fun y hy e => (h7 y hy).elim (fun z => absurd e z) id, h8, h9⟩
theorem rev_lookup : ∀ {ps : List Str} {us : List Value} {i : Nat} {x : Str} {u : Value}, ps.Nodup → ps[i]? = some x → us[i]? = some u → (ps.zip us).reverse.lookup x = some u := by
  intro ps us i x u nd h1 h2
  have key : ∀ (l : List (Str × Value)), (l.map (·.1)).Nodup → (x, u) ∈ l → l.lookup x = some u := by
    intro l
    induction l with
    | nil => intro _ h; cases h
    | cons p l ih =>
      intro n h
      obtain ⟨y, z⟩ := p
      rw [List.map_cons, List.nodup_cons] at n
      rcases List.mem_cons.mp h with e | e
      · cases e
        simp [List.lookup]
      · have hn : (x == y) = false := by
          rw [beq_eq_false_iff_ne]
          exact fun q => n.1 (by rw [← q]; exact List.mem_map_of_mem (f := (·.1)) e)
        simp only [List.lookup, hn]
        exact ih n.2 e
  have hz : (ps.zip us)[i]? = some (x, u) := by rw [List.getElem?_zip_eq_some]; exact ⟨h1, h2⟩
  refine key _ ?_ (List.mem_reverse.mpr (List.mem_of_getElem? hz))
  rw [List.map_reverse]
  refine List.pairwise_reverse.mpr (List.Pairwise.imp (fun h => Ne.symm h) (?_ : List.Nodup _))
  have key2 : ∀ (a : List Str) (b : List Value), (a.zip b).map (·.1) = a.take b.length := by
    intro a
    induction a with
    | nil => intro b; simp
    | cons x a ih =>
      intro b
      cases b with
      | nil => simp
      | cons y b => simp [ih]
  rw [key2]
  exact nd.sublist (List.take_sublist _ _)
section
variable {CX : CXT} {P : Program} {w : World} {K : PySem.W.Frag} {mg : Str → Option Value} {base : Heap} {C f cda cc : Addr} {qual : Str} {st : Stmt} {fd : FuncData} {ps : List Str}
theorem inv_sup {A : Around} {outer : List Env} {s : Shared} {H : Hp} {E : XK} {us : List Value} {vs : List V} {h₁ : Heap} {tk : Nat} {scope : Scope} (S : SupS ps scope) (hd : A.handled = none) (e0 : Env0 P w K mg base A outer s H) (hl : vs.length = ps.length) (r : Vals vs us)
    (hcc : ∃ cl cld csl, K.lookup cc = some ⟨cl, cld, .cell (some (.ref C)), csl⟩)
    (hns : h₁.Ns s.heap.objs.size (fun y => (ps.zip us).reverse.lookup y)) (hk : ∀ b o, s.heap.get? b = some o → h₁.get? b = some o) :
    Inv (sxOf CX P w K mg base ps qual scope f cda cc A outer s H E) [] (L2.start ps vs) H { s with heap := h₁, toks := tk } := by
  obtain ⟨cl, cld, csl, hcl⟩ := hcc
  have hcb : base.get? cc = some ⟨cl, cld, .cell (some (.ref C)), csl⟩ := e0.mod.kin _ _ hcl
  have hcs := e0.bs _ _ hcb
  have noA : ∀ b : Addr, b ∉ (sxOf CX P w K mg base ps qual scope f cda cc A outer s H E).ex := fun b z => absurd (show b ∈ ([] : List Addr) from z) (by simp)
  have cellsE : ∀ {x : Str} {c : Addr}, (sxOf CX P w K mg base ps qual scope f cda cc A outer s H E).env.cells.lookup x = some c → x = "__class__" ∧ c = cc := fun {x c} h => by
    have h : ([("__class__", cc)] : List (Str × Addr)).lookup x = some c := h
    by_cases e : x = "__class__"
    · subst e
      simp [List.lookup] at h
      exact ⟨rfl, h.symm⟩
    · have e' : (x == ("__class__" : Str)) = false := by simpa using e
      simp [List.lookup, e'] at h
  refine ⟨⟨e0.mod, S.kind, rfl, rfl, Nat.le_refl _, fun y z c h1 h2 => (cellsE h1).1.trans (cellsE h2).1.symm, fun y hy => ?_, fun y c z _ => absurd (show false = true from z) (by decide), fun _ => hd, Around.frames_deeper e0.frames, .inr ⟨rfl, rfl⟩, fun b z => absurd z (noA b), e0.bs, e0.bsz, fun b _ _ => noA b, fun b z => absurd z (noA b), e0.funs, e0.frf⟩,
    rfl, e0.bare, Un.kept hk, ⟨_, hns, fun i y v h1 h2 h3 => ?_⟩, fun y c h => ?_, e0.hok.fresh (Nat.le_refl _), fun y c h => ?_, fun p hp => absurd (show p ∈ ([] : List (Addr × Obj)) from hp) (by simp), e0.hok.kept hk, ?_⟩
  · have hy : scope.names.lookup y = some .cell ∨ scope.names.lookup y = some .free := hy
    rcases hy with hy | hy
    · exact absurd rfl (S.nocell _ (PySem.mem_of_lookup hy))
    · have e := S.free _ (PySem.mem_of_lookup hy) rfl
      have e : y = "__class__" := e
      subst e
      exact ⟨cc, rfl⟩
  · have hi : i < vs.length := by
      unfold L2.start at h2
      by_cases hi : i < vs.length
      · exact hi
      · rw [List.getElem?_append_right (by simpa using hi)] at h2
        rw [List.getElem?_replicate] at h2
        split at h2 <;> cases h2
    have ha : vs[i]? = some v := by
      unfold L2.start at h2
      rw [List.getElem?_append_left (by simpa using hi), List.getElem?_map] at h2
      cases e : vs[i]? with
      | none => rw [e] at h2; cases h2
      | some a => rw [e] at h2; cases h2; rfl
    obtain ⟨u, hu, rv⟩ := r.get ha
    exact ⟨u, rv, .inl ⟨S.par y (List.mem_of_getElem? h1), rev_lookup S.nd h1 hu⟩⟩
  · rw [(cellsE h).2]
    exact ⟨_, _, hk _ _ hcs.1, rfl⟩
  · rw [(cellsE h).2]
    exact hcs.2
  · unfold L2.start
    show _ = ps.length
    rw [List.length_append, List.length_map, List.length_replicate]
    omega
/-- its promise, by the rest of its body. sp begins at: self, an exception that has no dict yet -/
theorem fn_sup {k : Nat} {sp : Sp} {z : Str} {nn : Nat} {kp p0 p1 p2 p3 p4 : Pos} {rest : List Stmt} {a0 : Arg} {as : List Arg} {pl : Sem Bool} (F : SupF P K mg C f qual st fd cda cc) (T : OexC K C) (S : SupS ps (C8.fnScope st))
    (hbody : C8.fnBody st = .Expr (.Call (.Attribute (.Call (.Name "super" p0) [] [] p1) "__init__" p2) [.Constant (.str z) nn kp] [] p3) p4 :: rest)
    (he : ∀ L, eval (.Call (.Attribute (.Call (.Name "super" p0) [] [] p1) "__init__" p2) [.Constant (.str z) nn kp] [] p3) (PySem.W.ksEnv qual (C8.fnScope st) L f (.ref cda) cc) = (do
      let ov ← attributeBase (.Call (.Name "super" p0) [] [] p1) "__init__" (PySem.W.ksEnv qual (C8.fnScope st) L f (.ref cda) cc) (eval (.Call (.Name "super" p0) [] [] p1) (PySem.W.ksEnv qual (C8.fnScope st) L f (.ref cda) cc))
      standAt p2.atName
      let (fv, first) ← holding [ov] (getMethod ov "__init__" pl)
      callWith p3 fv first (backTo p3 (starEach [.Constant (.str z) nn kp] (PySem.W.ksEnv qual (C8.fnScope st) L f (.ref cda) cc))) []))
    (hsw : ∀ L, swapsWith (.Call (.Attribute (.Call (.Name "super" p0) [] [] p1) "__init__" p2) [.Constant (.str z) nn kp] [] p3) none p4.line (PySem.W.ksEnv qual (C8.fnScope st) L f (.ref cda) cc) = pure false)
    (hint : ∀ L, interactive (PySem.W.ksEnv qual (C8.fnScope st) L f (.ref cda) cc) = false)
    (htop : (P.main.scope.names.lookup ("super" : Str)).isSome = false)
    (hpar : (C8.fnArgs st).posonlyargs ++ (C8.fnArgs st).args = a0 :: as) (hp0 : ps[0]? = some a0.arg)
    (len : ∀ vs H Q E, sp vs H Q E → vs.length = ps.length) (self : ∀ vs H Q E, sp vs H Q E → ∃ a r, vs = .ref a :: r ∧ H a = some (exo a C none))
    (hrest : ∀ (A : Around) (outer : List Env) (s : Shared) (H : Hp) (vs : List V) (Q : VK) (E : XK), Room k (A.deeper (PySem.W.ksEnv qual (C8.fnScope st) s.heap.objs.size f (.ref cda) cc)) → sp vs H Q E →
      ∃ t, PSs (sxOf CX P w K mg base ps qual (C8.fnScope st) f cda cc A outer s H E) rest t ∧ t { nx := fun _ H' => Q .non H', rt := Q } (L2.start ps vs) H) :
    FnOk P w K mg base CX (k + 1) f fd ps sp := by
  refine ⟨len, fun A outer s H args us vs Q E hr e0 hb r hsp => ?_⟩
  obtain ⟨oc, od, dV, kV, doc, pm, an, ct, osl, rfl, lk⟩ := F.fn
  have hl := len _ _ _ _ hsp
  have KX : K.In s.heap := e0.mod.kin.keeps fun b o e => (e0.bs b o e).1
  have lim : s.heap.NoLimit := e0.mod.nolimit.keeps fun b o e => (e0.bs b o e).1
  obtain ⟨a, vr, rfl, hself⟩ := self _ _ _ _ hsp
  refine PySem.ks_codeAny_call_defAt (s := s) (fd := PySem.W.ksFn "__init__" qual (C8.fnArgs st) (C8.fnBody st) (C8.fnScope st) dV kV doc pm an (.ref cda) ct cc) (body := C8.fnBody st) (binds := ps.zip us) hr.depth (KX _ _ lk) rfl lim (PySem.W.codeRec_of KX F.cdq) rfl hb S.nocell (fun y hy => S.par _ (List.of_mem_zip (show (y.1, y.2) ∈ _ from hy)).1) (fun h₁ hns hk => ?_) S.co S.gen S.kind
  have I : Inv (sxOf CX P w K mg base ps qual (C8.fnScope st) f cda cc A outer s H E) [] (L2.start ps (.ref a :: vr)) H { s with heap := h₁, toks := s.toks + (ps.zip us).length } :=
    inv_sup S hr.hd e0 hl r F.cell hns hk
  have K1 : K.In h₁ := KX.keeps hk
  obtain ⟨u0, ur, rfl, ru0⟩ : ∃ u0 ur, us = u0 :: ur ∧ u0 = Value.ref a := by
    cases r with
    | cons ra rr => exact ⟨_, _, rfl, ra⟩
  subst ru0
  have hself1 : ∃ t1 : Addr, h₁.get? a = some ({ cls := .ref C, dict := none, data := .fields #[.ref t1, .none, .none, .none, .bool false, .none] } : Obj) := exo_at I.hok hself
  obtain ⟨t1, hx1⟩ := hself1
  obtain ⟨ccl, cdd, cvs, ccs, file, tf, hcode, hvs, hfile⟩ := F.code
  obtain ⟨cl, cld, csl, hcell⟩ := F.cell
  obtain ⟨cdC, hcd⟩ := F.cls
  obtain ⟨oC, hoC, hdC⟩ : ∃ oD, h₁.get? C = some oD ∧ oD.data = .cls cdC := by
    have hD := hcd
    unfold PySem.W.clsIn at hD
    split at hD
    · rename_i c d cd' sl ho
      cases hD
      exact ⟨_, K1 _ _ ho, rfl⟩
    · cases hD
  have hv0 : (fun y => (ps.zip (Value.ref a :: ur)).reverse.lookup y) a0.arg = some (Value.ref a) := rev_lookup S.nd hp0 rfl
  have hpl : S.kind = S.kind := rfl
  have ha0 : (C8.fnScope st).names.lookup a0.arg = some .local := S.par _ (List.mem_of_getElem? hp0)
  obtain ⟨mb, hb1, hb2⟩ := I.mod.blt
  show _root_.PySem.wpAt _ _ _ (execs (C8.fnBody st) _) _ _ _
  rw [hbody]
  refine PySem.ks_wpAt_execs_cons (PySem.ks_wpAt_Expr_any (PySem.ks_wpAt_MethodCall ?_ (he _)) (hint _) (hsw _))
  refine PySem.ks_wpAt_super_base (of := ⟨oc, od, .func (PySem.W.ksFn "__init__" qual (C8.fnArgs st) (C8.fnBody st) (C8.fnScope st) dV kV doc pm an (.ref cda) ct cc), osl⟩) (ar := a0) S.ks S.kc (by decide) rfl (K1 _ _ lk) rfl (by show (List.head? ((C8.fnArgs st).posonlyargs ++ (C8.fnArgs st).args)) = _; rw [hpar]; rfl) rfl (K1 _ _ hcode) rfl hvs hfile ?_ ?_
  · exact htop
  · refine PySem.W.ks_loadName_global S.kind S.ks (Calls.loadGlobal_builtin (e0.mod.glob.keeps fun b o e => hk _ _ (e0.bs b o e).1) F.sup (hb1.keeps fun b o e => hk _ _ (e0.bs b o e).1) (hb2 "super" (by decide)) ⟨rfl, ?_⟩)
    refine wpAny_loadName_free S.kind S.kc rfl ⟨_, K1 _ _ hcell, rfl⟩ ?_
    refine wpAny_loadName_local S.kind ha0 hns hv0 ?_
    refine PySem.ks_wpAny_isType_cls hoC hdC ⟨rfl, ?_⟩
    refine PySem.ks_wpAny_call_super hoC hdC hx1 rfl (fun c e => by cases e) (PySem.W.looks_mroIn K1 F.sub) (fun h' e2 k2 => ?_)
    have I2 : Inv (sxOf CX P w K mg base ps qual (C8.fnScope st) f cda cc A outer s H E) [] (L2.start ps (.ref a :: vr)) H { s with heap := h', toks := s.toks + (ps.zip (Value.ref a :: ur)).length } := I.kept k2
    have K2 : K.In h' := K1.keeps k2
    have IA : PySem.W.InstAt h' a { cls := .ref C, dict := none, data := .fields #[.ref t1, .none, .none, .none, .bool false, .none] } C none := ⟨k2 _ _ hx1, rfl, rfl, trivial⟩
    have hup := F.up
    unfold PySem.W.ks_superIn at hup
    rw [hcd] at hup
    refine PySem.W.kxs_getMethod PySem.W.kxs_ValueError e2 (PySem.W.looks_opaque K2 F.opq) (l₀ := cdC.mro) (fun A Q E s k q => wpAny_bind ((PySem.W.looks_clsIn K2 hcd) A _ E s k (wpAny_pure q))) rfl K2 hup (IA.type.andThen (PySem.W.looks_subIn K2 F.isV)) (PySem.W.ks_ne K2 IA hcd) (by decide) ?_
    have I3 : Inv (sxOf CX P w K mg base ps qual (C8.fnScope st) f cda cc A outer s H E) [] (L2.start ps (.ref a :: vr)) H { s with heap := h'.push (PySem.W.kxs_mw "ValueError.__init__" a), toks := s.toks + (ps.zip (Value.ref a :: ur)).length + 1 } := I2.kept fun b o e => Heap.get?_push_of_some _ e
    have hu3 : (h'.push (PySem.W.kxs_mw "ValueError.__init__" a)).get? h'.objs.size = some (PySem.W.kxs_mw "ValueError.__init__" a) := Heap.get?_push_at rfl rfl
    refine PySem.W.kxs_callWith (i := "ValueError.__init__") (x := a) rfl ?_
    show wpAny _ _ (evalArgs (.ref h'.objs.size) true ((false, eval (.Constant (.str z) nn kp) _) :: []) []) _ _ _
    refine Calls.evalArgs_plain (Calls.spliced_cons (Calls.Constant_str (Calls.spliced_nil ⟨hu3, ?_⟩)))
    have I4 := I3.tok (s.toks + (ps.zip (Value.ref a :: ur)).length + 1 + 1)
    obtain ⟨t4, hx4⟩ := exo_at I4.hok hself
    have K4 := I4.kIn
    obtain ⟨nm, q, N, bs, bm, sn, sub, ab, col, dd, k0, k1, k2', k3, k5, hC, hbm⟩ := T.cls
    refine wpAny_call (codeAny_of_tree ?_)
    show wpAny _ (Around.in1 _) (callAny (.ref h'.objs.size) _) _ _ _
    simp only [callAny]
    refine wpAny_bind (wpAny_load hu3 ?_)
    simp only [PySem.W.kxs_mw, show (Value.type "method-wrapper" == Value.type "method" || Value.type "method-wrapper" == Value.type "builtin_function_or_method" || Value.type "method-wrapper" == Value.type "method-wrapper") = true by decide, if_true]
    refine PySem.W.KFB.if_so (by decide) ?_
    refine wpAny_bind (PySem.W.check_bound_init PySem.F.excBase_ValueError.toExcCallFacts (K4 _ _ hC) hx4 rfl ?_)
    refine wpAny_bind (wpAny_pure (wpAny_pure ?_))
    refine ⟨plainId_quiet PySem.F.excBase_ValueError.init.plain _, codeAny_builtin PySem.F.excBase_ValueError.initEntry ?_⟩
    refine PySem.W.exc_init_tree (cls := .ref C) (t0 := t4) (dv := none) (c2 := .none) (c3 := .none) (b4 := .bool false) hx4 (by show 1 ≤ sizeLine; decide) (fun h5 k5 e5 _ => ?_)
    have J := I4.write (t' := s.toks + (ps.zip (Value.ref a :: ur)).length + 1 + 1) (x := a) (e := a) (o := exo a C none) (by rw [hself]; exact True.intro) (.inl rfl) k5 ⟨_, e5⟩ (exo_ok e5)
    have eu : upd H a (exo a C none) = H := by
      funext b
      by_cases hb : b = a
      · rw [hb, upd_same, hself]
      · rw [upd_ne hb]
    rw [eu] at J
    obtain ⟨t, ht, hq⟩ := hrest A outer s H (.ref a :: vr) Q E (hr.deeper _) hsp
    refine wpAt_of_wpAny (wpAny_mono (ht.run [] _ (L2.start ps (.ref a :: vr)) H _ J hq) (fun fl s' hs => ?_) fun e s' hs => hs)
    have fin : ∀ {σ' : L2.St} {H' : Hp} {v : V} {u : Value}, Inv (sxOf CX P w K mg base ps qual (C8.fnScope st) f cda cc A outer s H E) [] σ' H' s' → RelV v u → Q v H' → CE outer P w H s Q u s' :=
      fun {σ' H' v u} J rv q => ⟨v, H', J.os, J.bare, J.base, J.hok, rv, q⟩
    cases fl with
    | ret u =>
      obtain ⟨v, σ', H', J, rv, q⟩ := hs
      exact fin J rv q
    | next =>
      obtain ⟨σ', H', J, q⟩ := hs
      exact fin (v := V.non) (u := Value.none) J rfl q
    | brk =>
      obtain ⟨_, _, _, q⟩ := hs
      exact False.elim q
    | cont =>
      obtain ⟨_, _, _, q⟩ := hs
      exact False.elim q
end
end Pe
set_option Elab.async false
set_option maxRecDepth 100000
set_option maxHeartbeats 4000000
/-! try with several 'except X as e' clauses, of which one of the first takes it -/
namespace Pe
open PySem PySem.Spec PyProof.Rows L2
/-- the ends of a suite whose name e (slot i) goes behind it -/
def asEnds (i : Nat) (D : Ends) : Ends := { nx := fun σ' H' => D.nx (σ'.set i none) H', rt := D.rt, bk := fun σ' H' => D.bk (σ'.set i none) H', ct := fun σ' H' => D.ct (σ'.set i none) H' }
/-- what the clauses wish of the body's exception, one after the other; behind them: nothing comes so far -/
def wAm (K : PySem.W.Frag) (i : Nat) (D : Ends) : List (Value × (Addr → Value → Option Addr → TS)) → WX
  | [] => fun _ _ _ _ => False
  | (c, ts) :: r => fun cls d σ H => ∃ b, PySem.W.exmOne K cls c = some b ∧ (b = true → ∀ a, H a = none → ts a cls d (asEnds i D) (σ.set i (some (.ref a))) H) ∧ (b = false → wAm K i D r cls d σ H)
inductive HdsA (X : Cx) (n : Str) : List ExceptHandler → List (Value × (Addr → Value → Option Addr → TS)) → Prop
  | stop {hds : List ExceptHandler} : HdsA X n hds []
  | cons {x : Str} {c : Value} {ts : Addr → Value → Option Addr → TS} {b₀ : Stmt} {suite : List Stmt} {np pos' : Pos} {hds : List ExceptHandler} {l : List (Value × (Addr → Value → Option Addr → TS))} (hc : Names X x c)
      (hsu : ∀ (a : Addr) (oe : Obj) (cls : Value) (d : Option Addr) (pn : List (Addr × Obj)), Zc cls d oe → (∃ vs, oe.data = .fields vs) → PSs (X.suite a ((a, oe) :: pn)) (b₀ :: suite) (ts a cls d)) (r : HdsA X n hds l) :
      HdsA X n (.ExceptHandler (some (.Name x np)) (some n) (b₀ :: suite) pos' :: hds) ((c, ts) :: l)
section
variable {X : Cx} {body : List Stmt} {h₀ : ExceptHandler} {hds : List ExceptHandler} {l : List (Value × (Addr → Value → Option Addr → TS))} {pos : Pos} {tb : WX → TS} {n : Str} {i : Nat}
theorem ps_try_asm (hs : X.stack = X.env :: X.outer) (hf : X.env.frame = some X.env.locals) (hN : X.N.Nodup) (hi : X.N[i]? = some n) (hln : X.env.kindOf n = some .local)
    (hb : ∀ (W : WX) (pn : List (Addr × Obj)) (xe : Value → Shared → Prop), Takes (X.tr pn xe) W → PassesOwn (model X.prog X.w) X.A X.env xe → PSs (X.tr pn xe) body (tb W))
    (hh : HdsA X n (h₀ :: hds) l) : PS X (.Try body (h₀ :: hds) [] [] pos) (fun D σ H => tb (wAm X.K i D l) D σ H) := by
  refine ⟨fun pins s σ H D I h => ?_⟩
  have ok := I.ok
  have hfr : X.A.frames = some (X.env :: X.outer) := by rw [ok.frames, hs]
  have hloc : Loc X.env.scope n := .inl hln
  refine wpAny_Try_except ?_
  refine wpAny_mono ((hb (wAm X.K i D l) (X.pn ++ pins) (fun e s₁ => wpAny (model X.prog X.w) X.A (noteFrame e X.env) (fun _ s₂ => wpAny (model X.prog X.w) X.A (setFlight e none) (fun _ s₃ =>
    wpAny (model X.prog X.w) X.A (handleBy e X.env (h₀ :: hds)) (SP X pins D) X.xe s₃) X.xe s₂) X.xe s₁) (fun u s' xx => ?_) PassesOwn.looking).run [] s σ H D (I.toTry _) h) (fun f s1 hsp => ?_) (fun e s1 he => he)
  · obtain ⟨a, B, sI, pins', σ', H', cls, d, rfl, J', nb, up, sky, na, os, ag, w⟩ := xx
    have J : Inv X pins σ' H' sI := J'.ofTry ok
    have sky' : Sky B (X.env :: X.outer) a (Zc cls d) X.env.locals s'.heap := by rw [← hs]; exact sky
    show wpAny (model X.prog X.w) X.A (noteFrame (.ref a) X.env) _ _ _
    refine Sky.land Zc.steady hfr hf sky' fun h3 fl3 up3 => ?_
    have J3 : Inv X pins σ' H' { s' with heap := h3 } := J.landed nb fl3.1 (up.trans up3) os ag
    obtain ⟨oe3, vs3, he3, hz3, hd3⟩ := fl3.there
    have notFr : ∀ {h : Heap} {o : Obj} {vs : Array Value}, h.FunFrames B (X.env :: X.outer) → h.get? a = some o → o.data = .fields vs → a ∉ frs (X.env :: X.outer) := fun {h o vs} ff e dd hm => by
      obtain ⟨_, o', e', hnf⟩ := ff.mem hm
      rw [e] at e'; cases e'
      exact hnf _ dd
    have nfr := notFr fl3.2.2.1 he3 hd3
    have nL : a ≠ X.env.locals := fun z => nfr (List.mem_filterMap.mpr ⟨X.env, List.mem_cons_self, by rw [hf, z]⟩)
    have nF : a ∉ X.fs := fun hm => by
      obtain ⟨e, he, q⟩ := List.mem_filterMap.mp hm
      exact nfr (List.mem_filterMap.mpr ⟨e, List.mem_cons_of_mem _ he, q⟩)
    have S3 := J3.suite he3 hd3 na nL nF
    have go : ∀ {hds' : List ExceptHandler} {l' : List (Value × (Addr → Value → Option Addr → TS))}, HdsA X n hds' l' → wAm X.K i D l' cls d σ' H' →
        wpAny (model X.prog X.w) X.A (handleBy (.ref a) X.env hds') (SP X pins D) X.xe { s' with heap := h3 } := by
      intro hds' l' hk
      induction hk with
      | stop =>
        intro w
        exact w.elim
      | @cons x c ts b₀ suite np pos' hds2 l2 hc hsu r ih =>
        intro w
        obtain ⟨b, hb1, hyes, hno⟩ := w
        refine wpAny_handleBy_cons (codeAny_handlers_test ?_) (by intro q; cases q)
        have LT : PySem.W.Looks (model X.prog X.w) h3 (typeOf (.ref a)) cls := fun A Q E s k q => wpAny_typeOf_ref (k _ _ he3) (by rw [hz3.1]; exact q)
        have LM := PySem.W.exm_one (M := model X.prog X.w) (J3.kIn) LT hb1
        have test : ∀ {Q : Value → Shared → Prop} {E : Value → Shared → Prop}, Q c { s' with heap := h3 } → wpAny (model X.prog X.w) (X.A.mark (some (.ref a))) (eval (.Name x np) X.env) Q E { s' with heap := h3 } := fun {Q E} q => by
          obtain ⟨hg, hdbg, hm | ⟨hm, hv, hnn⟩⟩ := hc
          · exact ld_glob (X := X.suite a ((a, oe3) :: (X.pn ++ pins))) S3 hg hm q hdbg
          · exact ld_blt (X := X.suite a ((a, oe3) :: (X.pn ++ pins))) S3 hg hm hv q hnn hdbg
        refine test (LM.here ?_)
        cases b with
        | true =>
          refine codeAny_handlers_suite_as ?_
          refine HandSPX.lands_againZ fl3 fun h4 fl4 up4 => ?_
          have J4 : Inv X pins σ' H' { s' with heap := h4 } := J.landed nb fl4.1 ((up.trans up3).trans up4) os ag
          obtain ⟨oe4, vs4, he4, hz4, hd4⟩ := fl4.there
          have S4 := J4.suite he4 hd4 na nL nF
          refine store_ok (X := X.suite a ((a, oe4) :: (X.pn ++ pins))) (v := .ref a) S4 hN hi hloc rfl (fun s5 S5 => ?_) (.inr hln)
          refine wpAny_mono ((hsu a oe4 cls d (X.pn ++ pins) hz4 ⟨_, hd4⟩).run [] s5 _ H' _ S5 (hyes rfl a na)) (fun f s6 hsp => ?_) (fun _ _ z => False.elim z)
          have end_ : ∀ {σ6 : L2.St} {H6 : Hp} {Q : Shared → Prop}, Inv (X.suite a ((a, oe4) :: (X.pn ++ pins))) [] σ6 H6 s6 → (∀ s7, Inv X pins (σ6.set i none) H6 s7 → Q s7) →
              wpAny (model X.prog X.w) X.A (do bindName X.env n .none; unbindBehindTheSuite X.env n pos') (fun _ s7 => Q s7) X.xe s6 := fun {σ6 H6 Q} S6 hq => gone_ok (S6.unsuite ok) hN hi hln hq
          cases f with
          | next =>
            obtain ⟨σ6, H6, S6, q6⟩ := hsp
            exact end_ S6 fun s7 J7 => ⟨_, _, J7, q6⟩
          | brk =>
            obtain ⟨σ6, H6, S6, q6⟩ := hsp
            exact end_ S6 fun s7 J7 => ⟨_, _, J7, q6⟩
          | cont =>
            obtain ⟨σ6, H6, S6, q6⟩ := hsp
            exact end_ S6 fun s7 J7 => ⟨_, _, J7, q6⟩
          | ret u =>
            obtain ⟨v6, σ6, H6, S6, r6, q6⟩ := hsp
            exact end_ S6 fun s7 J7 => ⟨_, _, _, J7, r6, q6⟩
        | false =>
          show wpAny _ X.A (handleBy (.ref a) X.env hds2) _ _ _
          exact ih (hno rfl)
    exact go hh w
  · cases f with
    | next =>
      obtain ⟨σ', H', J', q⟩ := hsp
      exact wpAny_execs_nil ⟨σ', H', J'.ofTry ok, q⟩
    | brk =>
      obtain ⟨σ', H', J', q⟩ := hsp
      exact ⟨σ', H', J'.ofTry ok, q⟩
    | cont =>
      obtain ⟨σ', H', J', q⟩ := hsp
      exact ⟨σ', H', J'.ofTry ok, q⟩
    | ret u =>
      obtain ⟨v, σ', H', J', r, q⟩ := hsp
      exact ⟨v, σ', H', J'.ofTry ok, r, q⟩
/-- a statement that nothing comes to -/
theorem ps_never {st : Stmt} : PS X st (fun _ _ _ => False) := ⟨fun _ _ _ _ _ _ h => h.elim⟩
theorem pss_never {st : List Stmt} : PSs X st (fun _ _ _ => False) := ⟨fun _ _ _ _ _ _ h => h.elim⟩
theorem pe_never {e : Expr} : PE X e (fun _ _ _ => False) := ⟨fun _ _ _ _ _ _ h => h.elim⟩
end
end Pe
set_option Elab.async false
set_option maxRecDepth 100000
set_option maxHeartbeats 4000000
/-! str(x), repr(x), f'{x}' of an instance that has its own __str__, __repr__ -/
namespace Pe
open PySem PySem.Spec PyProof.Rows L2
section
variable {X : Cx} {k : Nat} {C : Addr} {sp : Sp}
theorem ins_inst {pins : List (Addr × Obj)} {σ : L2.St} {H : Hp} {s : Shared} {a dx : Addr} {fs : List (Str × V)} (I : Inv X pins σ H s) (e : H a = some (.ins C dx fs)) : ∃ od, PySem.W.InstAt s.heap a (PySem.W.instObj C dx) C (some od) := by
  obtain ⟨mA, O, r, _, _, _⟩ := ins_get I.hok e
  obtain ⟨od, J, _⟩ := O.look
  exact ⟨od, J⟩
/-- the own def is called on the instance, it gives a text -/
def rOwnS (C : Addr) (sp : Sp) : List V → Hp → VK → Prop := fun xs H Q => ∃ (a dx : Addr) (fs : List (Str × V)), xs = [.ref a] ∧ H a = some (.ins C dx fs) ∧ sp [.ref a] H (fun v H1 => ∃ y : Str, v = .str y ∧ Q v H1) C8.E0
theorem run_own {f : Addr} {fd : FuncData} {ps : List Str} {pins : List (Addr × Obj)} {σ : L2.St} {H : Hp} {s : Shared} {a : Addr} {Q : VK} {A : Around} {E : Value → Shared → Prop} (F : FnOk X.prog X.w X.K X.mg X.base C8.CX0 k f fd ps sp) (b : Binds X.K fd ps []) (hr : Room k A)
    (I : Inv X pins σ H s) (e0 : Env0 X.prog X.w X.K X.mg X.base A X.stack s H) (h : sp [.ref a] H (fun v H1 => ∃ y : Str, v = .str y ∧ Q v H1) C8.E0) : wpAny (model X.prog X.w) A (call (.ref f) [.ref a]) (PySem.W.StrBack (EP X pins σ Q)) E s := by
  have hl : [Value.ref a].length = ps.length := by
    have := F.len _ _ _ _ h
    exact this
  refine wpAny_call (codeAny_mono (F.run A X.stack s H ⟨[.ref a], []⟩ [.ref a] [.ref a] _ C8.E0 hr e0 (by have := b s [.ref a] I.kIn (by simpa using hl); simpa using this) (.cons rfl .nil) h) fun r s' hq => ?_)
  cases r with
  | error e => exact (show False from hq).elim
  | ok fl =>
    cases fl with
    | ret u =>
      obtain ⟨v, H1, I1, rv, y, rfl, q⟩ := I.after hq
      obtain ⟨t, rfl⟩ := rv
      exact ⟨.str y, H1, I1, ⟨t, rfl⟩, q⟩
    | next => exact False.elim hq
    | brk => exact False.elim hq
    | cont => exact False.elim hq
/-- str(x) -/
theorem call_strO (c : C8.Met X.prog X.w X.K X.mg X.base k C "__str__" sp []) (hr : Room (k + 2) X.A) : CallR X (.type "str") (rOwnS C sp) := by
  intro pins s σ H xs us Q I r h
  obtain ⟨f, fd, ps, ds, c1, c2, F, b, d⟩ := c.ex
  obtain rfl : ds = [] := by cases d; rfl
  obtain ⟨a, dx, fs, rfl, e, q⟩ := h
  obtain ⟨u, rfl, ru⟩ := r.one
  cases (show u = Value.ref a from ru)
  obtain ⟨od, J⟩ := ins_inst I e
  have hr2 : Room k X.A.in1.in1 := (show Room (k + 1) X.A.in1 from Room.in1 hr).in1
  exact PySem.W.kso_call (by have := hr2.un; omega) I.kIn J c2.at_ c2.fn (run_own F b hr2 I I.env0.in1.in1 q)
/-- repr(x) -/
theorem call_reprO (c : C8.Met X.prog X.w X.K X.mg X.base k C "__repr__" sp []) (hr : Room (k + 1) X.A) : CallR X (.builtin "repr") (rOwnS C sp) := by
  intro pins s σ H xs us Q I r h
  obtain ⟨f, fd, ps, ds, c1, c2, F, b, d⟩ := c.ex
  obtain rfl : ds = [] := by cases d; rfl
  obtain ⟨a, dx, fs, rfl, e, q⟩ := h
  obtain ⟨u, rfl, ru⟩ := r.one
  cases (show u = Value.ref a from ru)
  obtain ⟨od, J⟩ := ins_inst I e
  have hr2 : Room k X.A.in1 := Room.in1 hr
  obtain ⟨m, hn, _⟩ := I.loc
  have FR : PyProof.Rows.Fr X.base X.env.locals s.heap m := ⟨hn, I.bk, by have := I.ok.above; have := I.ok.bsz; omega⟩
  exact PySem.W.repr_K (by have := hr2.un; omega) FR I.ok.mod.kin J c2.at_ c2.fn (run_own F b hr2 I I.env0.in1 q)
/-- {x} -/
def tFmtO (C : Addr) (sp : Sp) (te : TE) : TE := fun σ H Q => te σ H fun x H1 => rOwnS C sp [x] H1 Q
theorem pe_fmtO {e : Expr} {te : TE} {pos : Pos} (c : C8.Met X.prog X.w X.K X.mg X.base k C "__str__" sp []) (hr : Room (k + 1) X.A) (hfm : PySem.W.findIn X.K (.ref C) "__format__" = some (some (.builtin "object.__format__"))) (hm : PySem.W.mroIn X.K C (.type "object") = some true) (he : PE X e te) :
    PE X (.FormattedValue e (-1) none pos) (tFmtO C sp te) := by
  refine ⟨fun pins s σ H Q I h => ?_⟩
  refine wpAny_FormattedValue_plain (thn (he.run pins s σ H _ I h) fun v s1 hv => ?_)
  obtain ⟨x, H1, I1, r1, a, dx, fs, ex, e, q⟩ := hv
  cases ex
  cases (show v = Value.ref a from r1)
  obtain ⟨f, fd, ps, ds, c1, c2, F, b, d⟩ := c.ex
  obtain rfl : ds = [] := by cases d; rfl
  obtain ⟨od, J⟩ := ins_inst I1 e
  have hr2 : Room k X.A.in1 := Room.in1 hr
  exact PySem.W.kfo_fieldS (by have := hr2.un; omega) I1.kIn J hfm hm c2.at_ c2.fn (run_own F b hr2 (I1.tok _) (I1.tok _).env0.in1 q)
end
end Pe
set_option Elab.async false
set_option maxRecDepth 100000
set_option maxHeartbeats 8000000
/-! sorted(set(a list of texts)), fewer than 64 -/
namespace Pe
open PySem PySem.Spec PyProof.Rows L2
/-! ### an entry of a set of texts -/
def txtOf (e : Int × Value) : Str := match e.2 with
  | .str y _ => y
  | _ => Str.empty
def TxtE (w : World) (e : Int × Value) : Prop := ∃ y tk, e.2 = Value.str y tk ∧ e.1 = hashStr w y
/-- a set of texts at a: M says who is in, c how many -/
def SetX (w : World) (h : Heap) (a : Addr) (M : Str → Bool) (c : Nat) : Prop :=
  ∃ ob rows ep tb, h.get? a = some ob ∧ ob.ExactSet ∧ ob.data = .set rows ep tb ∧ (∀ e ∈ rows.toList, TxtE w e) ∧ (rows.toList.map txtOf).Nodup ∧ (∀ y, M y = true ↔ y ∈ rows.toList.map txtOf) ∧
    rows.size < scanBound ∧ tb.fits rows.size = true ∧ rows.size = c ∧ Ris tb.place.toList ∧ (w.params.followText "set-order" = true ∨ tb.led = true)
section
variable {P : Program} {w : World} {h h' : Heap} {a : Addr} {M : Str → Bool} {c : Nat}
theorem SetX.at (R : SetX w h a M c) (k : ∀ o, h.get? a = some o → h'.get? a = some o) : SetX w h' a M c := by
  obtain ⟨ob, rows, ep, tb, e, rest⟩ := R
  exact ⟨ob, rows, ep, tb, k _ e, rest⟩
theorem SetX.as {M' : Str → Bool} (R : SetX w h a M c) (e : ∀ y, M' y = M y) : SetX w h a M' c := (funext e : M' = M) ▸ R
theorem txt_is {e : Int × Value} (g : TxtE w e) (y : Str) : (PySem.strKind P w).is y e.2 = true ↔ txtOf e = y := by
  obtain ⟨z, tk, e1, _⟩ := g
  unfold txtOf
  rw [e1]
  show ((z == y) = true) ↔ z = y
  exact beq_iff_eq
theorem txt_self (y : Str) (tk : Tok) : (PySem.strKind P w).is y (.str y tk) = true := by
  show (y == y) = true
  exact beq_self_eq_true y
theorem txt_elems {l : List (Int × Value)} (g : ∀ e ∈ l, TxtE w e) : ElemsOf (PySem.strKind P w) l := fun e he => by
  obtain ⟨y, tk, e1, e2⟩ := g e he
  exact ⟨⟨y, by rw [e1]; exact txt_self y tk, e2⟩, by rw [e1] <;> rfl⟩
theorem txt_mem {l : List (Int × Value)} (g : ∀ e ∈ l, TxtE w e) (y : Str) : y ∈ l.map txtOf ↔ ∃ e ∈ l, (PySem.strKind P w).is y e.2 = true := by
  rw [List.mem_map]
  exact ⟨fun ⟨e, he, q⟩ => ⟨e, he, (txt_is (g e he) y).mpr q⟩, fun ⟨e, he, q⟩ => ⟨e, he, (txt_is (g e he) y).mp q⟩⟩
end
section
variable {P : Program} {w : World} {A : Around} {E : Value → Shared → Prop} {s : Shared} {a : Addr} {M : Str → Bool} {c : Nat}
theorem setX_tail {gv : Bool → Sem Unit} (hgv : ∀ (b : Bool) (s₁ : Shared) (Q' : Unit → Shared → Prop), Q' () s₁ → wpAny (model P w) A (gv b) Q' E s₁)
    {ob : Obj} {rows : Array (Int × Value)} {ep : Nat} {tb : SetTable} (e0 : s.heap.get? a = some ob) (hx : ob.ExactSet) (hd : ob.data = .set rows ep tb)
    {rows1 : Array (Int × Value)} {tb1 : SetTable} {M' : Str → Bool} (g1 : ∀ e ∈ rows1.toList, TxtE w e) (nd1 : (rows1.toList.map txtOf).Nodup) (m1 : ∀ y, M' y = true ↔ y ∈ rows1.toList.map txtOf)
    (hb1 : rows1.size < scanBound) (hf1 : tb1.fits rows1.size = true) (hr1 : Ris tb1.place.toList) (hl1 : w.params.followText "set-order" = true ∨ tb1.led = true) {wd : Bool} {R : Option Bool → Shared → Prop}
    (hR : ∀ h', Heap.SameBut a s.heap h' → SetX w h' a M' rows1.size → R (some true) { s with heap := h' }) :
    wpAny (model P w) A (do
        storeSet a rows1 tb1
        if (!wd && tb1.tooFull) = true then do
            gv (relayAll tb1 rows1 (SetTable.grown rows1.size)).2.2
            storeSet a (relayAll tb1 rows1 (SetTable.grown rows1.size)).1 (relayAll tb1 rows1 (SetTable.grown rows1.size)).2.1
            pure (some true)
          else pure (some true)) R E s := by
  refine wpAny_bind (wpAny_storeSet_of e0 hd ?_ (fits_of_scanBound hb1))
  have e1 := store_at (es' := rows1) (t' := tb1) e0 hd
  have sb1 := Heap.SameBut.update s.heap a (Obj.putSet rows1 tb1)
  split
  · have p1 := relayAll_perm tb1 rows1 (SetTable.grown rows1.size)
    have p2 := relayAll_fits tb1 rows1 (SetTable.grown rows1.size)
    have p3 := relayAll_ris tb1 rows1 (SetTable.grown rows1.size)
    have p4 := relayAll_led tb1 rows1 (SetTable.grown rows1.size)
    generalize relayAll tb1 rows1 (SetTable.grown rows1.size) = Z at p1 p2 p3 p4 ⊢
    obtain ⟨rows2, tb2, gave⟩ := Z
    dsimp only at p1 p2 p3 p4 ⊢
    have hz : rows2.size = rows1.size := by rw [← Array.length_toList, p1.length_eq, Array.length_toList]
    have hb2 : rows2.size < scanBound := by omega
    refine wpAny_bind (hgv _ _ _ ?_)
    refine wpAny_bind (wpAny_storeSet_of e1 rfl ?_ (fits_of_scanBound hb2))
    have e2 := store_at (es' := rows2) (t' := tb2) e1 rfl
    refine wpAny_pure (hR _ (sb1.trans (Heap.SameBut.update _ a _)) ?_)
    exact ⟨_, rows2, _, tb2, e2, hx, rfl, fun e he => g1 e (p1.mem_iff.mp he), (p1.map txtOf).nodup_iff.mpr nd1, fun y => (m1 y).trans (p1.map txtOf).mem_iff.symm, hb2, p2, hz, p3, hl1.imp id fun z => by rw [p4]; exact z⟩
  · exact wpAny_pure (hR _ sb1 ⟨_, rows1, _, tb1, e1, hx, rfl, g1, nd1, m1, hb1, hf1, rfl, hr1, hl1⟩)
theorem setX_add {y : Str} {tk : Tok} {Q : Bool → Shared → Prop} (R : SetX w s.heap a M c) (room : c + 1 < scanBound)
    (hQ : ∀ h', Heap.SameBut a s.heap h' → SetX w h' a (fun j => M j || decide (j = y)) (if M y = true then c else c + 1) → Q (!M y) { s with heap := h' }) :
    wpAny (model P w) A (setAddHashed a (.str y tk) ((PySem.strKind P w).hash y)) Q E s := by
  obtain ⟨ob, rows, ep, tb, e0, hx, hd, g, nd, hm, hb, hf, hn, hr, hl⟩ := R
  have hkey : (PySem.strKind P w).is y (.str y tk) = true := txt_self y tk
  have hsc : (Value.str y tk).scannable = true := rfl
  have hel : ElemsOf (PySem.strKind P w) rows.toList := txt_elems g
  unfold setAddHashed setAddHashedIn
  refine wpAny_holding (wpAny_bind (wpAny_setState_of e0 hd hf ?_))
  dsimp only
  rw [byScan_of hsc hb hel]
  simp only [↓reduceIte]
  unfold setAddByScan
  refine wpAny_bind (wpAny_bind (wpAny_rule (wpAny_bind (wpAny_setScan_of hkey e0 hd hf hel ?_))))
  cases hfi : List.findIdx? (fun e => (PySem.strKind P w).is y e.2) rows.toList with
  | some j =>
    dsimp only
    obtain ⟨hj, pj, _⟩ := List.findIdx?_eq_some_iff_getElem.mp hfi
    have hMy : M y = true := (hm y).2 ((txt_mem (P := P) (w := w) g y).2 ⟨rows.toList[j], List.getElem_mem hj, pj⟩)
    have q := hQ s.heap (Heap.SameBut.refl a s.heap) ⟨ob, rows, ep, tb, e0, hx, hd, g, nd, fun i => by
      rw [Bool.or_eq_true, decide_eq_true_eq, ← hm i]
      exact ⟨fun z => z.elim id (fun e => e ▸ hMy), .inl⟩, hb, hf, by rw [if_pos hMy]; exact hn, hr, hl⟩
    rw [hMy] at q
    exact wpAny_pure (wpAny_pure q)
  | none =>
    dsimp only
    have hno : y ∉ rows.toList.map txtOf := fun z => by
      obtain ⟨e, he, q⟩ := (txt_mem (P := P) (w := w) g y).1 z
      have f := List.findIdx?_eq_none_iff.mp hfi e he
      rw [q] at f
      cases f
    have hMy : M y = false := by
      cases q : M y with
      | false => rfl
      | true => exact absurd ((hm y).1 q) hno
    have hgw : ∀ (b : Bool) {s₁ : Shared} {Q' : Unit → Shared → Prop}, Q' () s₁ → wpAny (model P w) A (match b with | true => rule "set.scan.the-table-gave-way" | false => pure ()) Q' E s₁ :=
      fun b s₁ Q' q => by cases b <;> first | exact wpAny_pure q | exact wpAny_rule q
    have p1 := layNew_perm tb rows ((PySem.strKind P w).hash y) (.str y tk)
    have p2 := layNew_fits tb rows ((PySem.strKind P w).hash y) (.str y tk)
    have p3 := layNew_ris tb rows ((PySem.strKind P w).hash y) (.str y tk) hr
    have p4 := layNew_led tb rows ((PySem.strKind P w).hash y) (.str y tk)
    generalize layNew tb rows ((PySem.strKind P w).hash y) (.str y tk) = Z at p1 p2 p3 p4 ⊢
    obtain ⟨rows1, tb1, wd, gave⟩ := Z
    dsimp only at p1 p2 p3 p4 ⊢
    rw [Array.toList_push] at p1
    have pc : rows1.toList.Perm (((PySem.strKind P w).hash y, Value.str y tk) :: rows.toList) := p1.trans (List.perm_append_singleton _ _)
    have pk : (rows1.toList.map txtOf).Perm (y :: rows.toList.map txtOf) := pc.map txtOf
    have g1 : ∀ e ∈ rows1.toList, TxtE w e := fun e he => by
      rcases List.mem_cons.mp (pc.mem_iff.mp he) with z | z
      · rw [z]; exact ⟨y, tk, rfl, rfl⟩
      · exact g e z
    have nd1 : (rows1.toList.map txtOf).Nodup := pk.nodup_iff.mpr (List.nodup_cons.mpr ⟨hno, nd⟩)
    have m1 : ∀ i, (M i || decide (i = y)) = true ↔ i ∈ rows1.toList.map txtOf := fun i => by
      rw [Bool.or_eq_true, decide_eq_true_eq, hm i, pk.mem_iff, List.mem_cons]
      exact Or.comm
    have hz : rows1.size = c + 1 := by rw [← Array.length_toList, pc.length_eq, List.length_cons, Array.length_toList, hn]
    have hb1 : rows1.size < scanBound := by omega
    have hl1 : w.params.followText "set-order" = true ∨ tb1.led = true := hl.imp id fun z => by rw [p4]; exact z
    have fin : ∀ h', Heap.SameBut a s.heap h' → SetX w h' a (fun j => M j || decide (j = y)) rows1.size → Q true { s with heap := h' } := fun h' sb r => by
      have q := hQ h' sb
      rw [hMy] at q
      rw [hz] at r
      exact q r
    refine wpAny_bind (hgw _ ?_)
    split
    · refine wpAny_bind ?_
      rw [hashByValue_scannable 8 hsc]
      refine wpAny_pure (setX_tail ?_ e0 hx hd g1 nd1 m1 hb1 ?_ ?_ ?_ ?_)
      · intro b s₁ Q' q; cases b <;> first | exact wpAny_pure q | exact wpAny_rule q
      · first | (split <;> first | exact p2 | exact SetTable.fits_plain_off p2) | exact p2
      · first | (split <;> exact p3) | exact p3
      · first | (split <;> exact hl1) | exact hl1
      · intro h' sb r; dsimp only; exact wpAny_pure (fin h' sb r)
    · refine wpAny_bind (wpAny_pure ?_)
      simp only [↓reduceIte]
      refine setX_tail ?_ e0 hx hd g1 nd1 m1 hb1 p2 p3 hl1 ?_
      · intro b s₁ Q' q; cases b <;> first | exact wpAny_pure q | exact wpAny_rule q
      · intro h' sb r; dsimp only; exact wpAny_pure (fin h' sb r)
/-! ### set(a list of texts) -/
theorem setX_loop {I : Addr} {fp wr : List Addr} {G : Array GenState → Array GenState → Prop} {n : Nat} {Pv : Nat → Value → Prop} {St : Nat → Shared → Prop} {R : Result → Shared → Prop}
    (W : WalksS P w A.in1 I fp wr G n Pv St) (S : Addr) (hSf : S ∉ fp) (ys : List Str) (hn : n = ys.length) (hb : ys.length + 1 < scanBound) (hval : ∀ i v, Pv i v → ∃ y t, ys[i]? = some y ∧ v = .str y t) :
    ∀ (k i : Nat) (s : Shared), n - i = k → i ≤ n → St i s → (∃ c, c ≤ i ∧ SetX w s.heap S (fun y => decide (y ∈ ys.take i)) c) →
      (∀ s' c, Moved (S :: wr) G s s' → c ≤ n → SetX w s'.heap S (fun y => decide (y ∈ ys)) c → R (.ok (.ret .none)) s') →
      codeAny (model P w) A (.builtin "set.update.loop" ⟨[.ref S, .ref I], []⟩) R s := by
  have hSw : S ∉ wr := fun h => hSf (W.sub _ h)
  have hsub : ∀ b ∈ wr, b ∈ S :: wr := fun b hb => List.mem_cons_of_mem _ hb
  intro k
  induction k with
  | zero =>
    intro i s hk' hi hst ⟨c, hc, hS⟩ hR
    obtain rfl : i = n := by omega
    refine codeAny_builtin PyProof.Rows.F.entry_set_update_loop ?_
    rw [Around.under_plainId PyProof.Rows.F.plain_set_update_loop _]
    show wpAny _ A.in1 (pyNext (.ref I) >>= _) _ _ s
    refine wpAny_bind (W.done s _ _ hst fun s' hm => ?_)
    show wpAny _ A.in1 (ret Value.none) _ _ s'
    rw [List.take_of_length_le (by omega)] at hS
    exact wpAny_pure (hR s' c (hm.mono hsub) hc (hS.at fun o e => hm.heap S o hSw e))
  | succ k ih =>
    intro i s hk' hi hst ⟨c, hc, hS⟩ hR
    have hlt : i < n := by omega
    refine codeAny_builtin PyProof.Rows.F.entry_set_update_loop ?_
    rw [Around.under_plainId PyProof.Rows.F.plain_set_update_loop _]
    show wpAny _ A.in1 (pyNext (.ref I) >>= _) _ _ s
    refine wpAny_bind (W.item i s _ _ hlt hst fun v s' hP hst' hm => ?_)
    obtain ⟨z, t, hz, rfl⟩ := hval i v hP
    have hS' : SetX w s'.heap S (fun y => decide (y ∈ ys.take i)) c := hS.at fun o e => hm.heap S o hSw e
    show wpAny _ A.in1 (holding [Value.str z t] (setAdd S (.str z t)) >>= _) _ _ s'
    refine wpAny_bind (wpAny_holding ?_)
    unfold setAdd
    refine wpAny_holding (wpAny_bind ((PySem.strKind P w).pyHash (k := z) (txt_self z t) ?_))
    refine setX_add (s := { s' with toks := s'.toks + 1 }) hS' (by omega) fun h' hsb hS2 => ?_
    have hS3 := hS2.as (M' := fun y => decide (y ∈ ys.take (i + 1))) fun y => by
      rw [List.take_add_one, hz]
      simp [List.mem_append]
    refine wpAny_pure ⟨plainId_quiet PyProof.Rows.F.plain_set_update_loop _, ih (i + 1) _ (by omega) hlt (W.frame _ s' _ _ hst' (Nat.le_succ _) fun b hb o e => ?_) ⟨_, by split <;> omega, hS3⟩ fun s'' c2 hm'' hc'' hS'' => ?_⟩
    · rw [hsb.2 b (fun h : b = S => hSf (by rw [← h]; exact hb))]; exact e
    · refine hR s'' c2 (Moved.trans W.gtrans ((hm.mono hsub).then_heap (Nat.le_succ _) fun b o hb e => ?_) hm'') hc'' hS''
      rw [hsb.2 b (fun h : b = S => hb (by rw [h]; exact List.mem_cons_self))]; exact e
abbrev set0 (w : World) : Obj := { cls := .type "set", dict := none, data := .set #[] 0 (.fresh 0 0 (!w.params.followText "set-order")) }
theorem setX_new {ys : List Str} {h : Heap} (ho : h.get? a = some (set0 w)) : SetX w h a (fun y => decide (y ∈ ys.take 0)) 0 :=
  ⟨_, #[], 0, _, ho, ⟨rfl, rfl, rfl⟩, rfl, (fun e he => by simp at he), (by simp), (fun k => by simp), (by decide), (by rfl), rfl, List.Pairwise.nil, by
    show _ ∨ (!w.params.followText "set-order") = true
    cases w.params.followText "set-order"
    · exact .inr rfl
    · exact .inl rfl⟩
set_option maxHeartbeats 8000000 in
theorem call_setX {l : Addr} {items : Array Value} (ys : List Str) {Q : Value → Shared → Prop} (hh : A.handled = none) (hl : s.heap.IsList l items) (hit : StrsAre items.toList ys) (hb : ys.length + 1 < scanBound)
    (h : ∀ (h' : Heap) (tk c : Nat), SetX w h' s.heap.objs.size (fun y => decide (y ∈ ys)) c → c ≤ ys.length → (∀ b o, s.heap.get? b = some o → h'.get? b = some o) → Q (.ref s.heap.objs.size) { s with heap := h', toks := tk }) :
    wpAny (model P w) A (call (.type "set") [.ref l]) Q E s := by
  have hisz : items.size = ys.length := by
    rw [← Array.length_toList]
    exact StrsAre.len_eq hit
  obtain ⟨c, tl, hmro⟩ := PySem.F.called_set.mro
  have hmade := PySem.F.called_set.made
  have hsub := PySem.F.called_set.sub
  refine wpAny_call (codeAny_of_tree ?_)
  show wpAny _ _ (callAny (.type "set") _) _ _ _
  refine wpAny_pure ⟨Code.quiet_builtin _ (by decide +kernel), codeAny_builtin PySem.F.entry_type_call ?_⟩
  rw [Around.under_plain (weight_type_call_type "set" [.ref l] []) rfl]
  have h1 := PySem.F.called_set.notType
  have h2 := PySem.F.called_set.canCreate
  have hct := PySem.F.typeCall_set_1 (.ref l)
  repeat (any_goals (first | assumption | wp_step))
  refine codeAny_mono (code_set_led1 (.ref l) (E := E) (Q₁ := fun obj s₁ => obj = .ref s.heap.objs.size ∧ s₁ = { s with heap := s.heap.push (set0 w) }) ⟨rfl, rfl⟩) fun r s₁ hr => ?_
  cases r with
  | error e => exact hr
  | ok fl =>
    cases fl with
    | ret obj =>
      obtain ⟨rfl, rfl⟩ := hr
      have hS : (s.heap.push (set0 w)).get? s.heap.objs.size = some (set0 w) := Heap.get?_push_size _ rfl
      have hT : Shared.TypeIs { s with heap := s.heap.push (set0 w) } (.ref s.heap.objs.size) "set" := ⟨_, hS, rfl⟩
      have hli := PySem.F.called_set.init.lookup
      have hbi := PySem.F.called_set.init.bind (.ref s.heap.objs.size)
      repeat (any_goals (first | assumption | wp_step))
      refine codeAny_mono (codeAny_call_builtin (R := wants (fun r s₂ => r = .none ∧ ∃ h' tk c, s₂ = { s with heap := h', toks := tk } ∧ SetX w h' s.heap.objs.size (fun y => decide (y ∈ ys)) c ∧ c ≤ ys.length ∧
          (∀ b o, s.heap.get? b = some o → h'.get? b = some o)) E) PySem.F.called_set.init.plain PySem.F.entry_set_init (check_set_init_1 hT ?_)) fun r₂ s₂ hr₂ => ?_
      · obtain ⟨ol, hol, hcl, nl, hdl⟩ := hl
        obtain ⟨ocls, odict, odata, oslots⟩ := ol
        simp only at hcl hdl
        subst hcl; subst hdl
        have hol' : (s.heap.push (set0 w)).get? l = some { cls := .type "list", dict := odict, data := .seq items nl, slots := oslots } := Heap.get?_push_of_some _ hol
        have hsls := PySem.F.sub_list_set
        have hslf := PySem.F.sub_list_frozenset
        have hne : (Value.type "list" == Value.type "dict") = false := by decide
        have hl1 : (s.heap.push (set0 w)).IsList l items := ⟨_, hol', rfl, nl, rfl⟩
        unfold Builtin.«set.__init__» noKeywords Builtin.Frozenset.updateFrom
        generalize hPI : pyIter = PI
        wp_walk
        subst hPI
        refine wpAny_pyIter_list hl1 ?_
        refine wpAny_bind (wpAny_runValue ?_)
        have hlS : l < s.heap.objs.size := Heap.lt_size hol
        have hh3 : A.in1.in1.in1.handled = none := by simp [hh]
        have hneI : l ≠ (s.heap.push (set0 w)).objs.size := by
          rw [Heap.size_push]; exact Nat.ne_of_lt (Nat.lt_succ_of_lt hlS)
        have hSf : s.heap.objs.size ∉ [(s.heap.push (set0 w)).objs.size, l] := by
          rw [Heap.size_push]; simp only [List.mem_cons, List.mem_singleton, List.not_mem_nil, or_false, not_or]
          exact ⟨Nat.ne_of_lt (Nat.lt_succ_self _), Nat.ne_of_gt hlS⟩
        have hval : ∀ (i : Nat) (v : Value), items[i]? = some v → ∃ y t, ys[i]? = some y ∧ v = .str y t := fun i v hv => by
          obtain ⟨y, t, e1, e2⟩ := hit.item i v (by rw [Array.getElem?_toList]; exact hv)
          exact ⟨y, t, e2, e1⟩
        refine setX_loop ((Walks.list hh3 _ l hneI items).toS) s.heap.objs.size
          hSf ys hisz hb hval (items.size - 0) 0 _ (by omega) (Nat.zero_le _)
          ⟨⟨_, Heap.get?_push_size _ rfl, rfl, rfl⟩, (hl1.push _)⟩ ⟨0, Nat.le_refl 0, setX_new (Heap.get?_push_of_some _ hS)⟩ ?_
        intro s' c' hm hc' hS'
        obtain ⟨h', g2, d', tk', os'⟩ := s'
        obtain rfl : g2 = s.gens := hm.gens
        obtain rfl : d' = s.drawn := hm.drawn
        obtain rfl : os' = s.os := hm.os
        show wpAny _ _ _ _ _ _
        refine wpAny_pure ?_
        show wpAny _ _ (ret Value.none) _ _ _
        rw [hisz] at hc'
        refine wpAny_pure ⟨rfl, h', tk', c', rfl, hS', hc', fun b o e => ?_⟩
        have hb0 : b < s.heap.objs.size := Heap.lt_size e
        have hb2 : b ≠ (s.heap.push (set0 w)).objs.size := by
          rw [Heap.size_push]; exact Nat.ne_of_lt (Nat.lt_succ_of_lt hb0)
        exact hm.heap b o (by simp only [List.mem_cons, List.mem_singleton, List.not_mem_nil, or_false, not_or]; exact ⟨Nat.ne_of_lt hb0, hb2⟩) (Heap.get?_push_of_some _ (Heap.get?_push_of_some _ e))
      · cases r₂ with
        | error e => exact hr₂
        | ok fl₂ =>
          cases fl₂ with
          | ret r =>
            obtain ⟨rfl, h', tk, c', rfl, hS', hc', hk'⟩ := hr₂
            repeat (any_goals (first | assumption | wp_step))
            exact h _ _ _ hS' hc' hk'
          | _ => exact hr₂.elim
    | _ => exact hr.elim
/-! ### sorted -/
theorem strs_of : ∀ (l : List Value), (∀ v ∈ l, ∃ y tk, v = Value.str y tk) → ∃ ys, StrsAre l ys
  | [], _ => ⟨[], .nil⟩
  | v :: l, h => by
    obtain ⟨y, tk, rfl⟩ := h v List.mem_cons_self
    obtain ⟨ys, q⟩ := strs_of l fun u hu => h u (List.mem_cons_of_mem _ hu)
    exact ⟨y :: ys, .cons y tk q⟩
theorem strs_keys : ∀ {l : List Value} {ys : List Str}, StrsAre l ys → ∀ rows : List (Int × Value), rows.map (·.2) = l → rows.map txtOf = ys
  | _, _, .nil, rows, e => by
    have : rows = [] := List.map_eq_nil_iff.mp e
    rw [this]; rfl
  | _, _, .cons y t q, [], e => by cases e
  | _, _, .cons y t q, r :: rows, e => by
    rw [List.map_cons] at e
    injection e with e1 e2
    rw [List.map_cons, strs_keys q rows e2]
    unfold txtOf
    rw [e1]
theorem sorted_setX {Q : Value → Shared → Prop} (R : SetX w s.heap a M c) (hh : A.handled = none) (h64 : c < 64)
    (hQ : ∀ s' p (out : Array Value) (ep : Nat) (ys : List Str), (∀ b o, s.heap.get? b = some o → s'.heap.get? b = some o) → s'.gens = s.gens → s'.os = s.os → s.heap.objs.size ≤ p →
      s'.heap.get? p = some (seqObj "list" out ep) → StrsAre out.toList ys → sortedS ys = true → ys.Nodup → (∀ y, y ∈ ys ↔ M y = true) → ys.length = c → Q (.ref p) s') :
    wpAny (model P w) A (call (.builtin "sorted") [.ref a]) Q E s := by
  obtain ⟨ob, rows, ep, tb, e0, hx, hd, g, nd, hm, hb, hf, hn, hr, hl⟩ := R
  refine Calls.call_function_entry kind_sorted plain_sorted entry_sorted (args_sorted1 _) ?_
  unfold Builtin.«sorted»
  refine wpAny_bind (m := checkCount "sorted" 1 1 _) (wpAny_pure ?_)
  refine wpAny_bind (collect_set (A := A.in1) hh ⟨ob, e0, hx.1, hd⟩ hf hb hr hl fun s1 vs k1 hz g1 o1 pm => ?_)
  have hvl : vs.length = c := by rw [pm.length_eq, List.length_map, Array.length_toList]; exact hn
  obtain ⟨zs, hS⟩ := strs_of vs fun v hv => by
    obtain ⟨e, he, q⟩ := List.mem_map.mp (pm.mem_iff.mp hv)
    obtain ⟨y, tk, h1, _⟩ := g e he
    exact ⟨y, tk, by rw [← q]; exact h1⟩
  obtain ⟨ws, hW⟩ := strs_of (rows.toList.map (·.2)) fun v hv => by
    obtain ⟨e, he, q⟩ := List.mem_map.mp hv
    obtain ⟨y, tk, h1, _⟩ := g e he
    exact ⟨y, tk, by rw [← q]; exact h1⟩
  have ek := strs_keys hW rows.toList rfl
  have txS : ∀ {l : List Value} {ys : List Str}, StrsAre l ys → l.map (fun v => txtOf (0, v)) = ys := fun {l ys} q => by
    have := strs_keys q (l.map fun v => ((0 : Int), v)) (by rw [List.map_map]; exact List.map_id'' (fun _ => rfl) l)
    rw [List.map_map] at this
    exact this
  have pk : zs.Perm (rows.toList.map txtOf) := by
    have q := pm.map (fun v => txtOf (0, v))
    rw [txS hS, txS hW] at q
    rw [ek]
    exact q
  refine wpAny_bind (wpAny_newList ?_ (by rw [hvl, sizeLine_eq]; omega))
  have hoL : (s1.heap.push (seqObj "list" vs.toArray 0)).get? s1.heap.objs.size = some (seqObj "list" vs.toArray 0) := Heap.get?_push_size _ rfl
  refine wpAny_bind (wpAny_holding (wpAny_call_entry slot_list_sort ⟨_, hoL, rfl⟩ entry_list_sort
    (list_sort_treeK strKind_oneLt hoL hS.keysOf (fun v₁ v₂ rest e => keyKind_strs (by rw [← e]; exact hS)) (by rw [hvl]; exact h64) fun st' hp hs => ⟨_, rfl, ?_⟩) (args_list_sort _)))
  obtain ⟨ys, a1, a2, a3⟩ := sorted_out_str hS hp hs
  obtain ⟨c', hc⟩ := sortedHeap_at (vs := vs) (out := (arrOf st').map (·.2)) hoL
  have pn : ys.Perm (rows.toList.map txtOf) := a2.trans pk
  refine wpAny_pure ⟨_, rfl, hQ _ s1.heap.objs.size ((arrOf st').map (·.2)) c' ys (fun b u e => ?_) g1 o1 hz hc a1 a3 (pn.nodup_iff.mpr nd) (fun y => by rw [pn.mem_iff, ← hm y]) ?_⟩
  · have q := k1 b u e
    have hlt := Heap.lt_size q
    show (sortedHeap (s1.heap.push (seqObj "list" vs.toArray 0)) s1.heap.objs.size vs ((arrOf st').map (·.2))).get? b = some u
    rw [sortedHeap_old (Nat.ne_of_lt hlt) (by rw [size_push']; exact Nat.lt_succ_of_lt hlt)]
    exact Heap.get?_push_of_some _ q
  · rw [pn.length_eq, List.length_map, Array.length_toList]; exact hn
end
/-! ### the two as rules -/
def SetXO (w : World) (a : Addr) (M : Str → Bool) (c : Nat) : HO := .ext fun h => SetX w h a M c
theorem setXO_ok {w : World} {P : Program} {H : Hp} {h : Heap} {a : Addr} {M : Str → Bool} {c : Nat} (R : SetX w h a M c) : ObjOk P w H h a (SetXO w a M c) := by
  have ⟨o, _, _, _, ho, _⟩ := R
  exact ⟨R, ⟨o, ho⟩, fun h1 h2 p k => SetX.at p k⟩
section
variable {X : Cx}
/-- set(a list of texts) -/
def rSetX (K : PySem.W.Frag) (w : World) : List V → Hp → VK → Prop := fun xs H Q => ∃ (l : Addr) (ys : List Str), xs = [V.ref l] ∧ SqL K H l (ys.map V.str) ∧ ys.length ≤ 1000 ∧ ∀ (a : Addr) (c : Nat), H a = none → c ≤ ys.length → Q (.ref a) (upd H a (SetXO w a (fun y => decide (y ∈ ys)) c))
theorem cr_setX (hc : X.calm = true) : CallR X (.type "set") (rSetX X.K X.w) := by
  intro pins s σ H xs us Q I r h
  obtain ⟨l, ys, rfl, hs, hl, q⟩ := h
  rw [Vals.ref1 r]
  obtain ⟨its, rv, pl, hz⟩ := I.list hs
  refine call_setX (items := its.toArray) ys (I.ok.hd hc) pl.isList (by rw [List.toList_toArray]; exact rv.strs) (by unfold scanBound; omega) fun h' tk c hS hcl hk => ?_
  have hn := I.hok.fresh (Nat.le_refl _)
  exact ⟨.ref s.heap.objs.size, _, I.laid (t' := tk) hk (Nat.le_refl _) (setXO_ok hS), rfl, q _ c hn hcl⟩
/-- sorted(such a set) -/
def rSortX (w : World) : List V → Hp → VK → Prop := fun xs H Q => ∃ (a : Addr) (M : Str → Bool) (c : Nat), xs = [V.ref a] ∧ H a = some (SetXO w a M c) ∧ c < 64 ∧ ∀ (ys : List Str) (p : Addr), sortedS ys = true → ys.Nodup → (∀ y, y ∈ ys ↔ M y = true) → H p = none → Q (.ref p) (upd H p (.lst (ys.map V.str)))
theorem cr_sortX (hc : X.calm = true) : CallR X (.builtin "sorted") (rSortX X.w) := by
  intro pins s σ H vs us Q I r h
  obtain ⟨a, M, c, rfl, ha, h64, q⟩ := h
  have R : SetX X.w s.heap a M c := (I.hok a _ ha).1
  rw [Vals.ref1 r]
  refine sorted_setX R (I.ok.hd hc) h64 fun s' p out ep ys k g o hp hg hi hs nd hm hl => ?_
  have hlen : (ys.map V.str).length ≤ sizeLine := by rw [List.length_map, hl, sizeLine_eq]; omega
  have hn : H p = none := I.hok.fresh hp
  have J : Inv X pins σ (upd H p (.lst (ys.map V.str))) { s with heap := s'.heap, gens := s'.gens, drawn := s'.drawn, toks := s'.toks } :=
    I.call (ch := []) (Un.laid k hp hn) (I.hok.laid k hp ⟨hlen, out.toList, ep, vals_of_strs hi, hg⟩) (by rw [g]; exact I.bare) (fun _ z => nomatch z)
  have e : s' = { s with heap := s'.heap, gens := s'.gens, drawn := s'.drawn, toks := s'.toks } := by
    cases s'
    cases s
    cases o
    rfl
  rw [e]
  exact ⟨.ref p, _, J, rfl, q ys p hs nd hm hn⟩
end
end Pe
set_option Elab.async false
set_option maxRecDepth 100000
set_option maxHeartbeats 4000000
/-! the facts of an own exception, put together -/
namespace Pe
open PySem L2
/-- an own exception class whose __init__ begins with super().__init__('..') -/
structure ExcF (P : Program) (K : PySem.W.Frag) (mg : Str → Option Value) (x qual : Str) (st : Stmt) (C f cda cc : Addr) (fd : FuncData) : Prop where
  hC : mg x = some (.ref C)
  init : PySem.W.findIn K (.ref C) "__init__" = some (some (.ref f))
  sup : SupF P K mg C f qual st fd cda cc
  oex : OexC K C
  self : PySem.W.exmOne K (.ref C) (.ref C) = some true
  df : fd.defaults = .none
theorem exm_two {K : PySem.W.Frag} {C D : Addr} {b : Bool} (h1 : PySem.W.subIn K (.ref D) (.type "BaseException") = some true) (h2 : PySem.W.isClsIn K D = true) (h3 : PySem.W.typeIn K (.ref D) = some (.type "type")) (h4 : PySem.W.subIn K (.ref C) (.ref D) = some b) :
    PySem.W.exmOne K (.ref C) (.ref D) = some b := by
  unfold PySem.W.exmOne
  rw [h1]
  simp only [beq_self_eq_true, if_true]
  unfold PySem.W.kitCls
  have h2' : (PySem.W.clsIn K D).isSome = true := h2
  simp only [h2', h3, beq_self_eq_true, Bool.and_self, if_true, h4]
theorem excF_mk {P : Program} {K : PySem.W.Frag} {mg : Str → Option Value} {h : Heap} {x qual : Str} {st : Stmt} {C f cda cc : Addr} {oc : Value} {od : Option Addr} {kV doc pm : Value} {an : Option Addr} {ct : Value} {osl : Array (Option Value)}
    {ccl : Value} {cdd : Option Addr} {vs : Array Value} {ccs : Array (Option Value)} {file : Str} {tf : Tok} {cl : Value} {cld : Option Addr} {csl : Array (Option Value)} {cd : ClassData}
    {nm q : Str} {N : Addr} {bs bm : List Value} {sn : List Str} {sub : List Value} {ab : Bool} {col : Option Bool} {dd : Option Addr} {k0 k1 k2 k3 k5 : Option Value}
    (X : K.In h) (G : h.Ns mainGlobals mg) (a1 : PySem.W.nsIn K mainGlobals x = some (some (.ref C))) (a2 : PySem.W.findIn K (.ref C) "__init__" = some (some (.ref f)))
    (l : K.lookup f = some ⟨oc, od, .func (PySem.W.ksFn "__init__" qual (C8.fnArgs st) (C8.fnBody st) (C8.fnScope st) .none kV doc pm an (.ref cda) ct cc), osl⟩)
    (cq : PySem.W.codeIn K (.ref cda) qual = true) (c1 : K.lookup cda = some ⟨ccl, cdd, .fields vs, ccs⟩) (c2 : vs[2]? = some (.str file tf)) (c3 : ((P.main.file : Str) == file) = true)
    (d : K.lookup cc = some ⟨cl, cld, .cell (some (.ref C)), csl⟩) (e : PySem.W.clsIn K C = some cd) (g1 : PySem.W.mroIn K C (.ref C) = some true) (g2 : PySem.W.ks_superIn K C C "__init__" = some (some (.builtin "ValueError.__init__")))
    (g3 : PySem.W.nsIn K cStatics "thirdparty.any" = some none) (g4 : PySem.W.subIn K (.ref C) (.type "ValueError") = some true) (g5 : PySem.W.nsIn K mainGlobals "super" = some none) (g6 : PySem.W.typeIn K (.ref f) = some (.type "function"))
    (o1 : K.lookup C = some (excClassObj nm q C N bs bm true sn sub ab col dd k0 k1 k2 k3 k5 "ValueError.__new__")) (o2 : PySem.HandSPX.refsVE bm = true) (o3 : PySem.W.findIn K (.ref C) "__setattr__" = some (some (.builtin "object.__setattr__")))
    (o4 : PySem.W.subIn K (.ref C) (.type "BaseException") = some true) (o5 : PySem.W.typeIn K (.ref C) = some (.type "type")) (o6 : PySem.W.keepIn K (.ref C) = true) (o7 : PySem.W.isClsIn K C = true) (o8 : PySem.W.subIn K (.ref C) (.ref C) = some true) :
    ∃ C f cda cc fd, ExcF P K mg x qual st C f cda cc fd :=
  ⟨C, f, cda, cc, _, ⟨PySem.W.mg_of X G a1, a2, ⟨⟨_, _, _, _, _, _, _, _, _, rfl, l⟩, cq, ⟨_, _, _, _, _, _, c1, c2, c3⟩, ⟨_, _, _, d⟩, ⟨_, e⟩, g1, g2, g3, g4, PySem.W.mg_none_of X G g5, g6⟩,
    ⟨⟨_, _, _, _, _, _, _, _, _, _, _, _, _, _, _, o1, o2⟩, o3, o4, o5, o6⟩, exm_two o4 o7 o5 o8, rfl⟩⟩
end Pe
set_option Elab.async false
set_option maxRecDepth 100000
set_option maxHeartbeats 4000000
/-! a text times a number; a comprehension of two loops by walks -/
namespace Pe
open PySem PySem.Spec PyProof.Rows L2
theorem foldl_size : ∀ (n : Nat) (c acc : Array Nat), ((List.replicate n c).foldl (· ++ ·) acc).size = acc.size + n * c.size
  | 0, c, acc => by simp
  | n + 1, c, acc => by
    rw [List.replicate_succ, List.foldl_cons, foldl_size n c (acc ++ c), Array.size_append, Nat.succ_mul]
    omega
theorem mul_len (z : Str) {n : Nat} : (Txt.mul z (n : Int)).length = z.length * n := by
  unfold Txt.mul
  by_cases h1 : (n : Int) < 1
  · rw [if_pos h1]
    have : n = 0 := by omega
    rw [this, Nat.mul_zero]
    rfl
  · rw [if_neg h1]
    by_cases h2 : ((n : Int) == 1 || z.length == 0) = true
    · rw [if_pos h2]
      rw [Bool.or_eq_true, beq_iff_eq, beq_iff_eq] at h2
      rcases h2 with e | e
      · have : n = 1 := by omega
        rw [this, Nat.mul_one]
      · rw [e, Nat.zero_mul]
    · rw [if_neg h2]
      show ((List.replicate (n : Int).toNat z.cps).foldl (· ++ ·) #[]).size = z.cps.size * n
      rw [foldl_size, Int.toNat_natCast, Nat.mul_comm]
      simp
section
variable {X : Cx}
/-- a text times n: a text, that much longer -/
def rMulS : R2 := fun x y H Q => ∃ (z : Str) (n : Nat), x = .str z ∧ y = .int (n : Int) ∧ z.length ≤ 1000 ∧ n ≤ 2000 ∧ ∀ t : Str, t.length = z.length * n → Q (.str t) H
theorem op_mulS : OpR X (binaryOp .Mult) rMulS := by
  intro pins s σ H x y v u Q I rx ry h
  obtain ⟨z, n, rfl, rfl, hz, hn, q⟩ := h
  obtain ⟨t, rfl⟩ := rx
  obtain ⟨t', rfl⟩ := ry
  refine SB.mul ⟨?_, fun h1 _ => ?_, fun h1 _ => ?_⟩ (fun t1 k => ⟨.str _, H, I.tok _, ⟨_, rfl⟩, q _ (mul_len z)⟩)
  · rw [Bool.or_eq_false_iff, decide_eq_false_iff_not, decide_eq_false_iff_not]
    constructor <;> omega
  · intro h3
    have h4 : (4611686018427387 : Int) ≤ (2 ^ 63 - 1) / (n : Int) := by
      refine (Int.le_ediv_iff_mul_le (by omega)).mpr ?_
      omega
    omega
  · have h5 : z.length * (n : Int).toNat ≤ 1000 * 2000 := Nat.mul_le_mul hz (by omega)
    unfold Builtin.Str.tooLong
    refine decide_eq_false ?_
    rw [sizeLine_eq]
    omega
end
section
variable {X : Cx}
abbrev LcIn (D : Addr) (g1 : TG) (tt1 : TT) (te : TE) (vs1 : List Nat) (σ2 : L2.St) (Nx : Hp → Prop) (J1 : It) (H4 : Hp) : Prop := ∃ W1 : Nat → Nat → Hp → Prop, (∃ m, W1 0 m H4) ∧ ∀ j k H, W1 j k H →
  (J1.stop j H ∧ Nx H) ∨ (J1.go j H ∧ ∃ Nx1 : Hp → Prop, (∀ H', Nx1 H' → ∃ k', k' < k ∧ W1 (j + 1) k' H') ∧ ∀ x H', J1.yld j H x H' → g1 x (wipe σ2 vs1) H' fun σ3 H5 => wipe σ3 vs1 = wipe σ2 vs1 ∧ tt1 σ3 H5 fun b H6 =>
    if b = true then te σ3 H6 fun y H7 => ∃ acc, H7 D = some (.lst acc) ∧ acc.length < sizeLine ∧ Nx1 (upd H7 D (.lst (acc ++ [y]))) else Nx1 H6)
theorem lcin_it {J1 : It} {n : Nat} {G : Hp → Prop} {Y : Nat → Hp → V → Hp → Prop} (w : Walk J1 n G Y) {D : Addr} {g1 : TG} {tt1 : TT} {te : TE} {vs1 : List Nat} {σ2 : L2.St} {Nx : Hp → Prop} {H4 : Hp} (Pv : Nat → Hp → Prop) (h0 : Pv 0 H4) (hG : ∀ i H, i ≤ n → Pv i H → G H)
    (hs : ∀ i x H H', i < n → Pv i H → Y i H x H' → g1 x (wipe σ2 vs1) H' fun σ3 H5 => wipe σ3 vs1 = wipe σ2 vs1 ∧ tt1 σ3 H5 fun b H6 =>
      if b = true then te σ3 H6 fun y H7 => ∃ acc, H7 D = some (.lst acc) ∧ acc.length < sizeLine ∧ Pv (i + 1) (upd H7 D (.lst (acc ++ [y]))) else Pv (i + 1) H6) (hd : ∀ H, Pv n H → Nx H) : LcIn D g1 tt1 te vs1 σ2 Nx J1 H4 := by
  refine ⟨fun i m H => m = n - i ∧ i ≤ n ∧ Pv i H, ⟨n, by simp, Nat.zero_le _, h0⟩, ?_⟩
  rintro i m H ⟨rfl, hi, p⟩
  have q := hG i H hi p
  by_cases hlt : i < n
  · exact .inr ⟨w.goes i H hlt q, Pv (i + 1), fun H' p' => ⟨n - (i + 1), by omega, rfl, hlt, p'⟩, fun x H' y => hs i x H H' hlt p (w.yields i H x H' hlt q y)⟩
  · have e : i = n := by omega
    subst e
    exact .inl ⟨w.stops H q, hd H p⟩
theorem lc2_it {J : It} {n : Nat} {G : Hp → Prop} {Y : Nat → Hp → V → Hp → Prop} (w : Walk J n G Y) {D : Addr} {g g1 : TG} {tt tt1 : TT} {wi1 : TI} {te : TE} {vs vs1 : List Nat} {σ : L2.St} {H1 : Hp} {Qd : Hp → Prop} (Pv : Nat → Hp → Prop) (h0 : Pv 0 (upd H1 D (.lst []))) (hG : ∀ i H, i ≤ n → Pv i H → G H)
    (hs : ∀ i x H H', i < n → Pv i H → Y i H x H' → g x (wipe σ vs) H' fun σ2 H2 => wipe σ2 vs = wipe σ vs ∧ tt σ2 H2 fun b H3 => if b = true then wi1 σ2 H3 fun J1 H4 => LcIn D g1 tt1 te vs1 σ2 (Pv (i + 1)) J1 H4 else Pv (i + 1) H3) (hd : ∀ H, Pv n H → Qd H) :
    ∃ W : Nat → Nat → Hp → Prop, (∃ m, W 0 m (upd H1 D (.lst []))) ∧ ∀ i m H, W i m H →
      (J.stop i H ∧ Qd H) ∨ (J.go i H ∧ ∃ Nx : Hp → Prop, (∀ H', Nx H' → ∃ m', m' < m ∧ W (i + 1) m' H') ∧ ∀ x H', J.yld i H x H' → g x (wipe σ vs) H' fun σ2 H2 => wipe σ2 vs = wipe σ vs ∧ tt σ2 H2 fun b H3 =>
        if b = true then wi1 σ2 H3 fun J1 H4 => LcIn D g1 tt1 te vs1 σ2 Nx J1 H4 else Nx H3) := by
  refine ⟨fun i m H => m = n - i ∧ i ≤ n ∧ Pv i H, ⟨n, by simp, Nat.zero_le _, h0⟩, ?_⟩
  rintro i m H ⟨rfl, hi, p⟩
  have q := hG i H hi p
  by_cases hlt : i < n
  · exact .inr ⟨w.goes i H hlt q, Pv (i + 1), fun H' p' => ⟨n - (i + 1), by omega, rfl, hlt, p'⟩, fun x H' y => hs i x H H' hlt p (w.yields i H x H' hlt q y)⟩
  · have e : i = n := by omega
    subst e
    exact .inl ⟨w.stops H q, hd H p⟩
end
end Pe
set_option Elab.async false
set_option maxRecDepth 100000
set_option maxHeartbeats 4000000
/-! a written list of one text, behind which a token is out; replace and split of texts -/
namespace Pe
open PySem PySem.Spec PyProof.Rows L2 StrLaws
section
variable {X : Cx} {rest : List Stmt} {u : TS}
/-- name = ['text'], then the rest, a token out -/
theorem pss_lstr {i j : Nat} {x c : Str} {cpos lpos pos' pos : Pos} (hN : X.N.Nodup) (hi : X.N[i]? = some x) (hx : Loc X.env.scope x) (h2 : PSsT X rest u)
    (hs : swapsWith (.List [.Constant (.str c) j cpos] lpos) (some (.Name x pos')) pos.line X.env = pure false := by rfl) (hf : X.fn x = true ∨ X.env.scope.names.lookup x = some .local := by first | exact .inl rfl | exact .inr rfl | assumption) :
    PSs X (.Assign [.Name x pos'] (.List [.Constant (.str c) j cpos] lpos) pos :: rest) (tSeq (tAsg (fun _ H Q => ∀ l, H l = none → Q (.ref l) (upd H l (.lst [.str c]))) (gName i)) u) := by
  refine ⟨fun pins s σ H D I h => ?_⟩
  refine wpAny_execs_cons (wpAny_Assign_Name (wpAny_List_spliced ?_) hs)
  show wpAny _ _ (spliced ((false, eval (.Constant (.str c) j cpos) X.env) :: backTo lpos (starEach [] X.env))) _ _ s
  refine Calls.spliced_cons (Calls.Constant_str (Calls.spliced_nil ?_))
  refine ⟨(by show 1 ≤ sizeLine; decide), ?_⟩
  have hf0 : H s.heap.objs.size = none := I.hok.fresh (Nat.le_refl _)
  have I1 : Inv X pins σ (upd H s.heap.objs.size (.lst [.str c])) { s with heap := s.heap.push { cls := .type "list", data := .seq #[.str c s.toks] }, toks := s.toks + 1 } :=
    I.laid (t' := s.toks + 1) (fun b o e => Heap.get?_push_of_some _ e) (Nat.le_refl _) ⟨(by show 1 ≤ sizeLine; decide), [.str c s.toks], 0, .cons ⟨_, rfl⟩ .nil, Heap.get?_push_size _ rfl⟩
  refine wpAny_mono (PySem.wpAny_toks (store_ok (v := V.ref s.heap.objs.size) (u := Value.ref s.heap.objs.size) (Q := fun _ s2 => Inv X pins (σ.set i (some (V.ref s.heap.objs.size))) (upd H s.heap.objs.size (.lst [.str c])) s2) I1 hN hi hx rfl (fun _ I2 => I2) hf)) (fun _ s2 q => ?_) fun _ _ z => z.2
  have hk : s.toks + 1 ≤ s2.toks := q.1
  exact h2 pins s2 _ _ D (by omega) q.2 (h _ hf0)
variable {o e : Expr} {to te : TE}
theorem pet_m1 {id : String} {name : Str} {apos pos : Pos} {r : V → List V → Hp → VK → Prop} (slot : Slot "str" name id) (ty : typeOf (.builtin id) = pure (.type "method_descriptor")) (rule : MtR X id r) (ho : PET X o to) (he : PE X e te)
    (hs : starEach [e] X.env = [(false, eval e X.env)] := by rfl) (hbase : attributeBase o name X.env (eval o X.env) = eval o X.env := by rfl) (hline : (apos.endLine == pos.line) = true := by rfl) :
    PET X (.Call (.Attribute o name apos) [e] [] pos) (tM1 r to te) := by
  intro pins s σ H Q h0 I h
  refine PySem.Call_method1 hbase hs hline (thn (ho pins s σ H _ h0 I h) fun v s1 ⟨x, H1, I1, r1, q1⟩ => ?_)
  obtain ⟨⟨a, rfl⟩, q1⟩ := q1
  obtain ⟨t, rfl⟩ := _root_.id r1
  refine ⟨"str", _, PySem.F.plainAttrs_str, slot, ty, typeIs_str _ _ _, (fun _ e => nomatch e), Calls.callWith_builtin rfl (Calls.evalArgs_plain (Calls.spliced_cons ?_))⟩
  exact thn (he.run pins s1 σ H1 _ I1 q1) fun u s2 ⟨y, H2, I2, r2, q2⟩ => Calls.spliced_nil (rule pins s2 σ H2 _ [y] _ [u] Q I2 r1 (.cons r2 .nil) q2)
end
/-! ### plain -/
theorem replL_r1 (c : Nat) (z : L) : ∀ l : L, replL [c] z l = r1 c z l
  | [] => by
    rw [replL_nil]
    rfl
  | d :: r => by
    unfold r1
    rw [List.flatMap_cons]
    by_cases h : d = c
    · rw [replL_hit (by simp) (by simp [h]), if_pos h]
      show z ++ replL [c] z r = z ++ r1 c z r
      rw [replL_r1 c z r]
    · rw [replL_miss (by simpa using h), if_neg h]
      show d :: replL [c] z r = d :: r1 c z r
      rw [replL_r1 c z r]
theorem replace_S (c : Nat) (z l : L) : Txt.replace (SX.S l) (SX.S [c]) (SX.S z) = SX.S (r1 c z l) := by
  have h := replace_list (x := SX.S l) (y := SX.S [c]) (z := SX.S z) (by show 1 ≤ 1; omega)
  rw [← replL_r1]
  rw [← SX.S_tl (Txt.replace (SX.S l) (SX.S [c]) (SX.S z)), h]
theorem joinB_L : ∀ ws : List L, joinB ws = TL.joinL [32] ws
  | [] => rfl
  | [w] => rfl
  | w :: v :: r => by
    rw [joinB_cons w (by simp), joinB_L (v :: r)]
    rfl
/-- the words of a whole text, as the text's own methods cut it -/
theorem cut_text {t : Tx} (h : t.ok) : Txt.split (SX.S (rr t.text)) (SX.S [32]) = t.toks.map SX.S := by
  rw [SX.split_S (by simp) (by decide), rr_text h, joinB_L, TL.spl_join (Tx.toks_ne h) (Tx.toks_free h)]
theorem r1_len (c : Nat) (z : L) (hz : z.length = 2) : ∀ l : L, (r1 c z l).length ≤ 2 * l.length
  | [] => Nat.zero_le _
  | d :: r => by
    have ih := r1_len c z hz r
    unfold r1 at ih ⊢
    rw [List.flatMap_cons, List.length_append, List.length_cons]
    by_cases h : d = c
    · rw [if_pos h]
      omega
    · rw [if_neg h]
      have : ([d] : L).length = 1 := rfl
      omega
end Pe
set_option Elab.async false
set_option maxRecDepth 100000
set_option maxHeartbeats 4000000
namespace Pe
open PySem L2
abbrev sScI : Stmt := inClass (top 30) 0
abbrev sTakes : Stmt := inClass (top 30) 1
abbrev sBegins : Stmt := inClass (top 30) 2
abbrev sSign : Stmt := inClass (top 30) 3
abbrev sCloses : Stmt := inClass (top 30) 4
abbrev sCanEnd : Stmt := inClass (top 30) 5
/-- the text of a sign in the scanner's list -/
def sgS (c : Nat) : Str := if c = 0 then ("" : Str) else SX.S [c]
def sgV (c : Nat) : V := .str (sgS c)
def awS (a : Nat) : Str := if a = 0 then ("item" : Str) else if a = 1 then ("name" : Str) else if a = 2 then ("end" : Str) else if a = 3 then ("sign" : Str) else ("blank" : Str)
def scF (a le l : V) : List (Str × V) := [("awaited", a), ("letters", le), ("signs", l)]
theorem scF_a (a le l : V) : (scF a le l).lookup ("awaited" : Str) = some a := by kernel_rfl
theorem scF_le (a le l : V) : (scF a le l).lookup ("letters" : Str) = some le := by kernel_rfl
theorem scF_l (a le l : V) : (scF a le l).lookup ("signs" : Str) = some l := by kernel_rfl
theorem scF_pa (a le l v : V) : putF "awaited" v (scF a le l) = scF v le l := by kernel_rfl
theorem scF_ple (a le l v : V) : putF "letters" v (scF a le l) = scF a v l := by kernel_rfl
theorem scF_new (a le l : V) : putF "signs" l (putF "letters" le (putF "awaited" a [])) = scF a le l := by kernel_rfl
theorem scF_m1 (a le l : V) : (scF a le l).lookup ("takes" : Str) = none := by kernel_rfl
theorem scF_m2 (a le l : V) : (scF a le l).lookup ("begins_item" : Str) = none := by kernel_rfl
theorem scF_m3 (a le l : V) : (scF a le l).lookup ("takes_sign" : Str) = none := by kernel_rfl
theorem scF_m4 (a le l : V) : (scF a le l).lookup ("closes" : Str) = none := by kernel_rfl
theorem scF_m5 (a le l : V) : (scF a le l).lookup ("can_end" : Str) = none := by kernel_rfl
/-- a Scanner stands at a, its list of signs at l, in the state s -/
structure ScAt (C : Addr) (H : Hp) (a l : Addr) (s : Sc) : Prop where
  ob : ∃ dx, H a = some (.ins C dx (scF (.str (awS s.aw)) (.int (s.le : Int)) (.ref l)))
  ls : H l = some (.lst (s.st.reverse.map sgV))
  ne : s.st ≠ []
  sz : s.st.length ≤ 1000
  aw : s.aw ≤ 4
/-- all but the scanner is as it was -/
def Kp2 (a l : Addr) (H H' : Hp) : Prop := ∀ b o, H b = some o → b ≠ a → b ≠ l → H' b = some o
def spTakes (C : Addr) : Sp := fun vs H Q _ => ∃ (a l : Addr) (s : Sc) (c : Nat), vs = [.ref a, .str (SX.S [c])] ∧ ScAt C H a l s ∧
  ∀ H', Kp2 a l H H' → (∀ s', step s c = some s' → ScAt C H' a l s') → Q (.bl (step s c).isSome) H'
def spBegins (C : Addr) : Sp := fun vs H Q _ => ∃ (a l : Addr) (s : Sc) (c : Nat), vs = [.ref a, .str (SX.S [c])] ∧ ScAt C H a l s ∧ s.aw = 0 ∧
  ∀ H', Kp2 a l H H' → (∀ s', step s c = some s' → ScAt C H' a l s') → Q (.bl (step s c).isSome) H'
structure ScT (K : PySem.W.Frag) (mg : Str → Option Value) (C : Addr) : Prop where
  cl : Cls K C
  nA : NoAttr K C "awaited"
  nL : NoAttr K C "letters"
  nS : NoAttr K C "signs"
  len : mg "len" = none
  let_ : ∃ t, mg "LETTERS" = some (.str "abcdefghijklmnopqrstuvwxyz" t)
  lon : ∃ t, mg "LONGEST" = some (.int 6 t)
  opn : ∃ t, mg "OPEN" = some (.int 20 t)
theorem S1_eq (c d : Nat) : decide ((V.str (SX.S [c])) = V.str (SX.S [d])) = decide (c = d) := by
  by_cases h : c = d
  · subst h
    simp only [decide_true]
  · rw [decide_eq_false h]
    refine decide_eq_false fun e => h ?_
    injection e with e
    have := SX.S_inj e
    simpa using this
theorem str_S1 (x : Str) (c : Nat) (h : x.cps.toList = [c]) : x = SX.S [c] := by rw [← h]
theorem s_open : (("(" : Str)) = SX.S [40] := str_S1 _ _ (by decide +kernel)
theorem s_shut : ((")" : Str)) = SX.S [41] := str_S1 _ _ (by decide +kernel)
theorem s_blank : ((" " : Str)) = SX.S [32] := str_S1 _ _ (by decide +kernel)
theorem s_amp : (("&" : Str)) = SX.S [38] := str_S1 _ _ (by decide +kernel)
theorem s_bar : (("|" : Str)) = SX.S [124] := str_S1 _ _ (by decide +kernel)
section
variable {P : Program} {w : World} {K : PySem.W.Frag} {mg : Str → Option Value} {base : Heap} {C : Addr}
theorem scB : FnScope ["self", "letter"] ["self", "letter"] (C8.fnScope sBegins) := C8.fnScope_by (by decide +kernel)
theorem ok_begins {f : Addr} {fd : FuncData} (F : C8.Fun K "begins_item" "Scanner.begins_item" sBegins f fd) (b : Binds K fd ["self", "letter"] []) (me : Meth K C "begins_item" f) (T : ScT K mg C) : C8.Met P w K mg base 1 C "begins_item" (spBegins C) [] := by
  refine C8.met0 T.cl me F b scB (fun vs H Q E h => ?_) (fun cdv A outer s H vs Q E hr h => ?_)
  · obtain ⟨a, l, s, c, rfl, _⟩ := h
    rfl
  · obtain ⟨a, l, s, c, rfl, S, ha, k⟩ := h
    refine ⟨_, pss_cons (ps_if (pt_cmpR op_eq (pv 1) pe_str (nomark _)) (pss_cons (ps_expr (pe_bm PySem.F.plainAttrs_list PySem.F.slot_list_append PySem.F.type_list_append mt_append (pe_fld (pv 0) rfl) (pa_cons pe_str pa_nil)))
        (pss_one (ps_ret (pe_cmpR op_le (pe_op op_sub (pe_callB call_len_seq (by rfl) T.len PySem.boot_len (pa_cons (pe_fld (pv 0) rfl) pa_nil)) pe_int) (pe_gi T.opn) (nomark _))))) pss_nil)
      (pss_cons (ps_fld (pv 0) pe_str rfl) (pss_cons (ps_fld (pv 0) pe_int rfl) (pss_one (ps_ret (pe_cmpR op_in_sign (pv 1) (pe_gs T.let_) rfl))))), ?_⟩
    obtain ⟨dx, hob⟩ := S.ob
    have hal : a ≠ l := ne_of hob S.ls (by intro z; cases z)
    refine ⟨_, rfl, rfl, _, rfl, ?_⟩
    refine ite2 (fun hc => ?_) (fun hc => ?_)
    · -- an opening parenthesis
      rw [s_open, S1_eq] at hc
      have hc := of_decide_eq_true hc
      subst hc
      refine ⟨_, rfl, a, C, dx, _, _, rfl, hob, T.cl, T.nS, scF_l _ _ _, .inl ⟨rfl, _, SqL.of S.ls⟩, l, _, _, rfl, rfl, S.ls, small1000 (by rw [List.length_map, List.length_reverse]; exact S.sz), ?_⟩
      have hob1 : ∀ o, (upd H l o) a = some (.ins C dx (scF (.str (awS s.aw)) (.int (s.le : Int)) (.ref l))) := fun o => by rw [upd_ne hal]; exact hob
      refine ⟨_, rfl, a, C, dx, _, _, rfl, hob1 _, T.cl, T.nS, scF_l _ _ _, l, _, rfl, .inl (SqL.of upd_same), _, _, rfl, rfl, _, _, rfl, rfl, ?_⟩
      have e1 : step s 40 = if s.st.length < 21 then some ⟨0, s.le, 0 :: s.st⟩ else none := by
        unfold step
        rw [if_pos ha, if_pos rfl]
      have k1 := k (upd H l (.lst (s.st.reverse.map sgV ++ [.str ("" : Str)]))) (fun b o e h1 h2 => by rw [upd_ne h2]; exact e) (fun s' hs => by
        rw [e1] at hs
        by_cases hn : s.st.length < 21
        · rw [if_pos hn] at hs
          injection hs with hs
          subst hs
          refine ⟨⟨dx, ?_⟩, ?_, by simp, by show s.st.length + 1 ≤ 1000; omega, by show 0 ≤ 4; omega⟩
          · rw [hob1, ha]
          · rw [upd_same]
            simp [sgV, sgS]
        · rw [if_neg hn] at hs
          cases hs)
      have e2 : (step s 40).isSome = decide ((((s.st.reverse.map sgV ++ [V.str ("" : Str)]).length : Int)) - 1 ≤ 20) := by
        rw [e1, List.length_append, List.length_map, List.length_reverse]
        by_cases hn : s.st.length < 21
        · rw [if_pos hn]
          exact (decide_eq_true (by simp; omega)).symm
        · rw [if_neg hn]
          exact (decide_eq_false (by simp; omega)).symm
      rw [e2] at k1
      exact k1
    · -- a letter, or nothing that can stand here
      have hc40 : c ≠ 40 := fun e => hc (by rw [s_open, S1_eq, e]; rfl)
      refine ⟨_, rfl, a, C, dx, _, rfl, hob, T.cl, T.nA, (by show 3 < 1000; decide), ?_⟩
      rw [scF_pa]
      refine ⟨_, rfl, a, C, dx, _, rfl, upd_same, T.cl, T.nL, (by show 3 < 1000; decide), ?_⟩
      rw [scF_ple]
      refine ⟨_, rfl, _, _, rfl, rfl, ?_⟩
      have e1 : step s c = if isL c = true then some ⟨1, 1, s.st⟩ else none := by
        unfold step
        rw [if_pos ha, if_neg hc40]
      have e2 : isL c = (step s c).isSome := by
        rw [e1]
        by_cases hn : isL c = true
        · rw [if_pos hn, hn]; rfl
        · rw [if_neg hn]
          exact (Bool.not_eq_true _ ▸ hn : isL c = false)
      rw [in_letters, e2]
      refine k _ (fun b o e h1 h2 => by rw [upd_ne h1, upd_ne h1]; exact e) (fun s' hs => ?_)
      rw [e1] at hs
      by_cases hn : isL c = true
      · rw [if_pos hn] at hs
        injection hs with hs
        subst hs
        exact ⟨⟨dx, upd_same⟩, by rw [upd_ne hal.symm, upd_ne hal.symm]; exact S.ls, S.ne, S.sz, by show 1 ≤ 4; omega⟩
      · rw [if_neg hn] at hs
        cases hs
theorem awS_eq {a : Nat} (h : a ≤ 4) : decide (V.str (awS a) = V.str ("name" : Str)) = decide (a = 1) ∧ decide (V.str (awS a) = V.str ("item" : Str)) = decide (a = 0) ∧ decide (V.str (awS a) = V.str ("blank" : Str)) = decide (a = 4) ∧ decide (V.str (awS a) = V.str ("sign" : Str)) = decide (a = 3) := by
  rcases (by omega : a = 0 ∨ a = 1 ∨ a = 2 ∨ a = 3 ∨ a = 4) with e | e | e | e | e <;> subst e <;> decide +kernel
def spSign (C : Addr) : Sp := fun vs H Q _ => ∃ (a l : Addr) (s : Sc) (c : Nat), vs = [.ref a, .str (SX.S [c])] ∧ ScAt C H a l s ∧ s.aw = 3 ∧
  ∀ H', Kp2 a l H H' → (∀ s', step s c = some s' → ScAt C H' a l s') → Q (.bl (step s c).isSome) H'
def spCloses (C : Addr) : Sp := fun vs H Q _ => ∃ (a l : Addr) (s : Sc) (c : Nat), vs = [.ref a, .str (SX.S [c])] ∧ ScAt C H a l s ∧ c ≠ 32 ∧
  ∀ H', Kp2 a l H H' → (∀ s', stepE s c = some s' → ScAt C H' a l s') → Q (.bl (stepE s c).isSome) H'
def spCanEnd (C : Addr) : Sp := fun vs H Q _ => ∃ (a l : Addr) (s : Sc), vs = [.ref a] ∧ ScAt C H a l s ∧ ∀ H', Same H H' → Q (.bl (endOk s)) H'
def spScI (C : Addr) : Sp := fun vs H Q _ => ∃ (a dx : Addr), vs = [.ref a] ∧ H a = some (.ins C dx []) ∧ ∀ (l : Addr) (H' : Hp), H l = none → ScAt C H' a l sc0 → (∀ b o, H b = some o → b ≠ a → H' b = some o) → Q .non H'
theorem scS : FnScope ["self", "letter", "right"] ["self", "letter"] (C8.fnScope sSign) := C8.fnScope_by (by decide +kernel)
theorem ok_sign {f : Addr} {fd : FuncData} (F : C8.Fun K "takes_sign" "Scanner.takes_sign" sSign f fd) (b : Binds K fd ["self", "letter"] []) (me : Meth K C "takes_sign" f) (T : ScT K mg C) : C8.Met P w K mg base 1 C "takes_sign" (spSign C) [] := by
  refine C8.met0 T.cl me F b scS (fun vs H Q E h => ?_) (fun cdv A outer s H vs Q E hr h => ?_)
  · obtain ⟨a, l, s, c, rfl, _⟩ := h
    rfl
  · obtain ⟨a, l, s, c, rfl, S, ha, k⟩ := h
    refine ⟨_, pss_cons (ps_set (i := 2) scS.nd rfl (Or.inl rfl) (pe_and (pe_cmpR op_in_seq (pv 1) (pe_tup (pa_cons pe_str (pa_cons pe_str pa_nil))) rfl)
          (pe_one (pe_cmpR op_in_seq (pe_ix ix_list (pe_fld (pv 0) rfl) (pe_un un_neg pe_int) (fun _ _ => rfl)) (pe_tup (pa_cons pe_str (pa_cons (pv 1) pa_nil))) rfl))))
      (pss_cons (ps_asg (pv 1) (pg_sub (pe_fld (pv 0) rfl) (pe_un un_neg pe_int) set_list))
      (pss_cons (ps_fld (pv 0) pe_str rfl) (pss_one (ps_ret (pv 2))))), ?_⟩
    obtain ⟨dx, hob⟩ := S.ob
    have hls := S.ls
    have hal : a ≠ l := ne_of hob S.ls (by intro z; cases z)
    cases est : s.st with
    | nil => exact absurd est S.ne
    | cons a0 r =>
      have exs : s.st.reverse.map sgV = r.reverse.map sgV ++ [sgV a0] := by rw [est]; simp
      rw [exs] at hls
      have e1 : step s c = if (c = 38 ∨ c = 124) ∧ (a0 = 0 ∨ a0 = c) then some ⟨4, s.le, c :: r⟩ else none := by
        unfold step
        rw [if_neg (by omega), if_neg (by omega), if_pos ha, est]
      have hi1 : inV (.str (SX.S [c])) [.str ("&" : Str), .str ("|" : Str)] = decide (c = 38 ∨ c = 124) := by
        have q := inV_str (SX.S [c]) [("&" : Str), ("|" : Str)]
        refine q.trans ?_
        rw [s_amp, s_bar]
        refine decide_eq_decide.mpr ?_
        simp
      have hi2 : (c = 38 ∨ c = 124) → inV (sgV a0) [.str ("" : Str), .str (SX.S [c])] = decide (a0 = 0 ∨ a0 = c) := fun hc => by
        have q := inV_str (sgS a0) [("" : Str), SX.S [c]]
        refine q.trans (decide_eq_decide.mpr ?_)
        have e0 : (("" : Str)) = SX.S [] := by decide +kernel
        unfold sgS
        rw [e0]
        by_cases h0 : a0 = 0
        · rw [if_pos h0]; simp [h0]
        · rw [if_neg h0]; simp [h0]
      -- behind the first statement
      have fin : ∀ (bb : Bool) (H1 : Hp), Same H H1 → bb = (step s c).isSome →
          tSeq (tAsg (tVar 1) (gSub (tFld K (tVar 0) "signs") (tUn (rU fun i => V.int (-i)) (tC (V.int 1))) rSetL)) (tSeq (sFld K (tVar 0) (tC (V.str ("blank" : Str))) "awaited") (tRet (tVar 2)))
            { nx := fun _ H' => Q V.non H', rt := Q } [some (.ref a), some (.str (SX.S [c])), some (.bl bb)] H1 := by
        intro bb H1 sm hbb
        refine ⟨_, rfl, _, rfl, a, C, dx, _, _, rfl, sm _ _ hob, T.cl, T.nS, scF_l _ _ _, _, rfl, l, _, _, r.length, rfl, rfl, sm _ _ hls, ?_, ?_⟩
        · show ixN _ (-1) = _
          unfold ixN
          rw [if_neg (by decide), if_pos (by simp; omega)]
          simp
          omega
        · refine ⟨_, rfl, a, C, dx, _, rfl, by rw [upd_ne hal]; exact sm _ _ hob, T.cl, T.nA, (by show 3 < 1000; decide), ?_⟩
          refine ⟨_, rfl, ?_⟩
          rw [hbb, scF_pa]
          refine k _ (fun b o e h1 h2 => by rw [upd_ne h1, upd_ne h2]; exact sm _ _ e) (fun s' hs => ?_)
          rw [e1] at hs
          by_cases hc : (c = 38 ∨ c = 124) ∧ (a0 = 0 ∨ a0 = c)
          · rw [if_pos hc] at hs
            injection hs with hs
            subst hs
            refine ⟨⟨dx, upd_same⟩, ?_, by simp, ?_, by show 4 ≤ 4; omega⟩
            · rw [upd_ne hal.symm, upd_same]
              refine congrArg (fun z => some (HO.lst z)) ?_
              rw [List.set_append_right _ _ (by simp)]
              have ec : sgV c = V.str (SX.S [c]) := by
                unfold sgV sgS
                rw [if_neg (by omega)]
              simp [ec]
            · have q := S.sz
              rw [est] at q
              exact q
          · rw [if_neg hc] at hs
            cases hs
      refine ⟨_, rfl, (by show 2 ≤ sizeLine; decide), fun p hp => ?_⟩
      refine ⟨p, _, rfl, .inr (SqT.of upd_same), rfl, rfl, inV (.str (SX.S [c])) [.str ("&" : Str), .str ("|" : Str)], rfl, ?_⟩
      have s1 : Same H (upd H p (.tup [.str ("&" : Str), .str ("|" : Str)])) := fun b o e => by rw [upd_ne (ne_of_none e hp)]; exact e
      rw [hi1]
      by_cases hc : c = 38 ∨ c = 124
      · rw [decide_eq_true hc]
        refine iteT ?_
        refine ⟨_, rfl, a, C, dx, _, _, rfl, s1 _ _ hob, T.cl, T.nS, scF_l _ _ _, _, rfl, l, _, _, _, rfl, rfl, SqL.of (s1 _ _ hls), atI_last _ _, ?_⟩
        refine ⟨_, rfl, (by show 2 ≤ sizeLine; decide), fun p2 hp2 => ?_⟩
        refine ⟨p2, _, rfl, .inr (SqT.of upd_same), rfl, rfl, ?_⟩
        refine fin _ _ (fun b o e => by rw [upd_ne (ne_of_none (s1 b o e) hp2)]; exact s1 b o e) ?_
        show inV (sgV a0) [.str ("" : Str), .str (SX.S [c])] = _
        rw [hi2 hc, e1]
        by_cases h2 : a0 = 0 ∨ a0 = c
        · rw [if_pos ⟨hc, h2⟩, decide_eq_true h2]; rfl
        · rw [if_neg (fun z => h2 z.2), decide_eq_false h2]; rfl
      · rw [decide_eq_false hc]
        refine iteF ?_
        refine fin _ _ s1 ?_
        rw [e1, if_neg (fun z => hc z.1)]
        rfl
theorem scC : FnScope ["self", "letter"] ["self", "letter"] (C8.fnScope sCloses) := C8.fnScope_by (by decide +kernel)
theorem ok_closes {f : Addr} {fd : FuncData} (F : C8.Fun K "closes" "Scanner.closes" sCloses f fd) (b : Binds K fd ["self", "letter"] []) (me : Meth K C "closes" f) (T : ScT K mg C) : C8.Met P w K mg base 1 C "closes" (spCloses C) [] := by
  refine C8.met0 T.cl me F b scC (fun vs H Q E h => ?_) (fun cdv A outer s H vs Q E hr h => ?_)
  · obtain ⟨a, l, s, c, rfl, _⟩ := h
    rfl
  · obtain ⟨a, l, s, c, rfl, S, ha, k⟩ := h
    refine ⟨_, pss_cons (ps_if (PW.pt (pw_or (pt_cmpR op_ne (pv 1) pe_str (nomark _)) (pw_or1 (pt_cmpR op_eq (pe_callB call_len_seq (by rfl) T.len PySem.boot_len (pa_cons (pe_fld (pv 0) rfl) pa_nil)) pe_int (nomark _))))) (pss_one (ps_ret pe_bl)) pss_nil)
      (pss_cons (ps_expr (pe_bm0 PySem.F.plainAttrs_list PySem.F.slot_list_pop PySem.F.type_list_pop mt_pop (pe_fld (pv 0) rfl)))
      (pss_cons (ps_fld (pv 0) pe_str rfl) (pss_one (ps_ret pe_bl)))), ?_⟩
    obtain ⟨dx, hob⟩ := S.ob
    have hls := S.ls
    have hal : a ≠ l := ne_of hob S.ls (by intro z; cases z)
    have e1 : stepE s c = if c = 41 then (match s.st with | _ :: b :: r => some ⟨2, s.le, b :: r⟩ | _ => none) else none := by
      unfold stepE
      rw [if_neg ha]
      try rfl
    refine ⟨_, rfl, rfl, _, rfl, ?_⟩
    rw [s_shut, S1_eq]
    by_cases hc : c = 41
    · rw [decide_eq_true hc]
      refine iteF ?_
      refine ⟨_, rfl, a, C, dx, _, _, rfl, hob, T.cl, T.nS, scF_l _ _ _, l, _, rfl, .inl (SqL.of hls), rfl, _, rfl, ?_⟩
      rw [if_pos hc] at e1
      cases est : s.st with
      | nil => exact absurd est S.ne
      | cons a0 r =>
        cases r with
        | nil =>
          have e3 : decide (V.int (((([a0] : List Nat).reverse.map sgV).length : Nat) : Int) = V.int 1) = true := by
            refine decide_eq_true ?_
            simp
          rw [e3]
          refine iteT ?_
          rw [est] at e1
          have q := k H (fun b o e _ _ => e) (fun s' hs => by rw [e1] at hs; cases hs)
          rw [e1] at q
          exact q
        | cons b0 r =>
          have e3 : decide (V.int ((((a0 :: b0 :: r).reverse.map sgV).length : Nat) : Int) = V.int 1) = false := by
            refine decide_eq_false ?_
            simp
            omega
          rw [e3]
          refine iteF ?_
          rw [est] at e1
          have exs : s.st.reverse.map sgV = (b0 :: r).reverse.map sgV ++ [sgV a0] := by rw [est]; simp
          rw [exs] at hls
          refine ⟨_, rfl, a, C, dx, _, _, rfl, hob, T.cl, T.nS, scF_l _ _ _, .inl ⟨rfl, _, SqL.of hls⟩, l, _, sgV a0, rfl, rfl, hls, ?_, ?_⟩
          · rw [List.length_append, List.length_singleton, Nat.add_sub_cancel, List.getElem?_append_right (Nat.le_refl _), Nat.sub_self]
            rfl
          · refine ⟨_, rfl, a, C, dx, _, rfl, by rw [upd_ne hal]; exact hob, T.cl, T.nA, (by show 3 < 1000; decide), ?_⟩
            rw [scF_pa]
            have q := k (upd (upd H l (.lst ((b0 :: r).reverse.map sgV ++ [sgV a0]).dropLast)) a (.ins C dx (scF (.str ("end" : Str)) (.int (s.le : Int)) (.ref l)))) (fun b o e h1 h2 => by rw [upd_ne h1, upd_ne h2]; exact e) (fun s' hs => by
              rw [e1] at hs
              have hs : (some ⟨2, s.le, b0 :: r⟩ : Option Sc) = some s' := hs
              injection hs with hs
              subst hs
              refine ⟨⟨dx, upd_same⟩, ?_, by simp, ?_, by show 2 ≤ 4; omega⟩
              · rw [upd_ne hal.symm, upd_same, List.dropLast_concat]
              · have q := S.sz
                rw [est] at q
                simp at q ⊢
                omega)
            rw [e1] at q
            exact q
    · rw [decide_eq_false hc]
      refine iteT ?_
      rw [if_neg hc] at e1
      have q := k H (fun b o e _ _ => e) (fun s' hs => by rw [e1] at hs; cases hs)
      rw [e1] at q
      exact q
theorem scN : FnScope ["self"] ["self"] (C8.fnScope sCanEnd) := C8.fnScope_by (by decide +kernel)
theorem ok_canEnd {f : Addr} {fd : FuncData} (F : C8.Fun K "can_end" "Scanner.can_end" sCanEnd f fd) (b : Binds K fd ["self"] []) (me : Meth K C "can_end" f) (T : ScT K mg C) : C8.Met P w K mg base 1 C "can_end" (spCanEnd C) [] := by
  refine C8.met0 T.cl me F b scN (fun vs H Q E h => ?_) (fun cdv A outer s H vs Q E hr h => ?_)
  · obtain ⟨a, l, s, rfl, _⟩ := h
    rfl
  · obtain ⟨a, l, s, rfl, S, k⟩ := h
    refine ⟨_, pss_one (ps_ret (pe_and (pe_cmpR op_in_seq (pe_fld (pv 0) rfl) (pe_tup (pa_cons pe_str (pa_cons pe_str pa_nil))) rfl)
      (pe_one (pe_cmpR op_eq (pe_callB call_len_seq (by rfl) T.len PySem.boot_len (pa_cons (pe_fld (pv 0) rfl) pa_nil)) pe_int (nomark _))))), ?_⟩
    obtain ⟨dx, hob⟩ := S.ob
    refine ⟨_, rfl, a, C, dx, _, _, rfl, hob, T.cl, T.nA, scF_a _ _ _, (by show 2 ≤ sizeLine; decide), fun p hp => ?_⟩
    have s1 : Same H (upd H p (.tup [.str ("name" : Str), .str ("end" : Str)])) := fun b o e => by rw [upd_ne (ne_of_none e hp)]; exact e
    have hi : inV (.str (awS s.aw)) [.str ("name" : Str), .str ("end" : Str)] = (decide (s.aw = 1) || decide (s.aw = 2)) := by
      have h4 := S.aw
      rcases (by omega : s.aw = 0 ∨ s.aw = 1 ∨ s.aw = 2 ∨ s.aw = 3 ∨ s.aw = 4) with e | e | e | e | e <;> rw [e] <;> decide +kernel
    refine ⟨p, _, rfl, .inr (SqT.of upd_same), rfl, rfl, inV (.str (awS s.aw)) [.str ("name" : Str), .str ("end" : Str)], rfl, ?_⟩
    have q := k _ s1
    unfold endOk at q
    rw [hi]
    cases e : (decide (s.aw = 1) || decide (s.aw = 2)) with
    | false =>
      refine iteF ?_
      rw [e] at q
      exact q
    | true =>
      refine iteT ?_
      refine ⟨_, rfl, a, C, dx, _, _, rfl, s1 _ _ hob, T.cl, T.nS, scF_l _ _ _, l, _, rfl, .inl (SqL.of (s1 _ _ S.ls)), rfl, ?_⟩
      rw [e] at q
      have e3 : decide (V.int (((s.st.reverse.map sgV).length : Nat) : Int) = V.int 1) = decide (s.st.length = 1) := by
        refine decide_eq_decide.mpr ?_
        rw [List.length_map, List.length_reverse]
        constructor
        · intro z
          injection z with z
          omega
        · intro z
          rw [z]
          rfl
      rw [e3]
      exact q
theorem scI : FnScope ["self"] ["self"] (C8.fnScope sScI) := C8.fnScope_by (by decide +kernel)
theorem ok_scI {f : Addr} {fd : FuncData} (M : Mk K C f) (hm : mg "Scanner" = some (.ref C)) (F : C8.Fun K "__init__" "Scanner.__init__" sScI f fd) (b : Binds K fd ["self"] []) (T : ScT K mg C) : C8.Mak P w K mg base 1 "Scanner" C (spScI C) [] := by
  refine C8.mak0 M hm F b .nil scI (fun vs H Q E h => ?_) (fun cdv A outer s H vs Q E hr h => ?_)
  · obtain ⟨a, dx, rfl, _⟩ := h
    rfl
  · obtain ⟨a, dx, rfl, hob, k⟩ := h
    refine ⟨_, pss_cons (ps_fld (pv 0) pe_str rfl) (pss_cons (ps_fld (pv 0) pe_int rfl) (pss_one (ps_fld (pv 0) (pe_lst (pa_cons pe_str pa_nil)) rfl))), ?_⟩
    refine ⟨_, rfl, a, C, dx, _, rfl, hob, T.cl, T.nA, (by show 0 < 1000; decide), ?_⟩
    refine ⟨_, rfl, a, C, dx, _, rfl, upd_same, T.cl, T.nL, (by show 1 < 1000; decide), ?_⟩
    refine ⟨(by show 1 ≤ sizeLine; decide), fun l hl => ?_⟩
    have hal : a ≠ l := fun e => by rw [← e, upd_same] at hl; cases hl
    have hl0 : H l = none := by rw [upd_ne hal.symm, upd_ne hal.symm] at hl; exact hl
    refine ⟨_, rfl, a, C, dx, _, rfl, by rw [upd_ne hal, upd_same], T.cl, T.nS, (by show 2 < 1000; decide), ?_⟩
    refine k l _ hl0 ⟨⟨dx, ?_⟩, by rw [upd_ne hal.symm, upd_same]; rfl, by decide, by decide, by decide⟩ (fun b o e h1 => ?_)
    · rw [upd_same, scF_new]
      rfl
    · rw [upd_ne h1, upd_ne (ne_of_none e hl0), upd_ne h1, upd_ne h1]
      exact e
theorem scT : FnScope ["self", "letter"] ["self", "letter"] (C8.fnScope sTakes) := C8.fnScope_by (by decide +kernel)
theorem ok_takes {f : Addr} {fd : FuncData} (F : C8.Fun K "takes" "Scanner.takes" sTakes f fd) (b : Binds K fd ["self", "letter"] []) (me : Meth K C "takes" f) (T : ScT K mg C)
    (m1 : C8.Met P w K mg base 1 C "begins_item" (spBegins C) []) (m2 : C8.Met P w K mg base 1 C "takes_sign" (spSign C) []) (m3 : C8.Met P w K mg base 1 C "closes" (spCloses C) []) : C8.Met P w K mg base 2 C "takes" (spTakes C) [] := by
  refine C8.met0 T.cl me F b scT (fun vs H Q E h => ?_) (fun cdv A outer s H vs Q E hr h => ?_)
  · obtain ⟨a, l, s, c, rfl, _⟩ := h
    rfl
  · obtain ⟨a, l, s, c, rfl, S, k⟩ := h
    refine ⟨_, pss_cons (ps_if (PW.pt (pw_and (pt_cmpR op_eq (pe_fld (pv 0) rfl) pe_str (nomark _)) (pw_and1 (pt_cmpR op_in_sign (pv 1) (pe_gs T.let_) rfl))))
          (pss_cons (ps_fld (pv 0) (pe_op op_add (pe_fld (pv 0) rfl) pe_int) rfl) (pss_one (ps_ret (pe_cmpR op_le (pe_fld (pv 0) rfl) (pe_gi T.lon) (nomark _))))) pss_nil)
      (pss_cons (ps_if (pt_cmpR op_eq (pe_fld (pv 0) rfl) pe_str (nomark _)) (pss_one (ps_ret (C8.pe_mt m1 hr (by decide) (pv 0) (pa_cons (pv 1) pa_nil)))) pss_nil)
      (pss_cons (ps_if (pt_cmpR op_eq (pe_fld (pv 0) rfl) pe_str (nomark _)) (pss_cons (ps_fld (pv 0) pe_str rfl) (pss_one (ps_ret (pe_cmpR op_eq (pv 1) pe_str (nomark _))))) pss_nil)
      (pss_cons (ps_if (pt_cmpR op_eq (pe_fld (pv 0) rfl) pe_str (nomark _)) (pss_one (ps_ret (C8.pe_mt m2 hr (by decide) (pv 0) (pa_cons (pv 1) pa_nil)))) pss_nil)
      (pss_cons (ps_if (pt_cmpR op_eq (pv 1) pe_str (nomark _)) (pss_cons (ps_fld (pv 0) pe_str rfl) (pss_one (ps_ret pe_bl))) pss_nil)
      (pss_one (ps_ret (C8.pe_mt m3 hr (by decide) (pv 0) (pa_cons (pv 1) pa_nil)))))))), ?_⟩
    obtain ⟨dx, hob⟩ := S.ob
    have hls := S.ls
    have hal : a ≠ l := ne_of hob S.ls (by intro z; cases z)
    obtain ⟨w1, w0, w4, w3⟩ := awS_eq S.aw
    -- behind the first test
    have rest : ¬ (s.aw = 1 ∧ isL c = true) →
        tSeq (tIfS (tTest (tOp rEq (tFld K (tVar 0) "awaited") (tC (.str ("item" : Str))))) (tRet (tMeth C "begins_item" (spBegins C) [] C8.E0 (tVar 0) (tCons (tVar 1) tNil))) tNext)
        (tSeq (tIfS (tTest (tOp rEq (tFld K (tVar 0) "awaited") (tC (.str ("blank" : Str))))) (tSeq (sFld K (tVar 0) (tC (.str ("item" : Str))) "awaited") (tRet (tOp rEq (tVar 1) (tC (.str (" " : Str)))))) tNext)
        (tSeq (tIfS (tTest (tOp rEq (tFld K (tVar 0) "awaited") (tC (.str ("sign" : Str))))) (tRet (tMeth C "takes_sign" (spSign C) [] C8.E0 (tVar 0) (tCons (tVar 1) tNil))) tNext)
        (tSeq (tIfS (tTest (tOp rEq (tVar 1) (tC (.str (" " : Str))))) (tSeq (sFld K (tVar 0) (tC (.str ("sign" : Str))) "awaited") (tRet (tC (.bl true)))) tNext)
        (tRet (tMeth C "closes" (spCloses C) [] C8.E0 (tVar 0) (tCons (tVar 1) tNil))))))
          { nx := fun _ H' => Q V.non H', rt := Q } [some (.ref a), some (.str (SX.S [c]))] H := by
      intro hno
      refine ⟨_, rfl, a, C, dx, _, _, rfl, hob, T.cl, T.nA, scF_a _ _ _, rfl, _, rfl, ?_⟩
      rw [w0]
      by_cases h0 : s.aw = 0
      · rw [decide_eq_true h0]
        refine iteT ?_
        exact ⟨_, rfl, a, dx, _, rfl, hob, scF_m2 _ _ _, _, rfl, a, l, s, c, rfl, S, h0, k⟩
      rw [decide_eq_false h0]
      refine iteF ?_
      refine ⟨_, rfl, a, C, dx, _, _, rfl, hob, T.cl, T.nA, scF_a _ _ _, rfl, _, rfl, ?_⟩
      rw [w4]
      by_cases h4 : s.aw = 4
      · rw [decide_eq_true h4]
        refine iteT ?_
        refine ⟨_, rfl, a, C, dx, _, rfl, hob, T.cl, T.nA, (by show 3 < 1000; decide), ?_⟩
        refine ⟨_, rfl, rfl, ?_⟩
        have e1 : step s c = if c = 32 then some ⟨0, s.le, s.st⟩ else none := by
          unfold step
          rw [if_neg h0, if_pos h4]
        rw [s_blank, S1_eq, scF_pa]
        have e2 : decide (c = 32) = (step s c).isSome := by
          rw [e1]
          by_cases h : c = 32
          · rw [if_pos h, decide_eq_true h]; rfl
          · rw [if_neg h, decide_eq_false h]; rfl
        rw [e2]
        refine k _ (fun b o e h1 h2 => by rw [upd_ne h1]; exact e) (fun s' hs => ?_)
        rw [e1] at hs
        by_cases h : c = 32
        · rw [if_pos h] at hs
          injection hs with hs
          subst hs
          exact ⟨⟨dx, upd_same⟩, by rw [upd_ne hal.symm]; exact hls, S.ne, S.sz, by show 0 ≤ 4; omega⟩
        · rw [if_neg h] at hs
          cases hs
      rw [decide_eq_false h4]
      refine iteF ?_
      refine ⟨_, rfl, a, C, dx, _, _, rfl, hob, T.cl, T.nA, scF_a _ _ _, rfl, _, rfl, ?_⟩
      rw [w3]
      by_cases h3 : s.aw = 3
      · rw [decide_eq_true h3]
        refine iteT ?_
        exact ⟨_, rfl, a, dx, _, rfl, hob, scF_m3 _ _ _, _, rfl, a, l, s, c, rfl, S, h3, k⟩
      rw [decide_eq_false h3]
      refine iteF ?_
      have e1 : step s c = stepE s c := by
        unfold step
        rw [if_neg h0, if_neg h4, if_neg h3, if_neg hno]
      refine ⟨_, rfl, rfl, _, rfl, ?_⟩
      rw [s_blank, S1_eq]
      by_cases hc : c = 32
      · rw [decide_eq_true hc]
        refine iteT ?_
        refine ⟨_, rfl, a, C, dx, _, rfl, hob, T.cl, T.nA, (by show 3 < 1000; decide), ?_⟩
        rw [scF_pa]
        have e3 : step s c = some ⟨3, s.le, s.st⟩ := by
          rw [e1]
          unfold stepE
          rw [if_pos hc]
        have q := k (upd H a (.ins C dx (scF (.str ("sign" : Str)) (.int (s.le : Int)) (.ref l)))) (fun b o e h1 h2 => by rw [upd_ne h1]; exact e) (fun s' hs => by
          rw [e3] at hs
          injection hs with hs
          subst hs
          exact ⟨⟨dx, upd_same⟩, by rw [upd_ne hal.symm]; exact hls, S.ne, S.sz, by show 3 ≤ 4; omega⟩)
        rw [e3] at q
        exact q
      · rw [decide_eq_false hc]
        refine iteF ?_
        refine ⟨_, rfl, a, dx, _, rfl, hob, scF_m4 _ _ _, _, rfl, a, l, s, c, rfl, S, hc, ?_⟩
        rw [← e1]
        exact k
    refine ⟨_, rfl, a, C, dx, _, _, rfl, hob, T.cl, T.nA, scF_a _ _ _, rfl, _, rfl, ?_⟩
    rw [w1]
    by_cases h1 : s.aw = 1
    · rw [decide_eq_true h1]
      refine iteT ?_
      refine ⟨_, rfl, _, _, rfl, rfl, _, rfl, ?_⟩
      rw [in_letters]
      by_cases hL : isL c = true
      · rw [hL]
        refine iteT ?_
        refine ⟨_, rfl, a, C, dx, _, _, rfl, hob, T.cl, T.nL, scF_le _ _ _, _, _, rfl, rfl, _, rfl, a, C, dx, _, rfl, hob, T.cl, T.nL, (by show 3 < 1000; decide), ?_⟩
        rw [scF_ple]
        refine ⟨_, rfl, a, C, dx, _, _, rfl, upd_same, T.cl, T.nL, scF_le _ _ _, _, _, rfl, rfl, ?_⟩
        have e1 : step s c = if s.le < 6 then some ⟨1, s.le + 1, s.st⟩ else none := by
          unfold step stepN
          rw [if_neg (by omega), if_neg (by omega), if_neg (by omega), if_pos ⟨h1, hL⟩, if_pos hL]
        have e2 : decide ((s.le : Int) + 1 ≤ 6) = (step s c).isSome := by
          rw [e1]
          by_cases h : s.le < 6
          · rw [if_pos h, decide_eq_true (by omega)]; rfl
          · rw [if_neg h, decide_eq_false (by omega)]; rfl
        show Q (.bl (decide ((s.le : Int) + 1 ≤ 6))) _
        rw [e2]
        refine k _ (fun b o e h1 h2 => by rw [upd_ne h1]; exact e) (fun s' hs => ?_)
        rw [e1] at hs
        by_cases h : s.le < 6
        · rw [if_pos h] at hs
          injection hs with hs
          subst hs
          exact ⟨⟨dx, by rw [upd_same, h1]; rfl⟩, by rw [upd_ne hal.symm]; exact hls, S.ne, S.sz, by show 1 ≤ 4; omega⟩
        · rw [if_neg h] at hs
          cases hs
      · rw [Bool.eq_false_iff.mpr hL]
        refine iteF ?_
        exact rest fun z => hL z.2
    · rw [decide_eq_false h1]
      refine iteF ?_
      exact rest fun z => h1 z.1
end
end Pe
set_option Elab.async false
set_option maxRecDepth 100000
set_option maxHeartbeats 4000000
namespace Pe
open PySem L2
abbrev sWrong : Stmt := top 31
/-- where a text goes wrong: a number, or None -/
def wrongV (x : L) : V := if (scanRes x).2 = true then .non else .int ((scanRes x).1 : Int)
def spWrong : Sp := fun vs H Q _ => ∃ z : Str, vs = [.str z] ∧ z.length ≤ 100000 ∧ ∀ H', Same H H' → Q (wrongV z.cps.toList) H'
section
variable {P : Program} {w : World} {K : PySem.W.Frag} {mg : Str → Option Value} {base : Heap} {C : Addr}
theorem scW : FnScope ["text", "scanner", "at", "letter"] ["text"] (C8.fnScope sWrong) := C8.fnScope_by (by decide +kernel)
theorem ok_wrong {f : Addr} {fd : FuncData} (F : C8.Def K mg "wrong_place" sWrong f fd) (b : Binds K fd ["text"] []) (z1 : mg "enumerate" = none) (z2 : mg "len" = none)
    (mk : C8.Mak P w K mg base 1 "Scanner" C (spScI C) []) (m1 : C8.Met P w K mg base 2 C "takes" (spTakes C) []) (m2 : C8.Met P w K mg base 1 C "can_end" (spCanEnd C) []) : C8.Cal P w K mg base 3 "wrong_place" spWrong [] := by
  refine C8.cal0 F b .nil scW (fun vs H Q E h => ?_) (fun cdv A outer s0 H vs Q E hr h => ?_)
  · obtain ⟨z, rfl, _⟩ := h
    rfl
  · obtain ⟨z, rfl, hz, k⟩ := h
    refine ⟨_, pss_cons (ps_set (i := 1) scW.nd rfl (Or.inl rfl) (pe_mk0 mk hr (by decide) (by rfl)))
      (pss_cons (ps_for PassesOwn.never rfl (pi_enT (by rfl) z1 (pv 0)) (pg_tup rfl (pgs_cons (pg_name (i := 2) scW.nd rfl (Or.inl rfl)) (pgs_cons (pg_name (i := 3) scW.nd rfl (Or.inl rfl)) pgs_nil)))
        (pss_one (ps_if (pt_not (pt_val (C8.pe_mt m1 hr (by decide) (pv 1) (pa_cons (pv 3) pa_nil)))) (pss_one (ps_ret (pv 2))) pss_nil)))
      (pss_cons (ps_if (pt_val (C8.pe_mt0 m2 hr (by decide) (pv 1))) (pss_one (ps_ret pe_non)) pss_nil)
      (pss_one (ps_ret (pe_callB call_len_str (by rfl) z2 PySem.boot_len (pa_cons (pv 0) pa_nil)))))), ?_⟩
    intro a dx na nd ne
    refine ⟨a, dx, rfl, upd_same, fun l H1 hl S0 kp => ⟨rfl, ?_⟩⟩
    have hal : a ≠ l := fun e => by rw [← e, upd_same] at hl; cases hl
    have nl : H l = none := by
      rw [upd_ne hal.symm] at hl
      by_cases e : l = dx
      · rw [e]; exact nd
      · rw [upd_ne e] at hl; exact hl
    have s1 : Same H H1 := fun b o e => kp b o (by rw [upd_ne (ne_of_none e na), upd_ne (ne_of_none e nd)]; exact e) (ne_of_none e na)
    have hlen : z.length = z.cps.toList.length := by simp [Str.length]
    refine ⟨_, rfl, z, rfl, for_it walk_en (fun i σ H2 => ∃ (s : Sc) (v2 v3 : Option V), σ = [some (.str z), some (.ref a), v2, v3] ∧ Same H H2 ∧ ScAt C H2 a l s ∧ scanGo s (z.cps.toList.drop i) i = scanRes z.cps.toList)
      ⟨sc0, none, none, rfl, s1, S0, rfl⟩ (fun _ _ _ _ _ => trivial) ?_ ?_⟩
    · rintro i x σ H2 H3 hi ⟨s, v2, v3, rfl, s2, S, hgo⟩ ⟨T, y, rfl, hT, rfl, c, hc, rfl⟩
      refine ⟨T, _, rfl, SqT.of upd_same, rfl, _, _, rfl, _, _, rfl, rfl, ?_⟩
      have S3 : ScAt C (upd H2 T (.tup [.int (i : Nat), .str (SX.S [c])])) a l s := by
        obtain ⟨dx', hob⟩ := S.ob
        exact ⟨⟨dx', by rw [upd_ne (ne_of_none hob hT)]; exact hob⟩, by rw [upd_ne (ne_of_none S.ls hT)]; exact S.ls, S.ne, S.sz, S.aw⟩
      obtain ⟨dx', hob⟩ := S3.ob
      refine ⟨_, rfl, a, dx', _, rfl, hob, scF_m1 _ _ _, _, rfl, a, l, s, c, rfl, S3, fun H4 kp4 hS4 => ?_⟩
      have s4 : Same H H4 := fun b o e => kp4 b o (by rw [upd_ne (ne_of_none (s2 b o e) hT)]; exact s2 b o e) (ne_of_none e na) (ne_of_none e nl)
      have hdrop : z.cps.toList.drop i = c :: z.cps.toList.drop (i + 1) := by
        obtain ⟨h1, h2⟩ := Array.getElem?_eq_some_iff.mp hc
        have h3 : i < z.cps.toList.length := by simpa using h1
        rw [List.drop_eq_getElem_cons h3]
        congr 1
      rw [hdrop, scanGo] at hgo
      refine ⟨_, rfl, ?_⟩
      cases e : step s c with
      | none =>
        refine iteT ?_
        refine ⟨_, rfl, ?_⟩
        rw [e] at hgo
        have q := k H4 s4
        unfold wrongV at q
        rw [← hgo] at q
        exact q
      | some s' =>
        refine iteF ?_
        rw [e] at hgo
        exact ⟨s', _, _, rfl, s4, hS4 s' e, hgo⟩
    · rintro σ H2 ⟨s, v2, v3, rfl, s2, S, hgo⟩
      have hd0 : z.cps.toList.drop z.cps.size = [] := List.drop_eq_nil_of_le (by simp)
      rw [hd0, scanGo] at hgo
      obtain ⟨dx', hob⟩ := S.ob
      refine ⟨_, rfl, a, dx', _, rfl, hob, scF_m5 _ _ _, a, l, s, rfl, S, fun H3 s3 => ⟨_, rfl, ?_⟩⟩
      have q := k H3 (s2.trans s3)
      unfold wrongV at q
      rw [← hgo] at q
      cases e : endOk s with
      | true =>
        refine iteT ?_
        rw [e] at q
        exact q
      | false =>
        refine iteF ?_
        rw [e] at q
        refine ⟨_, rfl, z, rfl, Nat.le_trans hz (by decide), ?_⟩
        exact q
end
end Pe
set_option Elab.async false
set_option maxRecDepth 100000
set_option maxHeartbeats 4000000
/-! InvalidText(at), TooMany(what, most): made and raised -/
namespace Pe
open PySem PySem.Spec PyProof.Rows L2
def inClass (s : Stmt) (j : Nat) : Stmt := (C8.clsBody s).getD j (.Pass ⟨0, 0, 0, 0⟩)
abbrev sTextI : Stmt := inClass (top 4) 0
abbrev sManyI : Stmt := inClass (top 9) 0
/-- self.f = v, on an exception without a dict -/
def spX1 (C : Addr) (f : Str) : Sp := fun vs H Q _ => ∃ (a : Addr) (v : V), vs = [.ref a, v] ∧ H a = some (exo a C none) ∧ ∀ d, H d = none → d ≠ a → Q .non (upd (upd H d (exd d [(f, v)])) a (exo a C (some d)))
def spX2 (C : Addr) (f g : Str) : Sp := fun vs H Q _ => ∃ (a : Addr) (v u : V), vs = [.ref a, v, u] ∧ H a = some (exo a C none) ∧ ∀ d, H d = none → d ≠ a → Q .non (upd (upd (upd H d (exd d [(f, v)])) a (exo a C (some d))) d (exd d [(g, u), (f, v)]))
section
variable {P : Program} {w : World} {K : PySem.W.Frag} {mg : Str → Option Value} {base : Heap} {C f cda cc : Addr} {fd : FuncData}
theorem ssT : SupS ["self", "at"] (C8.fnScope sTextI) := supS_by (by decide +kernel)
theorem ssM : SupS ["self", "what", "most"] (C8.fnScope sManyI) := supS_by (by decide +kernel)
theorem ok_textI (F : ExcF P K mg "InvalidText" "InvalidText.__init__" sTextI C f cda cc fd) (nA : PySem.W.findIn K (.ref C) "at" = some none) (htop : (P.main.scope.names.lookup ("super" : Str)).isSome = false) :
    FnOk P w K mg base C8.CX0 1 f fd ["self", "at"] (spX1 C "at") := by
  refine fn_sup F.sup F.oex ssT rfl (fun _ => rfl) (fun _ => rfl) (fun _ => rfl) htop rfl rfl (fun vs H Q E h => ?_) (fun vs H Q E h => ?_) (fun A outer s H vs Q E hr h => ?_)
  · obtain ⟨a, v, rfl, _⟩ := h
    rfl
  · obtain ⟨a, v, rfl, e, _⟩ := h
    exact ⟨a, _, rfl, e⟩
  · obtain ⟨a, v, rfl, e, k⟩ := h
    exact ⟨_, pss_one (ps_ost (pv 0) (pv 1)), _, rfl, _, rfl, a, C, rfl, F.oex, nA, Or.inl ⟨e, fun d h1 h2 => k d h1 h2⟩⟩
theorem ok_manyI (F : ExcF P K mg "TooMany" "TooMany.__init__" sManyI C f cda cc fd) (nW : PySem.W.findIn K (.ref C) "what" = some none) (nM : PySem.W.findIn K (.ref C) "most" = some none) (htop : (P.main.scope.names.lookup ("super" : Str)).isSome = false) :
    FnOk P w K mg base C8.CX0 1 f fd ["self", "what", "most"] (spX2 C "what" "most") := by
  refine fn_sup F.sup F.oex ssM rfl (fun _ => rfl) (fun _ => rfl) (fun _ => rfl) htop rfl rfl (fun vs H Q E h => ?_) (fun vs H Q E h => ?_) (fun A outer s H vs Q E hr h => ?_)
  · obtain ⟨a, v, u, rfl, _⟩ := h
    rfl
  · obtain ⟨a, v, u, rfl, e, _⟩ := h
    exact ⟨a, _, rfl, e⟩
  · obtain ⟨a, v, u, rfl, e, k⟩ := h
    refine ⟨_, pss_cons (ps_ost (pv 0) (pv 1)) (pss_one (ps_ost (pv 0) (pv 2))), _, rfl, _, rfl, a, C, rfl, F.oex, nW, Or.inl ⟨e, fun d h1 h2 => ?_⟩⟩
    exact ⟨_, rfl, _, rfl, a, C, rfl, F.oex, nM, Or.inr ⟨d, _, upd_same, by rw [upd_ne h2, upd_same], (by show 1 ≤ 900; decide), k d h1 h2⟩⟩
end
section
variable {X : Cx} {x : Str} {C fI : Addr} {fd : FuncData} {W : WX} {p pos pos' : Pos} {e e2 : Expr} {te te2 : TE} {f g : Str} {ps : List Str}
theorem heap_back {H1 : Hp} {a d : Addr} {o o' : HO} {u u' : HO} (ha : H1 a = none) : upd (del (upd (upd (upd H1 a o) d u) a o') a) d u' = upd H1 d u' := by
  funext b
  by_cases h1 : b = d
  · rw [h1, upd_same, upd_same]
  · rw [upd_ne h1, upd_ne h1]
    by_cases h2 : b = a
    · rw [h2, del_same, ha]
    · rw [del_ne h2, upd_ne h2, upd_ne h1, upd_ne h2]
/-- raise x(e, ..), x's __init__ being sp -/
theorem ps_raiseX {sp : Sp} {es : List Expr} {ta : TA} (T : OexC X.K C) (iC : PySem.W.findIn X.K (.ref C) "__init__" = some (some (.ref fI))) (tI : PySem.W.typeIn X.K (.ref fI) = some (.type "function")) (F1 : FnOk X.prog X.w X.K X.mg X.base C8.CX0 1 fI fd ps sp) (b : Binds X.K fd ps [])
    (hc : X.calm = true) (hr : Room 2 X.A) (tk : Takes X W) (hg : Gl X x) (hm : X.mg x = some (.ref C)) (ha : PA X (e :: es) ta) (hdb : (x == ("__debug__" : Str)) = false := by decide) (hst : starEach (e :: es) X.env = (false, eval e X.env) :: starEach es X.env := by rfl) (hpl : (backTo pos (starEach es X.env)).any (·.1) = false := by rfl) :
    PS X (.Raise (some (.Call (.Name x p) (e :: es) [] pos)) none pos') (fun _ σ H => tMkO C sp [] ta σ H fun cls d H' => W cls d σ H') :=
  ps_raise (pos := pos') hc tk (pmk_oex (p := p) (pos := pos) T iC tI F1 hr b .nil C8.pass0 hg hm ha hdb hst hpl)
theorem mk1_end {v : V} {H1 : Hp} {Q : XK} (k : ∀ d, H1 d = none → Q (.ref C) (some d) (upd H1 d (.xd [(f, v)]))) : [v].length ≤ 1000 ∧ ∀ a, H1 a = none → spX1 C f (.ref a :: ([v] ++ [])) (upd H1 a (exo a C none))
    (fun v H2 => v = .non ∧ ∃ (d : Addr) (fs : List (Str × V)), H2 a = some (exo a C (some d)) ∧ H2 d = some (exd d fs) ∧ H1 d = none ∧ Q (.ref C) (some d) (upd (del H2 a) d (.xd fs))) (fun _ _ _ => False) := by
  refine ⟨by show 1 ≤ 1000; decide, fun a ha => ⟨a, v, rfl, upd_same, fun d h1 h2 => ⟨rfl, d, _, upd_same, by rw [upd_ne h2, upd_same], by rw [← h1, upd_ne h2], ?_⟩⟩⟩
  rw [heap_back ha]
  exact k d (by rw [← h1, upd_ne h2])
theorem mk2_end {v u : V} {H1 : Hp} {Q : XK} (k : ∀ d, H1 d = none → Q (.ref C) (some d) (upd H1 d (.xd [(g, u), (f, v)]))) : [v, u].length ≤ 1000 ∧ ∀ a, H1 a = none → spX2 C f g (.ref a :: ([v, u] ++ [])) (upd H1 a (exo a C none))
    (fun v H2 => v = .non ∧ ∃ (d : Addr) (fs : List (Str × V)), H2 a = some (exo a C (some d)) ∧ H2 d = some (exd d fs) ∧ H1 d = none ∧ Q (.ref C) (some d) (upd (del H2 a) d (.xd fs))) (fun _ _ _ => False) := by
  refine ⟨by show 2 ≤ 1000; decide, fun a ha => ⟨a, v, u, rfl, upd_same, fun d h1 h2 => ⟨rfl, d, _, by rw [upd_ne (Ne.symm h2), upd_same], by rw [upd_same], by rw [← h1, upd_ne h2], ?_⟩⟩⟩
  have e : upd (del (upd (upd (upd (upd H1 a (exo a C none)) d (exd d [(f, v)])) a (exo a C (some d))) d (exd d [(g, u), (f, v)])) a) d (.xd [(g, u), (f, v)]) = upd H1 d (.xd [(g, u), (f, v)]) := by
    funext b
    by_cases q1 : b = d
    · rw [q1, upd_same, upd_same]
    · rw [upd_ne q1, upd_ne q1]
      by_cases q2 : b = a
      · rw [q2, del_same, ha]
      · rw [del_ne q2, upd_ne q1, upd_ne q2, upd_ne q1, upd_ne q2]
  rw [e]
  exact k d (by rw [← h1, upd_ne h2])
end
end Pe
set_option Elab.async false
set_option maxRecDepth 100000
set_option maxHeartbeats 4000000
/-! is_name; the class Circle: its methods -/
namespace Pe
open PySem PySem.Spec PyProof.Rows L2
/-- a heap with all that another has, but at a -/
def Kp1 (a : Addr) (H H' : Hp) : Prop := ∀ b o, H b = some o → b ≠ a → H' b = some o
theorem blT {p : Prop} [Decidable p] (h : p) : V.bl (decide p) = V.bl true := by rw [decide_eq_true h]
theorem blF {p : Prop} [Decidable p] (h : ¬ p) : V.bl (decide p) = V.bl false := by rw [decide_eq_false h]
theorem SqL.lst {K : PySem.W.Frag} {H : Hp} {a : Addr} {xs : List V} (h : H a = some (.lst xs)) : SqL K H a xs := SqL.of h
theorem rep_map {α : Type} (n : Nat) (f : Bool → α) : (List.replicate n true).map f = List.replicate n (f true) := by simp
/-! ### is_name: asked of names alone -/
abbrev sIsName : Stmt := top 14
def spIsName : Sp := fun vs H Q _ => ∃ x : L, vs = [.str (SX.S x)] ∧ x ≠ [] ∧ x.length ≤ 6 ∧ (∀ c ∈ x, isL c = true) ∧ ∀ H', Same H H' → Q (.bl true) H'
section
variable {P : Program} {w : World} {K : PySem.W.Frag} {mg : Str → Option Value} {base : Heap} {C : Addr} {f : Addr} {fd : FuncData}
theorem scIsN : FnScope ["value", "letter"] ["value"] (C8.fnScope sIsName) := C8.fnScope_by (by decide +kernel)
theorem ok_isName (F : C8.Def K mg "is_name" sIsName f fd) (b : Binds K fd ["value"] []) (z1 : mg "isinstance" = none) (z2 : mg "len" = none) (z3 : mg "all" = none) (z4 : mg "str" = none)
    (hL : ∃ t, mg "LETTERS" = some (.str "abcdefghijklmnopqrstuvwxyz" t)) (hO : ∃ t, mg "LONGEST" = some (.int 6 t)) : C8.Cal P w K mg base 1 "is_name" spIsName [] := by
  refine C8.cal0 F b .nil scIsN (fun vs H Q E h => ?_) (fun cdv A outer s0 H vs Q E hr h => ?_)
  · obtain ⟨z, rfl, _⟩ := h
    rfl
  · obtain ⟨x, rfl, hx, hl, hs, k⟩ := h
    refine ⟨_, pss_cons (ps_if (pt_not (pt_val (pe_callB call_isi (by rfl) z1 (by decide +kernel) (pa_cons (pv 0) (pa_cons (pe_bltn (v := .ty "str") (by rfl) z4 (by decide +kernel) rfl) pa_nil))))) pss_never pss_nil)
      (pss_cons (ps_if (pt_not (pt_chain op_le op_le pe_int (pe_callB call_len_str (by rfl) z2 PySem.boot_len (pa_cons (pv 0) pa_nil)) (pe_gi hO))) pss_never pss_nil)
      (pss_one (ps_ret (pe_callB (cr_all rfl) (by rfl) z3 (by decide +kernel) (pa_cons (pe_lc (own := [("letter", 1)]) (g := gName 1) (tt := tYes) rfl scIsN.nd (pi_str (pv 0)) (blkOk_by (N := ["value", "letter"]) (sc := C8.fnScope sIsName) (by decide +kernel))
        (fun _ _ _ _ _ => pg_name (i := 1) scIsN.nd rfl (Or.inl rfl)) (fun _ _ _ _ _ => pts_nil) (fun _ _ _ _ _ => pe_cmpR op_in_sign (pv 1) (pe_gs hL) rfl)) pa_nil))))), ?_⟩
    refine ⟨_, rfl, .str (SX.S x), .ty "str", _, _, true, rfl, .ty _, .base (.str _), kit_ty (by decide +kernel), _, rfl, ?_⟩
    refine iteF ?_
    have hlen : (SX.S x).length = x.length := SX.S_len x
    have h1 : 1 ≤ x.length := List.length_pos_iff.mpr hx
    refine ⟨_, rfl, _, rfl, by rw [hlen]; exact Nat.le_trans hl (by decide), ?_⟩
    refine ⟨_, _, rfl, rfl, true, blT (by rw [hlen]; omega), ?_⟩
    refine iteT ?_
    refine ⟨_, _, rfl, rfl, true, blT (by rw [hlen]; omega), ?_⟩
    refine iteF ?_
    refine ⟨_, rfl, SX.S x, rfl, fun D hD => lc_it walk_str (fun i H1 => Same H H1 ∧ H1 D = some (.lst (List.replicate i (.bl true)))) ⟨same_new hD, upd_same⟩ (fun _ _ _ _ => trivial) ?_ ?_⟩
    · rintro i y H1 H2 hi ⟨s1, hD1⟩ ⟨rfl, c, hc, rfl⟩
      have hc' : x[i]? = some c := by simpa using hc
      refine ⟨rfl, _, rfl, c, _, rfl, rfl, ?_⟩
      have e : decide (c ∈ (("abcdefghijklmnopqrstuvwxyz" : Str)).cps.toList) = true := by rw [in_letters]; exact hs c (List.mem_of_getElem? hc')
      rw [e]
      refine ⟨_, hD1, by rw [List.length_replicate]; have : i < x.length := by simpa using hi
                         exact Nat.lt_of_lt_of_le (Nat.lt_of_lt_of_le this hl) (by decide), fun b o q => ?_, ?_⟩
      · rw [upd_ne (ne_of_none q hD)]
        exact s1 b o q
      · rw [upd_same, List.replicate_succ']
    · intro H1 ⟨s1, hD1⟩
      refine ⟨D, List.replicate x.length true, rfl, ?_, ?_⟩
      · rw [rep_map]
        have e : (SX.S x).cps.size = x.length := by simp
        rw [e] at hD1
        exact SqL.of hD1
      · have e : (List.replicate x.length true).all id = true := by simp
        rw [e]
        exact k _ s1
end
end Pe
set_option Elab.async false
set_option maxRecDepth 100000
set_option maxHeartbeats 4000000
/-! the class Circle -/
namespace Pe
open PySem PySem.Spec PyProof.Rows L2
/-! ### circles in the heap -/
def kdS (b : Bool) : Str := if b then "pool" else "common"
def kdN : Nd → Str
  | .eye _ => "eye"
  | .nd b _ => kdS b
theorem kd_eye (b : Bool) : decide (V.str (kdS b) = V.str ("eye" : Str)) = false := by cases b <;> decide +kernel
def nmN : Nd → Str
  | .eye x => SX.S x
  | .nd _ _ => ""
def kids : Nd → List Nd
  | .eye _ => []
  | .nd _ l => l
def cfs (kd nm : Str) (r : Addr) (sz dp : Int) (tx : Str) (p : Addr) : List (Str × V) := [("kind", .str kd), ("name", .str nm), ("_rows", .ref r), ("size", .int sz), ("depth", .int dp), ("_text", .str tx), ("_names", .ref p)]
/-- the circle n at a, its rows at as -/
def CTop (C : Addr) (H : Hp) (n : Nd) (a : Addr) (as : List Addr) : Prop := ∃ (dx r p : Addr) (ys : List Str), H a = some (.ins C dx (cfs (kdN n) (nmN n) r (size n : Int) (depth n : Int) (SX.S (words n)) p)) ∧
  H r = some (.tup (as.map V.ref)) ∧ H p = some (.tup (ys.map V.str)) ∧ NamesOf ys (leaves n)
mutual
def CAt (C : Addr) (H : Hp) : Nd → Addr → Prop
  | .eye x, a => CTop C H (.eye x) a []
  | .nd b l, a => ∃ as, CTop C H (.nd b l) a as ∧ CAts C H l as
def CAts (C : Addr) (H : Hp) : List Nd → List Addr → Prop
  | [], as => as = []
  | n :: r, as => ∃ a as', as = a :: as' ∧ CAt C H n a ∧ CAts C H r as'
end
theorem CAt.top {C : Addr} {H : Hp} {n : Nd} {a : Addr} (h : CAt C H n a) : ∃ as, CTop C H n a as ∧ CAts C H (kids n) as := by
  cases n with
  | eye x =>
    rw [CAt] at h
    exact ⟨[], h, by rw [kids, CAts]⟩
  | nd b l =>
    rw [CAt] at h
    exact h
/-- what a circle is made of -/
def CiO (C : Addr) (o : HO) : Prop := (∃ dx p fs, o = .ins C dx (p :: fs)) ∨ ∃ xs, o = .tup xs
/-- all that circles are made of stays -/
def SameX (C : Addr) (H H' : Hp) : Prop := ∀ b o, H b = some o → CiO C o → H' b = some o
theorem SameX.of {C : Addr} {H H' : Hp} (s : Same H H') : SameX C H H' := fun b o e _ => s b o e
theorem SameX.of1 {C a dx : Addr} {H H' : Hp} (e : H a = some (.ins C dx [])) (s : Kp1 a H H') : SameX C H H' := fun b o e' n => s b o e' fun z => by
  rw [z, e] at e'
  have e2 := (Option.some.inj e').symm
  rcases n with ⟨d, p, fs, q⟩ | ⟨xs, q⟩
  · rw [q] at e2
    cases e2
  · rw [q] at e2
    cases e2
theorem SameX.upd {C x : Addr} {H H' : Hp} {u o : HO} (s : SameX C H H') (e : H' x = some u) (n : ¬ CiO C u) : SameX C H (upd H' x o) := fun b o' e' q => by
  have h := s b o' e' q
  rw [upd_ne]
  · exact h
  · intro z
    rw [z, e] at h
    rw [Option.some.inj h] at n
    exact n q
theorem lst_ci {C : Addr} {xs : List V} : ¬ CiO C (.lst xs) := by
  rintro (⟨_, _, _, q⟩ | ⟨_, q⟩) <;> cases q
theorem dk_ci {C : Addr} {kvs : List (L2.Key × V)} : ¬ CiO C (.dK kvs) := by
  rintro (⟨_, _, _, q⟩ | ⟨_, q⟩) <;> cases q
theorem CTop.mono {C : Addr} {H H' : Hp} (s : SameX C H H') {n : Nd} {a : Addr} {as : List Addr} (h : CTop C H n a as) : CTop C H' n a as := by
  obtain ⟨dx, r, p, ys, h1, h2, h3, h4⟩ := h
  exact ⟨dx, r, p, ys, s _ _ h1 (.inl ⟨_, _, _, rfl⟩), s _ _ h2 (.inr ⟨_, rfl⟩), s _ _ h3 (.inr ⟨_, rfl⟩), h4⟩
mutual
theorem CAt.mono {C : Addr} {H H' : Hp} (s : SameX C H H') : ∀ (n : Nd) (a : Addr), CAt C H n a → CAt C H' n a
  | .eye x, a, h => by
    rw [CAt] at h ⊢
    exact h.mono s
  | .nd b l, a, h => by
    rw [CAt] at h ⊢
    obtain ⟨as, h1, h2⟩ := h
    exact ⟨as, h1.mono s, CAts.mono s l as h2⟩
theorem CAts.mono {C : Addr} {H H' : Hp} (s : SameX C H H') : ∀ (l : List Nd) (as : List Addr), CAts C H l as → CAts C H' l as
  | [], as, h => by
    rw [CAts] at h ⊢
    exact h
  | n :: r, as, h => by
    rw [CAts] at h ⊢
    obtain ⟨a, as', e, h1, h2⟩ := h
    exact ⟨a, as', e, CAt.mono s n a h1, CAts.mono s r as' h2⟩
end
theorem CAt.same {C : Addr} {H H' : Hp} (s : Same H H') {n : Nd} {a : Addr} (h : CAt C H n a) : CAt C H' n a := CAt.mono (SameX.of s) n a h
theorem CAts.same {C : Addr} {H H' : Hp} (s : Same H H') {l : List Nd} {as : List Addr} (h : CAts C H l as) : CAts C H' l as := CAts.mono (SameX.of s) l as h
theorem CAts.len {C : Addr} {H : Hp} : ∀ {l : List Nd} {as : List Addr}, CAts C H l as → as.length = l.length
  | [], as, h => by
    rw [CAts] at h
    rw [h]; rfl
  | n :: r, as, h => by
    rw [CAts] at h
    obtain ⟨a, as', rfl, h1, h2⟩ := h
    rw [List.length_cons, List.length_cons, h2.len]
theorem CAts.get {C : Addr} {H : Hp} : ∀ {l : List Nd} {as : List Addr}, CAts C H l as → ∀ {i : Nat} {n : Nd}, l[i]? = some n → ∃ a, as[i]? = some a ∧ CAt C H n a
  | [], as, h, i, n, e => by simp at e
  | m :: r, as, h, 0, n, e => by
    rw [CAts] at h
    obtain ⟨a, as', rfl, h1, h2⟩ := h
    simp at e
    subst e
    exact ⟨a, rfl, h1⟩
  | m :: r, as, h, i + 1, n, e => by
    rw [CAts] at h
    obtain ⟨a, as', rfl, h1, h2⟩ := h
    simp at e
    obtain ⟨a', e1, e2⟩ := h2.get e
    exact ⟨a', by simpa using e1, e2⟩
theorem CAts.nil {C : Addr} {H : Hp} : CAts C H [] [] := by rw [CAts]
theorem CAts.cons {C : Addr} {H : Hp} {n : Nd} {l : List Nd} {a : Addr} {as : List Addr} (h1 : CAt C H n a) (h2 : CAts C H l as) : CAts C H (n :: l) (a :: as) := by
  rw [CAts]
  exact ⟨a, as, rfl, h1, h2⟩
theorem CAts.app {C : Addr} {H : Hp} : ∀ {l m : List Nd} {as bs : List Addr}, CAts C H l as → CAts C H m bs → CAts C H (l ++ m) (as ++ bs)
  | [], m, as, bs, h, h2 => by
    rw [CAts] at h
    subst h
    exact h2
  | n :: l, m, as, bs, h, h2 => by
    rw [CAts] at h
    obtain ⟨a, as', rfl, h1, h3⟩ := h
    exact CAts.cons h1 (h3.app h2)
/-! ### what the text says of the class -/
structure CiT (K : PySem.W.Frag) (mg : Str → Option Value) (C : Addr) : Prop where
  cl : Cls K C
  nKind : NoAttr K C "kind"
  nName : NoAttr K C "name"
  nRows : NoAttr K C "_rows"
  nSize : NoAttr K C "size"
  nDepth : NoAttr K C "depth"
  nText : NoAttr K C "_text"
  nNames : NoAttr K C "_names"
  mgC : mg "Circle" = some (.ref C)
  fm : PySem.W.findIn K (.ref C) "__format__" = some (some (.builtin "object.__format__"))
  ob : PySem.W.mroIn K C (.type "object") = some true
  isC : C8.InsC K C
abbrev sCInit : Stmt := inClass (top 18) 1
abbrev sParts : Stmt := inClass (top 18) 2
abbrev sEyes : Stmt := inClass (top 18) 3
abbrev sStr : Stmt := inClass (top 18) 4
abbrev sRepr : Stmt := inClass (top 18) 5
abbrev sWp : Stmt := top 19
def spParts (C : Addr) : Sp := fun vs H Q _ => ∃ (a dx r : Addr) (fs : List (Str × V)) (ys : List V), vs = [.ref a] ∧ H a = some (.ins C dx fs) ∧ fs.lookup ("_rows" : Str) = some (.ref r) ∧ H r = some (.tup ys) ∧ ∀ l, H l = none → Q (.ref l) (upd H l (.lst ys))
def spEyes (C : Addr) : Sp := fun vs H Q _ => ∃ (a dx r : Addr) (fs : List (Str × V)) (ys : List V), vs = [.ref a] ∧ H a = some (.ins C dx fs) ∧ fs.lookup ("_names" : Str) = some (.ref r) ∧ H r = some (.tup ys) ∧ ∀ l, H l = none → Q (.ref l) (upd H l (.lst ys))
def spStr (C : Addr) : Sp := fun vs H Q _ => ∃ (a dx : Addr) (fs : List (Str × V)) (t : Str), vs = [.ref a] ∧ H a = some (.ins C dx fs) ∧ fs.lookup ("_text" : Str) = some (.str t) ∧ Q (.str t) H
def spRepr (C : Addr) : Sp := fun vs H Q _ => ∃ (a dx : Addr) (fs : List (Str × V)) (t : L), vs = [.ref a] ∧ H a = some (.ins C dx fs) ∧ fs.lookup ("_text" : Str) = some (.str (SX.S t)) ∧ t.length ≤ 10000 ∧ Q (.str (SX.S ([67, 105, 114, 99, 108, 101, 40] ++ t ++ [41]))) H
def spWp (C : Addr) : Sp := fun vs H Q _ => ∃ (a : Addr) (n : Nd) (as : List Addr), vs = [.ref a] ∧ CTop C H n a as ∧ (words n).length ≤ 10000 ∧ Q (.str (SX.S (pwords n))) H
section
variable {P : Program} {w : World} {K : PySem.W.Frag} {mg : Str → Option Value} {base : Heap} {C : Addr} {f : Addr} {fd : FuncData}
theorem scS1 : FnScope ["self"] ["self"] (C8.fnScope sParts) := C8.fnScope_by (by decide +kernel)
theorem scS2 : FnScope ["self"] ["self"] (C8.fnScope sEyes) := C8.fnScope_by (by decide +kernel)
theorem scS3 : FnScope ["self"] ["self"] (C8.fnScope sStr) := C8.fnScope_by (by decide +kernel)
theorem scS4 : FnScope ["self"] ["self"] (C8.fnScope sRepr) := C8.fnScope_by (by decide +kernel)
theorem scWp : FnScope ["circle"] ["circle"] (C8.fnScope sWp) := C8.fnScope_by (by decide +kernel)
theorem ok_parts (F : C8.Fun K "parts" "Circle.parts" sParts f fd) (b : Binds K fd ["self"] []) (me : Meth K C "parts" f) (T : CiT K mg C) (z : mg "list" = none) : C8.Met P w K mg base 1 C "parts" (spParts C) [] := by
  refine C8.met0 T.cl me F b scS1 (fun vs H Q E h => ?_) (fun cdv A outer s H vs Q E hr h => ?_)
  · obtain ⟨a, dx, r, fs, ys, rfl, _⟩ := h
    rfl
  · obtain ⟨a, dx, r, fs, ys, rfl, h1, h2, h3, k⟩ := h
    exact ⟨_, pss_one (ps_ret (pe_callTy call_list_of (by rfl) z (by decide +kernel) (pa_cons (pe_fld (pv 0) rfl) pa_nil))), _, rfl, a, C, dx, _, _, rfl, h1, T.cl, T.nRows, h2, r, ys, rfl, .inr (SqT.of h3), k⟩
theorem ok_eyes (F : C8.Fun K "eyes" "Circle.eyes" sEyes f fd) (b : Binds K fd ["self"] []) (me : Meth K C "eyes" f) (T : CiT K mg C) (z : mg "list" = none) : C8.Met P w K mg base 1 C "eyes" (spEyes C) [] := by
  refine C8.met0 T.cl me F b scS2 (fun vs H Q E h => ?_) (fun cdv A outer s H vs Q E hr h => ?_)
  · obtain ⟨a, dx, r, fs, ys, rfl, _⟩ := h
    rfl
  · obtain ⟨a, dx, r, fs, ys, rfl, h1, h2, h3, k⟩ := h
    exact ⟨_, pss_one (ps_ret (pe_callTy call_list_of (by rfl) z (by decide +kernel) (pa_cons (pe_fld (pv 0) rfl) pa_nil))), _, rfl, a, C, dx, _, _, rfl, h1, T.cl, T.nNames, h2, r, ys, rfl, .inr (SqT.of h3), k⟩
theorem ok_str (F : C8.Fun K "__str__" "Circle.__str__" sStr f fd) (b : Binds K fd ["self"] []) (me : Meth K C "__str__" f) (T : CiT K mg C) (z : mg "str" = none) : C8.Met P w K mg base 1 C "__str__" (spStr C) [] := by
  refine C8.met0 T.cl me F b scS3 (fun vs H Q E h => ?_) (fun cdv A outer s H vs Q E hr h => ?_)
  · obtain ⟨a, dx, fs, t, rfl, _⟩ := h
    rfl
  · obtain ⟨a, dx, fs, t, rfl, h1, h2, k⟩ := h
    exact ⟨_, pss_one (ps_ret (pe_callTy SkE.call_str_str (by rfl) z (by decide +kernel) (pa_cons (pe_fld (pv 0) rfl) pa_nil))), _, rfl, a, C, dx, _, _, rfl, h1, T.cl, T.nText, h2, t, rfl, k⟩
theorem ok_repr (F : C8.Fun K "__repr__" "Circle.__repr__" sRepr f fd) (b : Binds K fd ["self"] []) (me : Meth K C "__repr__" f) (T : CiT K mg C) : C8.Met P w K mg base 1 C "__repr__" (spRepr C) [] := by
  refine C8.met0 T.cl me F b scS4 (fun vs H Q E h => ?_) (fun cdv A outer s H vs Q E hr h => ?_)
  · obtain ⟨a, dx, fs, t, rfl, _⟩ := h
    rfl
  · obtain ⟨a, dx, fs, t, rfl, h1, h2, hl, k⟩ := h
    refine ⟨_, pss_one (ps_ret (pe_joined (.cons pe_str (.cons (pe_fmt (pe_fld (pv 0) rfl)) (.cons pe_str .nil))))), _, rfl, by decide, ?_⟩
    have e : ((Str.empty ++ ("Circle(" : Str)) ++ SX.S t) ++ (")" : Str) = SX.S ([67, 105, 114, 99, 108, 101, 40] ++ t ++ [41]) := by
      have e1 : Str.empty ++ ("Circle(" : Str) = SX.S [67, 105, 114, 99, 108, 101, 40] := by decide +kernel
      have e2 : (")" : Str) = SX.S [41] := by decide +kernel
      rw [e1, e2, SX.S_cat, SX.S_cat]
    have hlen : ∀ z : L, (SX.S z).length = z.length := SX.S_len
    have es : ∀ z : L, (SX.S z).length ≤ sizeLine ↔ z.length ≤ sizeLine := fun z => by rw [SX.S_len]
    have e1 : Str.empty ++ ("Circle(" : Str) = SX.S [67, 105, 114, 99, 108, 101, 40] := by decide +kernel
    refine ⟨_, rfl, a, C, dx, _, _, rfl, h1, T.cl, T.nText, h2, .inl ⟨_, rfl, (es _).mpr (Nat.le_trans hl (by decide)), ⟨_, rfl, ?_, ?_⟩⟩⟩
    · rw [e1, SX.S_cat, es, List.length_append]
      exact Nat.le_trans (Nat.add_le_add_left hl _) (by decide)
    · refine ⟨_, rfl, ?_, ?_⟩
      · rw [e, es, List.length_append, List.length_append]
        exact Nat.le_trans (Nat.add_le_add_right (Nat.add_le_add_left hl _) _) (by decide)
      · show Q (.str _) H
        rw [e]
        exact k
theorem ok_wp (F : C8.Def K mg "written_part" sWp f fd) (b : Binds K fd ["circle"] []) (T : CiT K mg C) (z : mg "str" = none) (mS : C8.Met P w K mg base 1 C "__str__" (spStr C) []) : C8.Cal P w K mg base 4 "written_part" (spWp C) [] := by
  refine C8.cal0 F b .nil scWp (fun vs H Q E h => ?_) (fun cdv A outer s H vs Q E hr h => ?_)
  · obtain ⟨a, n, as, rfl, _⟩ := h
    rfl
  · obtain ⟨a, n, as, rfl, ⟨dx, r, p, ys, e1, e2, e3, e4⟩, hl, k⟩ := h
    refine ⟨_, pss_cons (ps_if (pt_cmpR op_eq (pe_fld (pv 0) rfl) pe_str (nomark _)) (pss_one (ps_ret (pe_callTy (call_strO mS hr) (by rfl) z (by decide +kernel) (pa_cons (pv 0) pa_nil)))) pss_nil)
      (pss_one (ps_ret (pe_joined (.cons pe_str (.cons (pe_fmtO mS (hr.mono (by decide)) T.fm T.ob (pv 0)) (.cons pe_str .nil)))))), ?_⟩
    refine ⟨_, rfl, a, C, dx, _, _, rfl, e1, T.cl, T.nKind, rfl, rfl, _, rfl, ?_⟩
    cases n with
    | eye x =>
      refine iteT ?_
      refine ⟨_, rfl, a, dx, _, rfl, e1, a, dx, _, _, rfl, e1, rfl, _, rfl, ?_⟩
      rw [pwords_eye] at k
      exact k
    | nd bb l =>
      have hk : decide (V.str (kdN (.nd bb l)) = V.str ("eye" : Str)) = false := by
        show decide (V.str (kdS bb) = V.str ("eye" : Str)) = false
        exact kd_eye bb
      rw [hk]
      refine iteF ?_
      have es : ∀ z : L, (SX.S z).length ≤ sizeLine ↔ z.length ≤ sizeLine := fun z => by rw [SX.S_len]
      have f1 : Str.empty ++ ("(" : Str) = SX.S [40] := by decide +kernel
      have f2 : (")" : Str) = SX.S [41] := by decide +kernel
      refine ⟨_, rfl, by decide, ?_⟩
      refine ⟨_, rfl, a, dx, _, rfl, e1, a, dx, _, _, rfl, e1, rfl, _, rfl, _, rfl, ?_, _, rfl, ?_, ?_⟩
      · rw [f1, SX.S_cat, es, List.length_append]
        exact Nat.le_trans (Nat.add_le_add_left hl _) (by decide)
      · rw [f1, f2, SX.S_cat, SX.S_cat, es, List.length_append, List.length_append]
        exact Nat.le_trans (Nat.add_le_add_right (Nat.add_le_add_left hl _) _) (by decide)
      · show Q (.str _) H
        rw [f1, f2, SX.S_cat, SX.S_cat]
        rw [pwords_nd] at k
        exact k
end
end Pe
set_option Elab.async false
set_option maxRecDepth 100000
set_option maxHeartbeats 4000000
/-! Circle.__init__ -/
namespace Pe
open PySem PySem.Spec PyProof.Rows L2
/-- at a an instance of C with the fields fs; all else that H has stands -/
def StA (C a dx : Addr) (H Hc : Hp) (fs : List (Str × V)) : Prop := Hc a = some (.ins C dx fs) ∧ Kp1 a H Hc
theorem StA.put {C a dx : Addr} {H Hc : Hp} {fs : List (Str × V)} (s : StA C a dx H Hc fs) (f : Str) (v : V) : StA C a dx H (upd Hc a (.ins C dx (putF f v fs))) (putF f v fs) :=
  ⟨upd_same, fun b o e n => by rw [upd_ne n]; exact s.2 b o e n⟩
theorem StA.new {C a dx p : Addr} {H Hc : Hp} {fs : List (Str × V)} {o : HO} (s : StA C a dx H Hc fs) (h : Hc p = none) : StA C a dx H (upd Hc p o) fs :=
  ⟨by rw [upd_ne (ne_of_none s.1 h)]; exact s.1, fun b u e n => by rw [upd_ne (ne_of_none (s.2 b u e n) h)]; exact s.2 b u e n⟩
theorem StA.same {C a dx : Addr} {H Hc Hd : Hp} {fs : List (Str × V)} (s : StA C a dx H Hc fs) (h : Same Hc Hd) : StA C a dx H Hd fs := ⟨h _ _ s.1, fun b u e n => h _ _ (s.2 b u e n)⟩
def cfv (k n r s d t p : V) : List (Str × V) := [("kind", k), ("name", n), ("_rows", r), ("size", s), ("depth", d), ("_text", t), ("_names", p)]
theorem cfv_mk (k n r s d t p : V) : putF "_names" p (putF "_text" t (putF "depth" d (putF "size" s (putF "_rows" r (putF "name" n (putF "kind" k [])))))) = cfv k n r s d t p := by kernel_rfl
theorem cfv_s (k n r s d t p v : V) : putF "size" v (cfv k n r s d t p) = cfv k n r v d t p := by kernel_rfl
theorem cfv_d (k n r s d t p v : V) : putF "depth" v (cfv k n r s d t p) = cfv k n r s v t p := by kernel_rfl
theorem cfv_t (k n r s d t p v : V) : putF "_text" v (cfv k n r s d t p) = cfv k n r s d v p := by kernel_rfl
theorem cfv_p (k n r s d t p v : V) : putF "_names" v (cfv k n r s d t p) = cfv k n r s d t v := by kernel_rfl
theorem cfv_r (k n r s d t p : V) : (cfv k n r s d t p).lookup ("_rows" : Str) = some r := by kernel_rfl
theorem take_snoc {α : Type} {l : List α} {i : Nat} {n : α} (h : l[i]? = some n) : l.take (i + 1) = l.take i ++ [n] := by rw [List.take_add_one, h]; rfl
def spCInit (C : Addr) : Sp := fun vs H Q _ => ∃ (a dx r : Addr) (kd nm : Str), vs = [.ref a, .str kd, .str nm, .ref r] ∧ H a = some (.ins C dx []) ∧
  ((∃ x : L, kd = "eye" ∧ nm = SX.S x ∧ H r = some (.tup []) ∧ ∀ H', Kp1 a H H' → CAt C H' (.eye x) a → Q .non H') ∨
   (∃ (b : Bool) (l : List Nd) (as : List Addr), kd = kdS b ∧ nm = "" ∧ H r = some (.lst (as.map V.ref)) ∧ CAts C H l as ∧ cans l ∧ l ≠ [] ∧ sizes l ≤ 60 ∧ ∀ H', Kp1 a H H' → CAt C H' (.nd b l) a → Q .non H'))
section
variable {P : Program} {w : World} {K : PySem.W.Frag} {mg : Str → Option Value} {base : Heap} {C : Addr} {f : Addr} {fd : FuncData}
abbrev nCI : List Str := ["self", "kind", "name", "rows", "names", "part", "each"]
theorem scCI : FnScope nCI ["self", "kind", "name", "rows"] (C8.fnScope sCInit) := C8.fnScope_by (by decide +kernel)
theorem ok_cinit {d : Addr} (M : Mk K C f) (F : C8.Fun K "__init__" "Circle.__init__" sCInit f fd) (b : Binds K fd ["self", "kind", "name", "rows"] []) (T : CiT K mg C)
    (zT : mg "tuple" = none) (zS : mg "sum" = none) (zM : mg "max" = none) (zO : mg "sorted" = none) (zE : mg "set" = none) (hS : mg "SIGNS" = some (.ref d)) (s1 : KDct K w d "pool" (.str " & ")) (s2 : KDct K w d "common" (.str " | "))
    (mE : C8.Met P w K mg base 1 C "eyes" (spEyes C) []) (cW : C8.Cal P w K mg base 4 "written_part" (spWp C) []) : C8.Mak P w K mg base 5 "Circle" C (spCInit C) [] := by
  refine C8.mak0 M T.mgC F b .nil scCI (fun vs H Q E h => ?_) (fun cdv A outer s H vs Q E hr h => ?_)
  · obtain ⟨a, dx, r, kd, nm, rfl, _⟩ := h
    rfl
  · obtain ⟨a, dx, r, kd, nm, rfl, ha, h⟩ := h
    refine ⟨_, pss_cons (ps_fld (pv 0) (pv 1) rfl) (pss_cons (ps_fld (pv 0) (pv 2) rfl) (pss_cons (ps_fld (pv 0) (pe_callTy call_tuple_of (by rfl) zT (by decide +kernel) (pa_cons (pv 3) pa_nil)) rfl)
      (pss_cons (ps_fld (pv 0) pe_int rfl) (pss_cons (ps_fld (pv 0) pe_int rfl) (pss_cons (ps_fld (pv 0) (pv 2) rfl) (C8.pss_cut (ps_fld (pv 0) (pe_tup (pa_cons (pv 2) pa_nil)) rfl)
      (pss_one (ps_if (pt_cmpR op_ne (pv 1) pe_str (nomark _)) (C8.pss_cut (ps_fld (pv 0) (pe_callB (cr_sum rfl) (by rfl) zS (by decide +kernel) (pa_cons (pe_lc (own := [("part", 5)]) (g := gName 5) (tt := tYes) (te := tFld K (tVar 5) ("size" : Str)) rfl scCI.nd (pi_tup (pe_fld (pv 0) rfl)) (blkOk_by (N := nCI) (sc := C8.fnScope sCInit) (by decide +kernel))
          (fun _ _ _ _ _ => pg_name (i := 5) scCI.nd rfl (Or.inl rfl)) (fun _ _ _ _ _ => pts_nil) (fun _ _ _ _ _ => pe_fld (pv 5) rfl)) pa_nil)) rfl)
        (C8.pss_cut (ps_fld (pv 0) (pe_op op_add pe_int (pe_callB (cr_max rfl) (by rfl) zM (by decide +kernel) (pa_cons (pe_lc (own := [("part", 5)]) (g := gName 5) (tt := tYes) (te := tFld K (tVar 5) ("depth" : Str)) rfl scCI.nd (pi_tup (pe_fld (pv 0) rfl)) (blkOk_by (N := nCI) (sc := C8.fnScope sCInit) (by decide +kernel))
          (fun _ _ _ _ _ => pg_name (i := 5) scCI.nd rfl (Or.inl rfl)) (fun _ _ _ _ _ => pts_nil) (fun _ _ _ _ _ => pe_fld (pv 5) rfl)) pa_nil))) rfl)
        (C8.pss_cut (ps_fld (pv 0) (pe_join (pe_ix ix_kdict (pe_glob (v := .ref d) (by rfl) hS rfl) (pv 1) (fun _ _ => rfl)) (pe_lc (own := [("part", 5)]) (g := gName 5) (tt := tYes) rfl scCI.nd (pi_tup (pe_fld (pv 0) rfl)) (blkOk_by (N := nCI) (sc := C8.fnScope sCInit) (by decide +kernel))
          (fun _ _ _ _ _ => pg_name (i := 5) scCI.nd rfl (Or.inl rfl)) (fun _ _ _ _ _ => pts_nil) (fun _ _ _ _ _ => C8.pe_c cW hr (by decide) (by rfl) (pa_cons (pv 5) pa_nil)))) rfl)
        (C8.pss_cut (ps_setLc2 (i := 4) (wi1 := iList K (tMeth C ("eyes" : Str) (spEyes C) [] C8.E0 (tVar 5) tNil)) (te := tVar 6) (own := [("part", 5), ("each", 6)]) (vs1 := [6]) (g := gName 5) (g1 := gName 6) (tt := tYes) (tt1 := tYes) rfl scCI.nd rfl rfl rfl (pi_tup (pe_fld (pv 0) rfl)) (blkOk_by (N := nCI) (sc := C8.fnScope sCInit) (by decide +kernel)) (by decide)
          (fun _ _ _ _ _ => pg_name (i := 5) scCI.nd rfl (Or.inl rfl)) (fun _ _ _ _ _ => pts_nil) (fun _ _ _ _ _ => pi_list (C8.pe_mt0 mE hr (by decide) (pv 5))) (fun _ _ _ _ _ => pg_name (i := 6) scCI.nd rfl (Or.inl rfl)) (fun _ _ _ _ _ => pts_nil) (fun _ _ _ _ _ => pv 6))
        (pss_one (ps_fld (pv 0) (pe_callTy call_tuple_of (by rfl) zT (by decide +kernel) (pa_cons (pe_callB (cr_sortX rfl) (by rfl) zO (by decide +kernel) (pa_cons (pe_callTy (cr_setX rfl) (by rfl) zE (by decide +kernel) (pa_cons (pv 4) pa_nil)) pa_nil)) pa_nil)) rfl)))))) pss_nil)))))))), ?_⟩
    have S0 : StA C a dx H H [] := ⟨ha, fun _ _ e _ => e⟩
    rcases h with ⟨x, rfl, rfl, hrow, k⟩ | ⟨bb, l, as, rfl, rfl, hrow, cs, hcan, hne, hsz, k⟩
    · have hra : r ≠ a := ne_of hrow ha (by intro z; cases z)
      refine ⟨_, rfl, _, rfl, a, C, dx, _, rfl, S0.1, T.cl, T.nKind, (by show 0 < 1000; decide), ?_⟩
      have S1 := S0.put ("kind" : Str) (.str "eye")
      refine ⟨_, rfl, _, rfl, a, C, dx, _, rfl, S1.1, T.cl, T.nName, (by show 1 < 1000; decide), ?_⟩
      have S2 := S1.put ("name" : Str) (.str (SX.S x))
      refine ⟨_, rfl, r, [], rfl, .inr ⟨SqT.of (S2.2 _ _ hrow hra), ?_⟩⟩
      refine ⟨_, rfl, a, C, dx, _, rfl, S2.1, T.cl, T.nRows, (by show 2 < 1000; decide), ?_⟩
      have S3 := S2.put ("_rows" : Str) (.ref r)
      refine ⟨_, rfl, a, C, dx, _, rfl, S3.1, T.cl, T.nSize, (by show 3 < 1000; decide), ?_⟩
      have S4 := S3.put ("size" : Str) (.int 1)
      refine ⟨_, rfl, a, C, dx, _, rfl, S4.1, T.cl, T.nDepth, (by show 4 < 1000; decide), ?_⟩
      have S5 := S4.put ("depth" : Str) (.int 0)
      refine ⟨_, rfl, _, rfl, a, C, dx, _, rfl, S5.1, T.cl, T.nText, (by show 5 < 1000; decide), ?_⟩
      have S6 := S5.put ("_text" : Str) (.str (SX.S x))
      refine ⟨fun σ' Hc => σ' = L2.start nCI [.ref a, .str "eye", .str (SX.S x), .ref r] ∧ ∃ p, StA C a dx H Hc (cfv (.str "eye") (.str (SX.S x)) (.ref r) (.int 1) (.int 0) (.str (SX.S x)) (.ref p)) ∧ Hc p = some (.tup [.str (SX.S x)]), ?_, ?_⟩
      · refine ⟨_, rfl, (by show 1 ≤ sizeLine; decide), fun p hp => ?_⟩
        have S7 := S6.new (o := .tup [.str (SX.S x)]) hp
        refine ⟨_, rfl, a, C, dx, _, rfl, S7.1, T.cl, T.nNames, (by show 6 < 1000; decide), ?_⟩
        have S8 := S7.put ("_names" : Str) (.ref p)
        rw [cfv_mk] at S8
        have hpa : p ≠ a := fun z => by rw [z, S6.1] at hp; cases hp
        exact ⟨rfl, p, S8, by rw [upd_ne hpa, upd_same]⟩
      · rintro σ' Hc ⟨rfl, p, S8, hp⟩
        refine ⟨_, rfl, rfl, _, rfl, ?_⟩
        refine iteF ?_
        refine k _ S8.2 ?_
        rw [CAt]
        exact ⟨dx, r, p, [SX.S x], S8.1, S8.2 _ _ hrow hra, hp, by rw [leaves]; exact NamesOf.one x⟩
    · have hra : r ≠ a := ne_of hrow ha (by intro z; cases z)
      refine ⟨_, rfl, _, rfl, a, C, dx, _, rfl, S0.1, T.cl, T.nKind, (by show 0 < 1000; decide), ?_⟩
      have S1 := S0.put ("kind" : Str) (.str (kdS bb))
      refine ⟨_, rfl, _, rfl, a, C, dx, _, rfl, S1.1, T.cl, T.nName, (by show 1 < 1000; decide), ?_⟩
      have S2 := S1.put ("name" : Str) (.str "")
      refine ⟨_, rfl, r, _, rfl, .inl ⟨SqL.of (S2.2 _ _ hrow hra), fun t ht => ?_⟩⟩
      have hta : t ≠ a := fun z => by rw [z, S2.1] at ht; cases ht
      have S2' := S2.new (o := .tup (as.map V.ref)) ht
      refine ⟨_, rfl, a, C, dx, _, rfl, S2'.1, T.cl, T.nRows, (by show 2 < 1000; decide), ?_⟩
      have S3 := S2'.put ("_rows" : Str) (.ref t)
      refine ⟨_, rfl, a, C, dx, _, rfl, S3.1, T.cl, T.nSize, (by show 3 < 1000; decide), ?_⟩
      have S4 := S3.put ("size" : Str) (.int 1)
      refine ⟨_, rfl, a, C, dx, _, rfl, S4.1, T.cl, T.nDepth, (by show 4 < 1000; decide), ?_⟩
      have S5 := S4.put ("depth" : Str) (.int 0)
      refine ⟨_, rfl, _, rfl, a, C, dx, _, rfl, S5.1, T.cl, T.nText, (by show 5 < 1000; decide), ?_⟩
      have S6 := S5.put ("_text" : Str) (.str "")
      refine ⟨fun σ' Hc => σ' = L2.start nCI [.ref a, .str (kdS bb), .str "", .ref r] ∧ ∃ p, StA C a dx H Hc (cfv (.str (kdS bb)) (.str "") (.ref t) (.int 1) (.int 0) (.str "") (.ref p)) ∧ Hc t = some (.tup (as.map V.ref)), ?_, ?_⟩
      · refine ⟨_, rfl, (by show 1 ≤ sizeLine; decide), fun p hp => ?_⟩
        have S7 := S6.new (o := .tup [.str ("" : Str)]) hp
        refine ⟨_, rfl, a, C, dx, _, rfl, S7.1, T.cl, T.nNames, (by show 6 < 1000; decide), ?_⟩
        have S8 := S7.put ("_names" : Str) (.ref p)
        rw [cfv_mk] at S8
        have htp : t ≠ p := fun z => by
          rw [← z, upd_ne hta, upd_ne hta, upd_ne hta, upd_ne hta, upd_same] at hp
          cases hp
        exact ⟨rfl, p, S8, by rw [upd_ne hta, upd_ne htp, upd_ne hta, upd_ne hta, upd_ne hta, upd_ne hta, upd_same]⟩
      · rintro σ' Hc ⟨rfl, p, S8, ht8⟩
        refine ⟨_, rfl, rfl, _, rfl, ?_⟩
        have ek := kd_eye bb
        have ek' : (!decide (V.str (kdS bb) = V.str ("eye" : Str))) = true := by rw [ek]; rfl
        rw [ek']
        refine iteT ?_
        have hlen := cs.len
        have getp : ∀ {Hd : Hp}, Kp1 a H Hd → ∀ {i : Nat} {y : V}, (as.map V.ref)[i]? = some y → ∃ n ai, l[i]? = some n ∧ y = .ref ai ∧ CAt C Hd n ai := fun {Hd} kp {i y} e => by
          rw [List.getElem?_map] at e
          cases e2 : as[i]? with
          | none => rw [e2] at e; cases e
          | some ai =>
            rw [e2] at e
            obtain rfl : y = .ref ai := (Option.some.inj e).symm
            have hi : i < l.length := by
              rw [← hlen]
              exact (List.getElem?_eq_some_iff.mp e2).1
            obtain ⟨aj, e3, c⟩ := cs.get (List.getElem?_eq_getElem hi)
            rw [e2] at e3
            cases e3
            exact ⟨l[i], ai, List.getElem?_eq_getElem hi, rfl, CAt.mono (SameX.of1 ha kp) _ _ c⟩
        have lenL : l.length ≤ 60 := by
          have h1 := pws_len l hcan
          have : ∀ m : List Nd, cans m → m.length ≤ sizes m := by
            intro m
            induction m with
            | nil => intro _; exact Nat.zero_le _
            | cons n r ih =>
              intro hc
              rw [cans] at hc
              have a1 := size_pos n hc.1
              have a2 := ih hc.2
              rw [sizes, List.length_cons]
              omega
          exact Nat.le_trans (this l hcan) hsz
        -- size
        refine ⟨fun σ' Hc => σ' = L2.start nCI [.ref a, .str (kdS bb), .str "", .ref r] ∧ StA C a dx H Hc (cfv (.str (kdS bb)) (.str "") (.ref t) (.int (sizes l : Int)) (.int 0) (.str "") (.ref p)) ∧ Hc t = some (.tup (as.map V.ref)), ?_, ?_⟩
        · refine ⟨_, rfl, a, C, dx, _, _, rfl, S8.1, T.cl, T.nRows, cfv_r _ _ _ _ _ _ _, t, rfl, ⟨_, SqT.of ht8⟩, fun D hD => lc_it walk_tup (fun i H1 => Same Hc H1 ∧ H1 D = some (.lst ((l.take i).map fun n => V.int (size n : Int)))) ⟨same_new hD, upd_same⟩ (fun i H1 _ pv => SqT.of (pv.1 _ _ ht8)) ?_ ?_⟩
          · rintro i y H1 H2 hi ⟨sm, hD1⟩ ⟨rfl, hy⟩
            obtain ⟨n, ai, hn, rfl, ct⟩ := getp (S8.same sm).2 hy
            obtain ⟨as', ⟨dx', r', p', ys', q1, _⟩, _⟩ := ct.top
            refine ⟨rfl, _, rfl, ai, C, dx', _, _, rfl, q1, T.cl, T.nSize, rfl, _, hD1, ?_, fun b o q => ?_, ?_⟩
            · rw [List.length_map, List.length_take]
              exact Nat.lt_of_le_of_lt (Nat.min_le_right _ _) (Nat.lt_of_le_of_lt lenL (by decide))
            · rw [upd_ne (ne_of_none q hD)]
              exact sm b o q
            · rw [upd_same, take_snoc hn, List.map_append]
              rfl
          · intro H1 ⟨sm, hD1⟩
            have e : (as.map V.ref).length = l.length := by rw [List.length_map, hlen]
            rw [e, List.take_length] at hD1
            refine ⟨D, l.map fun n => (size n : Int), rfl, SqL.of (by rw [hD1, List.map_map]; rfl), ?_⟩
            rw [sizes_sum]
            have S9 := (S8.same sm).put ("size" : Str) (.int (sizes l : Int))
            rw [cfv_s] at S9
            refine ⟨_, rfl, a, C, dx, _, rfl, (S8.same sm).1, T.cl, T.nSize, (by show 7 < 1000; decide), rfl, ?_, ?_⟩
            · rw [cfv_s]
              exact S9
            · rw [upd_ne hta]
              exact sm _ _ ht8
        rintro σ' Hd ⟨rfl, S9, ht9⟩
        -- depth
        refine ⟨fun σ' Hc => σ' = L2.start nCI [.ref a, .str (kdS bb), .str "", .ref r] ∧ StA C a dx H Hc (cfv (.str (kdS bb)) (.str "") (.ref t) (.int (sizes l : Int)) (.int (1 + (depths l : Int))) (.str "") (.ref p)) ∧ Hc t = some (.tup (as.map V.ref)), ?_, ?_⟩
        · refine ⟨_, rfl, a, C, dx, _, _, rfl, S9.1, T.cl, T.nRows, cfv_r _ _ _ _ _ _ _, t, rfl, ⟨_, SqT.of ht9⟩, fun D hD => lc_it walk_tup (fun i H1 => Same Hd H1 ∧ H1 D = some (.lst ((l.take i).map fun n => V.int (depth n : Int)))) ⟨same_new hD, upd_same⟩ (fun i H1 _ pv => SqT.of (pv.1 _ _ ht9)) ?_ ?_⟩
          · rintro i y H1 H2 hi ⟨sm, hD1⟩ ⟨rfl, hy⟩
            obtain ⟨n, ai, hn, rfl, ct⟩ := getp (S9.same sm).2 hy
            obtain ⟨as', ⟨dx', r', p', ys', q1, _⟩, _⟩ := ct.top
            refine ⟨rfl, _, rfl, ai, C, dx', _, _, rfl, q1, T.cl, T.nDepth, rfl, _, hD1, ?_, fun b o q => ?_, ?_⟩
            · rw [List.length_map, List.length_take]
              exact Nat.lt_of_le_of_lt (Nat.min_le_right _ _) (Nat.lt_of_le_of_lt lenL (by decide))
            · rw [upd_ne (ne_of_none q hD)]
              exact sm b o q
            · rw [upd_same, take_snoc hn, List.map_append]
              rfl
          · intro H1 ⟨sm, hD1⟩
            have e : (as.map V.ref).length = l.length := by rw [List.length_map, hlen]
            rw [e, List.take_length] at hD1
            refine ⟨D, l.map fun n => (depth n : Int), rfl, SqL.of (by rw [hD1, List.map_map]; rfl), by rw [List.length_map]; exact List.length_pos_iff.mpr hne, fun m hm1 hm2 => ?_⟩
            have em := depths_eq hm1 hm2
            subst em
            have S10 := (S9.same sm).put ("depth" : Str) (.int (1 + (depths l : Int)))
            refine ⟨_, _, rfl, rfl, _, rfl, a, C, dx, _, rfl, (S9.same sm).1, T.cl, T.nDepth, (by show 7 < 1000; decide), rfl, ?_, ?_⟩
            · rw [cfv_d] at S10 ⊢
              exact S10
            · rw [upd_ne hta]
              exact sm _ _ ht9
        rintro σ' He ⟨rfl, S10, ht10⟩
        -- text
        refine ⟨fun σ' Hc => σ' = L2.start nCI [.ref a, .str (kdS bb), .str "", .ref r] ∧ StA C a dx H Hc (cfv (.str (kdS bb)) (.str "") (.ref t) (.int (sizes l : Int)) (.int (1 + (depths l : Int))) (.str (SX.S (words (.nd bb l)))) (.ref p)) ∧ Hc t = some (.tup (as.map V.ref)), ?_, ?_⟩
        · have kd : KDct K w d (kdS bb) (.str (SX.S [32, sgOf bb, 32])) := by
            cases bb with
            | true =>
              have e : (" & " : Str) = SX.S [32, sgOf true, 32] := by decide +kernel
              rw [← e]
              exact s1
            | false =>
              have e : (" | " : Str) = SX.S [32, sgOf false, 32] := by decide +kernel
              rw [← e]
              exact s2
          refine ⟨_, rfl, d, _, _, rfl, rfl, kd, ?_⟩
          refine ⟨⟨_, rfl⟩, _, rfl, a, C, dx, _, _, rfl, S10.1, T.cl, T.nRows, cfv_r _ _ _ _ _ _ _, t, rfl, ⟨_, SqT.of ht10⟩, fun D hD => lc_it walk_tup (fun i H1 => Same He H1 ∧ H1 D = some (.lst ((l.take i).map fun n => V.str (SX.S (pwords n))))) ⟨same_new hD, upd_same⟩ (fun i H1 _ pv => SqT.of (pv.1 _ _ ht10)) ?_ ?_⟩
          · rintro i y H1 H2 hi ⟨sm, hD1⟩ ⟨rfl, hy⟩
            obtain ⟨n, ai, hn, rfl, ct⟩ := getp (S10.same sm).2 hy
            obtain ⟨as', q1, _⟩ := ct.top
            have hcn := cans_mem hcan (List.mem_of_getElem? hn)
            refine ⟨rfl, _, rfl, ai, n, as', rfl, q1, Nat.le_trans (w_1000 hcn) (by decide), _, hD1, ?_, fun b o q => ?_, ?_⟩
            · rw [List.length_map, List.length_take]
              exact Nat.lt_of_le_of_lt (Nat.min_le_right _ _) (Nat.lt_of_le_of_lt lenL (by decide))
            · rw [upd_ne (ne_of_none q hD)]
              exact sm b o q
            · rw [upd_same, take_snoc hn, List.map_append]
              rfl
          · intro H1 ⟨sm, hD1⟩
            have e : (as.map V.ref).length = l.length := by rw [List.length_map, hlen]
            rw [e, List.take_length] at hD1
            have ej : Txt.join (SX.S [32, sgOf bb, 32]) ((l.map pwords).map SX.S) = SX.S (words (.nd bb l)) := by rw [SX.join_S, words_join bb hne]
            have hsum : (((l.map pwords).map SX.S).map (·.length)).sum ≤ 16 * 60 := by
              have h1 := pws_len l hcan
              have h2 : ∀ m : List Nd, (((m.map pwords).map SX.S).map (·.length)).sum ≤ (m.map fun n => (pwords n).length + 3).sum := by
                intro m
                induction m with
                | nil => exact Nat.le_refl _
                | cons n m ih =>
                  rw [List.map_cons, List.map_cons, List.map_cons, List.sum_cons, List.map_cons, List.sum_cons, SX.S_len]
                  omega
              have h3 := h2 l
              omega
            refine ⟨_, D, (l.map pwords).map SX.S, rfl, rfl, .inl (SqL.of (by rw [hD1, List.map_map, List.map_map]; rfl)), ?_, ?_⟩
            · rw [List.length_map, List.length_map, SX.S_len]
              have : ([32, sgOf bb, 32] : L).length = 3 := rfl
              rw [this]
              omega
            · rw [ej]
              have S11 := (S10.same sm).put ("_text" : Str) (.str (SX.S (words (.nd bb l))))
              refine ⟨_, rfl, a, C, dx, _, rfl, (S10.same sm).1, T.cl, T.nText, (by show 7 < 1000; decide), rfl, ?_, ?_⟩
              · rw [cfv_t] at S11 ⊢
                exact S11
              · rw [upd_ne hta]
                exact sm _ _ ht10
        rintro σ' Hf ⟨rfl, S11, ht11⟩
        -- names
        refine ⟨fun σ' Hc => ∃ (q : Addr) (zs : List Str), σ' = (L2.start nCI [.ref a, .str (kdS bb), .str "", .ref r]).set 4 (some (.ref q)) ∧ StA C a dx H Hc (cfv (.str (kdS bb)) (.str "") (.ref t) (.int (sizes l : Int)) (.int (1 + (depths l : Int))) (.str (SX.S (words (.nd bb l)))) (.ref p)) ∧ Hc t = some (.tup (as.map V.ref)) ∧
          Hc q = some (.lst (zs.map V.str)) ∧ zs.length ≤ 60 ∧ ∀ y, y ∈ zs ↔ y ∈ (leavess l).map SX.S, ?_, ?_⟩
        · refine ⟨_, rfl, a, C, dx, _, _, rfl, S11.1, T.cl, T.nRows, cfv_r _ _ _ _ _ _ _, t, rfl, ⟨_, SqT.of ht11⟩, fun D hD => lc2_it walk_tup (fun i H1 => Same Hf H1 ∧ ∃ zs : List Str, H1 D = some (.lst (zs.map V.str)) ∧ zs.length ≤ sizes (l.take i) ∧ ∀ y, y ∈ zs ↔ y ∈ (leavess (l.take i)).map SX.S) ⟨same_new hD, [], upd_same, Nat.zero_le _, fun y => by rw [List.take_zero, leavess]; exact Iff.rfl⟩ (fun i H1 _ pv => SqT.of (pv.1 _ _ ht11)) ?_ ?_⟩
          · rintro i y H1 H2 hi ⟨sm, zs, hD1, hz1, hz2⟩ ⟨rfl, hy⟩
            obtain ⟨n, ai, hn, rfl, ct⟩ := getp (S11.same sm).2 hy
            obtain ⟨as', ⟨dx', r', p', ys', q1, q2, q3, q4⟩, _⟩ := ct.top
            refine ⟨rfl, _, rfl, ai, dx', _, rfl, q1, rfl, ai, dx', p', _, _, rfl, q1, rfl, q3, fun q hq => ⟨q, rfl, ⟨_, SqL.of upd_same⟩, ?_⟩⟩
            have hDq : D ≠ q := ne_of_none hD1 hq
            refine lcin_it walk_list (fun j H2 => Same Hf H2 ∧ H2 q = some (.lst (ys'.map V.str)) ∧ H2 D = some (.lst ((zs ++ ys'.take j).map V.str))) ⟨same_add sm hq, upd_same, by rw [upd_ne hDq, hD1, List.take_zero, List.append_nil]⟩ (fun j H2 _ pv => SqL.of pv.2.1) ?_ ?_
            · rintro j y H2 H3 hj ⟨sm2, hq2, hD2⟩ ⟨rfl, hy2⟩
              have hn60 : zs.length + ys'.length ≤ 60 := by
                have h1 := q4.le
                rw [leaves_len] at h1
                have h2 : sizes (l.take (i + 1)) ≤ sizes l := by
                  have : ∀ (m : List Nd) (k : Nat), sizes (m.take k) ≤ sizes m := by
                    intro m
                    induction m with
                    | nil => intro k; simp
                    | cons x m ih =>
                      intro k
                      cases k with
                      | zero => rw [List.take_zero, sizes]; exact Nat.zero_le _
                      | succ k =>
                        rw [List.take_succ_cons, sizes, sizes]
                        exact Nat.add_le_add_left (ih k) _
                  exact this l (i + 1)
                rw [take_snoc hn, sizes_snoc] at h2
                omega
              refine ⟨rfl, _, rfl, _, hD2, ?_, fun b o qq => ?_, ?_, ?_⟩
              · rw [List.length_map, List.length_append, List.length_take]
                have := Nat.min_le_right j ys'.length
                rw [sizeLine_eq]
                omega
              · rw [upd_ne (ne_of_none qq hD)]
                exact sm2 b o qq
              · rw [upd_ne (Ne.symm hDq)]
                exact hq2
              · rw [upd_same]
                rw [List.getElem?_map] at hy2
                cases e3 : ys'[j]? with
                | none => rw [e3] at hy2; cases hy2
                | some z =>
                  rw [e3] at hy2
                  obtain rfl := (Option.some.inj hy2).symm
                  rw [take_snoc e3, ← List.append_assoc, List.map_append (l₁ := zs ++ ys'.take j)]
                  rfl
            · intro H2 ⟨sm2, hq2, hD2⟩
              rw [List.length_map, List.take_length] at hD2
              refine ⟨sm2, zs ++ ys', hD2, ?_, fun y => ?_⟩
              · have h1 := q4.le
                rw [leaves_len] at h1
                rw [take_snoc hn, sizes_snoc, List.length_append]
                omega
              · rw [take_snoc hn, leavess_snoc, List.mem_append, List.map_append, List.mem_append, hz2 y, q4.2.2 y]
          · intro H1 ⟨sm, zs, hD1, hz1, hz2⟩
            have e : (as.map V.ref).length = l.length := by rw [List.length_map, hlen]
            rw [e, List.take_length] at hz1 hz2
            exact ⟨D, zs, rfl, S11.same sm, sm _ _ ht11, hD1, Nat.le_trans hz1 hsz, hz2⟩
        · rintro σ' Hg ⟨q, zs, rfl, S12, ht12, hq12, hz1, hz2⟩
          refine ⟨_, rfl, q, zs, rfl, SqL.of hq12, by omega, fun q2 c hq2 hc => ?_⟩
          refine ⟨q2, _, c, rfl, upd_same, by omega, fun ys q3 y1 y2 y3 hq3 => ?_⟩
          refine ⟨q3, _, rfl, .inl ⟨SqL.of upd_same, fun q4 hq4 => ?_⟩⟩
          have S13 := ((S12.new (o := SetXO w q2 (fun y => decide (y ∈ zs)) c) hq2).new (o := .lst (ys.map V.str)) hq3).new (o := .tup (ys.map V.str)) hq4
          refine ⟨_, rfl, a, C, dx, _, rfl, S13.1, T.cl, T.nNames, (by show 7 < 1000; decide), ?_⟩
          have S14 := S13.put ("_names" : Str) (.ref q4)
          rw [cfv_p] at S14
          have hq4a : q4 ≠ a := Ne.symm (ne_of_none ((S12.new (o := SetXO w q2 (fun y => decide (y ∈ zs)) c) hq2).new (o := .lst (ys.map V.str)) hq3).1 hq4)
          refine k _ S14.2 ?_
          rw [CAt]
          refine ⟨as, ⟨dx, t, q4, ys, ?_, ?_, ?_, ?_⟩, CAts.mono (SameX.of1 ha S14.2) _ _ cs⟩
          · have e1 : (1 + (depths l : Int)) = ((depth (.nd bb l) : Nat) : Int) := by rw [depth]; omega
            have e2 : ((sizes l : Nat) : Int) = ((size (.nd bb l) : Nat) : Int) := by rw [size]
            rw [e1, e2] at S14
            rw [cfv_p]
            exact S14.1
          · rw [upd_ne hta]
            exact same_new hq4 _ _ (same_new hq3 _ _ (same_new hq2 _ _ ht12))
          · rw [upd_ne hq4a, upd_same]
          · refine ⟨y1, y2, fun y => ?_⟩
            rw [y3 y, decide_eq_true_eq, hz2 y, leaves]
end
end Pe
set_option Elab.async false
set_option maxRecDepth 100000
set_option maxHeartbeats 4000000
/-! eye, flat_parts, unlike_rows -/
namespace Pe
open PySem PySem.Spec PyProof.Rows L2
abbrev sEye : Stmt := top 20
abbrev sFlat : Stmt := top 24
abbrev sUnlike : Stmt := top 25
def spEye (C : Addr) : Sp := fun vs H Q _ => ∃ x : L, vs = [.str (SX.S x)] ∧ x ≠ [] ∧ x.length ≤ 6 ∧ (∀ c ∈ x, isL c = true) ∧ ∀ H' a, Same H H' → CAt C H' (.eye x) a → Q (.ref a) H'
def spFlat (C : Addr) : Sp := fun vs H Q _ => ∃ (b : Bool) (n : Nd) (a : Addr), vs = [.str (kdS b), .ref a] ∧ CAt C H n a ∧ ∀ l xs, H l = none → CAts C H (flat1 b n) xs → Q (.ref l) (upd H l (.lst (xs.map V.ref)))
def spUnlike (C : Addr) : Sp := fun vs H Q _ => ∃ (l : Addr) (ns : List Nd) (xs : List Addr), vs = [.ref l] ∧ H l = some (.lst (xs.map V.ref)) ∧ CAts C H ns xs ∧ (∀ n ∈ ns, can n) ∧ ns.length ≤ 6000000 ∧
  ∀ H' r ys, Same H H' → H' r = some (.lst (ys.map V.ref)) → CAts C H' (dedup [] ns) ys → Q (.ref r) H'
theorem kd_flat (b : Bool) : ∀ n : Nd, decide (V.str (kdN n) = V.str (kdS b)) = (match n with
  | .nd c _ => decide (c = b)
  | .eye _ => false)
  | .eye x => by
    show decide (V.str ("eye" : Str) = V.str (kdS b)) = false
    cases b <;> decide +kernel
  | .nd c l => by
    show decide (V.str (kdS c) = V.str (kdS b)) = decide (c = b)
    cases b <;> cases c <;> decide +kernel
section
variable {P : Program} {w : World} {K : PySem.W.Frag} {mg : Str → Option Value} {base : Heap} {C : Addr} {f : Addr} {fd : FuncData}
theorem scEye : FnScope ["name"] ["name"] (C8.fnScope sEye) := C8.fnScope_by (by decide +kernel)
theorem scFlat : FnScope ["kind", "circle"] ["kind", "circle"] (C8.fnScope sFlat) := C8.fnScope_by (by decide +kernel)
abbrev nUn : List Str := ["circles", "seen", "rows", "circle", "text"]
theorem scUn : FnScope nUn ["circles"] (C8.fnScope sUnlike) := C8.fnScope_by (by decide +kernel)
theorem ok_eye (F : C8.Def K mg "eye" sEye f fd) (b : Binds K fd ["name"] []) (cN : C8.Cal P w K mg base 1 "is_name" spIsName []) (mC : C8.Mak P w K mg base 5 "Circle" C (spCInit C) []) : C8.Cal P w K mg base 7 "eye" (spEye C) [] := by
  refine C8.cal0 F b .nil scEye (fun vs H Q E h => ?_) (fun cdv A outer s H vs Q E hr h => ?_)
  · obtain ⟨x, rfl, _⟩ := h
    rfl
  · obtain ⟨x, rfl, h1, h2, h3, k⟩ := h
    refine ⟨_, pss_cons (ps_if (pt_not (pt_val (C8.pe_c cN hr (by decide) (by rfl) (pa_cons (pv 0) pa_nil)))) pss_never pss_nil)
      (pss_one (ps_ret (C8.pe_mk mC hr (by decide) (by rfl) (pa_cons pe_str (pa_cons (pv 0) (pa_cons (pe_tup pa_nil) pa_nil)))))), ?_⟩
    refine ⟨_, rfl, x, rfl, h1, h2, h3, fun H1 s1 => ⟨_, rfl, ?_⟩⟩
    refine iteF ?_
    refine ⟨_, rfl, by decide, fun r hr0 a dx na nd ne => ?_⟩
    have hra : r ≠ a := fun z => by rw [← z, upd_same] at na; cases na
    have hrd : r ≠ dx := fun z => by rw [← z, upd_same] at nd; cases nd
    refine ⟨a, dx, r, "eye", SX.S x, rfl, upd_same, .inl ⟨x, rfl, rfl, by rw [upd_ne hra, upd_ne hrd, upd_same], fun H2 kp hc => ⟨rfl, ?_⟩⟩⟩
    refine k H2 a (fun b o e => kp b o ?_ ?_) hc
    · have e1 := s1 b o e
      rw [upd_ne hra.symm] at na
      rw [upd_ne hrd.symm] at nd
      rw [upd_ne (ne_of_none e1 na), upd_ne (ne_of_none e1 nd), upd_ne (ne_of_none e1 hr0)]
      exact e1
    · rw [upd_ne hra.symm] at na
      exact ne_of_none (s1 b o e) na
theorem ok_flat (F : C8.Def K mg "flat_parts" sFlat f fd) (b : Binds K fd ["kind", "circle"] []) (T : CiT K mg C) (mP : C8.Met P w K mg base 1 C "parts" (spParts C) []) : C8.Cal P w K mg base 2 "flat_parts" (spFlat C) [] := by
  refine C8.cal0 F b .nil scFlat (fun vs H Q E h => ?_) (fun cdv A outer s H vs Q E hr h => ?_)
  · obtain ⟨bb, n, a, rfl, _⟩ := h
    rfl
  · obtain ⟨bb, n, a, rfl, ct, k⟩ := h
    refine ⟨_, pss_cons (ps_if (pt_cmpR op_eq (pe_fld (pv 1) rfl) (pv 0) (nomark _)) (pss_one (ps_ret (C8.pe_mt0 mP hr (by decide) (pv 1)))) pss_nil)
      (pss_one (ps_ret (pe_lst (pa_cons (pv 1) pa_nil)))), ?_⟩
    obtain ⟨as, ⟨dx, r, p, ys, q1, q2, q3, q4⟩, cs⟩ := ct.top
    refine ⟨_, rfl, a, C, dx, _, _, rfl, q1, T.cl, T.nKind, rfl, _, rfl, rfl, _, rfl, ?_⟩
    rw [kd_flat]
    have other : flat1 bb n = [n] → tRet (tLst (tCons (tVar 1) tNil)) { nx := fun _ H' => Q V.non H', rt := Q } (L2.start ["kind", "circle"] [.str (kdS bb), .ref a]) H := fun e => by
      refine ⟨_, rfl, (by show 1 ≤ sizeLine; decide), fun l hl => ?_⟩
      have := k l [a] hl (by rw [e]; exact CAts.cons ct CAts.nil)
      exact this
    cases n with
    | eye x =>
      refine iteF ?_
      exact other rfl
    | nd c l =>
      show if decide (c = bb) = true then _ else _
      by_cases e : c = bb
      · rw [decide_eq_true e]
        refine iteT ?_
        refine ⟨_, rfl, a, dx, _, rfl, q1, rfl, a, dx, r, _, _, rfl, q1, rfl, q2, fun l' hl => ?_⟩
        refine k l' as hl ?_
        rw [show flat1 bb (.nd c l) = l from by rw [flat1, if_pos e]]
        exact cs
      · rw [decide_eq_false e]
        refine iteF ?_
        refine other ?_
        rw [flat1, if_neg e]
theorem ok_unlike (F : C8.Def K mg "unlike_rows" sUnlike f fd) (b : Binds K fd ["circles"] []) (z : mg "str" = none) (mS : C8.Met P w K mg base 1 C "__str__" (spStr C) []) : C8.Cal P w K mg base 4 "unlike_rows" (spUnlike C) [] := by
  refine C8.cal0 F b .nil scUn (fun vs H Q E h => ?_) (fun cdv A outer s H vs Q E hr h => ?_)
  · obtain ⟨l, ns, xs, rfl, _⟩ := h
    rfl
  · obtain ⟨l, ns, xs, rfl, hl, cs, hcan, hlen, k⟩ := h
    refine ⟨_, pss_cons (ps_set (i := 1) scUn.nd rfl (Or.inl rfl) pe_dnewK) (pss_cons (ps_set (i := 2) scUn.nd rfl (Or.inl rfl) (pe_lst pa_nil))
      (pss_cons (ps_for PassesOwn.never rfl (pi_list (pv 0)) (pg_name (i := 3) scUn.nd rfl (Or.inl rfl))
        (pss_cons (ps_set (i := 4) scUn.nd rfl (Or.inl rfl) (pe_callTy (call_strO mS hr) (by rfl) z (by decide +kernel) (pa_cons (pv 3) pa_nil)))
        (pss_one (ps_if (pt_cmp (pc_dnotin (hu_of hr) (pv 4) (pv 1))) (pss_cons (ps_dput (hu_of hr) (pv 1) (pv 4) pe_bl rfl)
          (pss_one (ps_expr (pe_bm PySem.F.plainAttrs_list PySem.F.slot_list_append PySem.F.type_list_append mt_append (pv 2) (pa_cons (pv 3) pa_nil))))) pss_nil))))
      (pss_one (ps_ret (pv 2))))), ?_⟩
    intro d hd
    refine ⟨by decide, fun r hr0 => ?_⟩
    have hrd : r ≠ d := fun e => by rw [e, upd_same] at hr0; cases hr0
    have hr1 : H r = none := by rw [upd_ne hrd] at hr0; exact hr0
    have s0 : Same H (upd (upd H d (.dK [])) r (.lst [])) := (same_new hd).trans (same_new hr0)
    have hxl := cs.len
    refine ⟨_, rfl, l, rfl, ⟨_, SqL.of (s0 _ _ hl)⟩, for_it (walk_list (xs := xs.map V.ref)) (fun i σ H2 => ∃ (kvs : List (L2.Key × V)) (acc : List Nd) (ys : List Addr) (v3 v4 : Option V), σ = [some (.ref l), some (.ref d), some (.ref r), v3, v4] ∧ Same H H2 ∧ H2 d = some (.dK kvs) ∧ H2 r = some (.lst (ys.map V.ref)) ∧ CAts C H2 acc ys ∧
      (∀ z : Str, (valV kvs (Sum.inr z)).isSome = decide (z ∈ acc.map fun n => SX.S (words n))) ∧ kvs.length = acc.length ∧ acc.length ≤ i ∧ dedT acc (ns.drop i) = dedup [] ns) ?_ (fun i σ H2 _ p => ?_) ?_ ?_⟩
    · refine ⟨[], [], [], none, none, rfl, s0, by rw [upd_ne hrd.symm, upd_same], upd_same, CAts.nil, fun z => by rw [valV_nil]; simp, rfl, Nat.le_refl _, ?_⟩
      exact dedT_eq ns [] (fun n hn => by cases hn) hcan
    · obtain ⟨kvs, acc, ys, v3, v4, _, s2, _⟩ := p
      exact SqL.of (s2 _ _ hl)
    · rintro i y σ H2 H3 hi ⟨kvs, acc, ys, v3, v4, rfl, s2, hd2, hr2, ca, hv, hk, hai, hde⟩ ⟨rfl, hy⟩
      rw [List.getElem?_map] at hy
      cases e2 : xs[i]? with
      | none => rw [e2] at hy; cases hy
      | some ai =>
        rw [e2] at hy
        obtain rfl : y = .ref ai := (Option.some.inj hy).symm
        have hin : i < ns.length := by
          rw [← hxl]
          exact (List.getElem?_eq_some_iff.mp e2).1
        obtain ⟨aj, e3, ct⟩ := cs.get (List.getElem?_eq_getElem hin)
        rw [e2] at e3
        cases e3
        have ct2 := ct.same s2
        obtain ⟨as', ⟨dx, r', p', ys', q1, q2, q3, q4⟩, _⟩ := ct2.top
        refine ⟨_, rfl, ai, dx, _, rfl, q1, ai, dx, _, _, rfl, q1, rfl, _, rfl, ?_⟩
        refine ⟨_, rfl, _, rfl, d, _, rfl, DGet.k (k := Sum.inr (SX.S (words ns[i]))) hd2, _, rfl, ?_⟩
        rw [hv]
        have hdrop : ns.drop i = ns[i] :: ns.drop (i + 1) := List.drop_eq_getElem_cons hin
        rw [hdrop, dedT] at hde
        have hmem : (SX.S (words ns[i]) ∈ acc.map fun n => SX.S (words n)) ↔ words ns[i] ∈ acc.map words := by
          rw [List.mem_map, List.mem_map]
          exact ⟨fun ⟨n, h1, h2⟩ => ⟨n, h1, SX.S_inj h2⟩, fun ⟨n, h1, h2⟩ => ⟨n, h1, by rw [h2]⟩⟩
        by_cases hm : words ns[i] ∈ acc.map words
        · rw [decide_eq_true (hmem.mpr hm)]
          refine iteF ?_
          rw [if_pos hm] at hde
          exact ⟨kvs, acc, ys, _, _, rfl, s2, hd2, hr2, ca, hv, hk, by omega, hde⟩
        · rw [decide_eq_false (fun z => hm (hmem.mp z))]
          refine iteT ?_
          rw [if_neg hm] at hde
          have hnone : valV kvs (Sum.inr (SX.S (words ns[i]))) = none := by
            have := hv (SX.S (words ns[i]))
            rw [decide_eq_false (fun z => hm (hmem.mp z))] at this
            cases e : valV kvs (Sum.inr (SX.S (words ns[i]))) with
            | none => rfl
            | some v => rw [e] at this; cases this
          refine ⟨_, rfl, _, rfl, d, _, rfl, DPut.k (k := Sum.inr (SX.S (words ns[i]))) hd2 (by rw [hk, sizeLine_eq]; omega), ?_⟩
          have hrd2 : r ≠ d := hrd
          refine ⟨_, rfl, .inl ⟨rfl, _, SqL.of (by rw [upd_ne hrd2]; exact hr2)⟩, _, rfl, r, _, _, rfl, rfl, by rw [upd_ne hrd2]; exact hr2, ?_, ?_⟩
          · have := ca.len
            rw [List.length_map, this, sizeLine_eq]
            omega
          · have s3 : Same H (upd (upd H3 d (.dK (putK kvs (Sum.inr (SX.S (words ns[i]))) (.bl true)))) r (.lst (ys.map V.ref ++ [.ref ai]))) := fun bb o e => by
              rw [upd_ne (ne_of_none e hr1), upd_ne (ne_of_none e hd)]
              exact s2 bb o e
            have sx : SameX C H3 (upd (upd H3 d (.dK (putK kvs (Sum.inr (SX.S (words ns[i]))) (.bl true)))) r (.lst (ys.map V.ref ++ [.ref ai]))) := ((SameX.of (Same.refl _)).upd hd2 dk_ci).upd (by rw [upd_ne hrd2]; exact hr2) lst_ci
            refine ⟨putK kvs (Sum.inr (SX.S (words ns[i]))) (.bl true), acc ++ [ns[i]], ys ++ [ai], _, _, rfl, s3, by rw [upd_ne hrd2.symm, upd_same], by rw [upd_same, List.map_append]; rfl, ?_, fun z => ?_, ?_, ?_, hde⟩
            · exact (CAts.mono sx _ _ ca).app (CAts.cons (CAt.mono sx _ _ ct2) CAts.nil)
            · rw [valV_put]
              by_cases hz : z = SX.S (words ns[i])
              · rw [if_pos (by rw [hz]), decide_eq_true (by rw [List.map_append]; exact List.mem_append_right _ (List.mem_singleton.mpr hz))]
                rfl
              · rw [if_neg (fun q => hz (Sum.inr.inj q)), hv z]
                refine decide_eq_decide.mpr ?_
                rw [List.map_append, List.mem_append]
                exact ⟨Or.inl, fun q => q.elim id fun q => absurd (List.mem_singleton.mp q) hz⟩
            · rw [putK_new _ hnone, List.length_append, List.length_append, hk]
              rfl
            · rw [List.length_append]
              exact Nat.add_le_add_right hai 1
    · rintro σ H2 ⟨kvs, acc, ys, v3, v4, rfl, s2, hd2, hr2, ca, hv, hk, hai, hde⟩
      have e : ns.drop (xs.map V.ref).length = [] := List.drop_eq_nil_of_le (by rw [List.length_map, hxl]; exact Nat.le_refl _)
      rw [e, dedT] at hde
      refine ⟨_, rfl, k H2 r ys s2 hr2 ?_⟩
      rw [← hde]
      exact ca
end
end Pe
set_option Elab.async false
set_option maxRecDepth 100000
set_option maxHeartbeats 8000000
/-! built_circle and its callers -/
namespace Pe
open PySem PySem.Spec PyProof.Rows L2
/-! ### defs that may raise -/
structure CalX (P : Program) (w : World) (K : PySem.W.Frag) (mg : Str → Option Value) (base : Heap) (k : Nat) (x : Str) (sp : Sp) : Prop where
  ex : ∃ (f : Addr) (fd : FuncData) (ps : List Str), FnOk P w K mg base (L2.CX P w) k f fd ps sp ∧ mg x = some (.ref f) ∧ PySem.W.keepIn K (.ref f) = true ∧ Binds K fd ps []
section
variable {P : Program} {w : World} {K : PySem.W.Frag} {mg : Str → Option Value} {base : Heap}
theorem fnX {x qual : Str} {st : Stmt} {f : Addr} {fd : FuncData} {N ps : List Str} {k : Nat} {sp : Sp} (F : C8.Fun K x qual st f fd) (S : FnScope N ps (C8.fnScope st)) (len : ∀ vs H Q E, sp vs H Q E → vs.length = ps.length)
    (hbody : ∀ (cdv : Value) (A : Around) (outer : List Env) (s : Shared) (H : Hp) (vs : List V) (Q : VK) (E : XK), Room k (A.deeper (envOfC qual (C8.fnScope st) s.heap.objs.size f cdv)) → sp vs H Q E →
      ∃ t, PSs (cxOf (L2.CX P w) P w K mg base N qual (C8.fnScope st) f cdv A outer s H E) (C8.fnBody st) t ∧ t { nx := fun _ H' => Q .non H', rt := Q } (L2.start N vs) H) : FnOk P w K mg base (L2.CX P w) (k + 1) f fd ps sp := by
  obtain ⟨oc, od, dV, kV, doc, pm, an, cdv, ct, osl, rfl, lk, hcd⟩ := F.ex
  exact fn_of lk hcd S len fun A outer s H vs Q E hr hsp => hbody cdv A outer s H vs Q E hr hsp
theorem calX {x : Str} {st : Stmt} {f : Addr} {fd : FuncData} {N ps : List Str} {k : Nat} {sp : Sp} (F : C8.Def K mg x st f fd) (b : Binds K fd ps []) (S : FnScope N ps (C8.fnScope st)) (len : ∀ vs H Q E, sp vs H Q E → vs.length = ps.length)
    (hbody : ∀ (cdv : Value) (A : Around) (outer : List Env) (s : Shared) (H : Hp) (vs : List V) (Q : VK) (E : XK), Room k (A.deeper (envOfC x (C8.fnScope st) s.heap.objs.size f cdv)) → sp vs H Q E →
      ∃ t, PSs (cxOf (L2.CX P w) P w K mg base N x (C8.fnScope st) f cdv A outer s H E) (C8.fnBody st) t ∧ t { nx := fun _ H' => Q .non H', rt := Q } (L2.start N vs) H) : CalX P w K mg base (k + 1) x sp :=
  ⟨f, fd, ps, fnX F.fn S len hbody, F.mgf, F.kp, b⟩
end
section
variable {X : Cx} {k j : Nat} {x : Str} {sp : Sp} {E : XK} {p pos : Pos} {e : Expr} {es : List Expr} {t : TA}
theorem pe_cx (c : CalX X.prog X.w X.K X.mg X.base k x sp) (hr : Room j X.A) (hk : k ≤ j) (hg : Gl X x) (hx : Passes (L2.CX X.prog X.w) X E) (ha : PA X (e :: es) t) (hdb : (x == ("__debug__" : Str)) = false := by decide)
    (he : starEach (e :: es) X.env = (false, eval e X.env) :: starEach es X.env := by rfl) (hpl : (backTo pos (starEach es X.env)).any (·.1) = false := by rfl) : PE X (.Call (.Name x p) (e :: es) [] pos) (tCall sp [] E t) := by
  obtain ⟨f, fd, ps, F, hm, hkp, b⟩ := c.ex
  exact pe_call F (hr.mono hk) hg hm hkp b .nil hx ha hdb he hpl
end
/-- what a def that raises lets out is taken by the one that calls it -/
theorem passX {P : Program} {w : World} {K : PySem.W.Frag} {mg : Str → Option Value} {base : Heap} {N : List Str} {qual : Str} {scope : Scope} {f : Addr} {cd : Value} {A : Around} {outer : List Env} {s : Shared} {H : Hp} {E : XK} :
    Passes (L2.CX P w) (cxOf (L2.CX P w) P w K mg base N qual scope f cd A outer s H E) E := passes_call (takes_of rfl rfl rfl rfl) (fun _ _ _ _ h => h)
/-! ### what is told of a reading -/
def many (b : Bool) : List (Str × V) := if b then [("most", .int 60), ("what", .str "eyes")] else [("most", .int 20), ("what", .str "depth")]
/-- the circle, or the exception of the class at CT -/
def Told (C CT : Addr) (H : Hp) (r : Except Bool Nd) (Q : VK) (E : XK) : Prop := match r with
  | .ok n => ∀ H' a, Same H H' → CAt C H' n a → Q (.ref a) H'
  | .error b => ∀ H' d, Same H H' → H' d = some (.xd (many b)) → E (.ref CT) (some d) H'
theorem Told.next {C CT : Addr} {H H1 : Hp} {r : Except Bool Nd} {Q : VK} {E : XK} (s : Same H H1) (h : Told C CT H r Q E) : Told C CT H1 r Q E := by
  cases r with
  | ok n => exact fun H' a s' c => h H' a (s.trans s') c
  | error b => exact fun H' d s' c => h H' d (s.trans s') c
abbrev sBuilt : Stmt := top 23
def spBuilt (C CT : Addr) : Sp := fun vs H Q E => ∃ (b : Bool) (t : Addr) (ns : List Nd) (as : List Addr), vs = [.str (kdS b), .ref t] ∧ H t = some (.tup (as.map V.ref)) ∧ CAts C H ns as ∧ cans ns ∧ ns ≠ [] ∧ ns.length ≤ 100000 ∧ Told C CT H (chk b ns) Q E
/-- the facts of TooMany -/
structure TmT (P : Program) (w : World) (K : PySem.W.Frag) (mg : Str → Option Value) (base : Heap) (CT fI : Addr) (fdI : FuncData) : Prop where
  mgT : mg "TooMany" = some (.ref CT)
  oex : OexC K CT
  init : PySem.W.findIn K (.ref CT) "__init__" = some (some (.ref fI))
  tI : PySem.W.typeIn K (.ref fI) = some (.type "function")
  fn : FnOk P w K mg base C8.CX0 1 fI fdI ["self", "what", "most"] (spX2 CT "what" "most")
  bnd : Binds K fdI ["self", "what", "most"] []
theorem flat1_len {b : Bool} {n : Nd} (h : can n) : (flat1 b n).length ≤ 60 := by
  have key : ∀ m : List Nd, cans m → m.length ≤ sizes m := by
    intro m
    induction m with
    | nil => intro _; exact Nat.zero_le _
    | cons n r ih =>
      intro hc
      rw [cans] at hc
      have a1 := size_pos n hc.1
      have a2 := ih hc.2
      rw [sizes, List.length_cons]
      omega
  cases n with
  | eye x =>
    rw [flat1]
    exact (by decide : 1 ≤ 60)
  | nd c l =>
    rw [flat1]
    split
    · rw [can] at h
      have := key l h.1
      omega
    · exact (by decide : 1 ≤ 60)
section
variable {P : Program} {w : World} {K : PySem.W.Frag} {mg : Str → Option Value} {base : Heap} {C CT : Addr} {f fI : Addr} {fd fdI : FuncData}
abbrev nBu : List Str := ["kind", "circles", "at", "circle", "rows", "part"]
theorem scBu : FnScope nBu ["kind", "circles"] (C8.fnScope sBuilt) := C8.fnScope_by (by decide +kernel)
theorem ok_built {mc u : Value} (F : C8.Def K mg "built_circle" sBuilt f fd) (b : Binds K fd ["kind", "circles"] []) (T : CiT K mg C) (M : TmT P w K mg base CT fI fdI) (zL : mg "len" = none) (zE : mg "enumerate" = none) (zI : mg "isinstance" = none) (zS : mg "sum" = none) (zM : mg "max" = none)
    (hR : ClX.CRead K C mc) (hV : ClX.CVal K C mc "LIMIT" (.int 60) u) (hD : ∃ t, mg "DEEPEST" = some (.int 20 t)) (cF : C8.Cal P w K mg base 2 "flat_parts" (spFlat C) []) (cU : C8.Cal P w K mg base 4 "unlike_rows" (spUnlike C) [])
    (mC : C8.Mak P w K mg base 5 "Circle" C (spCInit C) []) : CalX P w K mg base 7 "built_circle" (spBuilt C CT) := by
  refine calX F b scBu (fun vs H Q E h => ?_) (fun cdv A outer s H vs Q E hr h => ?_)
  · obtain ⟨bb, t, ns, as, rfl, _⟩ := h
    rfl
  · obtain ⟨bb, t, ns, as, rfl, ht, cs, hcan, hne, hlen, k⟩ := h
    refine ⟨_, pss_cons (ps_if (pt_cmpR op_eq (pe_callB call_len_seq (by rfl) zL PySem.boot_len (pa_cons (pv 1) pa_nil)) pe_int (nomark _)) pss_never pss_nil)
      (pss_cons (ps_for (passes_of rfl) rfl (pi_enU (by rfl) zE (pv 1)) (pg_tup rfl (pgs_cons (pg_name (i := 2) scBu.nd rfl (Or.inl rfl)) (pgs_cons (pg_name (i := 3) scBu.nd rfl (Or.inl rfl)) pgs_nil)))
        (pss_one (ps_if (pt_not (pt_val (pe_callB (C8.call_isC T.isC) (by rfl) zI (by decide +kernel) (pa_cons (pv 3) (pa_cons (pe_glob (v := .ref C) (by rfl) T.mgC rfl) pa_nil))))) pss_never pss_nil)))
      (C8.pss_cut (ps_set (i := 4) scBu.nd rfl (Or.inl rfl) (C8.pe_c cU hr (by decide) (by rfl) (pa_cons (pe_lc2 (own := [("circle", 3), ("part", 5)]) (vs1 := [5]) (g := gName 3) (g1 := gName 5) (tt := tYes) (tt1 := tYes)
          (wi1 := iList K (tCall (spFlat C) [] C8.E0 (tCons (tVar 0) (tCons (tVar 3) tNil)))) (te := tVar 5) rfl scBu.nd (pi_tup (pv 1)) (blkOk_by (N := nBu) (sc := C8.fnScope sBuilt) (by decide +kernel)) (by decide)
          (fun _ _ _ _ _ => pg_name (i := 3) scBu.nd rfl (Or.inl rfl)) (fun _ _ _ _ _ => pts_nil) (fun _ _ _ _ _ => pi_list (C8.pe_c cF hr (by decide) (by rfl) (pa_cons (pv 0) (pa_cons (pv 3) pa_nil)))) (fun _ _ _ _ _ => pg_name (i := 5) scBu.nd rfl (Or.inl rfl)) (fun _ _ _ _ _ => pts_nil) (fun _ _ _ _ _ => pv 5)) pa_nil)))
      (pss_cons (ps_if (pt_cmpR op_eq (pe_callB call_len_seq (by rfl) zL PySem.boot_len (pa_cons (pv 4) pa_nil)) pe_int (nomark _)) (pss_one (ps_ret (pe_ix ix_list (pv 4) pe_int (fun _ _ => rfl)))) pss_nil)
      (pss_cons (ps_if (pt_cmpR op_gt (pe_callB (cr_sum rfl) (by rfl) zS (by decide +kernel) (pa_cons (pe_lc (own := [("part", 5)]) (g := gName 5) (tt := tYes) (te := tFld K (tVar 5) ("size" : Str)) rfl scBu.nd (pi_list (pv 4)) (blkOk_by (N := nBu) (sc := C8.fnScope sBuilt) (by decide +kernel))
          (fun _ _ _ _ _ => pg_name (i := 5) scBu.nd rfl (Or.inl rfl)) (fun _ _ _ _ _ => pts_nil) (fun _ _ _ _ _ => pe_fld (pv 5) rfl)) pa_nil)) (ClX.pe_cval (pe_glob (v := .ref C) (by rfl) T.mgC rfl)) (nomark _))
          (pss_one (ps_raiseX M.oex M.init M.tI M.fn M.bnd rfl (hr.mono (by decide)) (takes_of rfl rfl rfl rfl) (by rfl) M.mgT (pa_cons pe_str (pa_cons (ClX.pe_cval (pe_glob (v := .ref C) (by rfl) T.mgC rfl)) pa_nil)))) pss_nil)
      (pss_cons (ps_if (pt_cmpR op_gt (pe_op op_add pe_int (pe_callB (cr_max rfl) (by rfl) zM (by decide +kernel) (pa_cons (pe_lc (own := [("part", 5)]) (g := gName 5) (tt := tYes) (te := tFld K (tVar 5) ("depth" : Str)) rfl scBu.nd (pi_list (pv 4)) (blkOk_by (N := nBu) (sc := C8.fnScope sBuilt) (by decide +kernel))
          (fun _ _ _ _ _ => pg_name (i := 5) scBu.nd rfl (Or.inl rfl)) (fun _ _ _ _ _ => pts_nil) (fun _ _ _ _ _ => pe_fld (pv 5) rfl)) pa_nil))) (pe_gi hD) (nomark _))
          (pss_one (ps_raiseX M.oex M.init M.tI M.fn M.bnd rfl (hr.mono (by decide)) (takes_of rfl rfl rfl rfl) (by rfl) M.mgT (pa_cons pe_str (pa_cons (pe_gi hD) pa_nil)))) pss_nil)
      (pss_one (ps_ret (C8.pe_mk mC hr (by decide) (by rfl) (pa_cons (pv 0) (pa_cons pe_str (pa_cons (pv 4) pa_nil))))))))))), ?_⟩
    have hxl := cs.len
    refine ⟨_, rfl, t, _, rfl, .inr (SqT.of ht), rfl, _, rfl, ?_⟩
    have e0 : decide (V.int (((as.map V.ref).length : Nat) : Int) = V.int 0) = false := by
      refine decide_eq_false fun z => ?_
      injection z with z
      rw [List.length_map, hxl] at z
      have : 0 < ns.length := List.length_pos_iff.mpr hne
      omega
    rw [e0]
    refine iteF ?_
    refine ⟨_, rfl, t, _, rfl, ht, for_it walk_en (fun i σ H2 => ∃ v2 v3 : Option V, σ = [some (.str (kdS bb)), some (.ref t), v2, v3, none, none] ∧ Same H H2) ⟨none, none, rfl, Same.refl _⟩ (fun _ _ _ _ p => by
      obtain ⟨_, _, _, s2⟩ := p
      exact s2 _ _ ht) ?_ ?_⟩
    · rintro i x σ H2 H3 hi ⟨v2, v3, rfl, s2⟩ ⟨T', y, rfl, hT, rfl, hy⟩
      rw [List.getElem?_map] at hy
      cases e2 : as[i]? with
      | none => rw [e2] at hy; cases hy
      | some ai =>
        rw [e2] at hy
        obtain rfl : y = .ref ai := (Option.some.inj hy).symm
        have hin : i < ns.length := by
          rw [← hxl]
          exact (List.getElem?_eq_some_iff.mp e2).1
        obtain ⟨aj, e3, ct⟩ := cs.get (List.getElem?_eq_getElem hin)
        rw [e2] at e3
        cases e3
        obtain ⟨as', ⟨dx, r', p', ys', q1, q2, q3, q4⟩, _⟩ := (ct.same s2).top
        refine ⟨T', _, rfl, SqT.of upd_same, rfl, _, _, rfl, _, _, rfl, rfl, ?_⟩
        refine ⟨_, rfl, ai, dx, _, rfl, by rw [upd_ne (ne_of_none q1 hT)]; exact q1, _, rfl, ?_⟩
        refine iteF ?_
        exact ⟨_, _, rfl, same_add s2 hT⟩
    · rintro σ H2 ⟨v2, v3, rfl, s2⟩
      refine ⟨fun σ' Hc => ∃ (v2 v3 : Option V) (r : Addr) (ys : List Addr), σ' = [some (.str (kdS bb)), some (.ref t), v2, v3, some (.ref r), none] ∧ Same H Hc ∧ Hc r = some (.lst (ys.map V.ref)) ∧ CAts C Hc (rowsOf bb ns) ys, ?_, ?_⟩
      · refine ⟨_, rfl, t, rfl, ⟨_, SqT.of (s2 _ _ ht)⟩, fun D hD => lc2_it (walk_tup (xs := as.map V.ref)) (fun i H1 => Same H H1 ∧ ∃ xs : List Addr, H1 D = some (.lst (xs.map V.ref)) ∧ xs.length ≤ 60 * i ∧ CAts C H1 (flat bb (ns.take i)) xs) ⟨same_add s2 hD, [], upd_same, Nat.zero_le _, by rw [List.take_zero]; exact CAts.nil⟩ (fun i H1 _ pv => SqT.of (pv.1 _ _ ht)) ?_ ?_⟩
        · rintro i y H1 H3 hi ⟨sm, xs, hD1, hz, cx⟩ ⟨rfl, hy⟩
          rw [List.getElem?_map] at hy
          cases e2 : as[i]? with
          | none => rw [e2] at hy; cases hy
          | some ai =>
            rw [e2] at hy
            obtain rfl : y = .ref ai := (Option.some.inj hy).symm
            have hin : i < ns.length := by
              rw [← hxl]
              exact (List.getElem?_eq_some_iff.mp e2).1
            obtain ⟨aj, e3, ct⟩ := cs.get (List.getElem?_eq_getElem hin)
            rw [e2] at e3
            cases e3
            have hcn := cans_mem hcan (List.getElem_mem hin)
            have htk : flat bb (ns.take (i + 1)) = flat bb (ns.take i) ++ flat1 bb ns[i] := by
              unfold flat
              rw [take_snoc (List.getElem?_eq_getElem hin), List.flatMap_append]
              simp
            refine ⟨rfl, _, rfl, _, rfl, bb, ns[i], ai, rfl, ct.same sm, fun l' xs' hl' cxs => ⟨l', rfl, ⟨_, SqL.of upd_same⟩, ?_⟩⟩
            have hDl : D ≠ l' := ne_of_none hD1 hl'
            have hx60 : xs'.length ≤ 60 := by rw [cxs.len]; exact flat1_len hcn
            refine lcin_it (walk_list (xs := xs'.map V.ref)) (fun j H2 => Same H H2 ∧ H2 l' = some (.lst (xs'.map V.ref)) ∧ H2 D = some (.lst ((xs ++ xs'.take j).map V.ref)) ∧ CAts C H2 (flat bb (ns.take i)) xs ∧ CAts C H2 (flat1 bb ns[i]) xs')
              ⟨same_add sm hl', upd_same, by rw [upd_ne hDl, hD1, List.take_zero, List.append_nil], cx.same (same_new hl'), cxs.same (same_new hl')⟩ (fun j H2 _ pv => SqL.of pv.2.1) ?_ ?_
            · rintro j y H4 H5 hj ⟨sm2, hq2, hD2, ca, cb⟩ ⟨rfl, hy2⟩
              refine ⟨rfl, _, rfl, _, hD2, ?_, fun b o qq => ?_, ?_, ?_, ?_, ?_⟩
              · rw [List.length_map, List.length_append, List.length_take]
                have := Nat.min_le_right j xs'.length
                rw [sizeLine_eq]
                omega
              · rw [upd_ne (ne_of_none (s2 b o qq) hD)]
                exact sm2 b o qq
              · rw [upd_ne (Ne.symm hDl)]
                exact hq2
              · rw [upd_same]
                rw [List.getElem?_map] at hy2
                cases e5 : xs'[j]? with
                | none => rw [e5] at hy2; cases hy2
                | some z =>
                  rw [e5] at hy2
                  obtain rfl := (Option.some.inj hy2).symm
                  rw [take_snoc e5, ← List.append_assoc, List.map_append (l₁ := xs ++ xs'.take j)]
                  rfl
              · exact CAts.mono ((SameX.of (Same.refl _)).upd hD2 lst_ci) _ _ ca
              · exact CAts.mono ((SameX.of (Same.refl _)).upd hD2 lst_ci) _ _ cb
            · intro H4 ⟨sm2, hq2, hD2, ca, cb⟩
              rw [List.length_map, List.take_length] at hD2
              refine ⟨sm2, xs ++ xs', hD2, by rw [List.length_append]; omega, ?_⟩
              rw [htk]
              exact ca.app cb
        · intro H1 ⟨sm, xs, hD1, hz, cx⟩
          rw [List.length_map, hxl] at hz cx
          rw [List.take_length] at cx
          have hfl := cx.len
          refine ⟨D, flat bb ns, xs, rfl, hD1, cx, fun n hn => ?_, by omega, fun H' r ys s3 hr3 cr => ⟨v2, v3, r, ys, rfl, sm.trans s3, hr3, cr⟩⟩
          obtain ⟨m, hm, hnm⟩ := mem_flat hn
          exact (flat1_can (cans_mem hcan hm) hnm).1
      · rintro σ' Hc ⟨v2', v3', r, ys, rfl, s3, hr3, cr⟩
        have hrc : ∀ n ∈ rowsOf bb ns, can n := fun n hn => (rows_can hcan n hn).1
        have hrn := rows_ne (b := bb) hcan hne
        have hyl := cr.len
        generalize hrs : rowsOf bb ns = rs at cr hrc hrn hyl
        have hch : chk bb ns = if 60 < size (pack bb rs) then .error true else if 20 < depth (pack bb rs) then .error false else .ok (pack bb rs) := by
          unfold chk joinN
          rw [hrs]
        have kd := k.next s3
        rw [hch] at kd
        refine ⟨_, rfl, r, _, rfl, .inl (SqL.of hr3), rfl, _, rfl, ?_⟩
        by_cases h1 : rs.length = 1
        · have e1 : decide (V.int (((ys.map V.ref).length : Nat) : Int) = V.int 1) = true := decide_eq_true (by rw [List.length_map, hyl, h1]; rfl)
          rw [e1]
          refine iteT ?_
          match rs, h1, cr, hrc, kd with
          | [n], _, cr, hrc, kd =>
            have hn := hrc n List.mem_cons_self
            rw [show pack bb [n] = n from rfl, if_neg (by have := can_size hn; omega), if_neg (by have := can_depth hn; omega)] at kd
            rw [CAts] at cr
            obtain ⟨a1, as1, rfl, c1, c2⟩ := cr
            exact ⟨_, rfl, r, _, _, _, rfl, rfl, SqL.of hr3, atI_nat (j := 0) rfl, kd Hc a1 (Same.refl _) c1⟩
        · have e1 : decide (V.int (((ys.map V.ref).length : Nat) : Int) = V.int 1) = false := decide_eq_false fun z => by
            injection z with z
            rw [List.length_map, hyl] at z
            omega
          rw [e1]
          refine iteF ?_
          have h2 : 2 ≤ rs.length := by
            have : 0 < rs.length := List.length_pos_iff.mpr hrn
            omega
          rw [pack_two h2] at kd
          have hcs := cans_of hrc
          have getr : ∀ {Hd : Hp}, Same Hc Hd → ∀ {i : Nat} {y : V}, (ys.map V.ref)[i]? = some y → ∃ n ai, rs[i]? = some n ∧ y = .ref ai ∧ CAt C Hd n ai := fun {Hd} kp {i y} e => by
            rw [List.getElem?_map] at e
            cases e2 : ys[i]? with
            | none => rw [e2] at e; cases e
            | some ai =>
              rw [e2] at e
              obtain rfl : y = .ref ai := (Option.some.inj e).symm
              have hi : i < rs.length := by
                rw [← hyl]
                exact (List.getElem?_eq_some_iff.mp e2).1
              obtain ⟨aj, e3, c⟩ := cr.get (List.getElem?_eq_getElem hi)
              rw [e2] at e3
              cases e3
              exact ⟨rs[i], ai, List.getElem?_eq_getElem hi, rfl, c.same kp⟩
          have hrl : rs.length ≤ 6000000 := by
            rw [← hrs]
            have h3 := dedup_len (flat bb ns) []
            have h4 : (flat bb ns).length ≤ 60 * ns.length := by
              have : ∀ m : List Nd, cans m → (flat bb m).length ≤ 60 * m.length := by
                intro m
                induction m with
                | nil => intro _; exact Nat.zero_le _
                | cons n m ih =>
                  intro hc
                  rw [cans] at hc
                  have a1 := flat1_len (b := bb) hc.1
                  have a2 := ih hc.2
                  unfold flat at a2 ⊢
                  rw [List.flatMap_cons, List.length_append, List.length_cons]
                  omega
              exact this ns hcan
            unfold rowsOf
            rw [List.length_nil] at h3
            omega
          have hacc : ∀ (i : Nat) (g : Nd → V), ((rs.take i).map g).length < sizeLine := fun i g => by
            rw [List.length_map, List.length_take, sizeLine_eq]
            have := Nat.min_le_right i rs.length
            omega
          refine ⟨_, rfl, r, rfl, ⟨_, SqL.of hr3⟩, fun D hD => lc_it (walk_list (xs := ys.map V.ref)) (fun i H1 => Same Hc H1 ∧ H1 D = some (.lst ((rs.take i).map fun n => V.int (size n : Int)))) ⟨same_new hD, upd_same⟩ (fun i H1 _ pv => SqL.of (pv.1 _ _ hr3)) ?_ ?_⟩
          · rintro i y H1 H2 hi ⟨sm, hD1⟩ ⟨rfl, hy⟩
            obtain ⟨n, ai, hn, rfl, ct⟩ := getr sm hy
            obtain ⟨as', ⟨dx', r', p', ys', q1, _⟩, _⟩ := ct.top
            refine ⟨rfl, _, rfl, ai, C, dx', _, _, rfl, q1, T.cl, T.nSize, rfl, _, hD1, hacc i _, fun b o q => ?_, ?_⟩
            · rw [upd_ne (ne_of_none q hD)]
              exact sm b o q
            · rw [upd_same, take_snoc hn, List.map_append]
              rfl
          intro H1 ⟨sm, hD1⟩
          rw [List.length_map, hyl, List.take_length] at hD1
          refine ⟨D, rs.map fun n => (size n : Int), rfl, SqL.of (by rw [hD1, List.map_map]; rfl), ?_⟩
          rw [sizes_sum]
          refine ⟨C, mc, _, u, rfl, hR, hV, _, _, rfl, rfl, _, rfl, ?_⟩
          have hsz : size (.nd bb rs) = sizes rs := by rw [size]
          have hdp : depth (.nd bb rs) = 1 + depths rs := by rw [depth]
          rw [hsz, hdp] at kd
          by_cases h60 : 60 < sizes rs
          · rw [if_pos h60] at kd
            rw [decide_eq_true (show (60 : Int) < (sizes rs : Int) by omega)]
            refine iteT ?_
            refine ⟨C, mc, _, u, rfl, hR, hV, mk2_end fun d hd => ?_⟩
            exact kd _ d (sm.trans (same_new hd)) upd_same
          rw [if_neg h60] at kd
          rw [decide_eq_false (show ¬ (60 : Int) < (sizes rs : Int) by omega)]
          refine iteF ?_
          have hr4 := sm _ _ hr3
          refine ⟨_, rfl, r, rfl, ⟨_, SqL.of hr4⟩, fun D2 hD2 => lc_it (walk_list (xs := ys.map V.ref)) (fun i H2 => Same H1 H2 ∧ H2 D2 = some (.lst ((rs.take i).map fun n => V.int (depth n : Int)))) ⟨same_new hD2, upd_same⟩ (fun i H2 _ pv => SqL.of (pv.1 _ _ hr4)) ?_ ?_⟩
          · rintro i y H2 H3 hi ⟨sm2, hD3⟩ ⟨rfl, hy⟩
            obtain ⟨n, ai, hn, rfl, ct⟩ := getr (sm.trans sm2) hy
            obtain ⟨as', ⟨dx', r', p', ys', q1, _⟩, _⟩ := ct.top
            refine ⟨rfl, _, rfl, ai, C, dx', _, _, rfl, q1, T.cl, T.nDepth, rfl, _, hD3, hacc i _, fun b o q => ?_, ?_⟩
            · rw [upd_ne (ne_of_none q hD2)]
              exact sm2 b o q
            · rw [upd_same, take_snoc hn, List.map_append]
              rfl
          intro H2 ⟨sm2, hD3⟩
          rw [List.length_map, hyl, List.take_length] at hD3
          refine ⟨D2, rs.map fun n => (depth n : Int), rfl, SqL.of (by rw [hD3, List.map_map]; rfl), by rw [List.length_map]; exact List.length_pos_iff.mpr hrn, fun m hm1 hm2 => ?_⟩
          have em := depths_eq hm1 hm2
          subst em
          refine ⟨_, _, rfl, rfl, _, _, rfl, rfl, _, rfl, ?_⟩
          by_cases h20 : 20 < 1 + depths rs
          · rw [if_pos h20] at kd
            rw [decide_eq_true (show (20 : Int) < 1 + (depths rs : Int) by omega)]
            refine iteT ?_
            refine mk2_end fun d hd => ?_
            exact kd _ d ((sm.trans sm2).trans (same_new hd)) upd_same
          rw [if_neg h20] at kd
          rw [decide_eq_false (show ¬ (20 : Int) < 1 + (depths rs : Int) by omega)]
          refine iteF ?_
          have s4 := sm.trans sm2
          refine ⟨_, rfl, _, rfl, fun a dx na nd ne => ?_⟩
          have na' : upd H2 dx (.own a) a = none := by rw [upd_ne (Ne.symm ne)]; exact na
          have s5 : Same Hc (upd (upd H2 dx (.own a)) a (.ins C dx [])) := (s4.trans (same_new nd)).trans (same_new na')
          refine ⟨a, dx, r, kdS bb, "", rfl, upd_same, .inr ⟨bb, rs, ys, rfl, rfl, s5 _ _ hr3, cr.same s5, hcs, hrn, by omega, fun H3 kp hc => ⟨rfl, ?_⟩⟩⟩
          refine kd H3 a (fun b o e => kp b o (s5 b o e) ?_) hc
          exact ne_of_none ((s4.trans (same_new nd)) b o e) na'
end
end Pe
set_option Elab.async false
set_option maxRecDepth 100000
set_option maxHeartbeats 8000000
/-! pool, common, joined_items -/
namespace Pe
open PySem PySem.Spec PyProof.Rows L2
structure CalR (P : Program) (w : World) (K : PySem.W.Frag) (mg : Str → Option Value) (base : Heap) (k : Nat) (x : Str) (sp : Sp) : Prop where
  ex : ∃ f : Addr, FnR P w K mg base (L2.CX P w) k f sp ∧ mg x = some (.ref f) ∧ PySem.W.keepIn K (.ref f) = true
abbrev sPool : Stmt := top 21
abbrev sCommon : Stmt := top 22
abbrev sJoined : Stmt := top 33
def spStar (b : Bool) (C CT : Addr) : Sp := fun vs H Q E => ∃ (t : Addr) (ns : List Nd) (as : List Addr), vs = [.ref t] ∧ H t = some (.tup (as.map V.ref)) ∧ CAts C H ns as ∧ cans ns ∧ ns ≠ [] ∧ ns.length ≤ 100000 ∧ Told C CT H (chk b ns) Q E
/-- called with the circles themselves -/
def spPool (b : Bool) (C CT : Addr) : Sp := fun vs H Q E => ∃ (ns : List Nd) (as : List Addr), vs = as.map V.ref ∧ CAts C H ns as ∧ cans ns ∧ ns ≠ [] ∧ ns.length ≤ 100000 ∧ Told C CT H (chk b ns) Q E
def spJoined (C CT : Addr) : Sp := fun vs H Q E => ∃ (sg : Nat) (l : Addr) (ns : List Nd) (as : List Addr), vs = [.str (sgS sg), .ref l] ∧ (sg = 0 ∨ sg = 38 ∨ sg = 124) ∧ H l = some (.lst (as.map V.ref)) ∧ CAts C H ns as ∧ cans ns ∧ ns ≠ [] ∧ ns.length ≤ 100000 ∧ Told C CT H (close sg ns) Q E
section
variable {P : Program} {w : World} {K : PySem.W.Frag} {mg : Str → Option Value} {base : Heap} {C CT : Addr} {f : Addr} {fd : FuncData}
theorem scPool : FnScope ["circles"] (([] : List Str) ++ [("circles" : Str)]) (C8.fnScope sPool) := C8.fnScope_by (by decide +kernel)
theorem scCommon : FnScope ["circles"] (([] : List Str) ++ [("circles" : Str)]) (C8.fnScope sCommon) := C8.fnScope_by (by decide +kernel)
theorem star_of {b : Bool} {k : Nat} {x : Str} (F : FnR P w K mg base (L2.CX P w) k f (fun vs H Q E => ∃ ws rest, vs = ws ++ rest ∧ ws.length = ([] : List Str).length ∧ rest.length ≤ sizeLine ∧ ∀ p, H p = Option.none → spStar b C CT (ws ++ [V.ref p]) (upd H p (.tup rest)) Q E)) (hm : mg x = some (.ref f)) (hk : PySem.W.keepIn K (.ref f) = true) :
    CalR P w K mg base k x (spPool b C CT) := by
  refine ⟨f, F.imp fun vs H Q E h => ?_, hm, hk⟩
  obtain ⟨ns, as, rfl, cs, hcan, hne, hlen, k⟩ := h
  refine ⟨[], _, rfl, rfl, ?_, fun p hp => ⟨p, ns, as, rfl, upd_same, cs.same (same_new hp), hcan, hne, hlen, k.next (same_new hp)⟩⟩
  rw [List.length_map, cs.len, sizeLine_eq]
  omega
theorem ok_pool (F : C8.Def K mg "pool" sPool f fd) (df : fd.defaults = .none) (cB : CalX P w K mg base 7 "built_circle" (spBuilt C CT)) : CalR P w K mg base 8 "pool" (spPool true C CT) := by
  obtain ⟨⟨oc, od, dV, kV, doc, pm, an, cdv, ct, osl, rfl, lk, hcd⟩, hm, hk⟩ := F
  obtain rfl : dV = .none := df
  refine star_of (StX.fn_star lk hcd scPool StX.cxUp (fun us rest hu => ?_) (fun A outer s H vs Q E hr h => ?_)) hm hk
  · match us, hu with
    | [], _ =>
      cases rest with
      | nil => rfl
      | cons r rs => rfl
  · obtain ⟨t, ns, as, rfl, ht, cs, hcan, hne, hlen, k⟩ := h
    refine ⟨_, pss_one (ps_ret (pe_cx cB hr (by decide) (by rfl) passX (pa_cons pe_str (pa_cons (pv 0) pa_nil)))), ?_⟩
    exact ⟨_, rfl, true, t, ns, as, rfl, ht, cs, hcan, hne, hlen, k⟩
theorem ok_common (F : C8.Def K mg "common" sCommon f fd) (df : fd.defaults = .none) (cB : CalX P w K mg base 7 "built_circle" (spBuilt C CT)) : CalR P w K mg base 8 "common" (spPool false C CT) := by
  obtain ⟨⟨oc, od, dV, kV, doc, pm, an, cdv, ct, osl, rfl, lk, hcd⟩, hm, hk⟩ := F
  obtain rfl : dV = .none := df
  refine star_of (StX.fn_star lk hcd scCommon StX.cxUp (fun us rest hu => ?_) (fun A outer s H vs Q E hr h => ?_)) hm hk
  · match us, hu with
    | [], _ =>
      cases rest with
      | nil => rfl
      | cons r rs => rfl
  · obtain ⟨t, ns, as, rfl, ht, cs, hcan, hne, hlen, k⟩ := h
    refine ⟨_, pss_one (ps_ret (pe_cx cB hr (by decide) (by rfl) passX (pa_cons pe_str (pa_cons (pv 0) pa_nil)))), ?_⟩
    exact ⟨_, rfl, false, t, ns, as, rfl, ht, cs, hcan, hne, hlen, k⟩
theorem scJo : FnScope ["sign", "items"] ["sign", "items"] (C8.fnScope sJoined) := C8.fnScope_by (by decide +kernel)
theorem ok_joined (F : C8.Def K mg "joined_items" sJoined f fd) (b : Binds K fd ["sign", "items"] []) (cP : CalR P w K mg base 8 "pool" (spPool true C CT)) (cC : CalR P w K mg base 8 "common" (spPool false C CT)) : CalX P w K mg base 9 "joined_items" (spJoined C CT) := by
  refine calX F b scJo (fun vs H Q E h => ?_) (fun cdv A outer s H vs Q E hr h => ?_)
  · obtain ⟨sg, l, ns, as, rfl, _⟩ := h
    rfl
  · obtain ⟨sg, l, ns, as, rfl, hsg, hl, cs, hcan, hne, hlen, k⟩ := h
    obtain ⟨fp, Fp, mp, kp⟩ := cP.ex
    obtain ⟨fc, Fc, mc, kc⟩ := cC.ex
    refine ⟨_, pss_cons (ps_if (pt_cmpR op_eq (pv 0) pe_str (nomark _)) (pss_one (ps_ret (StX.pe_callS1 Fp hr kp (by rfl) mp passX (pv 1)))) pss_nil)
      (pss_cons (ps_if (pt_cmpR op_eq (pv 0) pe_str (nomark _)) (pss_one (ps_ret (StX.pe_callS1 Fc hr kc (by rfl) mc passX (pv 1)))) pss_nil)
      (pss_one (ps_ret (pe_ix ix_list (pv 1) pe_int (fun _ _ => rfl))))), ?_⟩
    refine ⟨_, rfl, rfl, _, rfl, ?_⟩
    rcases hsg with rfl | rfl | rfl
    · have e1 : decide (V.str (sgS 0) = V.str ("&" : Str)) = false := by decide +kernel
      have e2 : decide (V.str (sgS 0) = V.str ("|" : Str)) = false := by decide +kernel
      rw [e1]
      refine iteF ?_
      refine ⟨_, rfl, rfl, _, rfl, ?_⟩
      rw [e2]
      refine iteF ?_
      match ns, hne, cs, k with
      | n :: r, _, cs, k =>
        rw [CAts] at cs
        obtain ⟨a, as', rfl, c1, c2⟩ := cs
        exact ⟨_, rfl, l, _, _, _, rfl, rfl, SqL.of hl, atI_nat (j := 0) rfl, k H a (Same.refl _) c1⟩
    · have e1 : decide (V.str (sgS 38) = V.str ("&" : Str)) = true := by decide +kernel
      rw [e1]
      refine iteT ?_
      exact ⟨_, rfl, l, _, rfl, .inr (SqL.of hl), ns, as, rfl, cs, hcan, hne, hlen, k⟩
    · have e1 : decide (V.str (sgS 124) = V.str ("&" : Str)) = false := by decide +kernel
      have e2 : decide (V.str (sgS 124) = V.str ("|" : Str)) = true := by decide +kernel
      rw [e1]
      refine iteF ?_
      refine ⟨_, rfl, rfl, _, rfl, ?_⟩
      rw [e2]
      refine iteT ?_
      exact ⟨_, rfl, l, _, rfl, .inr (SqL.of hl), ns, as, rfl, cs, hcan, hne, hlen, k⟩
end
end Pe
set_option Elab.async false
set_option maxRecDepth 100000
set_option maxHeartbeats 8000000
/-! circle_of -/
namespace Pe
open PySem PySem.Spec PyProof.Rows L2
abbrev sCof : Stmt := top 32
def spCof (C CT : Addr) : Sp := fun vs H Q E => ∃ (t : Tx), vs = [.str (SX.S t.text)] ∧ t.ok ∧ t.text.length ≤ 20000 ∧ Told C CT H t.ev Q E
/-! ### the open levels in the heap -/
def LvAt (C : Addr) (H : Hp) : Stk → List Addr → Prop
  | [], ls => ls = []
  | p :: S, ls => ∃ a ls' xs, ls = a :: ls' ∧ H a = some (.lst (xs.map V.ref)) ∧ CAts C H p.2 xs ∧ LvAt C H S ls'
theorem LvAt.mono {C : Addr} {H H' : Hp} (s : SameX C H H') : ∀ {S : Stk} {ls : List Addr}, (∀ b ∈ ls, H' b = H b) → LvAt C H S ls → LvAt C H' S ls
  | [], ls, _, h => h
  | p :: S, ls, k, h => by
    obtain ⟨a, ls', xs, rfl, h1, h2, h3⟩ := h
    exact ⟨a, ls', xs, rfl, by rw [k a List.mem_cons_self]; exact h1, CAts.mono s _ _ h2, h3.mono s fun b hb => k b (List.mem_cons_of_mem _ hb)⟩
theorem LvAt.some {C : Addr} {H : Hp} : ∀ {S : Stk} {ls : List Addr}, LvAt C H S ls → ∀ b ∈ ls, ∃ xs, H b = Option.some (.lst xs)
  | [], ls, h, b, hb => by
    have h : ls = [] := h
    rw [h] at hb
    cases hb
  | p :: S, ls, h, b, hb => by
    obtain ⟨a, ls', xs, rfl, h1, h2, h3⟩ := h
    rcases List.mem_cons.mp hb with e | e
    · rw [e]
      exact ⟨_, h1⟩
    · exact h3.some b e
structure StK (C : Addr) (Hb H : Hp) (S : Stk) (sA lA : Addr) (ls : List Addr) : Prop where
  sm : Same Hb H
  nS : Hb sA = none
  nL : Hb lA = none
  nl : ∀ a ∈ ls, Hb a = none
  sl : sA ≠ lA
  sx : sA ∉ ls
  lx : lA ∉ ls
  nd : ls.Nodup
  sg : H sA = some (.lst (S.reverse.map fun p => sgV p.1))
  lv : H lA = some (.lst (ls.reverse.map V.ref))
  at_ : LvAt C H S ls
  ok : ∀ p ∈ S, sgOk p.1 ∧ cans p.2
/-- the heap grows -/
theorem StK.same {C : Addr} {Hb H H' : Hp} {S : Stk} {sA lA : Addr} {ls : List Addr} (k : StK C Hb H S sA lA ls) (s : Same H H') : StK C Hb H' S sA lA ls where
  sm := k.sm.trans s
  nS := k.nS
  nL := k.nL
  nl := k.nl
  sl := k.sl
  sx := k.sx
  lx := k.lx
  nd := k.nd
  sg := s _ _ k.sg
  lv := s _ _ k.lv
  at_ := k.at_.mono (SameX.of s) fun b hb => by
    obtain ⟨xs, e⟩ := k.at_.some b hb
    rw [e]
    exact s _ _ e
  ok := k.ok
/-- the top level's list gets one more -/
theorem StK.put {C : Addr} {Hb H : Hp} {sg : Nat} {its : List Nd} {S : Stk} {sA lA a x : Addr} {ls' : List Addr} {n : Nd} (k : StK C Hb H ((sg, its) :: S) sA lA (a :: ls')) {xs : List Addr} (ha : H a = some (.lst (xs.map V.ref))) (cx : CAts C H its xs) (cn : CAt C H n x) (hn : can n) :
    StK C Hb (upd H a (.lst (xs.map V.ref ++ [.ref x]))) ((sg, its ++ [n]) :: S) sA lA (a :: ls') := by
  have hsa : sA ≠ a := fun e => k.sx (by rw [e]; exact List.mem_cons_self)
  have hla : lA ≠ a := fun e => k.lx (by rw [e]; exact List.mem_cons_self)
  have hnd := List.nodup_cons.mp k.nd
  have sx : SameX C H (upd H a (.lst (xs.map V.ref ++ [.ref x]))) := (SameX.of (Same.refl _)).upd ha lst_ci
  obtain ⟨a', ls'', xs', e, h1, h2, h3⟩ := k.at_
  injection e with e1 e2
  subst e1 e2
  refine ⟨fun b o e => ?_, k.nS, k.nL, k.nl, k.sl, k.sx, k.lx, k.nd, ?_, ?_, ?_, ?_⟩
  · rw [upd_ne]
    · exact k.sm b o e
    · intro z
      rw [z, k.nl a List.mem_cons_self] at e
      cases e
  · rw [upd_ne hsa, k.sg]
    simp
  · rw [upd_ne hla]
    exact k.lv
  · refine ⟨a, ls', xs ++ [x], rfl, by rw [upd_same, List.map_append]; rfl, (CAts.mono sx _ _ cx).app (CAts.cons (CAt.mono sx _ _ cn) CAts.nil), h3.mono sx fun b hb => ?_⟩
    rw [upd_ne]
    intro z
    rw [z] at hb
    exact hnd.1 hb
  · intro p hp
    rcases List.mem_cons.mp hp with e | e
    · rw [e]
      have q := k.ok _ List.mem_cons_self
      refine ⟨q.1, cans_of fun m hm => ?_⟩
      rcases List.mem_append.mp hm with z | z
      · exact cans_mem q.2 z
      · rw [List.mem_singleton.mp z]
        exact hn
    · exact k.ok p (List.mem_cons_of_mem _ e)
/-- a level is opened -/
theorem StK.push {C : Addr} {Hb H : Hp} {S : Stk} {sA lA nl : Addr} {ls : List Addr} (k : StK C Hb H S sA lA ls) (hn : upd H sA (.lst (S.reverse.map (fun p => sgV p.1) ++ [.str ("" : Str)])) nl = none) :
    StK C Hb (upd (upd (upd H sA (.lst (S.reverse.map (fun p => sgV p.1) ++ [.str ("" : Str)]))) nl (.lst [])) lA (.lst (ls.reverse.map V.ref ++ [.ref nl]))) ((0, []) :: S) sA lA (nl :: ls) := by
  have hns : nl ≠ sA := fun e => by rw [e, upd_same] at hn; cases hn
  have hn0 : H nl = none := by rw [upd_ne hns] at hn; exact hn
  have hnL : nl ≠ lA := fun e => by rw [e, k.lv] at hn0; cases hn0
  have hnb : Hb nl = none := by
    cases e : Hb nl with
    | none => rfl
    | some o => rw [k.sm _ _ e] at hn0; cases hn0
  have hnl : nl ∉ ls := fun z => by
    obtain ⟨xs, e⟩ := k.at_.some nl z
    rw [hn0] at e
    cases e
  have sx : SameX C H (upd (upd (upd H sA (.lst (S.reverse.map (fun p => sgV p.1) ++ [.str ("" : Str)]))) nl (.lst [])) lA (.lst (ls.reverse.map V.ref ++ [.ref nl]))) := fun b o e q => by
    have h1 : b ≠ sA := fun z => by
      rw [z, k.sg] at e
      rw [← Option.some.inj e] at q
      exact lst_ci q
    have h2 : b ≠ lA := fun z => by
      rw [z, k.lv] at e
      rw [← Option.some.inj e] at q
      exact lst_ci q
    rw [upd_ne h2, upd_ne (ne_of_none e hn0), upd_ne h1]
    exact e
  refine ⟨fun b o e => ?_, k.nS, k.nL, fun a ha => ?_, k.sl, fun z => ?_, fun z => ?_, List.nodup_cons.mpr ⟨hnl, k.nd⟩, ?_, ?_, ⟨nl, ls, [], rfl, ?_, CAts.nil, k.at_.mono sx fun b hb => ?_⟩, fun p hp => ?_⟩
  · rw [upd_ne (ne_of_none e k.nL), upd_ne (ne_of_none e hnb), upd_ne (ne_of_none e k.nS)]
    exact k.sm b o e
  · rcases List.mem_cons.mp ha with e | e
    · rw [e]; exact hnb
    · exact k.nl a e
  · rcases List.mem_cons.mp z with e | e
    · exact hns e.symm
    · exact k.sx e
  · rcases List.mem_cons.mp z with e | e
    · exact hnL e.symm
    · exact k.lx e
  · rw [upd_ne k.sl, upd_ne hns.symm, upd_same]
    simp
    rfl
  · rw [upd_same]
    simp
  · rw [upd_ne hnL, upd_same]
    rfl
  · rw [upd_ne (fun z => k.lx (by rw [← z]; exact hb)), upd_ne (fun z => hnl (by rw [← z]; exact hb)), upd_ne (fun z => k.sx (by rw [← z]; exact hb))]
  · rcases List.mem_cons.mp hp with e | e
    · rw [e]
      exact ⟨Or.inl rfl, by rw [cans]; trivial⟩
    · exact k.ok p e
/-- the top level is taken -/
theorem StK.pop {C : Addr} {Hb H : Hp} {p : Nat × List Nd} {S : Stk} {sA lA a : Addr} {ls : List Addr} (k : StK C Hb H (p :: S) sA lA (a :: ls)) :
    StK C Hb (upd (upd H sA (.lst (S.reverse.map fun p => sgV p.1))) lA (.lst (ls.reverse.map V.ref))) S sA lA ls ∧ ∃ xs, upd (upd H sA (.lst (S.reverse.map fun p => sgV p.1))) lA (.lst (ls.reverse.map V.ref)) a = some (.lst (xs.map V.ref)) ∧ CAts C (upd (upd H sA (.lst (S.reverse.map fun p => sgV p.1))) lA (.lst (ls.reverse.map V.ref))) p.2 xs := by
  have sx : SameX C H (upd (upd H sA (.lst (S.reverse.map fun p => sgV p.1))) lA (.lst (ls.reverse.map V.ref))) := ((SameX.of (Same.refl _)).upd k.sg lst_ci).upd (by rw [upd_ne k.sl.symm]; exact k.lv) lst_ci
  have hnd := List.nodup_cons.mp k.nd
  obtain ⟨a', ls', xs, e, h1, h2, h3⟩ := k.at_
  injection e with e1 e2
  subst e1 e2
  refine ⟨⟨fun b o e => ?_, k.nS, k.nL, fun b hb => k.nl b (List.mem_cons_of_mem _ hb), k.sl, fun z => k.sx (List.mem_cons_of_mem _ z), fun z => k.lx (List.mem_cons_of_mem _ z), hnd.2, ?_, upd_same, h3.mono sx fun b hb => ?_, fun q hq => k.ok q (List.mem_cons_of_mem _ hq)⟩, xs, ?_, CAts.mono sx _ _ h2⟩
  · rw [upd_ne (ne_of_none e k.nL), upd_ne (ne_of_none e k.nS)]
    exact k.sm b o e
  · rw [upd_ne k.sl, upd_same]
  · rw [upd_ne (fun z => k.lx (by rw [← z]; exact List.mem_cons_of_mem _ hb)), upd_ne (fun z => k.sx (by rw [← z]; exact List.mem_cons_of_mem _ hb))]
  · rw [upd_ne (fun z => k.lx (by rw [← z]; exact List.mem_cons_self)), upd_ne (fun z => k.sx (by rw [← z]; exact List.mem_cons_self))]
    exact h1
/-- the top level's sign is set -/
theorem StK.sign {C : Addr} {Hb H : Hp} {sg c : Nat} {its : List Nd} {S : Stk} {sA lA : Addr} {ls : List Addr} (k : StK C Hb H ((sg, its) :: S) sA lA ls) (hc : c = 38 ∨ c = 124) :
    StK C Hb (upd H sA (.lst (((c, its) :: S).reverse.map fun p => sgV p.1))) ((c, its) :: S) sA lA ls := by
  have sx : SameX C H (upd H sA (.lst (((c, its) :: S).reverse.map fun p => sgV p.1))) := (SameX.of (Same.refl _)).upd k.sg lst_ci
  have hat : LvAt C H ((c, its) :: S) ls := k.at_
  refine ⟨fun b o e => ?_, k.nS, k.nL, k.nl, k.sl, k.sx, k.lx, k.nd, upd_same, by rw [upd_ne k.sl.symm]; exact k.lv, hat.mono sx fun b hb => ?_, fun q hq => ?_⟩
  · rw [upd_ne (ne_of_none e k.nS)]
    exact k.sm b o e
  · rw [upd_ne (fun z => k.sx (by rw [← z]; exact hb))]
  · rcases List.mem_cons.mp hq with e | e
    · rw [e]
      exact ⟨Or.inr hc, (k.ok _ List.mem_cons_self).2⟩
    · exact k.ok q (List.mem_cons_of_mem _ e)
theorem strS_eq (a b : L) : decide (V.str (SX.S a) = V.str (SX.S b)) = decide (a = b) := by
  refine decide_eq_decide.mpr ⟨fun h => ?_, fun h => by rw [h]⟩
  injection h with h
  exact SX.S_inj h
theorem joinB_len : ∀ ws : List L, ws.length ≤ (joinB ws).length + 1
  | [] => by simp
  | [w] => by simp
  | w :: v :: r => by
    have ih := joinB_len (v :: r)
    rw [joinB_cons w (by simp)]
    simp only [List.length_append, List.length_cons] at ih ⊢
    omega
theorem toks_len {t : Tx} (h : t.ok) : t.toks.length ≤ 4 * t.text.length + 1 := by
  have h1 := joinB_len t.toks
  rw [← rr_text h] at h1
  have h2 := r1_len 41 [32, 41] rfl (r1 40 [40, 32] t.text)
  have h3 := r1_len 40 [40, 32] rfl t.text
  unfold rr at h1
  omega
section
variable {P : Program} {w : World} {K : PySem.W.Frag} {mg : Str → Option Value} {base : Heap} {C CT : Addr} {f : Addr} {fd : FuncData}
abbrev nCo : List Str := ["text", "signs", "levels", "word", "circle"]
theorem scCo : FnScope nCo ["text"] (C8.fnScope sCof) := C8.fnScope_by (by decide +kernel)
theorem ok_cof (F : C8.Def K mg "circle_of" sCof f fd) (b : Binds K fd ["text"] []) (cJ : CalX P w K mg base 9 "joined_items" (spJoined C CT)) (cE : C8.Cal P w K mg base 7 "eye" (spEye C) []) : CalX P w K mg base 10 "circle_of" (spCof C CT) := by
  refine calX F b scCo (fun vs H Q E h => ?_) (fun cdv A outer s H vs Q E hr h => ?_)
  · obtain ⟨t, rfl, _⟩ := h
    rfl
  · obtain ⟨t, rfl, ht, hlen, k⟩ := h
    refine ⟨_, pss_lstr (i := 1) scCo.nd rfl (Or.inl rfl) (psst_cons (PST.of (ps_set (i := 2) scCo.nd rfl (Or.inl rfl) (pe_lst (pa_cons (pe_lst pa_nil) pa_nil))))
      (psst_cons (pst_for (passes_of rfl) rfl (pit_list (pet_m1 PySem.F.slot_str_split PySem.F.type_str_split mt_split (CwR.pet_replT (CwR.pet_replC (pv 0))) pe_str)) (pg_name (i := 3) scCo.nd rfl (Or.inl rfl))
        (pss_one (ps_if (pt_cmpR op_eq (pv 3) pe_str (nomark _))
          (pss_cons (ps_expr (pe_bm PySem.F.plainAttrs_list PySem.F.slot_list_append PySem.F.type_list_append mt_append (pv 1) (pa_cons pe_str pa_nil))) (pss_one (ps_expr (pe_bm PySem.F.plainAttrs_list PySem.F.slot_list_append PySem.F.type_list_append mt_append (pv 2) (pa_cons (pe_lst pa_nil) pa_nil)))))
          (pss_one (ps_if (pt_cmpR op_eq (pv 3) pe_str (nomark _))
            (C8.pss_cut (ps_set (i := 4) scCo.nd rfl (Or.inl rfl) (pe_cx cJ hr (by decide) (by rfl) passX (pa_cons (pe_bm0 PySem.F.plainAttrs_list PySem.F.slot_list_pop PySem.F.type_list_pop mt_pop (pv 1)) (pa_cons (pe_bm0 PySem.F.plainAttrs_list PySem.F.slot_list_pop PySem.F.type_list_pop mt_pop (pv 2)) pa_nil))))
              (pss_one (ps_expr (pe_bm PySem.F.plainAttrs_list PySem.F.slot_list_append PySem.F.type_list_append mt_append (pe_ix ix_list (pv 2) (pe_un un_neg pe_int) (fun _ _ => rfl)) (pa_cons (pv 4) pa_nil)))))
            (pss_one (ps_if (pt_cmpR op_in_seq (pv 3) (pe_tup (pa_cons pe_str (pa_cons pe_str pa_nil))) rfl)
              (pss_one (ps_asg (pv 3) (pg_sub (pv 1) (pe_un un_neg pe_int) set_list)))
              (pss_one (ps_expr (pe_bm PySem.F.plainAttrs_list PySem.F.slot_list_append PySem.F.type_list_append mt_append (pe_ix ix_list (pv 2) (pe_un un_neg pe_int) (fun _ _ => rfl)) (pa_cons (C8.pe_c cE hr (by decide) (by rfl) (pa_cons (pv 3) pa_nil)) pa_nil)))))))))))
      (PSsT.of (pss_one (ps_ret (pe_cx cJ hr (by decide) (by rfl) passX (pa_cons (pe_ix ix_list (pv 1) pe_int (fun _ _ => rfl)) (pa_cons (pe_ix ix_list (pv 2) pe_int (fun _ _ => rfl)) pa_nil)))))))), ?_⟩
    intro sA hsA
    have hlr : (rr t.text).length ≤ 80000 := by
      have h2 := r1_len 41 [32, 41] rfl (r1 40 [40, 32] t.text)
      have h3 := r1_len 40 [40, 32] rfl t.text
      unfold rr
      omega
    have htk := toks_len ht
    refine ⟨by decide, fun q hq => ⟨(by show 1 ≤ sizeLine; decide), fun lA hlA => ?_⟩⟩
    -- the words
    have e1 : ("(" : Str) = SX.S [40] := by decide +kernel
    have e2 : ("( " : Str) = SX.S [40, 32] := by decide +kernel
    have e3 : (")" : Str) = SX.S [41] := by decide +kernel
    have e4 : (" )" : Str) = SX.S [32, 41] := by decide +kernel
    have e5 : (" " : Str) = SX.S [32] := by decide +kernel
    have e6 : Txt.replace (Txt.replace (SX.S t.text) ("(" : Str) ("( " : Str)) (")" : Str) (" )" : Str) = SX.S (rr t.text) := by
      rw [e1, e2, e3, e4, replace_S, replace_S]
      rfl
    refine ⟨_, rfl, _, rfl, ?_, _, rfl, ?_, ⟨_, rfl⟩, _, _, rfl, rfl, by decide, ?_, ?_⟩
    · rw [SX.S_len, e2]
      have : (SX.S [40, 32]).length = 2 := rfl
      rw [this]
      omega
    · rw [e1, e2, replace_S, SX.S_len, e4]
      have h3 := r1_len 40 [40, 32] rfl t.text
      have : (SX.S [32, 41]).length = 2 := rfl
      rw [this]
      omega
    · rw [e6, SX.S_len, sizeLine_eq]
      omega
    rw [e6, e5, cut_text ht]
    intro wl hwl
    refine ⟨wl, rfl, ⟨_, SqL.of upd_same⟩, ?_⟩
    have hqs : q ≠ sA := fun e => by rw [e, upd_same] at hq; cases hq
    have hls : lA ≠ sA := fun e => by rw [e, upd_ne hqs.symm, upd_same] at hlA; cases hlA
    have hlq : lA ≠ q := fun e => by rw [e, upd_same] at hlA; cases hlA
    have hws : wl ≠ sA := fun e => by rw [e, upd_ne hls.symm, upd_ne hqs.symm, upd_same] at hwl; cases hwl
    have hwq : wl ≠ q := fun e => by rw [e, upd_ne hlq.symm, upd_same] at hwl; cases hwl
    have hwA : wl ≠ lA := fun e => by rw [e, upd_same] at hwl; cases hwl
    have hq0 : H q = none := by rw [upd_ne hqs] at hq; exact hq
    have hl0 : H lA = none := by rw [upd_ne hlq, upd_ne hls] at hlA; exact hlA
    have hw0 : H wl = none := by rw [upd_ne hwA, upd_ne hwq, upd_ne hws] at hwl; exact hwl
    generalize hWs : ((t.toks.map SX.S).map V.str) = W
    have hWl : W.length = t.toks.length := by rw [← hWs, List.length_map, List.length_map]
    refine for_it (walk_list (xs := W)) (fun i σ H2 => ∃ (S : Stk) (ls : List Addr) (v3 v4 : Option V), σ = [some (.str (SX.S t.text)), some (.ref sA), some (.ref lA), v3, v4] ∧ StK C (upd H wl (.lst W)) H2 S sA lA ls ∧
      safe (t.toks.drop i) S ∧ trun (t.toks.drop i) S = t.ev ∧ S.length ≤ i + 1 ∧ ∀ p ∈ S, p.2.length ≤ i) ?_ (fun i σ H2 _ p => ?_) ?_ ?_
    · refine ⟨[(0, [])], [q], none, none, rfl, ?_, safe_whole ht, trun_whole ht, Nat.le_refl _, fun p hp => ?_⟩
      · refine ⟨fun b o e => ?_, by rw [upd_ne hws.symm]; exact hsA, by rw [upd_ne hwA.symm]; exact hl0, fun a ha => ?_, hls.symm, fun z => hqs (List.mem_singleton.mp z).symm, fun z => hlq (List.mem_singleton.mp z), by simp, ?_, ?_, ⟨q, [], [], rfl, ?_, CAts.nil, rfl⟩, fun p hp => ?_⟩
        · by_cases hb : b = wl
          · rw [hb, upd_same] at e ⊢
            exact e
          · rw [upd_ne hb] at e ⊢
            rw [upd_ne (ne_of_none e hl0), upd_ne (ne_of_none e hq0), upd_ne (ne_of_none e hsA)]
            exact e
        · rw [List.mem_singleton.mp ha, upd_ne hwq.symm]
          exact hq0
        · rw [upd_ne hws.symm, upd_ne hls.symm, upd_ne hqs.symm, upd_same]
          rfl
        · rw [upd_ne hwA.symm, upd_same]
          rfl
        · rw [upd_ne hwq.symm, upd_ne hlq.symm, upd_same]
          rfl
        · rw [List.mem_singleton.mp hp]
          exact ⟨Or.inl rfl, by rw [cans]; trivial⟩
      · rw [List.mem_singleton.mp hp]
        exact Nat.le_refl _
    · obtain ⟨S, ls, v3, v4, _, kk, _⟩ := p
      exact SqL.of (kk.sm _ _ upd_same)
    · rintro i y σ H2 H3 hi ⟨S, ls, v3, v4, rfl, kk, hsf, htr, hSl, hSi⟩ ⟨rfl, hy⟩
      have hin : i < t.toks.length := by rw [← hWl]; exact hi
      obtain rfl : y = .str (SX.S t.toks[i]) := by
        rw [← hWs, List.getElem?_map, List.getElem?_map, List.getElem?_eq_getElem hin] at hy
        exact (Option.some.inj hy).symm
      have hdrop : t.toks.drop i = t.toks[i] :: t.toks.drop (i + 1) := List.drop_eq_getElem_cons hin
      rw [hdrop] at hsf htr
      generalize t.toks[i] = wd at hsf htr
      rw [safe] at hsf
      obtain ⟨hfit, hsf⟩ := hsf
      refine ⟨_, rfl, rfl, _, rfl, ?_⟩
      rw [e1, strS_eq]
      have hi8 : i < 80002 := by omega
      have hSz : ∀ g : Nat × List Nd → V, (S.reverse.map g).length < sizeLine := fun g => by
        rw [List.length_map, List.length_reverse, sizeLine_eq]
        omega
      have hLl : ls.length = S.length := by
        have : ∀ (S : Stk) (ls : List Addr), LvAt C H3 S ls → ls.length = S.length := by
          intro S
          induction S with
          | nil => intro ls h; rw [show ls = [] from h]; rfl
          | cons p S ih =>
            intro ls h
            obtain ⟨a, ls', xs, rfl, _, _, h3⟩ := h
            rw [List.length_cons, List.length_cons, ih ls' h3]
        exact this S ls kk.at_
      by_cases c1 : wd = [40]
      · subst c1
        rw [decide_eq_true rfl]
        refine iteT ?_
        rw [tstep_open] at hsf
        rw [trun_open] at htr
        refine ⟨_, rfl, .inl ⟨rfl, _, SqL.of kk.sg⟩, sA, _, _, rfl, rfl, kk.sg, hSz _, ?_⟩
        refine ⟨_, rfl, .inl ⟨rfl, _, SqL.of (by rw [upd_ne kk.sl.symm]; exact kk.lv)⟩, by decide, fun nl hnl => ?_⟩
        have hnL : lA ≠ nl := fun e => by rw [← e, upd_ne kk.sl.symm, kk.lv] at hnl; cases hnl
        refine ⟨lA, _, _, rfl, rfl, by rw [upd_ne hnL, upd_ne kk.sl.symm]; exact kk.lv, ?_, ?_⟩
        · rw [List.length_map, List.length_reverse, hLl, sizeLine_eq]
          omega
        · refine ⟨(0, []) :: S, nl :: ls, _, _, rfl, kk.push hnl, hsf, htr, by rw [List.length_cons]; omega, fun p hp => ?_⟩
          rcases List.mem_cons.mp hp with e | e
          · rw [e]
            exact Nat.zero_le _
          · exact Nat.le_succ_of_le (hSi p e)
      rw [decide_eq_false c1]
      refine iteF ?_
      refine ⟨_, rfl, rfl, _, rfl, ?_⟩
      rw [e3, strS_eq]
      by_cases c2 : wd = [41]
      · subst c2
        rw [decide_eq_true rfl]
        refine iteT ?_
        obtain ⟨sg, its, sg2, its2, S2, rfl, hit⟩ : ∃ sg its sg2 its2 S2, S = (sg, its) :: (sg2, its2) :: S2 ∧ its ≠ [] := by
          rcases hfit with ⟨e, _⟩ | ⟨_, h⟩ | ⟨e, _⟩ | ⟨e, _⟩
          · cases e
          · exact h
          · rcases e with e | e <;> cases e
          · exact absurd rfl (name_ne e.1 e.2.2 (d := 41) (by omega))
        rw [tstep_close] at hsf
        rw [trun_close] at htr
        obtain ⟨a1, ls1, xs1, rfl, _, _, hl2⟩ := kk.at_
        obtain ⟨kp, xs, hp1, hp2⟩ := kk.pop
        have hok := kk.ok _ List.mem_cons_self
        have hI := hSi _ List.mem_cons_self
        have exs : ((sg, its) :: (sg2, its2) :: S2).reverse.map (fun p => sgV p.1) = ((sg2, its2) :: S2).reverse.map (fun p => sgV p.1) ++ [sgV sg] := by simp
        have exl : (a1 :: ls1).reverse.map V.ref = ls1.reverse.map V.ref ++ [.ref a1] := by simp
        have hg1 := kk.sg
        have hg2 := kk.lv
        rw [exs] at hg1
        rw [exl] at hg2
        have hlast : ∀ (l : List V) (v : V), (l ++ [v])[(l ++ [v]).length - 1]? = some v := fun l v => by
          rw [List.length_append, List.length_singleton, Nat.add_sub_cancel, List.getElem?_append_right (Nat.le_refl _), Nat.sub_self]
          rfl
        refine ⟨fun σ' H' => ∃ n x, close sg its = .ok n ∧ σ' = [some (.str (SX.S t.text)), some (.ref sA), some (.ref lA), some (.str (SX.S [41])), some (.ref x)] ∧ StK C (upd H wl (.lst W)) H' ((sg2, its2) :: S2) sA lA ls1 ∧ CAt C H' n x, ?_, ?_⟩
        · refine ⟨_, rfl, .inl ⟨rfl, _, SqL.of hg1⟩, sA, _, sgV sg, rfl, rfl, hg1, hlast _ _, ?_⟩
          refine ⟨_, rfl, .inl ⟨rfl, _, SqL.of (by rw [upd_ne kk.sl.symm]; exact hg2)⟩, lA, _, .ref a1, rfl, rfl, by rw [upd_ne kk.sl.symm]; exact hg2, hlast _ _, ?_⟩
          rw [List.dropLast_concat, List.dropLast_concat]
          refine ⟨sg, a1, its, xs, rfl, hok.1, hp1, hp2, hok.2, hit, ?_, ?_⟩
          · have : its.length ≤ i := hI
            omega
          · have sH := (same_new hw0).trans kp.sm
            cases ec : close sg its with
            | error e =>
              rw [ec] at htr
              rw [← htr] at k
              exact k.next sH
            | ok n =>
              intro H6 x s6 cx
              exact ⟨n, x, rfl, rfl, kp.same s6, cx⟩
        · rintro σ' H6 ⟨n, x, ec, rfl, k6, cx⟩
          rw [ec] at hsf htr
          have hn : can n := close_can hok.2 hit ec
          obtain ⟨a2, ls2, xs2, rfl, g1, g2, g3⟩ := k6.at_
          have hg3 := k6.lv
          have exl2 : (a2 :: ls2).reverse.map V.ref = ls2.reverse.map V.ref ++ [.ref a2] := by simp
          rw [exl2] at hg3
          have hx2 := g2.len
          have hI2 : its2.length ≤ i := hSi (sg2, its2) (List.mem_cons_of_mem _ List.mem_cons_self)
          have hx2' : xs2.length = its2.length := hx2
          refine ⟨_, rfl, _, rfl, lA, _, _, _, rfl, rfl, SqL.of hg3, atI_last _ _, .inl ⟨rfl, _, SqL.of g1⟩, _, rfl, a2, _, _, rfl, rfl, g1, ?_, ?_⟩
          · rw [List.length_map, hx2', sizeLine_eq]
            omega
          · refine ⟨(sg2, its2 ++ [n]) :: S2, a2 :: ls2, _, _, rfl, k6.put g1 g2 cx hn, hsf, htr, ?_, fun p hp => ?_⟩
            · simp only [List.length_cons] at hSl ⊢
              omega
            · rcases List.mem_cons.mp hp with e | e
              · rw [e]
                show (its2 ++ [n]).length ≤ i + 1
                rw [List.length_append]
                exact Nat.add_le_add_right hI2 1
              · exact Nat.le_succ_of_le (hSi p (List.mem_cons_of_mem _ (List.mem_cons_of_mem _ e)))
      rw [decide_eq_false c2]
      refine iteF ?_
      have e7 : ("&" : Str) = SX.S [38] := by decide +kernel
      have e8 : ("|" : Str) = SX.S [124] := by decide +kernel
      refine ⟨_, rfl, (by show 2 ≤ sizeLine; decide), fun tp htp => ?_⟩
      have hin2 : inV (.str (SX.S wd)) [.str ("&" : Str), .str ("|" : Str)] = decide (wd = [38] ∨ wd = [124]) := by
        have q := inV_str (SX.S wd) [("&" : Str), ("|" : Str)]
        refine q.trans ?_
        rw [e7, e8]
        refine decide_eq_decide.mpr ?_
        rw [List.mem_cons, List.mem_singleton]
        exact ⟨fun h => h.imp SX.S_inj SX.S_inj, fun h => h.imp (fun e => by rw [e]) (fun e => by rw [e])⟩
      have kt := kk.same (same_new (o := .tup [.str ("&" : Str), .str ("|" : Str)]) htp)
      refine ⟨tp, _, rfl, .inr (SqT.of upd_same), rfl, rfl, inV (.str (SX.S wd)) [.str ("&" : Str), .str ("|" : Str)], rfl, ?_⟩
      rw [hin2]
      by_cases c3 : wd = [38] ∨ wd = [124]
      · rw [decide_eq_true c3]
        refine iteT ?_
        obtain ⟨c, hc, rfl⟩ : ∃ c, (c = 38 ∨ c = 124) ∧ wd = [c] := by
          rcases c3 with e | e
          · exact ⟨38, Or.inl rfl, e⟩
          · exact ⟨124, Or.inr rfl, e⟩
        obtain ⟨sg, its, S2, rfl⟩ : ∃ sg its S2, S = (sg, its) :: S2 := by
          cases S with
          | nil =>
            rcases hfit with ⟨_, h⟩ | ⟨_, _, _, _, _, _, h, _⟩ | ⟨_, h⟩ | ⟨_, h⟩
            · exact absurd rfl h
            · cases h
            · exact absurd rfl h
            · exact absurd rfl h
          | cons p S2 => exact ⟨p.1, p.2, S2, rfl⟩
        rw [tstep_sign hc] at hsf
        rw [trun_sign hc] at htr
        have k4 := kt.sign hc
        have exs : ((sg, its) :: S2).reverse.map (fun p => sgV p.1) = S2.reverse.map (fun p => sgV p.1) ++ [sgV sg] := by simp
        have exc : ((c, its) :: S2).reverse.map (fun p => sgV p.1) = S2.reverse.map (fun p => sgV p.1) ++ [.str (SX.S [c])] := by
          have ec : sgV c = V.str (SX.S [c]) := by
            unfold sgV sgS
            rw [if_neg (by omega)]
          simp [ec]
        have hg1 := kt.sg
        rw [exs] at hg1
        refine ⟨_, rfl, _, rfl, _, rfl, sA, _, _, S2.length, rfl, rfl, hg1, ?_, ?_⟩
        · show ixN _ (-1) = _
          unfold ixN
          rw [if_neg (by decide), if_pos (by simp; omega)]
          simp
          omega
        · have eset : (S2.reverse.map (fun p => sgV p.1) ++ [sgV sg]).set S2.length (.str (SX.S [c])) = ((c, its) :: S2).reverse.map fun p => sgV p.1 := by
            rw [exc, List.set_append_right _ _ (by simp)]
            simp
          rw [eset]
          refine ⟨(c, its) :: S2, ls, _, _, rfl, k4, hsf, htr, ?_, fun p hp => ?_⟩
          · simp only [List.length_cons] at hSl ⊢
            omega
          · rcases List.mem_cons.mp hp with e | e
            · rw [e]
              exact Nat.le_succ_of_le (hSi (sg, its) List.mem_cons_self)
            · exact Nat.le_succ_of_le (hSi p (List.mem_cons_of_mem _ e))
      rw [decide_eq_false c3]
      refine iteF ?_
      obtain ⟨hnm, hS⟩ : nameOk wd ∧ S ≠ [] := by
        rcases hfit with ⟨e, _⟩ | ⟨e, _⟩ | ⟨e, _⟩ | h
        · exact absurd e c1
        · exact absurd e c2
        · exact absurd e c3
        · exact h
      obtain ⟨sg, its, S2, rfl⟩ : ∃ sg its S2, S = (sg, its) :: S2 := by
        cases S with
        | nil => exact absurd rfl hS
        | cons p S2 => exact ⟨p.1, p.2, S2, rfl⟩
      rw [tstep_name hnm.1 hnm.2.2] at hsf
      rw [trun_name hnm.1 hnm.2.2] at htr
      obtain ⟨a2, ls2, xs2, rfl, g1, g2, g3⟩ := kt.at_
      have hg3 := kt.lv
      have exl2 : (a2 :: ls2).reverse.map V.ref = ls2.reverse.map V.ref ++ [.ref a2] := by simp
      rw [exl2] at hg3
      have hI2 : its.length ≤ i := hSi (sg, its) List.mem_cons_self
      have hx2' : xs2.length = its.length := g2.len
      refine ⟨_, rfl, _, rfl, lA, _, _, _, rfl, rfl, SqL.of hg3, atI_last _ _, .inl ⟨rfl, _, SqL.of g1⟩, _, rfl, wd, rfl, hnm.1, hnm.2.1, hnm.2.2, fun H6 x s6 cx => ?_⟩
      have k6 := kt.same s6
      have g1' := s6 _ _ g1
      refine ⟨a2, _, _, rfl, rfl, g1', ?_, ?_⟩
      · rw [List.length_map, hx2', sizeLine_eq]
        omega
      · refine ⟨(sg, its ++ [.eye wd]) :: S2, a2 :: ls2, _, _, rfl, k6.put g1' (g2.same s6) cx (by rw [can]; exact hnm), hsf, htr, ?_, fun p hp => ?_⟩
        · simp only [List.length_cons] at hSl ⊢
          omega
        · rcases List.mem_cons.mp hp with e | e
          · rw [e]
            show (its ++ [Nd.eye wd]).length ≤ i + 1
            rw [List.length_append]
            exact Nat.add_le_add_right hI2 1
          · exact Nat.le_succ_of_le (hSi p (List.mem_cons_of_mem _ e))
    · rintro σ H2 ⟨S, ls, v3, v4, rfl, kk, hsf, htr, hSl, hSi⟩
      have e0 : t.toks.drop W.length = [] := List.drop_eq_nil_of_le (by rw [hWl]; exact Nat.le_refl _)
      rw [e0] at hsf htr
      rw [safe] at hsf
      obtain ⟨sg, its, rfl, hit⟩ := hsf
      rw [trun, tend] at htr
      obtain ⟨a, ls', xs, rfl, h1, h2, h3⟩ := kk.at_
      obtain rfl : ls' = [] := h3
      have hok := kk.ok _ List.mem_cons_self
      have hI := hSi _ List.mem_cons_self
      have sH : Same H H2 := (same_new hw0).trans kk.sm
      refine ⟨_, rfl, sA, _, _, _, rfl, rfl, SqL.of kk.sg, atI_nat (j := 0) rfl, _, rfl, lA, _, _, _, rfl, rfl, SqL.of kk.lv, atI_nat (j := 0) rfl, ?_⟩
      refine ⟨sg, a, its, xs, rfl, hok.1, h1, h2, hok.2, hit, ?_, ?_⟩
      · have : its.length ≤ W.length := hI
        omega
      · rw [htr]
        exact k.next sH
end
end Pe
set_option Elab.async false
set_option maxRecDepth 100000
set_option maxHeartbeats 8000000
/-! read_circle, is_circle_text -/
namespace Pe
open PySem PySem.Spec PyProof.Rows L2
abbrev sRead : Stmt := top 28
abbrev sIsText : Stmt := top 29
/-- what is told of a text: whole: its reading; else where it goes wrong -/
def TextTold (C CT CI : Addr) (H : Hp) (x : L) (Q : VK) (E : XK) : Prop :=
  (∃ t : Tx, t.ok ∧ x = t.text ∧ (scanRes x).2 = true ∧ Told C CT H t.ev Q E) ∨ ((scanRes x).2 = false ∧ ∀ H' d, Same H H' → H' d = some (.xd [("at", .int ((scanRes x).1 : Int))]) → E (.ref CI) (some d) H')
/-- read_circle(v): v a text; or something else of type ty -/
def spRead (C CT CI : Addr) (K : PySem.W.Frag) : Sp := fun vs H Q E => ∃ v, vs = [v] ∧
  ((∃ x : L, v = .str (SX.S x) ∧ x.length ≤ 20000 ∧ TextTold C CT CI H x Q E) ∨
   (∃ t, TyX K H v t ∧ PySem.W.kitOne K t (.type "str") = some false ∧ ∀ H' d, Same H H' → H' d = some (.xd [("at", .int (-1))]) → E (.ref CI) (some d) H'))
/-- what a text is read as -/
def ReadsTo (x : L) (r : Option (Except Bool Nd)) : Prop := (r = none ∧ (scanRes x).2 = false) ∨ ∃ t : Tx, t.ok ∧ x = t.text ∧ (scanRes x).2 = true ∧ r = some t.ev
def isOf (x : L) : Option (Except Bool Nd) → Bool
  | some (.ok n) => decide (words n = x)
  | _ => false
def spIsText (K : PySem.W.Frag) : Sp := fun vs H Q _ => ∃ v, vs = [v] ∧
  ((∃ (x : L) (r : Option (Except Bool Nd)), v = .str (SX.S x) ∧ x.length ≤ 20000 ∧ ReadsTo x r ∧ ∀ H', Same H H' → Q (.bl (isOf x r)) H') ∨
   (∃ t, TyX K H v t ∧ PySem.W.kitOne K t (.type "str") = some false ∧ ∀ H', Same H H' → Q (.bl false) H'))
structure ItT (P : Program) (w : World) (K : PySem.W.Frag) (mg : Str → Option Value) (base : Heap) (CI fI : Addr) (fdI : FuncData) : Prop where
  mgT : mg "InvalidText" = some (.ref CI)
  oex : OexC K CI
  init : PySem.W.findIn K (.ref CI) "__init__" = some (some (.ref fI))
  tI : PySem.W.typeIn K (.ref fI) = some (.type "function")
  fn : FnOk P w K mg base C8.CX0 1 fI fdI ["self", "at"] (spX1 CI "at")
  bnd : Binds K fdI ["self", "at"] []
theorem wrongV_t {x : L} (h : (scanRes x).2 = true) : wrongV x = .non := by
  unfold wrongV
  rw [if_pos h]
theorem wrongV_f {x : L} (h : (scanRes x).2 = false) : wrongV x = .int ((scanRes x).1 : Int) := by
  unfold wrongV
  rw [h, if_neg Bool.false_ne_true]
theorem whole_of {x : L} (h : (scanRes x).2 = true) : ∃ t : Tx, t.ok ∧ x = t.text := (whole_text (n := (scanRes x).1) (by rw [← h])).2
section
variable {P : Program} {w : World} {K : PySem.W.Frag} {mg : Str → Option Value} {base : Heap} {C CT CI : Addr} {f fI : Addr} {fd fdI : FuncData}
theorem scRead : FnScope ["text", "at"] ["text"] (C8.fnScope sRead) := C8.fnScope_by (by decide +kernel)
theorem ok_read (F : C8.Def K mg "read_circle" sRead f fd) (b : Binds K fd ["text"] []) (z1 : mg "isinstance" = none) (z2 : mg "str" = none) (M : ItT P w K mg base CI fI fdI) (cW : C8.Cal P w K mg base 3 "wrong_place" spWrong []) (cC : CalX P w K mg base 10 "circle_of" (spCof C CT)) :
    CalX P w K mg base 11 "read_circle" (spRead C CT CI K) := by
  refine calX F b scRead (fun vs H Q E h => ?_) (fun cdv A outer s H vs Q E hr h => ?_)
  · obtain ⟨v, rfl, _⟩ := h
    rfl
  · obtain ⟨v, rfl, h⟩ := h
    refine ⟨_, pss_cons (ps_if (pt_not (pt_val (pe_callB call_isi (by rfl) z1 (by decide +kernel) (pa_cons (pv 0) (pa_cons (pe_bltn (v := .ty "str") (by rfl) z2 (by decide +kernel) rfl) pa_nil)))))
        (pss_one (ps_raiseX M.oex M.init M.tI M.fn M.bnd rfl (hr.mono (by decide)) (takes_of rfl rfl rfl rfl) (by rfl) M.mgT (pa_cons (pe_un un_neg pe_int) pa_nil))) pss_nil)
      (pss_cons (ps_set (i := 1) scRead.nd rfl (Or.inl rfl) (C8.pe_c cW hr (by decide) (by rfl) (pa_cons (pv 0) pa_nil)))
      (pss_cons (ps_if (pt_cmpR op_notN (pv 1) pe_non rfl) (pss_one (ps_raiseX M.oex M.init M.tI M.fn M.bnd rfl (hr.mono (by decide)) (takes_of rfl rfl rfl rfl) (by rfl) M.mgT (pa_cons (pv 1) pa_nil))) pss_nil)
      (pss_one (ps_ret (pe_cx cC hr (by decide) (by rfl) passX (pa_cons (pv 0) pa_nil)))))), ?_⟩
    rcases h with ⟨x, rfl, hx, h⟩ | ⟨ty, hty, hk, h⟩
    · refine ⟨_, rfl, .str (SX.S x), .ty "str", _, _, true, rfl, .ty _, .base (.str _), kit_ty (by decide +kernel), _, rfl, ?_⟩
      refine iteF ?_
      refine ⟨_, rfl, SX.S x, rfl, by rw [SX.S_len]; exact Nat.le_trans hx (by decide), fun H1 s1 => ?_⟩
      refine ⟨_, rfl, rfl, _, rfl, ?_⟩
      rcases h with ⟨t, ht, rfl, hw, k⟩ | ⟨hw, k⟩
      · have e : wrongV (SX.S t.text).cps.toList = .non := wrongV_t hw
        rw [e]
        refine iteF ?_
        exact ⟨_, rfl, t, rfl, ht, hx, k.next s1⟩
      · have e : wrongV (SX.S x).cps.toList = .int ((scanRes x).1 : Int) := wrongV_f hw
        rw [e]
        refine iteT ?_
        refine ⟨_, rfl, mk1_end fun d hd => ?_⟩
        exact k _ d (s1.trans (same_new hd)) upd_same
    · refine ⟨_, rfl, v, .ty "str", _, _, false, rfl, .ty _, hty, hk, _, rfl, ?_⟩
      refine iteT ?_
      refine ⟨_, rfl, mk1_end fun d hd => ?_⟩
      exact h _ d (same_new hd) upd_same
theorem scIsText : FnScope ["value", "circle"] ["value"] (C8.fnScope sIsText) := C8.fnScope_by (by decide +kernel)
theorem ok_isText (F : C8.Def K mg "is_circle_text" sIsText f fd) (b : Binds K fd ["value"] []) (T : CiT K mg C) (z1 : mg "isinstance" = none) (z2 : mg "str" = none) (mT : mg "TooMany" = some (.ref CT)) (eT : PySem.W.exmOne K (.ref CT) (.ref CT) = some true)
    (cW : C8.Cal P w K mg base 3 "wrong_place" spWrong []) (cC : CalX P w K mg base 10 "circle_of" (spCof C CT)) (mS : C8.Met P w K mg base 1 C "__str__" (spStr C) []) : C8.Cal P w K mg base 11 "is_circle_text" (spIsText K) [] := by
  refine C8.cal0 F b .nil scIsText (fun vs H Q E h => ?_) (fun cdv A outer s H vs Q E hr h => ?_)
  · obtain ⟨v, rfl, _⟩ := h
    rfl
  · obtain ⟨v, rfl, h⟩ := h
    obtain ⟨fc, fdc, psc, Fc, mc, kc, bc⟩ := cC.ex
    refine ⟨_, pss_cons (ps_if (PW.pt (pw_or (pt_not (pt_val (pe_callB call_isi (by rfl) z1 (by decide +kernel) (pa_cons (pv 0) (pa_cons (pe_bltn (v := .ty "str") (by rfl) z2 (by decide +kernel) rfl) pa_nil)))))
        (pw_or1 (pt_cmpR op_notN (C8.pe_c cW hr (by decide) (by rfl) (pa_cons (pv 0) pa_nil)) pe_non rfl)))) (pss_one (ps_ret pe_bl)) pss_nil)
      (pss_cons (ps_try_only (ts := fun _ _ _ => tRet (tC (.bl false))) rfl rfl ⟨by rfl, by decide, .inl mT⟩ takes0 (fun W pn xe tk _ => pss_one (ps_set (i := 1) scIsText.nd rfl (Or.inl rfl) (pe_callS Fc (hr.mono (by decide)) (by rfl) mc kc bc (fun σ => passAt tk σ) (pa_cons (pv 0) pa_nil)))) (fun a oe cls d pn _ _ => pss_one (ps_ret pe_bl)))
      (pss_one (ps_ret (pe_cmpR op_eq (pe_callTy (call_strO mS (hr.mono (by decide))) (by rfl) z2 (by decide +kernel) (pa_cons (pv 1) pa_nil)) (pv 0) (nomark _))))), ?_⟩
    rcases h with ⟨x, r, rfl, hx, hrd, k⟩ | ⟨ty, hty, hk, k⟩
    · refine ⟨_, rfl, .str (SX.S x), .ty "str", _, _, true, rfl, .ty _, .base (.str _), kit_ty (by decide +kernel), _, rfl, ?_⟩
      refine iteF ?_
      refine ⟨_, rfl, SX.S x, rfl, by rw [SX.S_len]; exact Nat.le_trans hx (by decide), fun H1 s1 => ?_⟩
      refine ⟨rfl, _, rfl, ?_⟩
      rcases hrd with ⟨rfl, hw⟩ | ⟨t, ht, rfl, hw, rfl⟩
      · have e : wrongV (SX.S x).cps.toList = .int ((scanRes x).1 : Int) := wrongV_f hw
        rw [e]
        refine iteT ?_
        exact k H1 s1
      · have e : wrongV (SX.S t.text).cps.toList = .non := wrongV_t hw
        rw [e]
        refine iteF ?_
        refine ⟨_, rfl, t, rfl, ht, hx, ?_⟩
        cases ev : t.ev with
        | error e =>
          intro H2 d s2 hd
          rw [ev] at k
          exact ⟨true, eT, fun _ a ha => k H2 (s1.trans s2), fun q => nomatch q⟩
        | ok n =>
          intro H2 a s2 cx
          rw [ev] at k
          obtain ⟨as, ⟨dx, r', p', ys', q1, q2, q3, q4⟩, _⟩ := cx.top
          refine ⟨_, rfl, a, dx, _, rfl, q1, a, dx, _, _, rfl, q1, rfl, _, rfl, _, rfl, rfl, ?_⟩
          rw [strS_eq]
          exact k H2 (s1.trans s2)
    · refine ⟨_, rfl, v, .ty "str", _, _, false, rfl, .ty _, hty, hk, _, rfl, ?_⟩
      refine iteT ?_
      refine iteT ?_
      exact k H (Same.refl _)
end
end Pe
set_option Elab.async false
/-! Pooled eyes, the plain law, part H: the law's tuples as data. -/
namespace Pe
open PySem PySem.Spec PyProof.Rows L2
mutual
def py : Nd → PyData
  | .eye x => .tuple [.str "eye", .str (SX.S x)]
  | .nd b l => .tuple [.str (kdS b), .tuple (pys l)]
def pys : List Nd → List PyData
  | [] => []
  | n :: r => py n :: pys r
end
theorem kdS_inj {b c : Bool} (h : kdS b = kdS c) : b = c := by
  cases b <;> cases c
  · rfl
  · exact absurd h (by decide +kernel)
  · exact absurd h (by decide +kernel)
  · rfl
theorem kdS_ne (b : Bool) : kdS b ≠ "eye" := by cases b <;> decide +kernel
theorem str_beq (x y : Str) : (x == y) = true ↔ x = y := by
  constructor
  · exact fun h => by simpa using h
  · exact fun h => by simpa using h
mutual
theorem py_eqv : ∀ n m : Nd, PyData.eqv (py n) (py m) = true ↔ n = m
  | .eye x, .eye y => by
    rw [py, py, PyData.eqv, PyData.eqvAll, PyData.eqvAll, PyData.eqvAll, PyData.eqv, PyData.eqv, Bool.and_true, Bool.and_eq_true, str_beq, str_beq]
    constructor
    · exact fun h => by rw [SX.S_inj h.2]
    · intro h
      injection h with h
      exact ⟨rfl, by rw [h]⟩
  | .eye x, .nd c m => by
    rw [py, py, PyData.eqv, PyData.eqvAll, PyData.eqv, Bool.and_eq_true, str_beq]
    constructor
    · exact fun h => absurd h.1.symm (kdS_ne c)
    · exact fun h => by cases h
  | .nd b l, .eye y => by
    rw [py, py, PyData.eqv, PyData.eqvAll, PyData.eqv, Bool.and_eq_true, str_beq]
    constructor
    · exact fun h => absurd h.1 (kdS_ne b)
    · exact fun h => by cases h
  | .nd b l, .nd c m => by
    rw [py, py, PyData.eqv, PyData.eqvAll, PyData.eqvAll, PyData.eqvAll, PyData.eqv, PyData.eqv, Bool.and_true, Bool.and_eq_true, str_beq, pys_eqv l m]
    constructor
    · exact fun h => by rw [kdS_inj h.1, h.2]
    · intro h
      injection h with h1 h2
      exact ⟨by rw [h1], h2⟩
theorem pys_eqv : ∀ l m : List Nd, PyData.eqvAll (pys l) (pys m) = true ↔ l = m
  | [], [] => by rw [pys, PyData.eqvAll]; exact iff_of_true rfl rfl
  | [], m :: r => by
    rw [pys, pys, PyData.eqvAll]
    exact iff_of_false Bool.false_ne_true (by intro h; cases h)
  | n :: r, [] => by
    rw [pys, pys, PyData.eqvAll]
    exact iff_of_false Bool.false_ne_true (by intro h; cases h)
  | n :: r, m :: s => by
    rw [pys, pys, PyData.eqvAll, Bool.and_eq_true, py_eqv n m, pys_eqv r s]
    constructor
    · exact fun h => by rw [h.1, h.2]
    · intro h
      injection h with h1 h2
      exact ⟨h1, h2⟩
end
theorem ok_S {x : L} (h : ∀ c ∈ x, c < 1114112) : PyData.strOk (SX.S x) = true := by
  unfold PyData.strOk
  rw [Array.all_eq_true_iff_forall_mem]
  intro c hc
  exact decide_eq_true (h c (by simpa [SX.S] using hc))
theorem ok_kd (b : Bool) : PyData.strOk (kdS b) = true := by cases b <;> decide +kernel
theorem isL_lt {c : Nat} (h : isL c = true) : c < 1114112 := by
  unfold isL at h
  rw [Bool.and_eq_true, decide_eq_true_eq, decide_eq_true_eq] at h
  omega
mutual
theorem py_lay : ∀ n : Nd, can n → (py n).canLay0 = true
  | .eye x, h => by
    rw [can] at h
    rw [py, PyData.canLay0, PyData.canLayAll0, PyData.canLayAll0, PyData.canLayAll0, PyData.canLay0, PyData.canLay0, Bool.and_true, Bool.and_eq_true]
    exact ⟨by decide +kernel, ok_S fun c hc => isL_lt (h.2.2 c hc)⟩
  | .nd b l, h => by
    rw [can] at h
    rw [py, PyData.canLay0, PyData.canLayAll0, PyData.canLayAll0, PyData.canLayAll0, PyData.canLay0, PyData.canLay0, Bool.and_true, Bool.and_eq_true]
    exact ⟨ok_kd b, pys_lay l h.1⟩
theorem pys_lay : ∀ l : List Nd, cans l → PyData.canLayAll0 (pys l) = true
  | [], _ => by rw [pys, PyData.canLayAll0]
  | n :: r, h => by
    rw [cans] at h
    rw [pys, PyData.canLayAll0, Bool.and_eq_true]
    exact ⟨py_lay n h.1, pys_lay r h.2⟩
end
mutual
theorem py_depth : ∀ n : Nd, (py n).depth ≤ 2 * depth n + 1
  | .eye x => by
    rw [py, PyData.depth, PyData.depthAll, PyData.depthAll, PyData.depthAll, PyData.depth, PyData.depth, depth]
    exact (by decide : max 0 (max 0 0) + 1 ≤ 2 * 0 + 1)
  | .nd b l => by
    have h := pys_depth l
    rw [py, PyData.depth, PyData.depthAll, PyData.depthAll, PyData.depthAll, PyData.depth, PyData.depth, depth]
    omega
theorem pys_depth : ∀ l : List Nd, PyData.depthAll (pys l) ≤ 2 * depths l + 1
  | [] => by
    rw [pys, PyData.depthAll]
    exact Nat.zero_le _
  | n :: r => by
    have h1 := py_depth n
    have h2 := pys_depth r
    rw [pys, PyData.depthAll, depths]
    omega
end
theorem depths_20 : ∀ {l : List Nd}, cans l → depths l ≤ 20
  | [], _ => by rw [depths]; exact Nat.zero_le _
  | n :: r, h => by
    rw [cans] at h
    have h1 := can_depth h.1
    have h2 := depths_20 h.2
    rw [depths]
    omega
theorem py_shaped {n : Nd} (h : can n) : SeqAt.shaped (py n) = true := by
  have h1 := py_depth n
  have h2 := can_depth h
  unfold SeqAt.shaped
  rw [py_lay n h, decide_eq_true (by omega)]
  rfl
theorem pys_shaped {l : List Nd} (h : cans l) : SeqAt.shaped (.list (pys l)) = true := by
  have h1 := pys_depth l
  have h2 := depths_20 h
  unfold SeqAt.shaped
  rw [PyData.canLay0, pys_lay l h, decide_eq_true (by rw [PyData.depth]; omega)]
  rfl
theorem pys_any {l : List Nd} {n : Nd} : ((pys l).any fun z => PyData.eqv z (py n)) = true ↔ n ∈ l := by
  induction l with
  | nil => rw [pys]; simp
  | cons m r ih =>
    rw [pys, List.any_cons, Bool.or_eq_true, py_eqv, ih, List.mem_cons]
    exact ⟨fun h => h.imp Eq.symm id, fun h => h.imp Eq.symm id⟩
end Pe
set_option Elab.async false
set_option maxRecDepth 100000
set_option maxHeartbeats 8000000
/-! the law's own trees: words, size, depth, leaves -/
namespace Pe
open PySem PySem.Spec PyProof.Rows L2
mutual
/-- the law's tuple of a circle -/
def NAt (H : Hp) : Nd → V → Prop
  | .eye x, v => ∃ p, v = .ref p ∧ H p = some (.tup [.str "eye", .str (SX.S x)])
  | .nd b l, v => ∃ p q vs, v = .ref p ∧ H p = some (.tup [.str (kdS b), .ref q]) ∧ H q = some (.tup vs) ∧ NAts H l vs
def NAts (H : Hp) : List Nd → List V → Prop
  | [], vs => vs = []
  | n :: r, vs => ∃ v vs', vs = v :: vs' ∧ NAt H n v ∧ NAts H r vs'
end
mutual
theorem NAt.mono {H H' : Hp} (s : ∀ b xs, H b = some (.tup xs) → H' b = some (.tup xs)) : ∀ (n : Nd) (v : V), NAt H n v → NAt H' n v
  | .eye x, v, h => by
    rw [NAt] at h ⊢
    obtain ⟨p, e, h1⟩ := h
    exact ⟨p, e, s _ _ h1⟩
  | .nd b l, v, h => by
    rw [NAt] at h ⊢
    obtain ⟨p, q, vs, e, h1, h2, h3⟩ := h
    exact ⟨p, q, vs, e, s _ _ h1, s _ _ h2, NAts.mono s l vs h3⟩
theorem NAts.mono {H H' : Hp} (s : ∀ b xs, H b = some (.tup xs) → H' b = some (.tup xs)) : ∀ (l : List Nd) (vs : List V), NAts H l vs → NAts H' l vs
  | [], vs, h => by
    rw [NAts] at h ⊢
    exact h
  | n :: r, vs, h => by
    rw [NAts] at h ⊢
    obtain ⟨v, vs', e, h1, h2⟩ := h
    exact ⟨v, vs', e, NAt.mono s n v h1, NAts.mono s r vs' h2⟩
end
theorem NAt.same {H H' : Hp} (s : Same H H') {n : Nd} {v : V} (h : NAt H n v) : NAt H' n v := NAt.mono (fun b xs e => s b _ e) n v h
theorem NAts.same {H H' : Hp} (s : Same H H') {l : List Nd} {vs : List V} (h : NAts H l vs) : NAts H' l vs := NAts.mono (fun b xs e => s b _ e) l vs h
/-- a list's cell changes -/
theorem tup_upd {H : Hp} {l : Addr} {xs : List V} {o : HO} (e : H l = some (.lst xs)) : ∀ b ys, H b = some (.tup ys) → upd H l o b = some (.tup ys) := fun b ys q => by
  rw [upd_ne]
  · exact q
  · intro z
    rw [z, e] at q
    cases q
theorem NAts.len {H : Hp} : ∀ {l : List Nd} {vs : List V}, NAts H l vs → vs.length = l.length
  | [], vs, h => by
    rw [NAts] at h
    rw [h]; rfl
  | n :: r, vs, h => by
    rw [NAts] at h
    obtain ⟨v, vs', rfl, h1, h2⟩ := h
    rw [List.length_cons, List.length_cons, h2.len]
theorem NAts.get {H : Hp} : ∀ {l : List Nd} {vs : List V}, NAts H l vs → ∀ {i : Nat} {v : V}, vs[i]? = some v → ∃ n, l[i]? = some n ∧ NAt H n v
  | [], vs, h, i, v, e => by
    rw [NAts] at h
    rw [h] at e
    simp at e
  | m :: r, vs, h, 0, v, e => by
    rw [NAts] at h
    obtain ⟨u, vs', rfl, h1, h2⟩ := h
    simp at e
    subst e
    exact ⟨m, rfl, h1⟩
  | m :: r, vs, h, i + 1, v, e => by
    rw [NAts] at h
    obtain ⟨u, vs', rfl, h1, h2⟩ := h
    simp at e
    obtain ⟨n, e1, e2⟩ := h2.get e
    exact ⟨n, by simpa using e1, e2⟩
theorem NAts.nil {H : Hp} : NAts H [] [] := by rw [NAts]
theorem NAts.cons {H : Hp} {n : Nd} {l : List Nd} {v : V} {vs : List V} (h1 : NAt H n v) (h2 : NAts H l vs) : NAts H (n :: l) (v :: vs) := by
  rw [NAts]
  exact ⟨v, vs, rfl, h1, h2⟩
theorem NAts.app {H : Hp} : ∀ {l m : List Nd} {vs ws : List V}, NAts H l vs → NAts H m ws → NAts H (l ++ m) (vs ++ ws)
  | [], m, vs, ws, h, h2 => by
    rw [NAts] at h
    subst h
    exact h2
  | n :: l, m, vs, ws, h, h2 => by
    rw [NAts] at h
    obtain ⟨v, vs', rfl, h1, h3⟩ := h
    exact NAts.cons h1 (h3.app h2)
/-- its two places -/
theorem NAt.top {H : Hp} {n : Nd} {v : V} (h : NAt H n v) : ∃ p u, v = .ref p ∧ H p = some (.tup [.str (kdN n), u]) := by
  cases n with
  | eye x =>
    rw [NAt] at h
    obtain ⟨p, e, h1⟩ := h
    exact ⟨p, _, e, h1⟩
  | nd b l =>
    rw [NAt] at h
    obtain ⟨p, q, vs, e, h1, _⟩ := h
    exact ⟨p, _, e, h1⟩
theorem kdN_eye : ∀ n : Nd, decide (V.str (kdN n) = V.str ("eye" : Str)) = (match n with
  | .eye _ => true
  | .nd _ _ => false)
  | .eye _ => by
    show decide (V.str ("eye" : Str) = V.str ("eye" : Str)) = true
    decide +kernel
  | .nd b _ => kd_eye b
theorem eye_eye : decide (V.str ("eye" : Str) = V.str ("eye" : Str)) = true := by decide +kernel
theorem kdS_pool (b : Bool) : decide (V.str (kdS b) = V.str ("pool" : Str)) = b := by cases b <;> decide +kernel
/-- a promise that nothing asks for -/
theorem cal_false {P : Program} {w : World} {K : PySem.W.Frag} {mg : Str → Option Value} {base : Heap} {x : Str} {st : Stmt} {f : Addr} {fd : FuncData} {ps : List Str} {sp : Sp} (F : C8.Def K mg x st f fd) (b : Binds K fd ps []) (h : ∀ vs H Q E, ¬ sp vs H Q E) : C8.Cal P w K mg base 0 x sp [] :=
  ⟨f, fd, ps, [], ⟨fun vs H Q E q => absurd q (h vs H Q E), fun A outer s H args us vs Q E _ _ _ _ q => absurd q (h vs H Q E)⟩, F.mgf, F.kp, b, .nil⟩
theorem words_eye (x : L) : words (.eye x) = x := rfl
theorem par_S1 (w : L) : ("(" : Str) ++ SX.S w = SX.S (40 :: w) := by
  have e : ("(" : Str) = SX.S [40] := by decide +kernel
  rw [e, SX.S_cat]; rfl
theorem par_S (w : L) : ("(" : Str) ++ SX.S w ++ (")" : Str) = SX.S (40 :: (w ++ [41])) := by
  have e : (")" : Str) = SX.S [41] := by decide +kernel
  rw [par_S1, e, SX.S_cat]; rfl
/-- one more told by a comprehension -/
theorem lc_put {α : Type} {Hc H2 H4 : Hp} {D : Addr} {l : List α} {i : Nat} {m : α} {g : α → V} (hD : Hc D = none) (sm : Same Hc H2) (s : Same H2 H4) (hD1 : H2 D = some (.lst ((l.take i).map g))) (hm : l[i]? = some m) (hl : l.length ≤ 6000000) :
    ∃ acc, H4 D = some (.lst acc) ∧ acc.length < sizeLine ∧ Same Hc (upd H4 D (.lst (acc ++ [g m]))) ∧ upd H4 D (.lst (acc ++ [g m])) D = some (.lst ((l.take (i + 1)).map g)) := by
  refine ⟨_, s _ _ hD1, ?_, fun b o q => ?_, ?_⟩
  · rw [List.length_map, List.length_take]
    exact Nat.lt_of_le_of_lt (Nat.min_le_right _ _) (Nat.lt_of_le_of_lt hl (by decide))
  · rw [upd_ne (ne_of_none q hD)]
    exact s _ _ (sm b o q)
  · rw [upd_same, take_snoc hm, List.map_append]
    rfl
abbrev rAddS : R2 := fun x y H Q => ∃ i j, x = .str i ∧ y = .str j ∧ i.length + j.length ≤ sizeLine ∧ Q (.str (i ++ j)) H
abbrev sWords : Stmt := top 42
abbrev sSize : Stmt := top 43
abbrev sDepth : Stmt := top 44
abbrev sLeaves : Stmt := top 45
def wn (n : Nd) : Prop := cans (kids n) ∧ (kids n).length ≤ 6000000
theorem wn_can {n : Nd} (h : can n) : wn n := by
  cases n with
  | eye x => exact ⟨by rw [kids, cans]; trivial, by rw [kids]; exact Nat.zero_le _⟩
  | nd b l =>
    have h1 := flat1_len (b := b) h
    rw [flat1, if_pos rfl] at h1
    rw [can] at h
    exact ⟨h.1, Nat.le_trans h1 (by decide)⟩
def spWords (d : Nat) : Sp := fun vs H Q _ => ∃ (n : Nd) (v : V), vs = [v] ∧ NAt H n v ∧ depth n < d ∧ can n ∧ ∀ H', Same H H' → Q (.str (SX.S (words n))) H'
def spSize (d : Nat) : Sp := fun vs H Q _ => ∃ (n : Nd) (v : V), vs = [v] ∧ NAt H n v ∧ depth n < d ∧ wn n ∧ ∀ H', Same H H' → Q (.int (size n : Int)) H'
def spDepth (d : Nat) : Sp := fun vs H Q _ => ∃ (n : Nd) (v : V), vs = [v] ∧ NAt H n v ∧ depth n < d ∧ wn n ∧ (∀ b l, n = .nd b l → l ≠ []) ∧ ∀ H', Same H H' → Q (.int (depth n : Int)) H'
def spLeaves (d : Nat) : Sp := fun vs H Q _ => ∃ (n : Nd) (v : V), vs = [v] ∧ NAt H n v ∧ depth n < d ∧ can n ∧ ∀ l H', Same H H' → H' l = some (.lst ((leaves n).map fun x => V.str (SX.S x))) → Q (.ref l) H'
section
variable {P : Program} {w : World} {K : PySem.W.Frag} {mg : Str → Option Value} {base : Heap} {f : Addr} {fd : FuncData}
abbrev nWo : List Str := ["_law_node", "_law_mark", "_law_x"]
theorem scWo : FnScope nWo ["_law_node"] (C8.fnScope sWords) := C8.fnScope_by (by decide +kernel)
theorem ok_words (F : C8.Def K mg "_law_words" sWords f fd) (b : Binds K fd ["_law_node"] []) : ∀ d, C8.Cal P w K mg base d "_law_words" (spWords d) []
  | 0 => cal_false F b fun vs H Q E h => by
    obtain ⟨n, v, _, _, hd, _⟩ := h
    exact absurd hd (Nat.not_lt_zero _)
  | d + 1 => by
    have ih := ok_words F b d
    refine C8.cal0 F b .nil scWo (fun vs H Q E h => ?_) (fun cdv A outer s H vs Q E hr h => ?_)
    · obtain ⟨n, v, rfl, _⟩ := h
      rfl
    · obtain ⟨n, v, rfl, hn, hd, hcan, k⟩ := h
      refine ⟨_, pss_cons (ps_if (pt_cmpR op_eq (pe_ix ix_tup (pv 0) pe_int (fun _ _ => rfl)) pe_str (nomark _)) (pss_one (ps_ret (pe_ix ix_tup (pv 0) pe_int (fun _ _ => rfl)))) pss_nil)
        (C8.pss_cut (ps_set (i := 1) scWo.nd rfl (Or.inl rfl) (pe_ifExp (pt_cmpR op_eq (pe_ix ix_tup (pv 0) pe_int (fun _ _ => rfl)) pe_str (nomark _)) pe_str pe_str))
        (pss_one (ps_ret (pe_join (pv 1) (pe_lc (own := [("_law_x", 2)]) (g := gName 2) (tt := tYes) (te := tIf (tTest (tOp rEq (tOp (rIxT K) (tVar 2) (tC (.int 0))) (tC (.str ("eye" : Str))))) (tCall (spWords d) [] C8.E0 (tCons (tVar 2) tNil)) (tOp rAddS (tOp rAddS (tC (.str ("(" : Str))) (tCall (spWords d) [] C8.E0 (tCons (tVar 2) tNil))) (tC (.str (")" : Str)))))
            rfl scWo.nd (pi_tup (pe_ix ix_tup (pv 0) pe_int (fun _ _ => rfl))) (blkOk_by (N := nWo) (sc := C8.fnScope sWords) (by decide +kernel))
            (fun _ _ _ _ _ => pg_name (i := 2) scWo.nd rfl (Or.inl rfl)) (fun _ _ _ _ _ => pts_nil)
            (fun _ _ _ _ _ => pe_ifExp (pt_cmpR op_eq (pe_ix ix_tup (pv 2) pe_int (fun _ _ => rfl)) pe_str (nomark _)) (C8.pe_c ih hr (Nat.le_refl _) (by rfl) (pa_cons (pv 2) pa_nil))
              (pe_op op_add_str (pe_op op_add_str pe_str (C8.pe_c ih hr (Nat.le_refl _) (by rfl) (pa_cons (pv 2) pa_nil))) pe_str))))))), ?_⟩
      have kS : ∀ b : Bool, (if b = true then (" & " : Str) else (" | " : Str)) = SX.S [32, sgOf b, 32] := fun b => by cases b <;> decide +kernel
      cases n with
      | eye x =>
        rw [NAt] at hn
        obtain ⟨p, rfl, hp⟩ := hn
        refine ⟨_, rfl, p, _, 0, _, rfl, rfl, SqT.of hp, rfl, rfl, _, rfl, ?_⟩
        rw [eye_eye]
        refine iteT ?_
        exact ⟨_, rfl, p, _, 1, _, rfl, rfl, SqT.of hp, rfl, k H (Same.refl _)⟩
      | nd bb l =>
        rw [NAt] at hn
        obtain ⟨p, q, vs, rfl, hp, hq, hl⟩ := hn
        rw [can] at hcan
        have hne : l ≠ [] := fun e => by
          have := hcan.2
          rw [e] at this
          exact absurd this.1 (by decide)
        have ll : l.length ≤ 60 := by
          have h1 := flat1_len (b := bb) (n := .nd bb l) (by rw [can]; exact hcan)
          rw [flat1, if_pos rfl] at h1
          exact h1
        refine ⟨_, rfl, p, _, 0, _, rfl, rfl, SqT.of hp, rfl, rfl, _, rfl, ?_⟩
        rw [kd_eye bb]
        refine iteF ?_
        refine ⟨fun σ' Hc => σ' = (L2.start nWo [.ref p]).set 1 (some (.str (SX.S [32, sgOf bb, 32]))) ∧ Hc = H, ?_, ?_⟩
        · refine ⟨_, rfl, p, _, 0, _, rfl, rfl, SqT.of hp, rfl, rfl, _, rfl, ?_⟩
          rw [kdS_pool bb]
          cases bb with
          | true => exact iteT ⟨by rw [← kS true]; rfl, rfl⟩
          | false => exact iteF ⟨by rw [← kS false]; rfl, rfl⟩
        rintro σ' Hc ⟨rfl, rfl⟩
        refine ⟨_, rfl, ⟨_, rfl⟩, _, rfl, p, _, 1, _, rfl, rfl, SqT.of hp, rfl, q, rfl, ⟨_, SqT.of hq⟩, fun D hD => lc_it (walk_tup (xs := vs)) (fun i H1 => Same Hc H1 ∧ H1 D = some (.lst ((l.take i).map fun n => V.str (SX.S (pwords n))))) ⟨same_new hD, upd_same⟩ (fun i H1 _ pv => SqT.of (pv.1 _ _ hq)) ?_ ?_⟩
        · rintro i y H1 H2 hi ⟨sm, hD1⟩ ⟨rfl, hy⟩
          obtain ⟨m, hm, hn⟩ := (hl.same sm).get hy
          have hcm := cans_mem hcan.1 (List.mem_of_getElem? hm)
          obtain ⟨pm, um, rfl, hpm⟩ := hn.top
          have hdm : depth m < d := by
            have h1 := depth_le (List.mem_of_getElem? hm)
            rw [depth] at hd
            omega
          refine ⟨rfl, _, rfl, pm, _, 0, _, rfl, rfl, SqT.of hpm, rfl, rfl, _, rfl, ?_⟩
          rw [kdN_eye]
          cases m with
          | eye x =>
            refine iteT ?_
            refine ⟨_, rfl, .eye x, _, rfl, hn, hdm, hcm, fun H4 s4 => ?_⟩
            have := lc_put (g := fun n => V.str (SX.S (pwords n))) hD sm s4 hD1 hm (Nat.le_trans ll (by decide))
            rw [pwords_eye] at this
            exact this
          | nd bm lm =>
            refine iteF ?_
            have wl := w_1000 hcm
            refine ⟨_, rfl, .nd bm lm, _, rfl, hn, hdm, hcm, fun H4 s4 => ⟨_, _, rfl, rfl, ?_, _, _, rfl, rfl, ?_, ?_⟩⟩
            · rw [SX.S_len]
              exact Nat.le_trans (Nat.add_le_add_left wl _) (by decide +kernel)
            · rw [par_S1, SX.S_len, List.length_cons]
              exact Nat.le_trans (Nat.add_le_add_right (Nat.succ_le_succ wl) _) (by decide +kernel)
            · rw [par_S]
              have := lc_put (g := fun n => V.str (SX.S (pwords n))) hD sm s4 hD1 hm (Nat.le_trans ll (by decide))
              rw [pwords_nd] at this
              exact this
        · intro H1 ⟨sm, hD1⟩
          rw [hl.len, List.take_length] at hD1
          have ej : Txt.join (SX.S [32, sgOf bb, 32]) ((l.map pwords).map SX.S) = SX.S (words (.nd bb l)) := by rw [SX.join_S, words_join bb hne]
          have hsum : (((l.map pwords).map SX.S).map (·.length)).sum ≤ 16 * 60 := by
            have h1 := pws_len l hcan.1
            have h2 : ∀ m : List Nd, (((m.map pwords).map SX.S).map (·.length)).sum ≤ (m.map fun n => (pwords n).length + 3).sum := by
              intro m
              induction m with
              | nil => exact Nat.le_refl _
              | cons n m ih =>
                rw [List.map_cons, List.map_cons, List.map_cons, List.sum_cons, List.map_cons, List.sum_cons, SX.S_len]
                omega
            have h3 := h2 l
            have h4 := hcan.2.2.2.2.1
            omega
          refine ⟨_, D, (l.map pwords).map SX.S, rfl, rfl, .inl (SqL.of (by rw [hD1, List.map_map, List.map_map]; rfl)), ?_, ?_⟩
          · rw [List.length_map, List.length_map, SX.S_len]
            have : ([32, sgOf bb, 32] : L).length = 3 := rfl
            rw [this]
            omega
          · rw [ej]
            exact k H1 sm
end
end Pe
set_option Elab.async false
set_option maxRecDepth 100000
set_option maxHeartbeats 8000000
/-! the law's own size, depth, leaves -/
namespace Pe
open PySem PySem.Spec PyProof.Rows L2
theorem sizes_take : ∀ (m : List Nd) (k : Nat), sizes (m.take k) ≤ sizes m := by
  intro m
  induction m with
  | nil => intro k; simp
  | cons x m ih =>
    intro k
    cases k with
    | zero => rw [List.take_zero, sizes]; exact Nat.zero_le _
    | succ k =>
      rw [List.take_succ_cons, sizes, sizes]
      exact Nat.add_le_add_left (ih k) _
theorem can_nd {b : Bool} {l : List Nd} (h : can (.nd b l)) : l ≠ [] := fun e => by
  rw [can] at h
  have := h.2
  rw [e] at this
  exact absurd this.1 (by decide)
section
variable {P : Program} {w : World} {K : PySem.W.Frag} {mg : Str → Option Value} {base : Heap} {f : Addr} {fd : FuncData}
abbrev nSz : List Str := ["_law_node", "_law_x"]
theorem scSz : FnScope nSz ["_law_node"] (C8.fnScope sSize) := C8.fnScope_by (by decide +kernel)
theorem scDp : FnScope nSz ["_law_node"] (C8.fnScope sDepth) := C8.fnScope_by (by decide +kernel)
theorem ok_size (F : C8.Def K mg "_law_size" sSize f fd) (b : Binds K fd ["_law_node"] []) (zS : mg "sum" = none) : ∀ d, C8.Cal P w K mg base d "_law_size" (spSize d) []
  | 0 => cal_false F b fun vs H Q E h => by
    obtain ⟨n, v, _, _, hd, _⟩ := h
    exact absurd hd (Nat.not_lt_zero _)
  | d + 1 => by
    have ih := ok_size F b zS d
    refine C8.cal0 F b .nil scSz (fun vs H Q E h => ?_) (fun cdv A outer s H vs Q E hr h => ?_)
    · obtain ⟨n, v, rfl, _⟩ := h
      rfl
    · obtain ⟨n, v, rfl, hn, hd, hcan, k⟩ := h
      refine ⟨_, pss_one (ps_ret (pe_ifExp (pt_cmpR op_eq (pe_ix ix_tup (pv 0) pe_int (fun _ _ => rfl)) pe_str (nomark _)) pe_int
        (pe_callB (cr_sum rfl) (by rfl) zS (by decide +kernel) (pa_cons (pe_lc (own := [("_law_x", 1)]) (g := gName 1) (tt := tYes) (te := tCall (spSize d) [] C8.E0 (tCons (tVar 1) tNil))
            rfl scSz.nd (pi_tup (pe_ix ix_tup (pv 0) pe_int (fun _ _ => rfl))) (blkOk_by (N := nSz) (sc := C8.fnScope sSize) (by decide +kernel))
            (fun _ _ _ _ _ => pg_name (i := 1) scSz.nd rfl (Or.inl rfl)) (fun _ _ _ _ _ => pts_nil)
            (fun _ _ _ _ _ => C8.pe_c ih hr (Nat.le_refl _) (by rfl) (pa_cons (pv 1) pa_nil))) pa_nil)))), ?_⟩
      cases n with
      | eye x =>
        rw [NAt] at hn
        obtain ⟨p, rfl, hp⟩ := hn
        refine ⟨_, rfl, p, _, 0, _, rfl, rfl, SqT.of hp, rfl, rfl, _, rfl, ?_⟩
        rw [eye_eye]
        refine iteT ?_
        exact k H (Same.refl _)
      | nd bb l =>
        rw [NAt] at hn
        obtain ⟨p, q, vs, rfl, hp, hq, hl⟩ := hn
        refine ⟨_, rfl, p, _, 0, _, rfl, rfl, SqT.of hp, rfl, rfl, _, rfl, ?_⟩
        rw [kd_eye bb]
        refine iteF ?_
        refine ⟨_, rfl, p, _, 1, _, rfl, rfl, SqT.of hp, rfl, q, rfl, ⟨_, SqT.of hq⟩, fun D hD => lc_it (walk_tup (xs := vs)) (fun i H1 => Same H H1 ∧ H1 D = some (.lst ((l.take i).map fun n => V.int (size n : Int)))) ⟨same_new hD, upd_same⟩ (fun i H1 _ pv => SqT.of (pv.1 _ _ hq)) ?_ ?_⟩
        · rintro i y H1 H2 hi ⟨sm, hD1⟩ ⟨rfl, hy⟩
          obtain ⟨m, hm, hn⟩ := (hl.same sm).get hy
          have hcm := cans_mem hcan.1 (List.mem_of_getElem? hm)
          have hdm : depth m < d := by
            have h1 := depth_le (List.mem_of_getElem? hm)
            rw [depth] at hd
            omega
          exact ⟨rfl, _, rfl, m, _, rfl, hn, hdm, wn_can hcm, fun H4 s4 => lc_put (g := fun n => V.int (size n : Int)) hD sm s4 hD1 hm hcan.2⟩
        · intro H1 ⟨sm, hD1⟩
          rw [hl.len, List.take_length] at hD1
          refine ⟨D, l.map fun n => (size n : Int), rfl, SqL.of (by rw [hD1, List.map_map]; rfl), ?_⟩
          rw [sizes_sum]
          have := k H1 sm
          rw [size] at this
          exact this
theorem ok_depth (F : C8.Def K mg "_law_depth" sDepth f fd) (b : Binds K fd ["_law_node"] []) (zM : mg "max" = none) : ∀ d, C8.Cal P w K mg base d "_law_depth" (spDepth d) []
  | 0 => cal_false F b fun vs H Q E h => by
    obtain ⟨n, v, _, _, hd, _⟩ := h
    exact absurd hd (Nat.not_lt_zero _)
  | d + 1 => by
    have ih := ok_depth F b zM d
    refine C8.cal0 F b .nil scDp (fun vs H Q E h => ?_) (fun cdv A outer s H vs Q E hr h => ?_)
    · obtain ⟨n, v, rfl, _⟩ := h
      rfl
    · obtain ⟨n, v, rfl, hn, hd, hcan, hne, k⟩ := h
      refine ⟨_, pss_one (ps_ret (pe_ifExp (pt_cmpR op_eq (pe_ix ix_tup (pv 0) pe_int (fun _ _ => rfl)) pe_str (nomark _)) pe_int
        (pe_op op_add pe_int (pe_callB (cr_max rfl) (by rfl) zM (by decide +kernel) (pa_cons (pe_lc (own := [("_law_x", 1)]) (g := gName 1) (tt := tYes) (te := tCall (spDepth d) [] C8.E0 (tCons (tVar 1) tNil))
            rfl scDp.nd (pi_tup (pe_ix ix_tup (pv 0) pe_int (fun _ _ => rfl))) (blkOk_by (N := nSz) (sc := C8.fnScope sDepth) (by decide +kernel))
            (fun _ _ _ _ _ => pg_name (i := 1) scDp.nd rfl (Or.inl rfl)) (fun _ _ _ _ _ => pts_nil)
            (fun _ _ _ _ _ => C8.pe_c ih hr (Nat.le_refl _) (by rfl) (pa_cons (pv 1) pa_nil))) pa_nil))))), ?_⟩
      cases n with
      | eye x =>
        rw [NAt] at hn
        obtain ⟨p, rfl, hp⟩ := hn
        refine ⟨_, rfl, p, _, 0, _, rfl, rfl, SqT.of hp, rfl, rfl, _, rfl, ?_⟩
        rw [eye_eye]
        refine iteT ?_
        exact k H (Same.refl _)
      | nd bb l =>
        rw [NAt] at hn
        obtain ⟨p, q, vs, rfl, hp, hq, hl⟩ := hn
        refine ⟨_, rfl, p, _, 0, _, rfl, rfl, SqT.of hp, rfl, rfl, _, rfl, ?_⟩
        rw [kd_eye bb]
        refine iteF ?_
        refine ⟨_, rfl, p, _, 1, _, rfl, rfl, SqT.of hp, rfl, q, rfl, ⟨_, SqT.of hq⟩, fun D hD => lc_it (walk_tup (xs := vs)) (fun i H1 => Same H H1 ∧ H1 D = some (.lst ((l.take i).map fun n => V.int (depth n : Int)))) ⟨same_new hD, upd_same⟩ (fun i H1 _ pv => SqT.of (pv.1 _ _ hq)) ?_ ?_⟩
        · rintro i y H1 H2 hi ⟨sm, hD1⟩ ⟨rfl, hy⟩
          obtain ⟨m, hm, hn⟩ := (hl.same sm).get hy
          have hcm := cans_mem hcan.1 (List.mem_of_getElem? hm)
          have hdm : depth m < d := by
            have h1 := depth_le (List.mem_of_getElem? hm)
            rw [depth] at hd
            omega
          exact ⟨rfl, _, rfl, m, _, rfl, hn, hdm, wn_can hcm, fun b l e => by subst e; exact can_nd hcm, fun H4 s4 => lc_put (g := fun n => V.int (depth n : Int)) hD sm s4 hD1 hm hcan.2⟩
        · intro H1 ⟨sm, hD1⟩
          rw [hl.len, List.take_length] at hD1
          refine ⟨D, l.map fun n => (depth n : Int), rfl, SqL.of (by rw [hD1, List.map_map]; rfl), by rw [List.length_map]; exact List.length_pos_iff.mpr (hne _ _ rfl), fun m hm1 hm2 => ?_⟩
          have em := depths_eq hm1 hm2
          subst em
          have := k H1 sm
          rw [depth] at this
          refine ⟨_, _, rfl, rfl, ?_⟩
          have e : ((1 + depths l : Nat) : Int) = 1 + (depths l : Int) := by omega
          rw [e] at this
          exact this
abbrev nLv : List Str := ["_law_node", "_law_found", "_law_x"]
theorem scLv : FnScope nLv ["_law_node"] (C8.fnScope sLeaves) := C8.fnScope_by (by decide +kernel)
theorem ok_leaves (F : C8.Def K mg "_law_leaves" sLeaves f fd) (b : Binds K fd ["_law_node"] []) : ∀ d, C8.Cal P w K mg base d "_law_leaves" (spLeaves d) []
  | 0 => cal_false F b fun vs H Q E h => by
    obtain ⟨n, v, _, _, hd, _⟩ := h
    exact absurd hd (Nat.not_lt_zero _)
  | d + 1 => by
    have ih := ok_leaves F b d
    refine C8.cal0 F b .nil scLv (fun vs H Q E h => ?_) (fun cdv A outer s H vs Q E hr h => ?_)
    · obtain ⟨n, v, rfl, _⟩ := h
      rfl
    · obtain ⟨n, v, rfl, hn, hd, hcan, k⟩ := h
      refine ⟨_, pss_cons (ps_if (pt_cmpR op_eq (pe_ix ix_tup (pv 0) pe_int (fun _ _ => rfl)) pe_str (nomark _)) (pss_one (ps_ret (pe_lst (pa_cons (pe_ix ix_tup (pv 0) pe_int (fun _ _ => rfl)) pa_nil)))) pss_nil)
        (pss_cons (ps_set (i := 1) scLv.nd rfl (Or.inl rfl) (pe_lst pa_nil))
        (pss_cons (ps_for PassesOwn.never rfl (pi_tup (pe_ix ix_tup (pv 0) pe_int (fun _ _ => rfl))) (pg_name (i := 2) scLv.nd rfl (Or.inl rfl))
          (pss_one (ps_set (i := 1) scLv.nd rfl (Or.inl rfl) (pe_op op_cat (pv 1) (C8.pe_c ih hr (Nat.le_refl _) (by rfl) (pa_cons (pv 2) pa_nil))))))
        (pss_one (ps_ret (pv 1))))), ?_⟩
      cases n with
      | eye x =>
        rw [NAt] at hn
        obtain ⟨p, rfl, hp⟩ := hn
        refine ⟨_, rfl, p, _, 0, _, rfl, rfl, SqT.of hp, rfl, rfl, _, rfl, ?_⟩
        rw [eye_eye]
        refine iteT ?_
        exact ⟨_, rfl, p, _, 1, _, rfl, rfl, SqT.of hp, rfl, (by show 1 ≤ sizeLine; decide), fun l hl => k l _ (same_new hl) upd_same⟩
      | nd bb l =>
        have h60 := can_size hcan
        rw [NAt] at hn
        obtain ⟨p, q, vs, rfl, hp, hq, hl⟩ := hn
        rw [can] at hcan
        refine ⟨_, rfl, p, _, 0, _, rfl, rfl, SqT.of hp, rfl, rfl, _, rfl, ?_⟩
        rw [kd_eye bb]
        refine iteF ?_
        refine ⟨(by decide), fun r hr0 => ?_⟩
        refine ⟨_, rfl, p, _, 1, _, rfl, rfl, SqT.of (same_new hr0 _ _ hp), rfl, q, rfl, ⟨_, SqT.of (same_new hr0 _ _ hq)⟩, for_it (walk_tup (xs := vs)) (fun i σ H1 => ∃ r' v2, σ = [some (.ref p), some (.ref r'), v2] ∧ Same H H1 ∧ H1 r' = some (.lst ((leavess (l.take i)).map fun x => V.str (SX.S x)))) ⟨r, none, rfl, same_new hr0, upd_same⟩ (fun i σ H1 _ pv => ?_) ?_ ?_⟩
        · obtain ⟨_, _, _, s1, _⟩ := pv
          exact SqT.of (s1 _ _ hq)
        · rintro i y σ H1 H2 hi ⟨r', v2, rfl, sm, hD1⟩ ⟨rfl, hy⟩
          obtain ⟨m, hm, hn⟩ := (hl.same sm).get hy
          have hcm := cans_mem hcan.1 (List.mem_of_getElem? hm)
          have hdm : depth m < d := by
            have h1 := depth_le (List.mem_of_getElem? hm)
            rw [depth] at hd
            omega
          refine ⟨_, rfl, _, rfl, m, _, rfl, hn, hdm, hcm, fun q' H4 s4 hq' => ⟨r', q', _, _, rfl, rfl, s4 _ _ hD1, hq', ?_, fun r2 hr2 => ⟨r2, _, rfl, (sm.trans s4).trans (same_new hr2), ?_⟩⟩⟩
          · rw [List.length_map, List.length_map, leavess_len, leaves_len]
            have h1 := sizes_snoc (l.take i) m
            rw [← take_snoc hm] at h1
            have h2 := sizes_take l (i + 1)
            rw [size] at h60
            rw [← h1, sizeLine_eq]
            omega
          · rw [upd_same, take_snoc hm, leavess_snoc, List.map_append]
        · rintro σ H1 ⟨r', v2, rfl, sm, hD1⟩
          rw [hl.len, List.take_length] at hD1
          refine ⟨_, rfl, k r' H1 sm ?_⟩
          rw [leaves]
          exact hD1
end
end Pe
set_option Elab.async false
set_option maxRecDepth 100000
set_option maxHeartbeats 8000000
/-! the law's own join and check -/
namespace Pe
open PySem PySem.Spec PyProof.Rows L2
abbrev sJoin : Stmt := top 46
abbrev sChecked : Stmt := top 47
mutual
theorem NAt.dp {K : PySem.W.Frag} {H : Hp} : ∀ (n : Nd) (v : V), NAt H n v → Dp K H v (py n)
  | .eye x, v, h => by
    rw [NAt] at h
    obtain ⟨p, rfl, h1⟩ := h
    rw [py]
    exact .tup (SqT.of h1) (.cons (.str _) (.cons (.str _) .nil))
  | .nd b l, v, h => by
    rw [NAt] at h
    obtain ⟨p, q, vs, rfl, h1, h2, h3⟩ := h
    rw [py]
    exact .tup (SqT.of h1) (.cons (.str _) (.cons (.tup (SqT.of h2) (NAts.dp l vs h3)) .nil))
theorem NAts.dp {K : PySem.W.Frag} {H : Hp} : ∀ (l : List Nd) (vs : List V), NAts H l vs → DpAll K H vs (pys l)
  | [], vs, h => by
    rw [NAts] at h
    rw [h, pys]
    exact .nil
  | n :: r, vs, h => by
    rw [NAts] at h
    obtain ⟨v, vs', rfl, h1, h2⟩ := h
    rw [pys]
    exact .cons (NAt.dp n v h1) (NAts.dp r vs' h2)
end
theorem hu65 {A : Around} {k : Nat} (hr : Room k A) : A.units + 65 < cLine := by
  have := hr.un
  omega
def spJoin : Sp := fun vs H Q _ => ∃ (b : Bool) (l : Addr) (ns : List Nd) (xs : List V), vs = [.str (kdS b), .ref l] ∧ H l = some (.lst xs) ∧ NAts H ns xs ∧ cans ns ∧ ns ≠ [] ∧ ns.length ≤ 100000 ∧ ∀ v H', Same H H' → NAt H' (joinN b ns) v → Q v H'
theorem flat_take {b : Bool} {ns : List Nd} {i : Nat} {n : Nd} (h : ns[i]? = some n) : flat b (ns.take (i + 1)) = flat b (ns.take i) ++ flat1 b n := by
  unfold flat
  rw [take_snoc h, List.flatMap_append]
  simp
theorem flat_len {b : Bool} : ∀ {ns : List Nd}, cans ns → (flat b ns).length ≤ 60 * ns.length
  | [], _ => by unfold flat; simp
  | n :: r, h => by
    rw [cans] at h
    have h1 := flat1_len (b := b) h.1
    have h2 := flat_len (b := b) h.2
    unfold flat at *
    rw [List.flatMap_cons, List.length_append, List.length_cons]
    omega
theorem cans_take : ∀ {ns : List Nd} (i : Nat), cans ns → cans (ns.take i)
  | _, 0, _ => by rw [List.take_zero, cans]; trivial
  | [], _ + 1, h => h
  | n :: r, i + 1, h => by
    rw [cans] at h
    rw [List.take_succ_cons, cans]
    exact ⟨h.1, cans_take i h.2⟩
theorem flat_cans {b : Bool} {ns : List Nd} (h : cans ns) : cans (flat b ns) := cans_of fun n hn => by
  obtain ⟨m, hm, h2⟩ := mem_flat hn
  exact (flat1_can (cans_mem h hm) h2).1
section
variable {P : Program} {w : World} {K : PySem.W.Frag} {mg : Str → Option Value} {base : Heap} {f : Addr} {fd : FuncData}
abbrev nJn : List Str := ["_law_kind_here", "_law_nodes", "_law_flat", "_law_found", "_law_x"]
theorem scJn : FnScope nJn ["_law_kind_here", "_law_nodes"] (C8.fnScope sJoin) := C8.fnScope_by (by decide +kernel)
theorem ok_join (F : C8.Def K mg "_law_join" sJoin f fd) (b : Binds K fd ["_law_kind_here", "_law_nodes"] []) (zl : mg "list" = none) (zL : mg "len" = none) (zT : mg "tuple" = none) : C8.Cal P w K mg base 1 "_law_join" spJoin [] := by
  refine C8.cal0 F b .nil scJn (fun vs H Q E h => ?_) (fun cdv A outer s H vs Q E hr h => ?_)
  · obtain ⟨_, _, _, _, rfl, _⟩ := h
    rfl
  · obtain ⟨bb, l, ns, xs, rfl, hl, hns, hcan, hne, hlen, k⟩ := h
    refine ⟨_, pss_cons (ps_par (i := 2) (j := 3) rfl scJn.nd rfl rfl (by decide) rfl rfl (pa_cons (pe_lst pa_nil) (pa_cons (pe_lst pa_nil) pa_nil)) (by rfl))
      (pss_cons (ps_for PassesOwn.never rfl (pi_list (pv 1)) (pg_name (i := 4) scJn.nd rfl (Or.inl rfl))
        (pss_one (ps_set (i := 2) scJn.nd rfl (Or.inl rfl) (pe_op op_cat (pv 2) (pe_ifExp (pt_cmpR op_eq (pe_ix ix_tup (pv 4) pe_int (fun _ _ => rfl)) (pv 0) (nomark _)) (pe_callTy call_list_of (by rfl) zl (by decide +kernel) (pa_cons (pe_ix ix_tup (pv 4) pe_int (fun _ _ => rfl)) pa_nil)) (pe_lst (pa_cons (pv 4) pa_nil)))))))
      (pss_cons (ps_for PassesOwn.never rfl (pi_list (pv 2)) (pg_name (i := 4) scJn.nd rfl (Or.inl rfl))
        (pss_one (ps_if (pt_cmpR (op_notInD (hu65 hr)) (pv 4) (pv 3) (by rfl)) (pss_one (ps_expr (pe_bm PySem.F.plainAttrs_list PySem.F.slot_list_append PySem.F.type_list_append mt_append (pv 3) (pa_cons (pv 4) pa_nil)))) pss_nil)))
      (pss_one (ps_ret (pe_ifExp (pt_cmpR op_eq (pe_callB call_len_seq (by rfl) zL PySem.boot_len (pa_cons (pv 3) pa_nil)) pe_int (nomark _)) (pe_ix ix_list (pv 3) pe_int (fun _ _ => rfl)) (pe_tup (pa_cons (pv 0) (pa_cons (pe_callTy call_tuple_of (by rfl) zT (by decide +kernel) (pa_cons (pv 3) pa_nil)) pa_nil)))))))), ?_⟩
    refine ⟨by decide, fun r1 hr1 => ⟨by decide, fun rf hrf => ⟨_, _, rfl, ?_⟩⟩⟩
    have hrr : rf ≠ r1 := fun e => by rw [e, upd_same] at hrf; cases hrf
    have s0 : Same H (upd (upd H r1 (.lst [])) rf (.lst [])) := same_add (same_new hr1) hrf
    have hrfH : H rf = none := by rw [upd_ne hrr] at hrf; exact hrf
    refine ⟨_, rfl, l, rfl, ⟨_, SqL.of (s0 _ _ hl)⟩, for_it (walk_list (xs := xs)) (fun i σ H1 => ∃ r ys v4, σ = [some (.str (kdS bb)), some (.ref l), some (.ref r), some (.ref rf), v4] ∧ Same H H1 ∧ H1 r = some (.lst ys) ∧ NAts H1 (flat bb (ns.take i)) ys ∧ H1 rf = some (.lst []) ∧ r ≠ rf) ⟨r1, [], none, rfl, s0, by rw [upd_ne hrr.symm, upd_same], by rw [List.take_zero]; exact NAts.nil, upd_same, hrr.symm⟩ (fun i σ H1 _ pv => ?_) ?_ ?_⟩
    · obtain ⟨_, _, _, _, s1, _⟩ := pv
      exact SqL.of (s1 _ _ hl)
    · rintro i y σ H1 H2 hi ⟨r, ys, v4, rfl, sm, hr, hys, hf, hne1⟩ ⟨rfl, hy⟩
      obtain ⟨m, hm, hn⟩ := (hns.same sm).get hy
      have hcm := cans_mem hcan (List.mem_of_getElem? hm)
      have hlen2 : ys.length + 60 ≤ sizeLine := by
        have h1 := flat_len (b := bb) (cans_take i hcan)
        rw [hys.len, sizeLine_eq]
        rw [List.length_take] at h1
        have h2 := Nat.min_le_right i ns.length
        omega
      have fin : ∀ (H3 : Hp) (q : Addr) (zs : List V), Same H2 H3 → H3 q = some (.lst zs) → NAts H3 (flat1 bb m) zs → ∀ p, H3 p = none → ∃ r' ys' v4', [some (.str (kdS bb)), some (.ref l), some (.ref p), some (.ref rf), some y] = [some (.str (kdS bb)), some (.ref l), some (.ref r'), some (.ref rf), v4'] ∧ Same H (upd H3 p (.lst (ys ++ zs))) ∧ upd H3 p (.lst (ys ++ zs)) r' = some (.lst ys') ∧ NAts (upd H3 p (.lst (ys ++ zs))) (flat bb (ns.take (i + 1))) ys' ∧ upd H3 p (.lst (ys ++ zs)) rf = some (.lst []) ∧ r' ≠ rf := fun H3 q zs s3 hq hz p hp => by
        have hpf : rf ≠ p := ne_of_none (s3 _ _ hf) hp
        refine ⟨p, ys ++ zs, _, rfl, (sm.trans s3).trans (same_new hp), upd_same, ?_, by rw [upd_ne hpf]; exact s3 _ _ hf, hpf.symm⟩
        rw [flat_take hm]
        exact (hys.same (s3.trans (same_new hp))).app (hz.same (same_new hp))
      have hz60 : ∀ {H3 : Hp} {zs : List V}, NAts H3 (flat1 bb m) zs → zs.length ≤ 60 := fun hz => by
        rw [hz.len]
        exact flat1_len hcm
      obtain ⟨pm, um, rfl, hpm⟩ := hn.top
      refine ⟨_, rfl, _, rfl, pm, _, 0, _, rfl, rfl, SqT.of hpm, rfl, _, rfl, rfl, _, rfl, ?_⟩
      rw [kd_flat]
      cases m with
      | eye x =>
        refine iteF ?_
        refine ⟨_, rfl, (by show 1 ≤ sizeLine; decide), fun q hq => ⟨r, q, ys, _, rfl, rfl, same_new hq _ _ hr, upd_same, ?_, fun p hp => ?_⟩⟩
        · have : ([V.ref pm] : List V).length = 1 := rfl
          omega
        · exact fin _ q [.ref pm] (same_new hq) upd_same (by rw [flat1]; exact NAts.cons (hn.same (same_new hq)) NAts.nil) p hp
      | nd c lc =>
        show if decide (c = bb) = true then _ else _
        by_cases e : c = bb
        · rw [decide_eq_true e]
          refine iteT ?_
          rw [NAt] at hn
          obtain ⟨p', q', vs', e1, h1, h2, h3⟩ := hn
          cases e1
          rw [hpm] at h1
          injection h1 with h1
          injection h1 with h1
          injection h1 with _ h1
          injection h1 with h1 _
          subst h1
          have ef : flat1 bb (.nd c lc) = lc := by rw [flat1, if_pos e]
          refine ⟨_, rfl, pm, _, 1, _, rfl, rfl, SqT.of hpm, rfl, q', vs', rfl, .inr (SqT.of h2), fun q hq => ⟨r, q, ys, _, rfl, rfl, same_new hq _ _ hr, upd_same, ?_, fun p hp => ?_⟩⟩
          · have := hz60 (zs := vs') (by rw [ef]; exact h3)
            omega
          · exact fin _ q vs' (same_new hq) upd_same (by rw [ef]; exact h3.same (same_new hq)) p hp
        · rw [decide_eq_false e]
          refine iteF ?_
          refine ⟨_, rfl, (by show 1 ≤ sizeLine; decide), fun q hq => ⟨r, q, ys, _, rfl, rfl, same_new hq _ _ hr, upd_same, ?_, fun p hp => ?_⟩⟩
          · have : ([V.ref pm] : List V).length = 1 := rfl
            omega
          · exact fin _ q [.ref pm] (same_new hq) upd_same (by rw [flat1, if_neg e]; exact NAts.cons (hn.same (same_new hq)) NAts.nil) p hp
    · rintro σ H1 ⟨r, ys, v4, rfl, sm, hr, hys, hf, hrne⟩
      rw [hns.len, List.take_length] at hys
      have hfl := flat_len (b := bb) hcan
      have hfc := flat_cans (b := bb) hcan
      refine ⟨_, rfl, r, rfl, ⟨_, SqL.of hr⟩, for_it (walk_list (xs := ys)) (fun i σ H2 => ∃ (acc : List Nd) (zs : List V) (v4 : Option V), σ = [some (.str (kdS bb)), some (.ref l), some (.ref r), some (.ref rf), v4] ∧ Same H H2 ∧ H2 r = some (.lst ys) ∧ H2 rf = some (.lst zs) ∧ NAts H2 acc zs ∧ NAts H2 (flat bb ns) ys ∧ cans acc ∧ acc.length ≤ i ∧ dedup acc ((flat bb ns).drop i) = rowsOf bb ns) ⟨[], [], v4, rfl, sm, hr, hf, NAts.nil, hys, by rw [cans]; trivial, Nat.le_refl _, rfl⟩ (fun i σ H1 _ pv => ?_) ?_ ?_⟩
      · obtain ⟨_, _, _, _, _, s1, _⟩ := pv
        exact SqL.of s1
      · rintro i y σ H2 H3 hi ⟨acc, zs, v4, rfl, sm2, hr2, hf2, hz, hy2, hac, hai, hde⟩ ⟨rfl, hy⟩
        obtain ⟨m, hm, hn⟩ := hy2.get hy
        have hcm := cans_mem hfc (List.mem_of_getElem? hm)
        have hdrop : (flat bb ns).drop i = m :: (flat bb ns).drop (i + 1) := by
          obtain ⟨h1, h2⟩ := List.getElem?_eq_some_iff.mp hm
          rw [← h2]
          exact List.drop_eq_getElem_cons h1
        rw [hdrop, dedup] at hde
        refine ⟨_, rfl, _, rfl, py m, pys acc, hn.dp, .lst (SqL.of hf2) (hz.dp), py_shaped hcm, pys_shaped hac, _, rfl, ?_⟩
        by_cases hmem : m ∈ acc
        · rw [pys_any.mpr hmem]
          refine iteF ?_
          rw [if_pos hmem] at hde
          exact ⟨acc, zs, _, rfl, sm2, hr2, hf2, hz, hy2, hac, by omega, hde⟩
        · have e : ((pys acc).any fun z => PyData.eqv z (py m)) = false := by
            cases e : (pys acc).any fun z => PyData.eqv z (py m) with
            | false => rfl
            | true => exact absurd (pys_any.mp e) hmem
          rw [e]
          refine iteT ?_
          rw [if_neg hmem] at hde
          have mono : ∀ b xs', H3 b = some (.tup xs') → upd H3 rf (.lst (zs ++ [y])) b = some (.tup xs') := tup_upd hf2
          refine ⟨_, rfl, .inl ⟨rfl, _, SqL.of hf2⟩, _, rfl, rf, _, _, rfl, rfl, hf2, ?_, ?_⟩
          · have h1 := hz.len
            have h2 : i < (flat bb ns).length := (List.getElem?_eq_some_iff.mp hm).1
            rw [sizeLine_eq]
            omega
          · refine ⟨acc ++ [m], zs ++ [y], _, rfl, ?_, by rw [upd_ne hrne]; exact hr2, upd_same, (NAts.mono mono _ _ hz).app (NAts.cons (NAt.mono mono _ _ hn) NAts.nil), NAts.mono mono _ _ hy2, ?_, ?_, hde⟩
            · intro b' o' e'
              rw [upd_ne (ne_of_none e' hrfH)]
              exact sm2 _ _ e'
            · exact cans_of fun n hn => (List.mem_append.mp hn).elim (cans_mem hac) fun q => by rw [List.mem_singleton.mp q]; exact hcm
            · rw [List.length_append]
              exact Nat.add_le_add_right hai 1
      · rintro σ H2 ⟨acc, zs, v4, rfl, sm2, hr2, hf2, hz, hy2, hac, hai, hde⟩
        have e : (flat bb ns).drop ys.length = [] := List.drop_eq_nil_of_le (by rw [hys.len]; exact Nat.le_refl _)
        rw [e, dedup] at hde
        refine ⟨_, rfl, rf, zs, rfl, .inl (SqL.of hf2), rfl, _, rfl, ?_⟩
        have hzl := hz.len
        by_cases h1 : zs.length = 1
        · rw [decide_eq_true (by rw [h1]; rfl)]
          refine iteT ?_
          match zs, h1 with
          | [z], _ =>
            refine ⟨_, rfl, rf, _, 0, z, rfl, rfl, SqL.of hf2, rfl, ?_⟩
            match acc, hzl, hz with
            | [n], _, hz =>
              rw [NAts] at hz
              obtain ⟨v, vs', e1, h2, _⟩ := hz
              cases e1
              refine k _ _ sm2 ?_
              unfold joinN
              rw [← hde, pack]
              exact h2
        · rw [decide_eq_false (by intro z; injection z with z; omega)]
          refine iteF ?_
          refine ⟨_, rfl, _, rfl, rf, zs, rfl, .inl ⟨SqL.of hf2, fun t ht => ⟨(by show 2 ≤ sizeLine; decide), fun p hp => ?_⟩⟩⟩
          refine k _ _ (sm2.trans ((same_new ht).trans (same_new hp))) ?_
          have : joinN bb ns = .nd bb acc := by
            unfold joinN
            rw [← hde]
            match acc, hzl with
            | [], _ => rfl
            | [a], q => exact absurd q h1
            | a :: a' :: r', _ => rfl
          rw [this, NAt]
          exact ⟨p, t, zs, rfl, upd_same, by rw [upd_ne (ne_of_none upd_same hp), upd_same], (hz.same ((same_new ht).trans (same_new hp)))⟩
end
def mbV (b : Bool) : List V := if b then [.str "eyes", .int 60] else [.str "depth", .int 20]
/-- the law's own answer -/
def RdT (H : Hp) (r : Except Bool Nd) (v : V) : Prop := match r with
  | .ok n => ∃ p u, v = .ref p ∧ H p = some (.tup [.str "", u]) ∧ NAt H n u
  | .error b => ∃ p q, v = .ref p ∧ H p = some (.tup [.str "TooMany", .ref q]) ∧ H q = some (.tup (mbV b))
def spChecked : Sp := fun vs H Q _ => ∃ (b : Bool) (l : Addr) (ns : List Nd) (xs : List V), vs = [.str (kdS b), .ref l] ∧ H l = some (.lst xs) ∧ NAts H ns xs ∧ cans ns ∧ ns ≠ [] ∧ ns.length ≤ 100000 ∧ ∀ v H', Same H H' → RdT H' (chk b ns) v → Q v H'
theorem dedup_cans {b : Bool} {ns : List Nd} (h : cans ns) : cans (rowsOf b ns) := cans_of fun n hn => (rows_can h n hn).1
theorem join_wn {b : Bool} {ns : List Nd} (h : cans ns) (hl : ns.length ≤ 100000) : wn (joinN b ns) := by
  have h1 := dedup_cans (b := b) h
  have h2 : (rowsOf b ns).length ≤ 6000000 := by
    have e1 := dedup_len (flat b ns) []
    have e2 := flat_len (b := b) h
    unfold rowsOf
    have e3 : ([] : List Nd).length = 0 := rfl
    omega
  unfold joinN
  match e : rowsOf b ns with
  | [] =>
    rw [pack]
    · exact ⟨by rw [kids, cans]; trivial, Nat.zero_le _⟩
    · intro n z
      cases z
  | [n] =>
    rw [pack]
    rw [e, cans] at h1
    exact wn_can h1.1
  | a :: c :: r =>
    rw [pack]
    · rw [e] at h1 h2
      exact ⟨h1, h2⟩
    · intro n z
      cases z
theorem join_ne {b : Bool} {ns : List Nd} (h : cans ns) (hn : ns ≠ []) : ∀ c l, joinN b ns = .nd c l → l ≠ [] := by
  intro c l q
  have h1 := dedup_cans (b := b) h
  have h2 := rows_ne (b := b) h hn
  unfold joinN at q
  match e : rowsOf b ns with
  | [] => exact absurd e h2
  | [n] =>
    rw [e, pack] at q
    rw [e, cans, q] at h1
    exact can_nd h1.1
  | a :: d :: r =>
    rw [e, pack] at q
    · injection q with _ q
      rw [← q]
      exact List.cons_ne_nil _ _
    · intro n z
      cases z
theorem join_depth {b : Bool} {ns : List Nd} (h : cans ns) : depth (joinN b ns) ≤ 21 := by
  have h1 := dedup_cans (b := b) h
  have h3 := depths_20 h1
  unfold joinN
  match e : rowsOf b ns with
  | [] =>
    rw [pack]
    · rw [depth, depths]
      exact (by decide)
    · intro n z
      cases z
  | [n] =>
    rw [pack]
    rw [e, cans] at h1
    have := can_depth h1.1
    omega
  | a :: c :: r =>
    rw [pack]
    · rw [depth, ← e]
      omega
    · intro n z
      cases z
section
variable {P : Program} {w : World} {K : PySem.W.Frag} {mg : Str → Option Value} {base : Heap} {f : Addr} {fd : FuncData}
abbrev nCh : List Str := ["_law_kind_here", "_law_nodes", "_law_node"]
theorem scCh : FnScope nCh ["_law_kind_here", "_law_nodes"] (C8.fnScope sChecked) := C8.fnScope_by (by decide +kernel)
theorem ok_checked (F : C8.Def K mg "_law_checked" sChecked f fd) (b : Binds K fd ["_law_kind_here", "_law_nodes"] []) (cJ : C8.Cal P w K mg base 1 "_law_join" spJoin []) (cS : C8.Cal P w K mg base 22 "_law_size" (spSize 22) []) (cD : C8.Cal P w K mg base 22 "_law_depth" (spDepth 22) []) :
    C8.Cal P w K mg base 23 "_law_checked" spChecked [] := by
  refine C8.cal0 F b .nil scCh (fun vs H Q E h => ?_) (fun cdv A outer s H vs Q E hr h => ?_)
  · obtain ⟨_, _, _, _, rfl, _⟩ := h
    rfl
  · obtain ⟨bb, l, ns, xs, rfl, hl, hns, hcan, hne, hlen, k⟩ := h
    refine ⟨_, pss_cons (ps_set (i := 2) scCh.nd rfl (Or.inl rfl) (C8.pe_c cJ hr (by decide) (by rfl) (pa_cons (pv 0) (pa_cons (pv 1) pa_nil))))
      (pss_cons (ps_if (pt_cmpR op_gt (C8.pe_c cS hr (by decide) (by rfl) (pa_cons (pv 2) pa_nil)) pe_int (nomark _)) (pss_one (ps_ret (pe_tup (pa_cons pe_str (pa_cons (pe_tup (pa_cons pe_str (pa_cons pe_int pa_nil))) pa_nil))))) pss_nil)
      (pss_cons (ps_if (pt_cmpR op_gt (C8.pe_c cD hr (by decide) (by rfl) (pa_cons (pv 2) pa_nil)) pe_int (nomark _)) (pss_one (ps_ret (pe_tup (pa_cons pe_str (pa_cons (pe_tup (pa_cons pe_str (pa_cons pe_int pa_nil))) pa_nil))))) pss_nil)
      (pss_one (ps_ret (pe_tup (pa_cons pe_str (pa_cons (pv 2) pa_nil))))))), ?_⟩
    have hd := join_depth (b := bb) hcan
    refine ⟨_, rfl, _, rfl, bb, l, ns, xs, rfl, hl, hns, hcan, hne, hlen, fun v H1 s1 hv => ?_⟩
    refine ⟨_, rfl, joinN bb ns, v, rfl, hv, by omega, join_wn hcan hlen, fun H2 s2 => ?_⟩
    refine ⟨_, _, rfl, rfl, _, rfl, ?_⟩
    unfold chk at k
    by_cases h1 : 60 < size (joinN bb ns)
    · rw [decide_eq_true (by show (60 : Int) < (size (joinN bb ns) : Int); omega)]
      rw [if_pos h1] at k
      refine iteT ⟨by decide, fun q hq => ⟨(by show 2 ≤ sizeLine; decide), fun p hp => ?_⟩⟩
      refine k _ _ ((s1.trans s2).trans ((same_new hq).trans (same_new hp))) ?_
      exact ⟨p, q, rfl, upd_same, by rw [upd_ne (ne_of_none upd_same hp), upd_same]; rfl⟩
    · rw [decide_eq_false (by show ¬ (60 : Int) < (size (joinN bb ns) : Int); omega)]
      rw [if_neg h1] at k
      refine iteF ?_
      refine ⟨_, rfl, joinN bb ns, v, rfl, hv.same s2, by omega, join_wn hcan hlen, join_ne hcan hne, fun H3 s3 => ?_⟩
      refine ⟨_, _, rfl, rfl, _, rfl, ?_⟩
      by_cases h2 : 20 < depth (joinN bb ns)
      · rw [decide_eq_true (by show (20 : Int) < (depth (joinN bb ns) : Int); omega)]
        rw [if_pos h2] at k
        refine iteT ⟨by decide, fun q hq => ⟨(by show 2 ≤ sizeLine; decide), fun p hp => ?_⟩⟩
        refine k _ _ (((s1.trans s2).trans s3).trans ((same_new hq).trans (same_new hp))) ?_
        exact ⟨p, q, rfl, upd_same, by rw [upd_ne (ne_of_none upd_same hp), upd_same]; rfl⟩
      · rw [decide_eq_false (by show ¬ (20 : Int) < (depth (joinN bb ns) : Int); omega)]
        rw [if_neg h2] at k
        refine iteF ?_
        refine ⟨_, rfl, (by show 2 ≤ sizeLine; decide), fun p hp => ?_⟩
        refine k _ _ (((s1.trans s2).trans s3).trans (same_new hp)) ?_
        exact ⟨p, v, rfl, upd_same, hv.same ((s2.trans s3).trans (same_new hp))⟩
end
end Pe
set_option Elab.async false
set_option maxRecDepth 100000
set_option maxHeartbeats 8000000
/-! the law's own scan -/
namespace Pe
open PySem PySem.Spec PyProof.Rows L2
abbrev sScan : Stmt := top 55
def spScan : Sp := fun vs H Q _ => ∃ x : L, vs = [.str (SX.S x)] ∧ x.length ≤ 20000 ∧ ∀ p H', Same H H' → H' p = some (.tup [.int ((scanRes x).1 : Int), .bl (scanRes x).2]) → Q (.ref p) H'
theorem step_L {s : Sc} {c : Nat} (h : isL c = true) : step s c = if s.aw = 0 then some ⟨1, 1, s.st⟩ else if s.aw = 1 then (if s.le < 6 then some ⟨1, s.le + 1, s.st⟩ else none) else none := by
  have e1 := isL_ne h (d := 40) (by decide)
  have e2 := isL_ne h (d := 32) (by decide)
  have e3 := isL_ne h (d := 41) (by decide)
  have e4 := isL_ne h (d := 38) (by decide)
  have e5 := isL_ne h (d := 124) (by decide)
  unfold step stepN stepE
  by_cases a0 : s.aw = 0
  · rw [if_pos a0, if_pos a0, if_neg e1, if_pos h]
  · rw [if_neg a0, if_neg a0]
    by_cases a4 : s.aw = 4
    · rw [if_pos a4, if_neg e2, if_neg (by omega)]
    · rw [if_neg a4]
      by_cases a3 : s.aw = 3
      · rw [if_pos a3, if_neg (by omega)]
        split
        · rw [if_neg (by omega)]
        · rfl
      · rw [if_neg a3]
        by_cases a1 : s.aw = 1
        · rw [if_pos ⟨a1, h⟩, if_pos h, if_pos a1]
        · rw [if_neg (by omega), if_neg e2, if_neg e3, if_neg a1]
theorem step_o {s : Sc} : step s 40 = if s.aw = 0 then (if s.st.length < 21 then some ⟨0, s.le, 0 :: s.st⟩ else none) else none := by
  have hl : isL 40 = false := by decide
  unfold step stepN stepE
  by_cases a0 : s.aw = 0
  · rw [if_pos a0, if_pos a0, if_pos rfl]
  · rw [if_neg a0, if_neg a0]
    by_cases a4 : s.aw = 4
    · rw [if_pos a4, if_neg (by decide)]
    · rw [if_neg a4]
      by_cases a3 : s.aw = 3
      · rw [if_pos a3]
        split
        · rw [if_neg (by omega)]
        · rfl
      · rw [if_neg a3, hl, if_neg (by intro h; exact absurd h.2 Bool.false_ne_true), if_neg (by decide), if_neg (by decide)]
theorem step_c {s : Sc} (hs : s.aw ≤ 4) : step s 41 = if s.aw = 1 ∨ s.aw = 2 then (match s.st with | _ :: b :: r => some ⟨2, s.le, b :: r⟩ | _ => none) else none := by
  have hl : isL 41 = false := by decide
  unfold step stepN stepE
  by_cases a0 : s.aw = 0
  · rw [if_pos a0, if_neg (by decide), hl, if_neg Bool.false_ne_true, if_neg (by omega)]
  · rw [if_neg a0]
    by_cases a4 : s.aw = 4
    · rw [if_pos a4, if_neg (by decide), if_neg (by omega)]
    · rw [if_neg a4]
      by_cases a3 : s.aw = 3
      · rw [if_pos a3, if_neg (by omega)]
        split
        · rw [if_neg (by omega)]
        · rfl
      · rw [if_neg a3, hl, if_neg (by intro h; exact absurd h.2 Bool.false_ne_true), if_neg (by decide), if_pos rfl, if_pos (by omega)]
        all_goals obtain ⟨aw, le, st⟩ := s
        all_goals (match st with
          | [] => rfl
          | [_] => rfl
          | _ :: _ :: _ => rfl)
theorem step_b {s : Sc} (hs : s.aw ≤ 4) : step s 32 = if s.aw = 4 then some ⟨0, s.le, s.st⟩ else if s.aw = 1 ∨ s.aw = 2 then some ⟨3, s.le, s.st⟩ else none := by
  have hl : isL 32 = false := by decide
  unfold step stepN stepE
  by_cases a0 : s.aw = 0
  · rw [if_pos a0, if_neg (by decide), hl, if_neg Bool.false_ne_true, if_neg (by omega), if_neg (by omega)]
  · rw [if_neg a0]
    by_cases a4 : s.aw = 4
    · rw [if_pos a4, if_pos a4, if_pos rfl]
    · rw [if_neg a4, if_neg a4]
      by_cases a3 : s.aw = 3
      · rw [if_pos a3, if_neg (by omega)]
        split
        · rw [if_neg (by omega)]
        · rfl
      · rw [if_neg a3, hl, if_neg (by intro h; exact absurd h.2 Bool.false_ne_true), if_pos rfl, if_pos (by omega)]
theorem step_s {s : Sc} {c : Nat} (hc : c = 38 ∨ c = 124) : step s c = if s.aw = 3 then (match s.st with | a :: r => if a = 0 ∨ a = c then some ⟨4, s.le, c :: r⟩ else none | [] => none) else none := by
  have hl : isL c = false := by rcases hc with rfl | rfl <;> decide
  unfold step stepN stepE
  by_cases a0 : s.aw = 0
  · rw [if_pos a0, if_neg (by omega), hl, if_neg Bool.false_ne_true, if_neg (by omega)]
  · rw [if_neg a0]
    by_cases a4 : s.aw = 4
    · rw [if_pos a4, if_neg (by omega), if_neg (by omega)]
    · rw [if_neg a4]
      by_cases a3 : s.aw = 3
      · rw [if_pos a3, if_pos a3]
        obtain ⟨aw, le, st⟩ := s
        cases st with
        | nil => rfl
        | cons a r =>
          show (if (c = 38 ∨ c = 124) ∧ (a = 0 ∨ a = c) then _ else _) = if a = 0 ∨ a = c then _ else _
          by_cases h : a = 0 ∨ a = c
          · rw [if_pos ⟨hc, h⟩, if_pos h]
          · rw [if_neg (fun q => h q.2), if_neg h]
      · rw [if_neg a3, if_neg a3, hl, if_neg (by intro h; exact absurd h.2 Bool.false_ne_true), if_neg (by omega), if_neg (by omega)]
theorem step_x {s : Sc} {c : Nat} (hl : isL c = false) (h1 : c ≠ 40) (h2 : c ≠ 41) (h3 : c ≠ 32) (h4 : ¬ (c = 38 ∨ c = 124)) : step s c = none := by
  unfold step stepN stepE
  by_cases a0 : s.aw = 0
  · rw [if_pos a0, if_neg h1, hl, if_neg Bool.false_ne_true]
  · rw [if_neg a0]
    by_cases a4 : s.aw = 4
    · rw [if_pos a4, if_neg h3]
    · rw [if_neg a4]
      by_cases a3 : s.aw = 3
      · rw [if_pos a3]
        split
        · rw [if_neg (fun q => h4 q.1)]
        · rfl
      · rw [if_neg a3, hl, if_neg (by intro h; exact absurd h.2 Bool.false_ne_true), if_neg h3, if_neg h2]
theorem ei (a b : Int) : decide (V.int a = V.int b) = decide (a = b) := decide_eq_decide.mpr ⟨fun h => by injection h, fun h => by rw [h]⟩
theorem esg {c d : Nat} {z : Str} (h : z = SX.S [d]) : decide (V.str ⟨#[c]⟩ = V.str z) = decide (c = d) := by
  rw [h]
  refine decide_eq_decide.mpr ⟨fun q => ?_, fun q => by rw [q]⟩
  injection q with q
  have : [c] = [d] := SX.S_inj q
  injection this
theorem inV_i2 (a b c : Int) : inV (.int a) [.int b, .int c] = decide (a = b ∨ a = c) := by
  show ((b == a) || ((c == a) || false)) = _
  by_cases h1 : a = b
  · subst h1; simp
  · by_cases h2 : a = c
    · subst h2; simp
    · have h3 : ¬ b = a := fun q => h1 q.symm
      have h4 : ¬ c = a := fun q => h2 q.symm
      simp [h1, h2, h3, h4]
theorem inV_i3 (a b c d : Int) : inV (.int a) [.int b, .int c, .int d] = decide (a = b ∨ a = c ∨ a = d) := by
  have h : inV (.int a) [.int b, .int c, .int d] = ((b == a) || inV (.int a) [.int c, .int d]) := rfl
  rw [h, inV_i2]
  by_cases h1 : a = b
  · subst h1; simp
  · have h3 : ¬ b = a := fun q => h1 q.symm
    simp [h1, h3]
theorem inV_sg {a0 c : Nat} (hc : c = 38 ∨ c = 124) : inV (sgV a0) [.str ("" : Str), .str ⟨#[c]⟩] = decide (a0 = 0 ∨ a0 = c) := by
  have q := inV_str (sgS a0) [("" : Str), SX.S [c]]
  refine q.trans (decide_eq_decide.mpr ?_)
  have e0 : (("" : Str)) = SX.S [] := by decide +kernel
  unfold sgS
  rw [e0]
  by_cases h0 : a0 = 0
  · rw [if_pos h0]; simp [h0]
  · rw [if_neg h0]; simp [h0]
theorem amp_bar (c : Nat) : decide (c ∈ (("&|" : Str)).cps.toList) = decide (c = 38 ∨ c = 124) := by
  have e : (("&|" : Str)).cps.toList = [38, 124] := by decide +kernel
  rw [e]
  simp
theorem cutV_last {xs : List V} (h : xs ≠ []) : cutV xs none (some ((xs.length : Int) - 1)) = xs.dropLast := by
  have h1 : 0 < xs.length := List.length_pos_iff.mpr h
  have e : ((xs.length : Int) - 1) = ((xs.length - 1 : Nat) : Int) := by omega
  unfold cutV
  rw [e, HT.sIx_nat, HT.sIx_none, List.drop_zero, Nat.min_eq_left (by omega), Nat.sub_zero, List.dropLast_eq_take]
section
variable {P : Program} {w : World} {K : PySem.W.Frag} {mg : Str → Option Value} {base : Heap} {f : Addr} {fd : FuncData}
abbrev nSn : List Str := ["_law_words_here", "_law_marks", "_law_state", "_law_letters", "_law_k", "_law_sign", "_law_going"]
theorem scSn : FnScope nSn ["_law_words_here"] (C8.fnScope sScan) := C8.fnScope_by (by decide +kernel)
theorem ok_scan (F : C8.Def K mg "_law_scan" sScan f fd) (b : Binds K fd ["_law_words_here"] []) (zR : mg "range" = none) (zL : mg "len" = none) : C8.Cal P w K mg base 1 "_law_scan" spScan [] := by
  refine C8.cal0 F b .nil scSn (fun vs H Q E h => ?_) (fun cdv A outer s H vs Q E hr h => ?_)
  · obtain ⟨_, rfl, _⟩ := h
    rfl
  · obtain ⟨x, rfl, hx, k⟩ := h
    refine ⟨_, pss_cons (ps_par3 (i := 1) (j := 2) (l := 3) rfl scSn.nd rfl rfl rfl (by decide) (by decide) (by decide) rfl rfl rfl (pa_cons (pe_lst (pa_cons pe_str pa_nil)) (pa_cons pe_int (pa_cons pe_int pa_nil))) (by rfl))
      (pss_cons (ps_for PassesOwn.never rfl (pi_range1 (by rfl) zR (pa_cons (pe_callB call_len_str (by rfl) zL PySem.boot_len (pa_cons (pv 0) pa_nil)) pa_nil)) (pg_name (i := 4) scSn.nd rfl (Or.inl rfl))
        (pss_cons (ps_par (i := 5) (j := 6) rfl scSn.nd rfl rfl (by decide) rfl rfl (pa_cons (pe_ix ix_str (pv 0) (pv 4) (fun _ _ => rfl)) (pa_cons pe_bl pa_nil)) (by rfl))
        (C8.pss_cut (ps_if (pt_cmpR op_in_sign (pv 5) pe_str rfl)
            (pss_cons (ps_set (i := 6) scSn.nd rfl (Or.inl rfl) (pe_or (pe_cmpR op_eq (pv 2) pe_int (nomark _)) (pe_one (pe_and (pe_cmpR op_eq (pv 2) pe_int (nomark _)) (pe_one (pe_cmpR op_lt (pv 3) pe_int (nomark _)))))))
            (pss_cons (ps_set (i := 3) scSn.nd rfl (Or.inl rfl) (pe_ifExp (pt_cmpR op_eq (pv 2) pe_int (nomark _)) (pe_op op_add (pv 3) pe_int) pe_int))
            (pss_one (ps_set (i := 2) scSn.nd rfl (Or.inl rfl) pe_int))))
          (pss_one (ps_if (pt_cmpR op_eq (pv 5) pe_str (nomark _))
            (pss_cons (ps_set (i := 6) scSn.nd rfl (Or.inl rfl) (pe_and (pe_cmpR op_eq (pv 2) pe_int (nomark _)) (pe_one (pe_cmpR op_lt (pe_callB call_len_seq (by rfl) zL PySem.boot_len (pa_cons (pv 1) pa_nil)) pe_int (nomark _)))))
            (pss_one (ps_expr (pe_bm PySem.F.plainAttrs_list PySem.F.slot_list_append PySem.F.type_list_append mt_append (pv 1) (pa_cons pe_str pa_nil)))))
          (pss_one (ps_if (pt_cmpR op_eq (pv 5) pe_str (nomark _))
            (pss_cons (ps_set (i := 6) scSn.nd rfl (Or.inl rfl) (pe_and (pe_cmpR op_in_seq (pv 2) (pe_lst (pa_cons pe_int (pa_cons pe_int pa_nil))) rfl) (pe_one (pe_cmpR op_gt (pe_callB call_len_seq (by rfl) zL PySem.boot_len (pa_cons (pv 1) pa_nil)) pe_int (nomark _)))))
            (pss_cons (ps_set (i := 1) scSn.nd rfl (Or.inl rfl) (pe_slice sl_list (pv 1) po_none (po_some (pe_op op_sub (pe_callB call_len_seq (by rfl) zL PySem.boot_len (pa_cons (pv 1) pa_nil)) pe_int))))
            (pss_one (ps_set (i := 2) scSn.nd rfl (Or.inl rfl) pe_int))))
          (pss_one (ps_if (pt_cmpR op_eq (pv 5) pe_str (nomark _))
            (pss_cons (ps_set (i := 6) scSn.nd rfl (Or.inl rfl) (pe_cmpR op_in_seq (pv 2) (pe_lst (pa_cons pe_int (pa_cons pe_int (pa_cons pe_int pa_nil)))) rfl))
            (pss_one (ps_set (i := 2) scSn.nd rfl (Or.inl rfl) (pe_ifExp (pt_cmpR op_eq (pv 2) pe_int (nomark _)) pe_int pe_int))))
          (pss_one (ps_if (pt_cmpR op_in_sign (pv 5) pe_str rfl)
            (pss_cons (ps_set (i := 6) scSn.nd rfl (Or.inl rfl) (pe_and (pe_cmpR op_eq (pv 2) pe_int (nomark _)) (pe_one (pe_cmpR op_in_seq (pe_ix ix_list (pv 1) (pe_op op_sub (pe_callB call_len_seq (by rfl) zL PySem.boot_len (pa_cons (pv 1) pa_nil)) pe_int) (fun _ _ => rfl)) (pe_lst (pa_cons pe_str (pa_cons (pv 5) pa_nil))) rfl))))
            (pss_cons (ps_set (i := 1) scSn.nd rfl (Or.inl rfl) (pe_op op_cat (pe_slice sl_list (pv 1) po_none (po_some (pe_op op_sub (pe_callB call_len_seq (by rfl) zL PySem.boot_len (pa_cons (pv 1) pa_nil)) pe_int))) (pe_lst (pa_cons (pv 5) pa_nil))))
            (pss_one (ps_set (i := 2) scSn.nd rfl (Or.inl rfl) pe_int))))
            pss_nil)))))))))
        (pss_one (ps_if (pt_not (pt_val (pv 6))) (pss_one (ps_ret (pe_tup (pa_cons (pv 4) (pa_cons pe_bl pa_nil))))) pss_nil)))))
      (pss_one (ps_ret (pe_tup (pa_cons (pe_callB call_len_str (by rfl) zL PySem.boot_len (pa_cons (pv 0) pa_nil)) (pa_cons (pe_and (pe_cmpR op_in_seq (pv 2) (pe_lst (pa_cons pe_int (pa_cons pe_int pa_nil))) rfl) (pe_one (pe_cmpR op_eq (pe_callB call_len_seq (by rfl) zL PySem.boot_len (pa_cons (pv 1) pa_nil)) pe_int (nomark _)))) pa_nil)))))), ?_⟩
    refine ⟨(by show 1 ≤ sizeLine; decide), fun m0 hm0 => ⟨_, _, _, rfl, ?_⟩⟩
    have hxl : (SX.S x).length = x.length := SX.S_len x
    have hn : ((SX.S x).length : Int).toNat = x.length := by rw [hxl]; omega
    have e00 : (([0] : List Nat).reverse.map sgV) = [.str ("" : Str)] := rfl
    refine ⟨_, rfl, _, rfl, by rw [hxl]; exact Nat.le_trans hx (by decide), _, rfl, by omega, by rw [hxl]; omega, for_it (walk_range (lo := 0)) (fun i σ H1 => ∃ (m : Addr) (s : Sc) (v4 v5 v6 : Option V), σ = [some (.str (SX.S x)), some (.ref m), some (.int (s.aw : Int)), some (.int (s.le : Int)), v4, v5, v6] ∧ Same H H1 ∧ H m = none ∧ H1 m = some (.lst (s.st.reverse.map sgV)) ∧ s.st ≠ [] ∧ s.st.length ≤ 21 ∧ s.aw ≤ 4 ∧ scanGo s (x.drop i) i = scanRes x) ⟨m0, sc0, none, none, none, rfl, same_new hm0, hm0, upd_same, by decide, by decide, by decide, by rw [List.drop_zero]; rfl⟩ (fun _ _ _ _ _ => trivial) ?_ ?_⟩
    · rintro i y σ H1 H2 hi ⟨m, s, v4, v5, v6, rfl, sm, hm, hls, hne, h21, haw, hgo⟩ ⟨rfl, hk⟩
      have hk2 : y = .int (i : Int) := hk.trans (congrArg V.int (Int.zero_add (i : Int)))
      subst hk2
      rw [hn] at hi
      have hc : x[i]? = some x[i] := List.getElem?_eq_getElem hi
      generalize x[i] = c at hc
      have hdrop : x.drop i = c :: x.drop (i + 1) := by
        obtain ⟨h1, h2⟩ := List.getElem?_eq_some_iff.mp hc
        rw [← h2]
        exact List.drop_eq_getElem_cons h1
      rw [hdrop, scanGo] at hgo
      refine ⟨_, rfl, _, rfl, SX.S x, (i : Int), c, rfl, rfl, by rw [hxl]; exact Nat.le_trans hx (by decide), atI_nat hc, _, _, rfl, ?_⟩
      refine ⟨fun σ' Hc => ∃ (m' : Addr) (aw' le' : Int) (g : Bool), σ' = [some (.str (SX.S x)), some (.ref m'), some (.int aw'), some (.int le'), some (.int (i : Int)), some (.str (SX.S [c])), some (.bl g)] ∧ Same H Hc ∧
        ((g = false ∧ step s c = none) ∨ (g = true ∧ ∃ s', step s c = some s' ∧ aw' = (s'.aw : Int) ∧ le' = (s'.le : Int) ∧ H m' = none ∧ Hc m' = some (.lst (s'.st.reverse.map sgV)) ∧ s'.st ≠ [] ∧ s'.st.length ≤ 21 ∧ s'.aw ≤ 4)), ?_, ?_⟩
      · have eq1 : ∀ {d : Nat} {z : Str}, z = SX.S [d] → decide (V.str ⟨#[c]⟩ = V.str z) = decide (c = d) := esg
        refine ⟨_, rfl, c, _, rfl, rfl, _, rfl, ?_⟩
        rw [in_letters]
        by_cases hL : isL c = true
        · rw [hL]
          refine iteT ?_
          have st := step_L (s := s) hL
          by_cases a0 : s.aw = 0
          · rw [if_pos a0] at st
            refine ⟨_, rfl, rfl, _, rfl, ?_⟩
            rw [ei, decide_eq_true (by omega)]
            refine iteT ?_
            refine ⟨_, rfl, rfl, _, rfl, ?_⟩
            rw [ei, decide_eq_false (by omega)]
            refine iteF ?_
            exact ⟨m, 1, 1, true, rfl, sm, .inr ⟨rfl, _, st, rfl, rfl, hm, hls, hne, h21, (by decide : 1 ≤ 4)⟩⟩
          · rw [if_neg a0] at st
            refine ⟨_, rfl, rfl, _, rfl, ?_⟩
            rw [ei, decide_eq_false (by omega)]
            refine iteF ?_
            refine ⟨_, rfl, rfl, _, rfl, ?_⟩
            by_cases a1 : s.aw = 1
            · rw [if_pos a1] at st
              rw [ei, decide_eq_true (by omega)]
              refine iteT ?_
              refine ⟨_, rfl, _, _, rfl, rfl, ?_⟩
              refine ⟨_, rfl, rfl, _, rfl, ?_⟩
              rw [ei, decide_eq_true (by omega)]
              refine iteT ?_
              refine ⟨_, rfl, _, _, rfl, rfl, ?_⟩
              refine ⟨m, 1, (s.le : Int) + 1, _, rfl, sm, ?_⟩
              by_cases h6 : s.le < 6
              · rw [if_pos h6] at st
                exact .inr ⟨decide_eq_true (by omega), _, st, rfl, rfl, hm, hls, hne, h21, (by decide : 1 ≤ 4)⟩
              · rw [if_neg h6] at st
                exact .inl ⟨decide_eq_false (by omega), st⟩
            · rw [if_neg a1] at st
              rw [ei, decide_eq_false (by omega)]
              refine iteF ?_
              refine ⟨_, rfl, rfl, _, rfl, ?_⟩
              rw [ei, decide_eq_false (by omega)]
              refine iteF ?_
              exact ⟨m, 1, 1, false, rfl, sm, .inl ⟨rfl, st⟩⟩
        · have hLf : isL c = false := by
            cases e : isL c with
            | false => rfl
            | true => exact absurd e hL
          rw [hLf]
          refine iteF ?_
          refine ⟨_, rfl, rfl, _, rfl, ?_⟩
          rw [eq1 s_open]
          by_cases h40 : c = 40
          · rw [decide_eq_true h40]
            subst h40
            refine iteT ?_
            have st := step_o (s := s)
            refine ⟨_, rfl, rfl, _, rfl, ?_⟩
            have app : ∀ g : Bool, (g = false ∧ step s 40 = none ∨ g = true ∧ ∃ s', step s 40 = some s' ∧ s' = ⟨0, s.le, 0 :: s.st⟩ ∧ s.aw = 0 ∧ s.st.length < 21) →
                ∃ (m' : Addr) (aw' le' : Int) (g' : Bool), [some (V.str (SX.S x)), some (.ref m), some (.int (s.aw : Int)), some (.int (s.le : Int)), some (.int (i : Int)), some (.str (SX.S [40])), some (.bl g)] = [some (.str (SX.S x)), some (.ref m'), some (.int aw'), some (.int le'), some (.int (i : Int)), some (.str (SX.S [40])), some (.bl g')] ∧ Same H (upd H2 m (.lst (s.st.reverse.map sgV ++ [.str ("" : Str)]))) ∧
                ((g' = false ∧ step s 40 = none) ∨ (g' = true ∧ ∃ s', step s 40 = some s' ∧ aw' = (s'.aw : Int) ∧ le' = (s'.le : Int) ∧ H m' = none ∧ upd H2 m (.lst (s.st.reverse.map sgV ++ [.str ("" : Str)])) m' = some (.lst (s'.st.reverse.map sgV)) ∧ s'.st ≠ [] ∧ s'.st.length ≤ 21 ∧ s'.aw ≤ 4)) := fun g hg => by
              refine ⟨m, _, _, g, rfl, fun b o q => ?_, ?_⟩
              · rw [upd_ne (ne_of_none q hm)]
                exact sm b o q
              · rcases hg with hg | ⟨e, s', h1, rfl, h2, h3⟩
                · exact .inl hg
                · refine .inr ⟨e, _, h1, by rw [h2], rfl, hm, ?_, by simp, by show s.st.length + 1 ≤ 21; omega, (by decide : 0 ≤ 4)⟩
                  rw [upd_same]
                  simp [sgV, sgS]
            have ll : (s.st.reverse.map sgV).length = s.st.length := by simp
            have sml : (s.st.reverse.map sgV).length < sizeLine := by rw [ll]; exact small1000 (by omega)
            rw [ei]
            by_cases a0 : s.aw = 0
            · rw [if_pos a0] at st
              rw [decide_eq_true (by omega)]
              refine iteT ?_
              refine ⟨_, rfl, m, _, rfl, .inl (SqL.of hls), _, _, rfl, rfl, ?_⟩
              refine ⟨_, rfl, .inl ⟨rfl, _, SqL.of hls⟩, m, _, _, rfl, rfl, hls, sml, ?_⟩
              refine app _ ?_
              by_cases h21' : s.st.length < 21
              · rw [if_pos h21'] at st
                exact .inr ⟨decide_eq_true (by rw [ll]; omega), _, st, rfl, a0, h21'⟩
              · rw [if_neg h21'] at st
                exact .inl ⟨decide_eq_false (by rw [ll]; omega), st⟩
            · rw [if_neg a0] at st
              rw [decide_eq_false (by omega)]
              refine iteF ?_
              refine ⟨_, rfl, .inl ⟨rfl, _, SqL.of hls⟩, m, _, _, rfl, rfl, hls, sml, ?_⟩
              exact app _ (.inl ⟨rfl, st⟩)
          · rw [decide_eq_false h40]
            refine iteF ?_
            have hxs : s.st.reverse.map sgV ≠ [] := by
              intro q
              have := congrArg List.length q
              simp at this
              exact hne this
            have hdl : (s.st.reverse.map sgV).dropLast = s.st.tail.reverse.map sgV := by
              cases e : s.st with
              | nil => rfl
              | cons a r => simp
            have ll : (s.st.reverse.map sgV).length = s.st.length := by simp
            refine ⟨_, rfl, rfl, _, rfl, ?_⟩
            rw [eq1 s_shut]
            by_cases h41 : c = 41
            · rw [decide_eq_true h41]
              subst h41
              refine iteT ?_
              have st := step_c (s := s) haw
              refine ⟨_, rfl, (by show 2 ≤ sizeLine; decide), fun p hp => ⟨p, _, rfl, .inl (SqL.of upd_same), rfl, rfl, _, rfl, ?_⟩⟩
              have hl2 := same_new (o := .lst [.int 1, .int 2]) hp _ _ hls
              have sm2 := sm.trans (same_new (o := .lst [.int 1, .int 2]) hp)
              generalize upd H2 p (.lst [.int 1, .int 2]) = H3 at hl2 sm2
              have cut : ∀ g : Bool, (g = false ∧ step s 41 = none ∨ g = true ∧ ∃ s', step s 41 = some s' ∧ s' = ⟨2, s.le, s.st.tail⟩ ∧ s.st.tail ≠ []) → ∀ q, H3 q = none →
                  ∃ (m' : Addr) (aw' le' : Int) (g' : Bool), [some (V.str (SX.S x)), some (.ref q), some (.int 2), some (.int (s.le : Int)), some (.int (i : Int)), some (.str (SX.S [41])), some (.bl g)] = [some (.str (SX.S x)), some (.ref m'), some (.int aw'), some (.int le'), some (.int (i : Int)), some (.str (SX.S [41])), some (.bl g')] ∧ Same H (upd H3 q (.lst (cutV (s.st.reverse.map sgV) none (some (((s.st.reverse.map sgV).length : Int) - 1))))) ∧
                  ((g' = false ∧ step s 41 = none) ∨ (g' = true ∧ ∃ s', step s 41 = some s' ∧ aw' = (s'.aw : Int) ∧ le' = (s'.le : Int) ∧ H m' = none ∧ upd H3 q (.lst (cutV (s.st.reverse.map sgV) none (some (((s.st.reverse.map sgV).length : Int) - 1)))) m' = some (.lst (s'.st.reverse.map sgV)) ∧ s'.st ≠ [] ∧ s'.st.length ≤ 21 ∧ s'.aw ≤ 4)) := fun g hg q hq => by
                refine ⟨q, _, _, g, rfl, sm2.trans (same_new hq), ?_⟩
                rcases hg with hg | ⟨e, s', h1, rfl, h2⟩
                · exact .inl hg
                · refine .inr ⟨e, _, h1, rfl, rfl, ?_, ?_, h2, by show s.st.tail.length ≤ 21; rw [List.length_tail]; omega, (by decide : 2 ≤ 4)⟩
                  · cases e2 : H q with
                    | none => rfl
                    | some o => rw [sm2 _ _ e2] at hq; cases hq
                  · rw [upd_same, cutV_last hxs, hdl]
              rw [inV_i2]
              by_cases a12 : s.aw = 1 ∨ s.aw = 2
              · rw [if_pos a12] at st
                rw [decide_eq_true (by omega)]
                refine iteT ?_
                refine ⟨_, rfl, m, _, rfl, .inl (SqL.of hl2), _, _, rfl, rfl, ?_⟩
                refine ⟨_, rfl, _, rfl, m, _, rfl, .inl (SqL.of hl2), _, _, rfl, rfl, _, rfl, m, _, rfl, SqL.of hl2, ?_⟩
                refine cut _ ?_
                cases e : s.st with
                | nil => exact absurd e hne
                | cons a r =>
                  rw [e] at st
                  cases r with
                  | nil => exact .inl ⟨decide_eq_false (by simp), st⟩
                  | cons a2 r2 => exact .inr ⟨decide_eq_true (by simp; omega), _, st, rfl, by simp⟩
              · rw [if_neg a12] at st
                rw [decide_eq_false (by omega)]
                refine iteF ?_
                refine ⟨_, rfl, _, rfl, m, _, rfl, .inl (SqL.of hl2), _, _, rfl, rfl, _, rfl, m, _, rfl, SqL.of hl2, ?_⟩
                exact cut _ (.inl ⟨rfl, st⟩)
            · rw [decide_eq_false h41]
              refine iteF ?_
              refine ⟨_, rfl, rfl, _, rfl, ?_⟩
              rw [eq1 s_blank]
              by_cases h32 : c = 32
              · rw [decide_eq_true h32]
                subst h32
                refine iteT ?_
                have st := step_b (s := s) haw
                refine ⟨_, rfl, (by show 3 ≤ sizeLine; decide), fun p hp => ⟨p, _, rfl, .inl (SqL.of upd_same), rfl, rfl, ?_⟩⟩
                have hl2 := same_new (o := .lst [.int 1, .int 2, .int 4]) hp _ _ hls
                have sm2 := sm.trans (same_new (o := .lst [.int 1, .int 2, .int 4]) hp)
                refine ⟨_, rfl, rfl, _, rfl, ?_⟩
                rw [ei]
                by_cases a4 : s.aw = 4
                · rw [if_pos a4] at st
                  rw [decide_eq_true (by omega)]
                  refine iteT ?_
                  exact ⟨m, 0, _, _, rfl, sm2, .inr ⟨(inV_i3 _ _ _ _).trans (decide_eq_true (by omega)), _, st, rfl, rfl, hm, hl2, hne, h21, (by decide : 0 ≤ 4)⟩⟩
                · rw [if_neg a4] at st
                  rw [decide_eq_false (by omega)]
                  refine iteF ?_
                  refine ⟨m, 3, _, _, rfl, sm2, ?_⟩
                  by_cases a12 : s.aw = 1 ∨ s.aw = 2
                  · rw [if_pos a12] at st
                    exact .inr ⟨(inV_i3 _ _ _ _).trans (decide_eq_true (by omega)), _, st, rfl, rfl, hm, hl2, hne, h21, (by decide : 3 ≤ 4)⟩
                  · rw [if_neg a12] at st
                    exact .inl ⟨(inV_i3 _ _ _ _).trans (decide_eq_false (by omega)), st⟩
              · rw [decide_eq_false h32]
                refine iteF ?_
                refine ⟨_, rfl, c, _, rfl, rfl, _, rfl, ?_⟩
                rw [amp_bar]
                by_cases hsg : c = 38 ∨ c = 124
                · rw [decide_eq_true hsg]
                  refine iteT ?_
                  have st := step_s (s := s) hsg
                  have ecv : sgV c = V.str ⟨#[c]⟩ := by
                    unfold sgV sgS
                    rw [if_neg (by omega)]
                  have cut : ∀ (H3 : Hp) (g : Bool), Same H H3 → H3 m = some (.lst (s.st.reverse.map sgV)) → (g = false ∧ step s c = none ∨ g = true ∧ ∃ s', step s c = some s' ∧ s' = ⟨4, s.le, c :: s.st.tail⟩) →
                      tSeq (tAsg (tOp rCat (tSl (rSlL K) (tVar 1) tNoPart (tPart (tOp (rI0 fun i j => V.int (i - j)) (tCB (fun xs H Q => ∃ p ys, xs = [.ref p] ∧ (SqL K H p ys ∨ SqT K H p ys) ∧ Q (.int ys.length) H) (tCons (tVar 1) tNil)) (tC (V.int 1))))) (tLst (tCons (tVar 5) tNil))) (gName 1)) (tAsg (tC (V.int 4)) (gName 2))
                        { nx := fun σ' Hc => ∃ (m' : Addr) (aw' le' : Int) (g : Bool), σ' = [some (.str (SX.S x)), some (.ref m'), some (.int aw'), some (.int le'), some (.int (i : Int)), some (.str (SX.S [c])), some (.bl g)] ∧ Same H Hc ∧
        ((g = false ∧ step s c = none) ∨ (g = true ∧ ∃ s', step s c = some s' ∧ aw' = (s'.aw : Int) ∧ le' = (s'.le : Int) ∧ H m' = none ∧ Hc m' = some (.lst (s'.st.reverse.map sgV)) ∧ s'.st ≠ [] ∧ s'.st.length ≤ 21 ∧ s'.aw ≤ 4)), rt := Q } [some (V.str (SX.S x)), some (.ref m), some (.int (s.aw : Int)), some (.int (s.le : Int)), some (.int (i : Int)), some (.str ⟨#[c]⟩), some (.bl g)] H3 := fun H3 g sm3 hl3 hg => by
                    refine ⟨_, rfl, _, rfl, m, _, rfl, .inl (SqL.of hl3), _, _, rfl, rfl, _, rfl, m, _, rfl, SqL.of hl3, fun q hq => ?_⟩
                    refine ⟨_, rfl, (by show 1 ≤ sizeLine; decide), fun q2 hq2 => ?_⟩
                    have hl4 : upd H3 q (.lst (cutV (s.st.reverse.map sgV) none (some (((s.st.reverse.map sgV).length : Int) - 1)))) q = some (.lst (cutV (s.st.reverse.map sgV) none (some (((s.st.reverse.map sgV).length : Int) - 1)))) := upd_same
                    refine ⟨q, q2, _, _, rfl, rfl, same_new hq2 _ _ hl4, upd_same, ?_, fun q3 hq3 => ?_⟩
                    · rw [cutV_last hxs, List.length_dropLast, ll, sizeLine_eq]
                      have : ([V.str ⟨#[c]⟩] : List V).length = 1 := rfl
                      omega
                    · have sm5 := ((sm3.trans (same_new hq)).trans (same_new hq2)).trans (same_new (o := .lst (cutV (s.st.reverse.map sgV) none (some (((s.st.reverse.map sgV).length : Int) - 1)) ++ [V.str ⟨#[c]⟩])) hq3)
                      refine ⟨q3, _, _, g, rfl, sm5, ?_⟩
                      rcases hg with hg | ⟨e, s', h1, rfl⟩
                      · exact .inl hg
                      · refine .inr ⟨e, _, h1, rfl, rfl, ?_, ?_, by simp, ?_, (by decide : 4 ≤ 4)⟩
                        · cases e2 : H q3 with
                          | none => rfl
                          | some o => rw [((sm3.trans (same_new hq)).trans (same_new hq2)) _ _ e2] at hq3; cases hq3
                        · rw [upd_same, cutV_last hxs, hdl, ← ecv]
                          simp
                        · show s.st.tail.length + 1 ≤ 21
                          rw [List.length_tail]
                          have := List.length_pos_iff.mpr hne
                          omega
                  refine ⟨_, rfl, rfl, _, rfl, ?_⟩
                  rw [ei]
                  by_cases a3 : s.aw = 3
                  · rw [if_pos a3] at st
                    rw [decide_eq_true (by omega)]
                    refine iteT ?_
                    cases e : s.st with
                    | nil => exact absurd e hne
                    | cons a r =>
                      have hat : atI (s.st.reverse.map sgV) (((s.st.reverse.map sgV).length : Int) - 1) = some (sgV a) := by
                        have e2 : s.st.reverse.map sgV = r.reverse.map sgV ++ [sgV a] := by rw [e]; simp
                        have e3 : (((s.st.reverse.map sgV).length : Int) - 1) = ((r.length : Nat) : Int) := by rw [ll, e, List.length_cons]; omega
                        rw [e3, e2]
                        refine atI_nat ?_
                        rw [List.getElem?_append_right (by simp)]
                        simp
                      refine ⟨_, rfl, _, rfl, m, _, rfl, .inl (SqL.of hls), _, _, rfl, rfl, m, _, _, _, rfl, rfl, SqL.of hls, hat, ?_⟩
                      refine ⟨_, rfl, (by show 2 ≤ sizeLine; decide), fun p hp => ⟨p, _, rfl, .inl (SqL.of upd_same), rfl, rfl, ?_⟩⟩
                      refine cut _ _ (sm.trans (same_new hp)) (same_new hp _ _ hls) ?_
                      rw [e] at st
                      have st2 : step s c = if a = 0 ∨ a = c then some ⟨4, s.le, c :: r⟩ else none := st
                      by_cases ha : a = 0 ∨ a = c
                      · rw [if_pos ha] at st2
                        exact .inr ⟨(inV_sg hsg).trans (decide_eq_true ha), _, st2, by rw [e]; rfl⟩
                      · rw [if_neg ha] at st2
                        exact .inl ⟨(inV_sg hsg).trans (decide_eq_false ha), st2⟩
                  · rw [if_neg a3] at st
                    rw [decide_eq_false (by omega)]
                    refine iteF ?_
                    exact cut _ _ sm hls (.inl ⟨rfl, st⟩)
                · rw [decide_eq_false hsg]
                  refine iteF ?_
                  exact ⟨m, _, _, false, rfl, sm, .inl ⟨rfl, step_x hLf h40 h41 h32 hsg⟩⟩
      · rintro σ' Hc ⟨m', aw', le', g, rfl, sm2, hg⟩
        refine ⟨_, rfl, _, rfl, ?_⟩
        rcases hg with ⟨rfl, hst⟩ | ⟨rfl, s', hst, rfl, rfl, q1, q2, q3, q4, q5⟩
        · refine iteT ?_
          refine ⟨_, rfl, (by show 2 ≤ sizeLine; decide), fun p hp => ?_⟩
          rw [hst] at hgo
          refine k p _ (sm2.trans (same_new hp)) ?_
          rw [upd_same, ← hgo]
        · refine iteF ?_
          rw [hst] at hgo
          exact ⟨m', s', _, _, _, rfl, sm2, q1, q2, q3, q4, q5, hgo⟩
    · rintro σ H1 ⟨m, s, v4, v5, v6, rfl, sm, hm, hls, hne, h21, haw, hgo⟩
      rw [hn, List.drop_length, scanGo] at hgo
      refine ⟨_, rfl, _, rfl, by rw [hxl]; exact Nat.le_trans hx (by decide), ?_⟩
      refine ⟨_, rfl, (by show 2 ≤ sizeLine; decide), fun p hp => ⟨p, _, rfl, .inl (SqL.of upd_same), rfl, rfl, _, rfl, ?_⟩⟩
      have hl2 := same_new (o := .lst [.int 1, .int 2]) hp _ _ hls
      have sm2 := sm.trans (same_new (o := .lst [.int 1, .int 2]) hp)
      have ll : (s.st.reverse.map sgV).length = s.st.length := by simp
      have fin : ∀ g : Bool, g = endOk s → ∀ {H3 : Hp}, Same H H3 → [V.int ((SX.S x).length : Int), .bl g].length ≤ sizeLine ∧ ∀ p, H3 p = none → Q (.ref p) (upd H3 p (.tup [V.int ((SX.S x).length : Int), .bl g])) := fun g hg H3 s3 => by
        refine ⟨(by show 2 ≤ sizeLine; decide), fun p hp => k p _ (s3.trans (same_new hp)) ?_⟩
        rw [upd_same, ← hgo, hg, hxl]
      rw [inV_i2]
      by_cases a12 : s.aw = 1 ∨ s.aw = 2
      · rw [decide_eq_true (by omega)]
        refine iteT ?_
        refine ⟨_, rfl, m, _, rfl, .inl (SqL.of hl2), rfl, fin _ ?_ sm2⟩
        unfold endOk
        rw [ei, ll]
        rcases a12 with a | a
        · rw [a]
          exact decide_eq_decide.mpr (by omega)
        · rw [a]
          exact decide_eq_decide.mpr (by omega)
      · rw [decide_eq_false (by omega)]
        refine iteF ?_
        refine fin _ ?_ sm2
        unfold endOk
        rw [decide_eq_false (fun q => a12 (.inl q)), decide_eq_false (fun q => a12 (.inr q))]
        rfl
end
end Pe
set_option Elab.async false
set_option maxRecDepth 100000
set_option maxHeartbeats 8000000
/-! the law's own reader -/
namespace Pe
open PySem PySem.Spec PyProof.Rows L2
theorem cutS_S (x : L) (lo hi : Option Int) : cutS (SX.S x) lo hi = SX.S ((x.drop (HT.sIx x.length 0 lo)).take (HT.sIx x.length x.length hi - HT.sIx x.length 0 lo)) := rfl
theorem cutS_from (x : L) (b : Nat) : cutS (SX.S x) (some (b : Int)) none = SX.S (x.drop b) := by
  rw [cutS_S, HT.sIx_nat, HT.sIx_none]
  refine congrArg SX.S ?_
  by_cases h : b ≤ x.length
  · rw [Nat.min_eq_left h, ← List.length_drop, List.take_length]
  · rw [Nat.min_eq_right (by omega), List.drop_eq_nil_of_le (Nat.le_refl _), List.drop_eq_nil_of_le (by omega), List.take_nil]
theorem cutS_mid (x : L) (b e : Nat) : cutS (SX.S x) (some (b : Int)) (some (e : Int)) = SX.S ((x.drop b).take (e - b)) := by
  rw [cutS_S, HT.sIx_nat, HT.sIx_nat]
  refine congrArg SX.S ?_
  by_cases h : b ≤ x.length
  · rw [Nat.min_eq_left h]
    by_cases h2 : e ≤ x.length
    · rw [Nat.min_eq_left h2]
    · rw [Nat.min_eq_right (by omega), List.take_of_length_le (by rw [List.length_drop]; omega), List.take_of_length_le (by rw [List.length_drop]; omega)]
  · rw [Nat.min_eq_right (a := b) (by omega), List.drop_eq_nil_of_le (Nat.le_refl _), List.drop_eq_nil_of_le (by omega), List.take_nil, List.take_nil]
/-! ### the items one by one -/
def itx (i : Itm) : Tx := ⟨0, [i]⟩
theorem itx_text (i : Itm) : (itx i).text = itext i := by
  show ltext 0 [i] = _
  rw [ltext, rtext, List.append_nil]
theorem itx_ok {i : Itm} (h : okI i) (hp : pd i ≤ 20) : (itx i).ok := by
  refine ⟨?_, ?_⟩
  · show okI (.par 0 [i])
    rw [okI, okL, okL]
    exact ⟨⟨h, trivial⟩, .inl ⟨rfl, rfl⟩⟩
  · show pds [i] ≤ 20
    rw [pds, pds]
    omega
theorem itx_ev (i : Itm) : (itx i).ev = ev i := by
  show ev (.par 0 [i]) = _
  rw [ev, evs, evs]
  cases ev i with
  | error e => rfl
  | ok n =>
    show close 0 [n] = _
    unfold close
    rw [if_neg (by decide), if_neg (by decide)]
def rm (t : Tx) : Nat := 2 * pds t.l + (if t.l.length = 1 then 0 else 1)
theorem pd_le : ∀ {l : List Itm} {i : Itm}, i ∈ l → pd i ≤ pds l
  | [], _, h => by cases h
  | a :: r, i, h => by
    rw [pds]
    rcases List.mem_cons.mp h with e | e
    · rw [e]; omega
    · have := pd_le e
      omega
theorem itx_rm (i : Itm) : rm (itx i) = 2 * pd i := by
  show 2 * pds [i] + (if ([i] : List Itm).length = 1 then 0 else 1) = _
  have e : ([i] : List Itm).length = 1 := rfl
  rw [pds, pds, if_pos e]
  omega
theorem evs_err : ∀ {l : List Itm} {k : Nat} {i : Itm} {ns : List Nd} {e : Bool}, evs (l.take k) = .ok ns → l[k]? = some i → ev i = .error e → evs l = .error e
  | [], _, _, _, _, _, h, _ => by simp at h
  | a :: r, 0, i, ns, e, _, h, h2 => by
    simp at h
    rw [evs, h, h2]
  | a :: r, k + 1, i, ns, e, h0, h, h2 => by
    rw [List.take_succ_cons, evs] at h0
    rw [evs]
    cases e1 : ev a with
    | error e' => rw [e1] at h0; cases h0
    | ok n =>
      rw [e1] at h0
      cases e2 : evs (r.take k) with
      | error e' =>
        rw [e2] at h0
        cases h0
      | ok ms =>
        rw [evs_err e2 (by simpa using h) h2]
theorem evs_snoc : ∀ {l : List Itm} {i : Itm} {ns : List Nd} {n : Nd}, evs l = .ok ns → ev i = .ok n → evs (l ++ [i]) = .ok (ns ++ [n])
  | [], i, ns, n, h, h2 => by
    rw [evs] at h
    cases h
    show evs [i] = .ok [n]
    rw [evs, evs, h2]
  | a :: r, i, ns, n, h, h2 => by
    rw [evs] at h
    show evs (a :: (r ++ [i])) = _
    rw [evs]
    cases e1 : ev a with
    | error e' => rw [e1] at h; cases h
    | ok m =>
      rw [e1] at h
      cases e2 : evs r with
      | error e' => rw [e2] at h; cases h
      | ok ms =>
        rw [e2] at h
        have h : (Except.ok (m :: ms) : Except Bool (List Nd)) = .ok ns := h
        cases h
        rw [evs_snoc e2 h2]
        rfl
theorem itext_hd : ∀ {i : Itm}, okI i → ∃ c r, itext i = c :: r ∧ (c = 40 ∨ isL c = true)
  | .nm x, h => by
    rw [okI] at h
    rw [itext]
    cases x with
    | nil => exact absurd rfl h.1
    | cons c r => exact ⟨c, r, rfl, .inr (h.2.2 c List.mem_cons_self)⟩
  | .par sg l, _ => ⟨40, _, by rw [itext], .inl rfl⟩
theorem text_hd {t : Tx} (h : t.ok) : ∃ c r, t.text = c :: r ∧ (c = 40 ∨ isL c = true) := by
  have h1 := h.1
  have hne := ok_ne h.1
  rw [okI] at h1
  obtain ⟨sg, l⟩ := t
  cases l with
  | nil => exact absurd rfl hne
  | cons i r =>
    have h2 : okL (i :: r) := h1.1
    rw [okL] at h2
    obtain ⟨c, q, e, hc⟩ := itext_hd h2.1
    exact ⟨c, q ++ rtext sg r, by show ltext sg (i :: r) = _; rw [ltext, e]; rfl, hc⟩
theorem text_hd0 {t : Tx} (h : t.ok) {c : Nat} (hc : t.text[0]? = some c) : ¬ (c = 38 ∨ c = 124) := by
  obtain ⟨c', r', e1, e2⟩ := text_hd h
  rw [e1] at hc
  have hc : c' = c := by simpa using hc
  subst hc
  rcases e2 with e2 | e2
  · omega
  · have := isL_ne e2 (d := 38) (by decide)
    have := isL_ne e2 (d := 124) (by decide)
    omega
theorem rtext_le (sg : Nat) : ∀ {r : List Itm} {i : Itm}, i ∈ r → (itext i).length ≤ (rtext sg r).length
  | [], _, h => by cases h
  | a :: r, i, h => by
    rw [rtext, List.length_cons, List.length_cons, List.length_cons, List.length_append]
    rcases List.mem_cons.mp h with e | e
    · rw [e]; omega
    · have := rtext_le sg e
      omega
theorem itext_le {t : Tx} {i : Itm} (h : i ∈ t.l) : (itext i).length ≤ t.text.length := by
  obtain ⟨sg, l⟩ := t
  cases l with
  | nil => cases h
  | cons a r =>
    show _ ≤ (ltext sg (a :: r)).length
    rw [ltext, List.length_append]
    rcases List.mem_cons.mp h with e | e
    · rw [e]; omega
    · have := rtext_le sg e
      omega
abbrev sGood : Stmt := top 56
def spGood (d : Nat) : Sp := fun vs H Q _ => ∃ t : Tx, vs = [.str (SX.S t.text)] ∧ t.ok ∧ rm t < d ∧ t.text.length ≤ 20000 ∧ ∀ v H', Same H H' → RdT H' t.ev v → Q v H'
theorem rstep_eq {x : L} {k c : Nat} {s : RS} {h : Int} (e : h = (if c = 41 then (if c = 40 then s.here + 1 else s.here) - 1 else if c = 40 then s.here + 1 else s.here)) :
    rstep x k c s = if h = 0 ∧ (c = 38 ∨ c = 124) then ⟨s.pcs ++ [(x.drop s.begun).take (k - 1 - s.begun)], [c], h, k + 2⟩ else ⟨s.pcs, s.mark, h, s.begun⟩ := by
  rw [e]
  rfl
section
variable {P : Program} {w : World} {K : PySem.W.Frag} {mg : Str → Option Value} {base : Heap} {f : Addr} {fd : FuncData}
abbrev nGd : List Str := ["_law_words_here", "_law_pieces", "_law_mark", "_law_here", "_law_begun", "_law_k", "_law_nodes", "_law_piece", "_law_told"]
theorem scGd : FnScope nGd ["_law_words_here"] (C8.fnScope sGood) := C8.fnScope_by (by decide +kernel)
theorem ok_good (F : C8.Def K mg "_law_read_good" sGood f fd) (b : Binds K fd ["_law_words_here"] []) (zR : mg "range" = none) (zL : mg "len" = none) (cC : C8.Cal P w K mg base 23 "_law_checked" spChecked []) : ∀ d, C8.Cal P w K mg base (23 + d) "_law_read_good" (spGood d) []
  | 0 => by
    obtain ⟨f', fd', ps, ds, hf, q⟩ := cC
    refine ⟨f, fd, ["_law_words_here"], [], ⟨fun vs H Q E h => ?_, fun A outer s H args us vs Q E _ _ _ _ h => ?_⟩, F.mgf, F.kp, b, .nil⟩
    · obtain ⟨t, _, _, h, _⟩ := h
      exact absurd h (Nat.not_lt_zero _)
    · obtain ⟨t, _, _, h, _⟩ := h
      exact absurd h (Nat.not_lt_zero _)
  | d + 1 => by
    have ih := ok_good F b zR zL cC d
    refine C8.cal0 F b .nil scGd (fun vs H Q E h => ?_) (fun cdv A outer s H vs Q E hr h => ?_)
    · obtain ⟨t, rfl, _⟩ := h
      rfl
    · obtain ⟨t, rfl, ht, hd, hlen, k⟩ := h
      refine ⟨_, pss_cons (ps_asg (pe_tup (pa_cons (pe_lst pa_nil) (pa_cons pe_str (pa_cons pe_int (pa_cons pe_int pa_nil))))) (pg_tup rfl (pgs_cons (pg_name (i := 1) scGd.nd rfl (Or.inl rfl)) (pgs_cons (pg_name (i := 2) scGd.nd rfl (Or.inl rfl)) (pgs_cons (pg_name (i := 3) scGd.nd rfl (Or.inl rfl)) (pgs_cons (pg_name (i := 4) scGd.nd rfl (Or.inl rfl)) pgs_nil))))))
        (pss_cons (ps_for PassesOwn.never rfl (pi_range1 (by rfl) zR (pa_cons (pe_callB call_len_str (by rfl) zL PySem.boot_len (pa_cons (pv 0) pa_nil)) pa_nil)) (pg_name (i := 5) scGd.nd rfl (Or.inl rfl))
          (C8.pss_cut (ps_if (pt_cmpR op_eq (pe_ix ix_str (pv 0) (pv 5) (fun _ _ => rfl)) pe_str (nomark _)) (pss_one (ps_set (i := 3) scGd.nd rfl (Or.inl rfl) (pe_op op_add (pv 3) pe_int))) pss_nil)
          (C8.pss_cut (ps_if (pt_cmpR op_eq (pe_ix ix_str (pv 0) (pv 5) (fun _ _ => rfl)) pe_str (nomark _)) (pss_one (ps_set (i := 3) scGd.nd rfl (Or.inl rfl) (pe_op op_sub (pv 3) pe_int))) pss_nil)
          (pss_one (ps_if (PW.pt (pw_and (pt_cmpR op_eq (pv 3) pe_int (nomark _)) (pw_and1 (pt_cmpR op_in_sign (pe_ix ix_str (pv 0) (pv 5) (fun _ _ => rfl)) pe_str rfl))))
            (pss_cons (ps_set (i := 2) scGd.nd rfl (Or.inl rfl) (pe_ix ix_str (pv 0) (pv 5) (fun _ _ => rfl)))
            (pss_cons (ps_expr (pe_bm PySem.F.plainAttrs_list PySem.F.slot_list_append PySem.F.type_list_append mt_append (pv 1) (pa_cons (pe_slice sl_str (pv 0) (po_some (pv 4)) (po_some (pe_op op_sub (pv 5) pe_int))) pa_nil)))
            (pss_one (ps_set (i := 4) scGd.nd rfl (Or.inl rfl) (pe_op op_add (pv 5) pe_int))))) pss_nil)))))
        (pss_cons (ps_expr (pe_bm PySem.F.plainAttrs_list PySem.F.slot_list_append PySem.F.type_list_append mt_append (pv 1) (pa_cons (pe_slice sl_str (pv 0) (po_some (pv 4)) po_none) pa_nil)))
        (pss_cons (ps_if (pt_cmpR op_eq (pv 2) pe_str (nomark _))
          (pss_one (ps_ret (pe_ifExp (pt_cmpR op_ne (pe_ix ix_str (pv 0) pe_int (fun _ _ => rfl)) pe_str (nomark _)) (pe_tup (pa_cons pe_str (pa_cons (pe_tup (pa_cons pe_str (pa_cons (pv 0) pa_nil))) pa_nil)))
            (C8.pe_c ih hr (Nat.le_refl _) (by rfl) (pa_cons (pe_slice sl_str (pv 0) (po_some pe_int) (po_some (pe_op op_sub (pe_callB call_len_str (by rfl) zL PySem.boot_len (pa_cons (pv 0) pa_nil)) pe_int))) pa_nil))))) pss_nil)
        (pss_cons (ps_set (i := 6) scGd.nd rfl (Or.inl rfl) (pe_lst pa_nil))
        (pss_cons (ps_for PassesOwn.never rfl (pi_list (pv 1)) (pg_name (i := 7) scGd.nd rfl (Or.inl rfl))
          (pss_cons (ps_set (i := 8) scGd.nd rfl (Or.inl rfl) (C8.pe_c ih hr (Nat.le_refl _) (by rfl) (pa_cons (pv 7) pa_nil)))
          (pss_cons (ps_if (pt_cmpR op_ne (pe_ix ix_tup (pv 8) pe_int (fun _ _ => rfl)) pe_str (nomark _)) (pss_one (ps_ret (pv 8))) pss_nil)
          (pss_one (ps_expr (pe_bm PySem.F.plainAttrs_list PySem.F.slot_list_append PySem.F.type_list_append mt_append (pv 6) (pa_cons (pe_ix ix_tup (pv 8) pe_int (fun _ _ => rfl)) pa_nil)))))))
        (pss_one (ps_ret (C8.pe_c cC hr (Nat.le_add_right 23 d) (by rfl) (pa_cons (pe_ifExp (pt_cmpR op_eq (pv 2) pe_str (nomark _)) pe_str pe_str) (pa_cons (pv 6) pa_nil)))))))))), ?_⟩
      have hxl : (SX.S t.text).length = t.text.length := SX.S_len _
      have hxs : (SX.S t.text).length ≤ sizeLine := by rw [hxl]; exact Nat.le_trans hlen (by decide)
      have hn : ((SX.S t.text).length : Int).toNat = t.text.length := by rw [hxl]; omega
      have es : ("" : Str) = SX.S [] := by decide +kernel
      refine ⟨by decide, fun m0 hm0 => ⟨(by show 4 ≤ sizeLine; decide), fun tp htp => ?_⟩⟩
      have hmt : m0 ≠ tp := fun e => by rw [← e, upd_same] at htp; cases htp
      have s0 : Same H (upd (upd H m0 (.lst [])) tp (.tup [.ref m0, .str "", .int 0, .int 0])) := same_add (same_new hm0) htp
      refine ⟨tp, _, rfl, SqT.of upd_same, rfl, _, _, rfl, _, _, rfl, _, _, rfl, _, _, rfl, rfl, ?_⟩
      have hat : ∀ {i c : Nat}, t.text[i]? = some c → atI (SX.S t.text).cps.toList (i : Int) = some c := fun h => atI_nat h
      refine ⟨_, rfl, _, rfl, hxs, _, rfl, by omega, by rw [hxl]; omega, for_it (walk_range (lo := 0)) (fun i σ H1 => ∃ (m : Addr) (rs : RS) (v5 : Option V), σ = [some (.str (SX.S t.text)), some (.ref m), some (.str (SX.S rs.mark)), some (.int rs.here), some (.int (rs.begun : Int)), v5, none, none, none] ∧ Same H H1 ∧ H m = none ∧ H1 m = some (.lst (rs.pcs.map fun z => V.str (SX.S z))) ∧ rs.pcs.length ≤ i ∧ rgo t.text (t.text.drop i) i rs = rgo t.text t.text 0 ⟨[], [], 0, 0⟩) ⟨m0, ⟨[], [], 0, 0⟩, none, by rw [← es]; rfl, s0, hm0, by rw [upd_ne hmt, upd_same]; rfl, Nat.le_refl _, by rw [List.drop_zero]⟩ (fun _ _ _ _ _ => trivial) ?_ ?_⟩
      · rintro i y σ H1 H2 hi ⟨m, rs, v5, rfl, sm, hm, hls, hpl, hgo⟩ ⟨rfl, hk⟩
        have hk2 : y = .int (i : Int) := hk.trans (congrArg V.int (Int.zero_add (i : Int)))
        subst hk2
        rw [hn] at hi
        have hc : t.text[i]? = some t.text[i] := List.getElem?_eq_getElem hi
        generalize t.text[i] = c at hc
        have hdrop : t.text.drop i = c :: t.text.drop (i + 1) := by
          obtain ⟨h1, h2⟩ := List.getElem?_eq_some_iff.mp hc
          rw [← h2]
          exact List.drop_eq_getElem_cons h1
        rw [hdrop, rgo] at hgo
        refine ⟨fun σ' Hc => σ' = [some (.str (SX.S t.text)), some (.ref m), some (.str (SX.S rs.mark)), some (.int (if c = 40 then rs.here + 1 else rs.here)), some (.int (rs.begun : Int)), some (.int (i : Int)), none, none, none] ∧ Hc = H2, ?_, ?_⟩
        · refine ⟨_, rfl, _, rfl, _, _, c, rfl, rfl, hxs, hat hc, rfl, _, rfl, ?_⟩
          rw [esg s_open]
          by_cases h40 : c = 40
          · rw [decide_eq_true h40, if_pos h40]
            refine iteT ?_
            exact ⟨_, rfl, _, _, rfl, rfl, rfl, rfl⟩
          · rw [decide_eq_false h40, if_neg h40]
            refine iteF ?_
            exact ⟨rfl, rfl⟩
        rintro σ' Hc ⟨rfl, rfl⟩
        refine ⟨fun σ' Hd => σ' = [some (.str (SX.S t.text)), some (.ref m), some (.str (SX.S rs.mark)), some (.int (if c = 41 then (if c = 40 then rs.here + 1 else rs.here) - 1 else if c = 40 then rs.here + 1 else rs.here)), some (.int (rs.begun : Int)), some (.int (i : Int)), none, none, none] ∧ Hd = Hc, ?_, ?_⟩
        · refine ⟨_, rfl, _, rfl, _, _, c, rfl, rfl, hxs, hat hc, rfl, _, rfl, ?_⟩
          rw [esg s_shut]
          by_cases h41 : c = 41
          · rw [decide_eq_true h41, if_pos h41]
            refine iteT ?_
            exact ⟨_, rfl, _, _, rfl, rfl, rfl, rfl⟩
          · rw [decide_eq_false h41, if_neg h41]
            refine iteF ?_
            exact ⟨rfl, rfl⟩
        rintro σ' Hd ⟨rfl, rfl⟩
        have hst := fun h e => rstep_eq (x := t.text) (k := i) (c := c) (s := rs) (h := h) e
        generalize (if c = 41 then (if c = 40 then rs.here + 1 else rs.here) - 1 else if c = 40 then rs.here + 1 else rs.here) = h2 at hst
        have hst := hst h2 rfl
        rw [hst] at hgo
        refine ⟨_, rfl, rfl, _, rfl, ?_⟩
        rw [ei]
        have no : ¬ (h2 = 0 ∧ (c = 38 ∨ c = 124)) → ∃ (m' : Addr) (rs' : RS) (v5 : Option V), [some (V.str (SX.S t.text)), some (.ref m), some (.str (SX.S rs.mark)), some (.int h2), some (.int (rs.begun : Int)), some (.int (i : Int)), none, none, none] = [some (.str (SX.S t.text)), some (.ref m'), some (.str (SX.S rs'.mark)), some (.int rs'.here), some (.int (rs'.begun : Int)), v5, none, none, none] ∧ Same H Hd ∧ H m' = none ∧ Hd m' = some (.lst (rs'.pcs.map fun z => V.str (SX.S z))) ∧ rs'.pcs.length ≤ i + 1 ∧ rgo t.text (t.text.drop (i + 1)) (i + 1) rs' = rgo t.text t.text 0 ⟨[], [], 0, 0⟩ := fun h => by
          rw [if_neg h] at hgo
          exact ⟨m, ⟨rs.pcs, rs.mark, h2, rs.begun⟩, _, rfl, sm, hm, hls, Nat.le_succ_of_le hpl, hgo⟩
        by_cases h0 : h2 = 0
        · rw [decide_eq_true h0]
          refine iteT ?_
          refine ⟨_, rfl, _, rfl, _, _, c, rfl, rfl, hxs, hat hc, c, _, rfl, rfl, _, rfl, ?_⟩
          rw [amp_bar]
          by_cases hsg : c = 38 ∨ c = 124
          · rw [decide_eq_true hsg]
            refine iteT ?_
            rw [if_pos ⟨h0, hsg⟩] at hgo
            have hi1 : 1 ≤ i := by
              cases i with
              | zero => exact absurd hsg (text_hd0 ht hc)
              | succ i => exact Nat.succ_le_succ (Nat.zero_le _)
            have ek : (i : Int) - 1 = ((i - 1 : Nat) : Int) := by omega
            refine ⟨_, rfl, _, rfl, _, _, c, rfl, rfl, hxs, hat hc, ?_⟩
            refine ⟨_, rfl, .inl ⟨rfl, _, SqL.of hls⟩, _, rfl, ⟨_, rfl, _, rfl, _, rfl, _, _, rfl, rfl, _, rfl, _, rfl, hxs, ?_⟩⟩
            rw [ek, cutS_mid]
            refine ⟨m, _, _, rfl, rfl, hls, ?_, ?_⟩
            · rw [List.length_map, sizeLine_eq]
              omega
            · refine ⟨_, rfl, _, _, rfl, rfl, ?_⟩
              refine ⟨m, _, _, rfl, fun b o q => ?_, hm, ?_, ?_, hgo⟩
              · rw [upd_ne (ne_of_none q hm)]
                exact sm b o q
              · rw [upd_same, List.map_append]
                rfl
              · show (rs.pcs ++ [_]).length ≤ i + 1
                rw [List.length_append]
                exact Nat.add_le_add_right hpl 1
          · rw [decide_eq_false hsg]
            refine iteF ?_
            exact no fun q => hsg q.2
        · rw [decide_eq_false h0]
          refine iteF ?_
          refine iteF ?_
          exact no fun q => h0 q.1
      · rintro σ H1 ⟨m, rs, v5, rfl, sm, hm, hls, hpl, hgo⟩
        rw [hn, List.drop_length, rgo] at hgo
        rw [hn] at hpl
        obtain ⟨bb, e1, e2⟩ := rgo_text ht
        rw [e1] at hgo
        subst hgo
        have hpl : (t.l.dropLast.map itext).length ≤ t.text.length := hpl
        have hll : t.l.length ≤ 20001 := by
          rw [List.length_map, List.length_dropLast] at hpl
          omega
        refine ⟨_, rfl, .inl ⟨rfl, _, SqL.of hls⟩, _, rfl, ⟨_, rfl, _, rfl, _, rfl, hxs, ?_⟩⟩
        rw [cutS_from]
        refine ⟨m, _, _, rfl, rfl, hls, ?_, ?_⟩
        · rw [List.length_map, sizeLine_eq]
          show (t.l.dropLast.map itext).length < _
          omega
        have epc : ((t.l.dropLast.map itext).map fun z => V.str (SX.S z)) ++ [V.str (SX.S (t.text.drop bb))] = (t.l.map itext).map fun z => V.str (SX.S z) := by
          rw [← e2, List.map_append]
          rfl
        have sm2 : Same H (upd H1 m (.lst (((t.l.dropLast.map itext).map fun z => V.str (SX.S z)) ++ [V.str (SX.S (t.text.drop bb))]))) := fun b o q => by
          rw [upd_ne (ne_of_none q hm)]
          exact sm b o q
        have hl2 : (upd H1 m (.lst (((t.l.dropLast.map itext).map fun z => V.str (SX.S z)) ++ [V.str (SX.S (t.text.drop bb))]))) m = some (.lst ((t.l.map itext).map fun z => V.str (SX.S z))) := by rw [upd_same, epc]
        generalize (upd H1 m (.lst (((t.l.dropLast.map itext).map fun z => V.str (SX.S z)) ++ [V.str (SX.S (t.text.drop bb))]))) = H2 at sm2 hl2
        clear e1 e2 epc hls sm
        have hok := ht.1
        have hpds := ht.2
        have hne := ok_ne ht.1
        rw [okI] at hok
        obtain ⟨hokl, hsgl⟩ := hok
        refine ⟨_, rfl, rfl, _, rfl, ?_⟩
        rw [es]
        by_cases h1 : t.l.length = 1
        · rw [if_pos h1, decide_eq_true rfl]
          refine iteT ?_
          obtain ⟨c', r', hhd, hc'⟩ := text_hd ht
          have hat0 : atI (SX.S t.text).cps.toList 0 = some c' := hat (i := 0) (by rw [hhd]; rfl)
          refine ⟨_, rfl, _, _, c', rfl, rfl, hxs, hat0, rfl, _, rfl, ?_⟩
          rw [esg s_open]
          have ht0 : t = itx (t.l.headD (.nm [])) := by
            obtain ⟨sg, l⟩ := t
            match l, h1 with
            | [i], _ =>
              rcases hsgl with q | q
              · have q1 : sg = 0 := q.1
                rw [q1]
                rfl
              · have q2 : 2 ≤ ([i] : List Itm).length := q.2
                exact absurd (show 2 ≤ 1 from q2) (by decide)
          generalize t.l.headD (.nm []) = it at ht0
          subst ht0
          have hoki : okI it := by
            rw [show (itx it).l = [it] from rfl, okL] at hokl
            exact hokl.1
          rw [itx_ev] at k
          rw [itx_text] at hhd
          cases it with
          | nm x =>
            rw [itext] at hhd
            have hcL : isL c' = true := by
              rw [okI] at hoki
              rw [hhd] at hoki
              exact hoki.2.2 c' List.mem_cons_self
            rw [decide_eq_false (isL_ne hcL (by decide))]
            refine iteT ?_
            refine ⟨_, rfl, (by show 2 ≤ sizeLine; decide), fun p hp => ⟨(by show 2 ≤ sizeLine; decide), fun q hq => ?_⟩⟩
            refine k _ _ (sm2.trans ((same_new hp).trans (same_new hq))) ?_
            rw [ev]
            refine ⟨q, _, rfl, upd_same, ?_⟩
            rw [NAt]
            refine ⟨p, rfl, ?_⟩
            rw [upd_ne (ne_of_none upd_same hq), upd_same, itx_text, itext]
          | par sg l =>
            rw [itext] at hhd
            injection hhd with hc1 hhd
            rw [decide_eq_true hc1.symm]
            refine iteF ?_
            have htl : (itx (.par sg l)).text = 40 :: (ltext sg l ++ [41]) := by rw [itx_text, itext]
            have hlen2 : (SX.S (itx (.par sg l)).text).length = (ltext sg l).length + 2 := by
              rw [hxl, htl, List.length_cons, List.length_append]
              rfl
            refine ⟨_, rfl, _, rfl, _, rfl, _, rfl, hxs, _, _, rfl, rfl, _, rfl, _, rfl, hxs, ?_⟩
            have e1 : (((SX.S (itx (.par sg l)).text).length : Int) - 1) = (((ltext sg l).length + 1 : Nat) : Int) := by rw [hlen2]; omega
            rw [e1, show (1 : Int) = ((1 : Nat) : Int) from rfl, cutS_mid, htl]
            have e3 : ((40 :: (ltext sg l ++ [41])).drop 1).take ((ltext sg l).length + 1 - 1) = ltext sg l := by
              rw [List.drop_succ_cons, List.drop_zero, Nat.add_sub_cancel, List.take_left']
              rfl
            rw [e3]
            have hpp : pds (itx (.par sg l)).l = pds l + 1 := by
              show pds [.par sg l] = _
              rw [pds, pds, pd]
              omega
            rw [hpp] at hpds
            refine ⟨⟨sg, l⟩, rfl, ⟨hoki, Nat.le_of_succ_le hpds⟩, ?_, ?_, fun v H' s' hv => k v H' (sm2.trans s') hv⟩
            · rw [itx_rm, pd] at hd
              show 2 * pds l + (if l.length = 1 then 0 else 1) < d
              split
              · omega
              · omega
            · rw [htl, List.length_cons, List.length_append] at hlen
              show (ltext sg l).length ≤ 20000
              omega
        · rw [if_neg h1]
          have hne2 : decide (V.str (SX.S [t.sg]) = V.str (SX.S [])) = false := decide_eq_false fun q => by
            injection q with q
            have := SX.S_inj q
            cases this
          rw [hne2]
          refine iteF ?_
          refine ⟨by decide, fun rn hrn => ?_⟩
          have hrnH : H rn = none := by
            cases e : H rn with
            | none => rfl
            | some o => rw [sm2 _ _ e] at hrn; cases hrn
          have hmr : m ≠ rn := ne_of_none hl2 hrn
          have hsg2 : (t.sg = 38 ∨ t.sg = 124) ∧ 2 ≤ t.l.length := hsgl.resolve_left fun q => h1 q.2
          have htev : t.ev = match evs t.l with
              | .error e => .error e
              | .ok ns => close t.sg ns := by
            unfold Tx.ev
            rw [ev]
            try (cases evs t.l <;> rfl)
          refine ⟨_, rfl, m, rfl, ⟨_, SqL.of (same_new hrn _ _ hl2)⟩, for_it (walk_list (xs := (t.l.map itext).map fun z => V.str (SX.S z))) (fun i σ H3 => ∃ (ns : List Nd) (vs : List V) (v5 v7 v8 : Option V), σ = [some (.str (SX.S t.text)), some (.ref m), some (.str (SX.S [t.sg])), some (.int 0), some (.int (bb : Int)), v5, some (.ref rn), v7, v8] ∧ Same H H3 ∧ H3 m = some (.lst ((t.l.map itext).map fun z => V.str (SX.S z))) ∧ H3 rn = some (.lst vs) ∧ NAts H3 ns vs ∧ evs (t.l.take i) = .ok ns) ⟨[], [], _, _, _, rfl, sm2.trans (same_new hrn), same_new hrn _ _ hl2, upd_same, NAts.nil, by rw [List.take_zero, evs]⟩ (fun i σ H3 _ pv => ?_) ?_ ?_⟩
          · obtain ⟨_, _, _, _, _, _, _, q, _⟩ := pv
            exact SqL.of q
          · rintro i y σ H3 H4 hi ⟨ns, vs, v5, v7, v8, rfl, sm3, hm3, hr3, hvs, hev⟩ ⟨rfl, hy⟩
            rw [List.getElem?_map, List.getElem?_map] at hy
            cases e : t.l[i]? with
            | none => rw [e] at hy; cases hy
            | some it =>
              rw [e] at hy
              obtain rfl : y = .str (SX.S (itext it)) := (Option.some.inj hy).symm
              have hmem := List.mem_of_getElem? e
              have hpd := pd_le hmem
              refine ⟨_, rfl, itx it, by rw [itx_text]; rfl, itx_ok (okL_mem hokl hmem) (by omega), ?_, ?_, fun v H5 s5 hv => ?_⟩
              · rw [itx_rm]
                unfold rm at hd
                rw [if_neg h1] at hd
                omega
              · rw [itx_text]
                exact Nat.le_trans (itext_le hmem) hlen
              · rw [itx_ev] at hv
                cases ee : ev it with
                | error b =>
                  rw [ee] at hv
                  obtain ⟨p, q, rfl, h1, h2⟩ := hv
                  refine ⟨_, rfl, p, _, 0, _, rfl, rfl, SqT.of h1, rfl, rfl, _, rfl, ?_⟩
                  refine iteT ?_
                  refine ⟨_, rfl, ?_⟩
                  refine k _ _ (sm3.trans s5) ?_
                  rw [htev, evs_err hev e ee]
                  exact ⟨p, q, rfl, h1, h2⟩
                | ok n =>
                  rw [ee] at hv
                  obtain ⟨p, u, rfl, h1, h2⟩ := hv
                  refine ⟨_, rfl, p, _, 0, _, rfl, rfl, SqT.of h1, rfl, rfl, _, rfl, ?_⟩
                  refine iteF ?_
                  have hr5 := s5 _ _ hr3
                  refine ⟨_, rfl, .inl ⟨rfl, _, SqL.of hr5⟩, _, rfl, p, _, 1, _, rfl, rfl, SqT.of h1, rfl, rn, _, _, rfl, rfl, hr5, ?_, ?_⟩
                  · rw [hvs.len, evs_len hev, List.length_take, sizeLine_eq]
                    have := Nat.min_le_right i t.l.length
                    omega
                  · have mono : ∀ b xs', H5 b = some (.tup xs') → upd H5 rn (.lst (vs ++ [u])) b = some (.tup xs') := tup_upd hr5
                    refine ⟨ns ++ [n], vs ++ [u], _, _, _, rfl, fun b o q => ?_, by rw [upd_ne hmr]; exact s5 _ _ hm3, upd_same, (NAts.mono mono _ _ (hvs.same s5)).app (NAts.cons (NAt.mono mono _ _ h2) NAts.nil), ?_⟩
                    · rw [upd_ne (ne_of_none q hrnH)]
                      exact s5 _ _ (sm3 b o q)
                    · rw [take_snoc e]
                      exact evs_snoc hev ee
          · rintro σ H3 ⟨ns, vs, v5, v7, v8, rfl, sm3, hm3, hr3, hvs, hev⟩
            rw [List.length_map, List.length_map, List.take_length] at hev
            have hc1 := evs_can _ _ hokl hev
            have hc2 := evs_ne hne hev
            have hc3 := evs_len hev
            rw [hev] at htev
            have htev : t.ev = close t.sg ns := htev
            refine ⟨_, rfl, rfl, _, rfl, ?_⟩
            rw [s_amp]
            have e38 : decide (V.str (SX.S [t.sg]) = V.str (SX.S [38])) = decide (t.sg = 38) := esg (c := t.sg) rfl
            rw [e38]
            rcases hsg2.1 with q | q
            · rw [decide_eq_true q]
              refine iteT ?_
              refine ⟨_, rfl, true, rn, ns, vs, rfl, hr3, hvs, hc1, hc2, by omega, fun v H' s' hv => k v H' (sm3.trans s') ?_⟩
              rw [htev]
              unfold close
              rw [if_pos q]
              exact hv
            · rw [decide_eq_false (by omega)]
              refine iteF ?_
              refine ⟨_, rfl, false, rn, ns, vs, rfl, hr3, hvs, hc1, hc2, by omega, fun v H' s' hv => k v H' (sm3.trans s') ?_⟩
              rw [htev]
              unfold close
              rw [if_neg (by omega), if_pos q]
              exact hv
end
end Pe
set_option Elab.async false
set_option maxRecDepth 100000
set_option maxHeartbeats 8000000
/-! the law's own reading of any value; what is told of a circle -/
namespace Pe
open PySem PySem.Spec PyProof.Rows L2
theorem TyX.same {K : PySem.W.Frag} {H H' : Hp} {v : V} {t : Value} (s : Same H H') (h : TyX K H v t) : TyX K H' v t := by
  cases h with
  | base b =>
    cases b with
    | non => exact .base .non
    | bl y => exact .base (.bl y)
    | int i => exact .base (.int i)
    | str y => exact .base (.str y)
    | flt y => exact .base (.flt y)
    | lst e => exact .base (.lst (s _ _ e))
    | frz e => exact .base (.frz (s _ _ e))
    | tup e => exact .base (.tup (s _ _ e))
    | dK e => exact .base (.dK (s _ _ e))
    | dT e => exact .base (.dT (s _ _ e))
    | ins e cl ha hn htk hm => exact .base (.ins (s _ _ e) cl ha hn htk hm)
  | byt y => exact .byt y
  | set e => exact .set (s _ _ e)
  | kList e c => exact .kList e c
  | kTuple e c => exact .kTuple e c
  | kDict e c => exact .kDict e c
  | fTuple e => exact .fTuple (s _ _ e)
  | fDict e => exact .fDict (s _ _ e)
/-- what comes of reading: the place where it goes wrong, or the reading -/
abbrev Out := Sum Int (Except Bool Nd)
/-- v is a text, or no text at all; o comes of it -/
def ThO (K : PySem.W.Frag) (H : Hp) (v : V) (o : Out) : Prop :=
  (∃ x : L, v = .str (SX.S x) ∧ x.length ≤ 20000 ∧ ((∃ t : Tx, t.ok ∧ x = t.text ∧ (scanRes x).2 = true ∧ o = .inr t.ev) ∨ ((scanRes x).2 = false ∧ o = .inl ((scanRes x).1 : Int)))) ∨
  (∃ ty, TyX K H v ty ∧ PySem.W.kitOne K ty (.type "str") = some false ∧ o = .inl (-1))
theorem ThO.same {K : PySem.W.Frag} {H H' : Hp} {v : V} {o : Out} (s : Same H H') (h : ThO K H v o) : ThO K H' v o := by
  rcases h with h | ⟨ty, h1, h2, h3⟩
  · exact .inl h
  · exact .inr ⟨ty, TyX.same s h1, h2, h3⟩
theorem tho_text (K : PySem.W.Frag) (H : Hp) {x : L} (h : x.length ≤ 20000) : ∃ o, ThO K H (.str (SX.S x)) o := by
  cases e : (scanRes x).2 with
  | true =>
    obtain ⟨t, h1, h2⟩ := whole_of e
    exact ⟨_, .inl ⟨x, rfl, h, .inl ⟨t, h1, h2, e, rfl⟩⟩⟩
  | false => exact ⟨_, .inl ⟨x, rfl, h, .inr ⟨e, rfl⟩⟩⟩
/-- what is due -/
def DueT (H : Hp) (o : Out) (v : V) : Prop := match o with
  | .inl k => ∃ p q, v = .ref p ∧ H p = some (.tup [.str "InvalidText", .ref q]) ∧ H q = some (.tup [.int k])
  | .inr r => RdT H r v
/-- what is found -/
def FndT (C : Addr) (H : Hp) (o : Out) (v : V) : Prop := match o with
  | .inl k => ∃ p q, v = .ref p ∧ H p = some (.tup [.str "InvalidText", .ref q]) ∧ H q = some (.tup [.int k])
  | .inr (.error b) => ∃ p q, v = .ref p ∧ H p = some (.tup [.str "TooMany", .ref q]) ∧ H q = some (.tup (mbV b))
  | .inr (.ok n) => ∃ p a, v = .ref p ∧ H p = some (.tup [.str "", .ref a]) ∧ CAt C H n a
theorem RdT.same {H H' : Hp} {r : Except Bool Nd} {v : V} (s : Same H H') (h : RdT H r v) : RdT H' r v := by
  cases r with
  | error b =>
    obtain ⟨p, q, e, h1, h2⟩ := h
    exact ⟨p, q, e, s _ _ h1, s _ _ h2⟩
  | ok n =>
    obtain ⟨p, u, e, h1, h2⟩ := h
    exact ⟨p, u, e, s _ _ h1, h2.same s⟩
theorem DueT.same {H H' : Hp} {o : Out} {v : V} (s : Same H H') (h : DueT H o v) : DueT H' o v := by
  cases o with
  | inl k =>
    obtain ⟨p, q, e, h1, h2⟩ := h
    exact ⟨p, q, e, s _ _ h1, s _ _ h2⟩
  | inr r => exact RdT.same s h
abbrev sLRead : Stmt := top 57
def spLRead (K : PySem.W.Frag) : Sp := fun vs H Q _ => ∃ (v : V) (o : Out), vs = [v] ∧ ThO K H v o ∧ ∀ u H', Same H H' → DueT H' o u → Q u H'
theorem rm_42 {t : Tx} (h : t.ok) : rm t < 42 := by
  have := h.2
  unfold rm
  split <;> omega
section
variable {P : Program} {w : World} {K : PySem.W.Frag} {mg : Str → Option Value} {base : Heap} {f : Addr} {fd : FuncData}
abbrev nLr : List Str := ["_law_thing", "_law_spot", "_law_whole"]
theorem scLr : FnScope nLr ["_law_thing"] (C8.fnScope sLRead) := C8.fnScope_by (by decide +kernel)
theorem ok_lread (F : C8.Def K mg "_law_read" sLRead f fd) (b : Binds K fd ["_law_thing"] []) (z1 : mg "isinstance" = none) (z2 : mg "str" = none) (cS : C8.Cal P w K mg base 1 "_law_scan" spScan []) (cG : C8.Cal P w K mg base 65 "_law_read_good" (spGood 42) []) :
    C8.Cal P w K mg base 66 "_law_read" (spLRead K) [] := by
  refine C8.cal0 F b .nil scLr (fun vs H Q E h => ?_) (fun cdv A outer s H vs Q E hr h => ?_)
  · obtain ⟨_, _, rfl, _⟩ := h
    rfl
  · obtain ⟨v, o, rfl, hth, k⟩ := h
    refine ⟨_, pss_cons (ps_if (pt_not (pt_val (pe_callB call_isi (by rfl) z1 (by decide +kernel) (pa_cons (pv 0) (pa_cons (pe_bltn (v := .ty "str") (by rfl) z2 (by decide +kernel) rfl) pa_nil)))))
        (pss_one (ps_ret (pe_tup (pa_cons pe_str (pa_cons (pe_tup (pa_cons (pe_un un_neg pe_int) pa_nil)) pa_nil))))) pss_nil)
      (pss_cons (ps_asg (C8.pe_c cS hr (by decide) (by rfl) (pa_cons (pv 0) pa_nil)) (pg_tup rfl (pgs_cons (pg_name (i := 1) scLr.nd rfl (Or.inl rfl)) (pgs_cons (pg_name (i := 2) scLr.nd rfl (Or.inl rfl)) pgs_nil))))
      (pss_one (ps_ret (pe_ifExp (pt_val (pv 2)) (C8.pe_c cG hr (by decide) (by rfl) (pa_cons (pv 0) pa_nil)) (pe_tup (pa_cons pe_str (pa_cons (pe_tup (pa_cons (pv 1) pa_nil)) pa_nil))))))), ?_⟩
    rcases hth with ⟨x, rfl, hx, h⟩ | ⟨ty, hty, hk, rfl⟩
    · refine ⟨_, rfl, .str (SX.S x), .ty "str", _, _, true, rfl, .ty _, .base (.str _), kit_ty (by decide +kernel), _, rfl, ?_⟩
      refine iteF ?_
      refine ⟨_, rfl, x, rfl, hx, fun p H1 s1 hp => ?_⟩
      refine ⟨p, _, rfl, SqT.of hp, rfl, _, _, rfl, _, _, rfl, rfl, ?_⟩
      rcases h with ⟨t, ht, rfl, hw, rfl⟩ | ⟨hw, rfl⟩
      · refine ⟨_, rfl, _, rfl, ?_⟩
        rw [hw]
        refine iteT ?_
        exact ⟨_, rfl, t, rfl, ht, rm_42 ht, hx, fun u H2 s2 hu => k u H2 (s1.trans s2) hu⟩
      · refine ⟨_, rfl, _, rfl, ?_⟩
        rw [hw]
        refine iteF ?_
        refine ⟨_, rfl, (by show 1 ≤ sizeLine; decide), fun p hp => ⟨(by show 2 ≤ sizeLine; decide), fun q hq => ?_⟩⟩
        exact k _ _ (s1.trans ((same_new hp).trans (same_new hq))) ⟨q, p, rfl, upd_same, by rw [upd_ne (ne_of_none upd_same hq), upd_same]⟩
    · refine ⟨_, rfl, v, .ty "str", _, _, false, rfl, .ty _, hty, hk, _, rfl, ?_⟩
      refine iteT ?_
      refine ⟨_, rfl, (by show 1 ≤ sizeLine; decide), fun p hp => ⟨(by show 2 ≤ sizeLine; decide), fun q hq => ?_⟩⟩
      exact k _ _ ((same_new hp).trans (same_new hq)) ⟨q, p, rfl, upd_same, by rw [upd_ne (ne_of_none upd_same hq), upd_same]⟩
end
end Pe
set_option Elab.async false
set_option maxRecDepth 100000
set_option maxHeartbeats 8000000
/-! what the law tells of a circle, what it holds due -/
namespace Pe
open PySem PySem.Spec PyProof.Rows L2
abbrev sTold : Stmt := top 49
abbrev sDue : Stmt := top 50
def crc (w : L) : L := [67, 105, 114, 99, 108, 101, 40] ++ w ++ [41]
def T9 (n : Nd) (e p1 p2 : Addr) : List V := [.str (kdN n), .str (nmN n), .int (size n : Int), .int (depth n : Int), .ref e, .str (SX.S (words n)), .str (SX.S (crc (words n))), .ref p1, .ref p2]
def Told9 (H : Hp) (n : Nd) (v : V) : Prop := ∃ (l e p1 p2 : Addr) (ys : List Str), v = .ref l ∧ H l = some (.lst (T9 n e p1 p2)) ∧ H e = some (.lst (ys.map V.str)) ∧ NamesOf ys (leaves n) ∧
  H p1 = some (.lst ((kids n).map fun m => V.str (SX.S (words m)))) ∧ H p2 = some (.lst ((kids n).map fun m => V.str (kdN m)))
def spTold (C : Addr) : Sp := fun vs H Q _ => ∃ (n : Nd) (a : Addr), vs = [.ref a] ∧ CAt C H n a ∧ can n ∧ ∀ v H', Same H H' → Told9 H' n v → Q v H'
def spDue : Sp := fun vs H Q _ => ∃ (n : Nd) (u : V), vs = [u] ∧ NAt H n u ∧ can n ∧ ∀ v H', Same H H' → Told9 H' n v → Q v H'
theorem kids_can {n : Nd} (h : can n) : cans (kids n) := (wn_can h).1
theorem kids_60 {n : Nd} (h : can n) : (kids n).length ≤ 60 := by
  cases n with
  | eye x => rw [kids]; exact Nat.zero_le _
  | nd b l =>
    have h1 := flat1_len (b := b) h
    rw [flat1, if_pos rfl] at h1
    exact h1
section
variable {P : Program} {w : World} {K : PySem.W.Frag} {mg : Str → Option Value} {base : Heap} {C : Addr} {f : Addr} {fd : FuncData}
abbrev nTd : List Str := ["_law_c", "_law_x"]
theorem scTd : FnScope nTd ["_law_c"] (C8.fnScope sTold) := C8.fnScope_by (by decide +kernel)
theorem ok_told (F : C8.Def K mg "_law_told_of" sTold f fd) (b : Binds K fd ["_law_c"] []) (T : CiT K mg C) (z1 : mg "str" = none) (z2 : mg "repr" = none) (mE : C8.Met P w K mg base 1 C "eyes" (spEyes C) []) (mP : C8.Met P w K mg base 1 C "parts" (spParts C) []) (mS : C8.Met P w K mg base 1 C "__str__" (spStr C) []) (mR : C8.Met P w K mg base 1 C "__repr__" (spRepr C) []) :
    C8.Cal P w K mg base 4 "_law_told_of" (spTold C) [] := by
  refine C8.cal0 F b .nil scTd (fun vs H Q E h => ?_) (fun cdv A outer s H vs Q E hr h => ?_)
  · obtain ⟨_, _, rfl, _⟩ := h
    rfl
  · obtain ⟨n, a, rfl, ct, hcan, k⟩ := h
    refine ⟨_, pss_one (ps_ret (pe_lst (pa_cons (pe_fld (pv 0) rfl) (pa_cons (pe_fld (pv 0) rfl) (pa_cons (pe_fld (pv 0) rfl) (pa_cons (pe_fld (pv 0) rfl) (pa_cons (C8.pe_mt0 mE hr (by decide) (pv 0))
      (pa_cons (pe_callTy (call_strO mS hr) (by rfl) z1 (by decide +kernel) (pa_cons (pv 0) pa_nil))
      (pa_cons (pe_callB (call_reprO mR (hr.mono (by decide))) (by rfl) z2 (by decide +kernel) (pa_cons (pv 0) pa_nil))
      (pa_cons (pe_lc (own := [("_law_x", 1)]) (g := gName 1) (tt := tYes) (te := tCB (rOwnS C (spStr C)) (tCons (tVar 1) tNil)) rfl scTd.nd (pi_list (C8.pe_mt0 mP hr (by decide) (pv 0))) (blkOk_by (N := nTd) (sc := C8.fnScope sTold) (by decide +kernel))
          (fun _ _ _ _ _ => pg_name (i := 1) scTd.nd rfl (Or.inl rfl)) (fun _ _ _ _ _ => pts_nil) (fun _ _ _ _ _ => pe_callTy (call_strO mS hr) (by rfl) z1 (by decide +kernel) (pa_cons (pv 1) pa_nil)))
      (pa_cons (pe_lc (own := [("_law_x", 1)]) (g := gName 1) (tt := tYes) (te := tFld K (tVar 1) ("kind" : Str)) rfl scTd.nd (pi_list (C8.pe_mt0 mP hr (by decide) (pv 0))) (blkOk_by (N := nTd) (sc := C8.fnScope sTold) (by decide +kernel))
          (fun _ _ _ _ _ => pg_name (i := 1) scTd.nd rfl (Or.inl rfl)) (fun _ _ _ _ _ => pts_nil) (fun _ _ _ _ _ => pe_fld (pv 1) rfl)) pa_nil))))))))))), ?_⟩
    obtain ⟨as, ⟨dx, r, p, ys, q1, q2, q3, q4⟩, cs⟩ := ct.top
    refine ⟨_, rfl, a, C, dx, _, _, rfl, q1, T.cl, T.nKind, rfl, ?_⟩
    refine ⟨_, rfl, a, C, dx, _, _, rfl, q1, T.cl, T.nName, rfl, ?_⟩
    refine ⟨_, rfl, a, C, dx, _, _, rfl, q1, T.cl, T.nSize, rfl, ?_⟩
    refine ⟨_, rfl, a, C, dx, _, _, rfl, q1, T.cl, T.nDepth, rfl, ?_⟩
    refine ⟨_, rfl, a, dx, _, rfl, q1, rfl, a, dx, p, _, _, rfl, q1, rfl, q3, fun e he => ?_⟩
    have s1 := same_new (o := .lst (ys.map V.str)) he
    have e1 : upd H e (.lst (ys.map V.str)) e = some (.lst (ys.map V.str)) := upd_same
    generalize upd H e (.lst (ys.map V.str)) = H1 at s1 e1
    have hw := w_1000 hcan
    refine ⟨_, rfl, a, dx, _, rfl, s1 _ _ q1, a, dx, _, _, rfl, s1 _ _ q1, rfl, _, rfl, ?_⟩
    refine ⟨_, rfl, a, dx, _, rfl, s1 _ _ q1, a, dx, _, words n, rfl, s1 _ _ q1, rfl, Nat.le_trans hw (by decide), _, rfl, ?_⟩
    have hlen := cs.len
    have ll := kids_60 hcan
    have getp : ∀ {Hd : Hp}, Same H Hd → ∀ {i : Nat} {y : V}, (as.map V.ref)[i]? = some y → ∃ m ai, (kids n)[i]? = some m ∧ y = .ref ai ∧ CAt C Hd m ai := fun {Hd} kp {i y} e => by
      rw [List.getElem?_map] at e
      cases e2 : as[i]? with
      | none => rw [e2] at e; cases e
      | some ai =>
        rw [e2] at e
        obtain rfl : y = .ref ai := (Option.some.inj e).symm
        have hi : i < (kids n).length := by
          rw [← hlen]
          exact (List.getElem?_eq_some_iff.mp e2).1
        obtain ⟨aj, e3, c⟩ := cs.get (List.getElem?_eq_getElem hi)
        rw [e2] at e3
        cases e3
        exact ⟨_, ai, List.getElem?_eq_getElem hi, rfl, c.same kp⟩
    refine ⟨_, rfl, a, dx, _, rfl, s1 _ _ q1, rfl, a, dx, r, _, _, rfl, s1 _ _ q1, rfl, s1 _ _ q2, fun l1 hl1 => ⟨l1, rfl, ⟨_, SqL.of upd_same⟩, ?_⟩⟩
    have s2 := s1.trans (same_new (o := .lst (as.map V.ref)) hl1)
    have e2 := same_new (o := .lst (as.map V.ref)) hl1 _ _ e1
    have g1 : upd H1 l1 (.lst (as.map V.ref)) l1 = some (.lst (as.map V.ref)) := upd_same
    generalize upd H1 l1 (.lst (as.map V.ref)) = H2 at s2 e2 g1
    refine fun D hD => lc_it (walk_list (xs := as.map V.ref)) (fun i H3 => Same H2 H3 ∧ H3 D = some (.lst (((kids n).take i).map fun m => V.str (SX.S (words m))))) ⟨same_new hD, upd_same⟩ (fun i H3 _ pv => SqL.of (pv.1 _ _ g1)) ?_ ?_
    · rintro i y H3 H4 hi ⟨sm, hD1⟩ ⟨rfl, hy⟩
      obtain ⟨m, ai, hm, rfl, cm⟩ := getp (s2.trans sm) hy
      obtain ⟨as', ⟨dx', r', p', ys', q1', _⟩, _⟩ := cm.top
      exact ⟨rfl, _, rfl, ai, dx', _, rfl, q1', ai, dx', _, _, rfl, q1', rfl, _, rfl, lc_put (g := fun m => V.str (SX.S (words m))) hD sm (Same.refl _) hD1 hm (Nat.le_trans ll (by decide))⟩
    · intro H3 ⟨sm, hD1⟩
      rw [List.length_map, hlen, List.take_length] at hD1
      have s3 := s2.trans sm
      have e3 := sm _ _ e2
      refine ⟨_, rfl, a, dx, _, rfl, s3 _ _ q1, rfl, a, dx, r, _, _, rfl, s3 _ _ q1, rfl, s3 _ _ q2, fun l2 hl2 => ⟨l2, rfl, ⟨_, SqL.of upd_same⟩, ?_⟩⟩
      have s4 := s3.trans (same_new (o := .lst (as.map V.ref)) hl2)
      have e4 := same_new (o := .lst (as.map V.ref)) hl2 _ _ e3
      have d4 := same_new (o := .lst (as.map V.ref)) hl2 _ _ hD1
      have g2 : upd H3 l2 (.lst (as.map V.ref)) l2 = some (.lst (as.map V.ref)) := upd_same
      generalize upd H3 l2 (.lst (as.map V.ref)) = H5 at s4 e4 d4 g2
      refine fun D2 hD2 => lc_it (walk_list (xs := as.map V.ref)) (fun i H3 => Same H5 H3 ∧ H3 D2 = some (.lst (((kids n).take i).map fun m => V.str (kdN m)))) ⟨same_new hD2, upd_same⟩ (fun i H3 _ pv => SqL.of (pv.1 _ _ g2)) ?_ ?_
      · rintro i y H6 H7 hi ⟨sm6, hD6⟩ ⟨rfl, hy⟩
        obtain ⟨m, ai, hm, rfl, cm⟩ := getp (s4.trans sm6) hy
        obtain ⟨as', ⟨dx', r', p', ys', q1', _⟩, _⟩ := cm.top
        exact ⟨rfl, _, rfl, ai, C, dx', _, _, rfl, q1', T.cl, T.nKind, rfl, lc_put (g := fun m => V.str (kdN m)) hD2 sm6 (Same.refl _) hD6 hm (Nat.le_trans ll (by decide))⟩
      · intro H6 ⟨sm6, hD6⟩
        rw [List.length_map, hlen, List.take_length] at hD6
        refine ⟨(by show 9 ≤ sizeLine; decide), fun l hl => ?_⟩
        have s7 := same_new (o := .lst (T9 n e D D2)) hl
        exact k (.ref l) _ (s4.trans (sm6.trans s7)) ⟨l, e, D, D2, ys, rfl, upd_same, s7 _ _ (sm6 _ _ e4), q4, s7 _ _ (sm6 _ _ d4), s7 _ _ hD6⟩
def isEye : Nd → Bool
  | .eye _ => true
  | .nd _ _ => false
theorem kdN_eye2 (n : Nd) : decide (V.str (kdN n) = V.str ("eye" : Str)) = isEye n := by
  rw [kdN_eye]
  cases n <;> rfl
theorem cc_S1 (w : L) : ("Circle(" : Str) ++ SX.S w = SX.S ([67, 105, 114, 99, 108, 101, 40] ++ w) := by
  have e : ("Circle(" : Str) = SX.S [67, 105, 114, 99, 108, 101, 40] := by decide +kernel
  rw [e, SX.S_cat]
theorem cc_S (w : L) : ("Circle(" : Str) ++ SX.S w ++ (")" : Str) = SX.S (crc w) := by
  have e : (")" : Str) = SX.S [41] := by decide +kernel
  rw [cc_S1, e, SX.S_cat]; rfl
abbrev nDu : List Str := ["_law_node", "_law_words_here", "_law_small", "_law_due", "_law_nodes", "_law_x"]
theorem scDu : FnScope nDu ["_law_node"] (C8.fnScope sDue) := C8.fnScope_by (by decide +kernel)
theorem ok_due (F : C8.Def K mg "_law_due_of" sDue f fd) (b : Binds K fd ["_law_node"] []) (zL : mg "list" = none) (zO : mg "sorted" = none) (zE : mg "set" = none) (cW : C8.Cal P w K mg base 22 "_law_words" (spWords 22) []) (cS : C8.Cal P w K mg base 22 "_law_size" (spSize 22) []) (cD : C8.Cal P w K mg base 22 "_law_depth" (spDepth 22) []) (cL : C8.Cal P w K mg base 22 "_law_leaves" (spLeaves 22) []) :
    C8.Cal P w K mg base 23 "_law_due_of" spDue [] := by
  refine C8.cal0 F b .nil scDu (fun vs H Q E h => ?_) (fun cdv A outer s H vs Q E hr h => ?_)
  · obtain ⟨_, _, rfl, _⟩ := h
    rfl
  · obtain ⟨n, u, rfl, hn, hcan, k⟩ := h
    refine ⟨_, pss_cons (ps_par (i := 1) (j := 2) rfl scDu.nd rfl rfl (by decide) rfl rfl (pa_cons (C8.pe_c cW hr (by decide) (by rfl) (pa_cons (pv 0) pa_nil)) (pa_cons (pe_cmpR op_eq (pe_ix ix_tup (pv 0) pe_int (fun _ _ => rfl)) pe_str (nomark _)) pa_nil)) (by rfl))
      (C8.pss_cut (ps_set (i := 3) scDu.nd rfl (Or.inl rfl) (pe_lst (pa_cons (pe_ix ix_tup (pv 0) pe_int (fun _ _ => rfl)) (pa_cons (pe_ifExp (pt_val (pv 2)) (pe_ix ix_tup (pv 0) pe_int (fun _ _ => rfl)) pe_str)
          (pa_cons (C8.pe_c cS hr (by decide) (by rfl) (pa_cons (pv 0) pa_nil)) (pa_cons (C8.pe_c cD hr (by decide) (by rfl) (pa_cons (pv 0) pa_nil))
          (pa_cons (pe_callB (cr_sortX rfl) (by rfl) zO (by decide +kernel) (pa_cons (pe_callTy (cr_setX rfl) (by rfl) zE (by decide +kernel) (pa_cons (C8.pe_c cL hr (by decide) (by rfl) (pa_cons (pv 0) pa_nil)) pa_nil)) pa_nil)) (pa_cons (pv 1) pa_nil))))))))
      (C8.pss_cut (ps_set (i := 4) scDu.nd rfl (Or.inl rfl) (pe_ifExp (pt_val (pv 2)) (pe_lst pa_nil) (pe_callTy call_list_of (by rfl) zL (by decide +kernel) (pa_cons (pe_ix ix_tup (pv 0) pe_int (fun _ _ => rfl)) pa_nil))))
      (pss_one (ps_ret (pe_op op_cat (pv 3) (pe_lst (pa_cons (pe_op op_add_str (pe_op op_add_str pe_str (pv 1)) pe_str)
        (pa_cons (pe_lc (own := [("_law_x", 5)]) (g := gName 5) (tt := tYes) (te := tCall (spWords 22) [] C8.E0 (tCons (tVar 5) tNil)) rfl scDu.nd (pi_list (pv 4)) (blkOk_by (N := nDu) (sc := C8.fnScope sDue) (by decide +kernel))
          (fun _ _ _ _ _ => pg_name (i := 5) scDu.nd rfl (Or.inl rfl)) (fun _ _ _ _ _ => pts_nil) (fun _ _ _ _ _ => C8.pe_c cW hr (by decide) (by rfl) (pa_cons (pv 5) pa_nil)))
        (pa_cons (pe_lc (own := [("_law_x", 5)]) (g := gName 5) (tt := tYes) (te := tOp (rIxT K) (tVar 5) (tC (.int 0))) rfl scDu.nd (pi_list (pv 4)) (blkOk_by (N := nDu) (sc := C8.fnScope sDue) (by decide +kernel))
          (fun _ _ _ _ _ => pg_name (i := 5) scDu.nd rfl (Or.inl rfl)) (fun _ _ _ _ _ => pts_nil) (fun _ _ _ _ _ => pe_ix ix_tup (pv 5) pe_int (fun _ _ => rfl))) pa_nil))))))))), ?_⟩
    have hd := can_depth hcan
    have hw := w_1000 hcan
    have h60 := can_size hcan
    obtain ⟨p, u1, rfl, hp⟩ := hn.top
    refine ⟨_, rfl, n, _, rfl, hn, by omega, hcan, fun H1 s1 => ?_⟩
    refine ⟨_, rfl, p, _, 0, _, rfl, rfl, SqT.of (s1 _ _ hp), rfl, rfl, _, _, rfl, ?_⟩
    rw [kdN_eye2]
    refine ⟨fun σ' Hc => ∃ (d e : Addr) (ys : List Str), σ' = [some (.ref p), some (.str (SX.S (words n))), some (.bl (isEye n)), some (.ref d), none, none] ∧ Same H Hc ∧ Hc d = some (.lst [.str (kdN n), .str (nmN n), .int (size n : Int), .int (depth n : Int), .ref e, .str (SX.S (words n))]) ∧ Hc e = some (.lst (ys.map V.str)) ∧ NamesOf ys (leaves n), ?_, ?_⟩
    · refine ⟨_, rfl, p, _, 0, _, rfl, rfl, SqT.of (s1 _ _ hp), rfl, _, rfl, _, rfl, ?_⟩
      refine ite2 (fun hc => ?_) (fun hc => ?_)
      · have hu : u1 = .str (nmN n) := by
          cases n with
          | eye x =>
            rw [NAt] at hn
            obtain ⟨p', e, h1⟩ := hn
            cases e
            rw [hp] at h1
            injection h1 with h1
            injection h1 with h1
            injection h1 with _ h1
            injection h1
          | nd b l => cases hc
        subst hu
        refine ⟨_, rfl, p, _, 1, _, rfl, rfl, SqT.of (s1 _ _ hp), rfl, ?_⟩
        refine ⟨_, rfl, n, _, rfl, hn.same s1, by omega, wn_can hcan, fun H2 s2 => ?_⟩
        have sn2 := s1.trans s2
        refine ⟨_, rfl, n, _, rfl, hn.same sn2, by omega, wn_can hcan, fun b l q => by subst q; exact can_nd hcan, fun H3 s3 => ?_⟩
        have sn3 := sn2.trans s3
        refine ⟨_, rfl, n, _, rfl, hn.same sn3, by omega, hcan, fun l H4 s4 hl4 => ?_⟩
        have sn4 := sn3.trans s4
        have hl4' : H4 l = some (.lst (((leaves n).map SX.S).map V.str)) := by rw [hl4, List.map_map]; rfl
        refine ⟨l, _, rfl, SqL.of hl4', by rw [List.length_map, leaves_len]; omega, fun q2 c hq2 hc => ?_⟩
        refine ⟨q2, _, c, rfl, upd_same, by rw [List.length_map, leaves_len] at hc; omega, fun ys q3 y1 y2 y3 hq3 => ?_⟩
        refine ⟨_, rfl, (by show 6 ≤ sizeLine; decide), fun dd hdd => ?_⟩
        have sa := same_new (o := SetXO w q2 (fun y => decide (y ∈ (leaves n).map SX.S)) c) hq2
        have sb := same_new (o := .lst (ys.map V.str)) hq3
        have sc := same_new (o := .lst [.str (kdN n), .str (nmN n), .int (size n : Int), .int (depth n : Int), .ref q3, .str (SX.S (words n))]) hdd
        exact ⟨dd, q3, ys, rfl, sn4.trans (sa.trans (sb.trans sc)), upd_same, sc _ _ upd_same, ⟨y1, y2, fun y => by rw [y3 y, decide_eq_true_eq]⟩⟩
      · have hu : ("" : Str) = nmN n := by
          cases n with
          | eye x => exact absurd rfl hc
          | nd b l => rfl
        show tC (V.str ("" : Str)) _ _ _
        rw [hu]
        refine ⟨_, rfl, n, _, rfl, hn.same s1, by omega, wn_can hcan, fun H2 s2 => ?_⟩
        have sn2 := s1.trans s2
        refine ⟨_, rfl, n, _, rfl, hn.same sn2, by omega, wn_can hcan, fun b l q => by subst q; exact can_nd hcan, fun H3 s3 => ?_⟩
        have sn3 := sn2.trans s3
        refine ⟨_, rfl, n, _, rfl, hn.same sn3, by omega, hcan, fun l H4 s4 hl4 => ?_⟩
        have sn4 := sn3.trans s4
        have hl4' : H4 l = some (.lst (((leaves n).map SX.S).map V.str)) := by rw [hl4, List.map_map]; rfl
        refine ⟨l, _, rfl, SqL.of hl4', by rw [List.length_map, leaves_len]; omega, fun q2 c hq2 hc => ?_⟩
        refine ⟨q2, _, c, rfl, upd_same, by rw [List.length_map, leaves_len] at hc; omega, fun ys q3 y1 y2 y3 hq3 => ?_⟩
        refine ⟨_, rfl, (by show 6 ≤ sizeLine; decide), fun dd hdd => ?_⟩
        have sa := same_new (o := SetXO w q2 (fun y => decide (y ∈ (leaves n).map SX.S)) c) hq2
        have sb := same_new (o := .lst (ys.map V.str)) hq3
        have sc := same_new (o := .lst [.str (kdN n), .str (nmN n), .int (size n : Int), .int (depth n : Int), .ref q3, .str (SX.S (words n))]) hdd
        exact ⟨dd, q3, ys, rfl, sn4.trans (sa.trans (sb.trans sc)), upd_same, sc _ _ upd_same, ⟨y1, y2, fun y => by rw [y3 y, decide_eq_true_eq]⟩⟩
    · rintro σ' H5 ⟨d, e, ys, rfl, s5, hd5, he5, hys⟩
      refine ⟨fun σ' Hc => ∃ (l : Addr) (vs : List V), σ' = [some (.ref p), some (.str (SX.S (words n))), some (.bl (isEye n)), some (.ref d), some (.ref l), none] ∧ Same H5 Hc ∧ Hc l = some (.lst vs) ∧ NAts Hc (kids n) vs, ?_, ?_⟩
      · refine ⟨_, rfl, _, rfl, ?_⟩
        refine ite2 (fun hc => ?_) (fun hc => ?_)
        · refine ⟨by decide, fun l hl => ⟨l, [], rfl, same_new hl, upd_same, ?_⟩⟩
          cases n with
          | eye x => exact NAts.nil
          | nd b l => cases hc
        · cases n with
          | eye x => exact absurd rfl hc
          | nd b l =>
            rw [NAt] at hn
            obtain ⟨p', q', vs, e', h1, h2, h3⟩ := hn
            cases e'
            exact ⟨_, rfl, p, _, 1, _, rfl, rfl, SqT.of (s5 _ _ h1), rfl, q', vs, rfl, .inr (SqT.of (s5 _ _ h2)), fun l' hl' => ⟨l', vs, rfl, same_new hl', upd_same, h3.same (s5.trans (same_new hl'))⟩⟩
      · rintro σ' H6 ⟨l, vs, rfl, s6, hl6, hvs⟩
        have ll := kids_60 hcan
        have kc := kids_can hcan
        refine ⟨_, rfl, _, rfl, _, _, rfl, rfl, ?_, _, _, rfl, rfl, ?_, ?_⟩
        · rw [SX.S_len]
          exact Nat.le_trans (Nat.add_le_add_left hw _) (by decide +kernel)
        · rw [cc_S1, SX.S_len, List.length_append]
          exact Nat.le_trans (Nat.add_le_add_right (Nat.add_le_add_left hw _) _) (by decide +kernel)
        rw [cc_S]
        refine ⟨_, rfl, l, rfl, ⟨_, SqL.of hl6⟩, fun D hD => lc_it (walk_list (xs := vs)) (fun i H3 => Same H6 H3 ∧ H3 D = some (.lst (((kids n).take i).map fun m => V.str (SX.S (words m))))) ⟨same_new hD, upd_same⟩ (fun i H3 _ pv => SqL.of (pv.1 _ _ hl6)) ?_ ?_⟩
        · rintro i y H3 H4 hi ⟨sm, hD1⟩ ⟨rfl, hy⟩
          obtain ⟨m, hm, hnm⟩ := (hvs.same sm).get hy
          have hcm := cans_mem kc (List.mem_of_getElem? hm)
          have := can_depth hcm
          exact ⟨rfl, _, rfl, m, _, rfl, hnm, by omega, hcm, fun H7 s7 => lc_put (g := fun m => V.str (SX.S (words m))) hD sm s7 hD1 hm (Nat.le_trans ll (by decide))⟩
        · intro H7 ⟨s7, hD7⟩
          rw [hvs.len, List.take_length] at hD7
          refine ⟨_, rfl, l, rfl, ⟨_, SqL.of (s7 _ _ hl6)⟩, fun D2 hD2 => lc_it (walk_list (xs := vs)) (fun i H3 => Same H7 H3 ∧ H3 D2 = some (.lst (((kids n).take i).map fun m => V.str (kdN m)))) ⟨same_new hD2, upd_same⟩ (fun i H3 _ pv => SqL.of (pv.1 _ _ (s7 _ _ hl6))) ?_ ?_⟩
          · rintro i y H3 H4 hi ⟨sm, hD1⟩ ⟨rfl, hy⟩
            obtain ⟨m, hm, hnm⟩ := (hvs.same (s7.trans sm)).get hy
            obtain ⟨pm, um, rfl, hpm⟩ := hnm.top
            exact ⟨rfl, _, rfl, pm, _, 0, _, rfl, rfl, SqT.of hpm, rfl, lc_put (g := fun m => V.str (kdN m)) hD2 sm (Same.refl _) hD1 hm (Nat.le_trans ll (by decide))⟩
          · intro H8 ⟨s8, hD8⟩
            rw [hvs.len, List.take_length] at hD8
            refine ⟨(by show 3 ≤ sizeLine; decide), fun l2 hl2 => ?_⟩
            have s9 := same_new (o := .lst [.str (SX.S (crc (words n))), .ref D, .ref D2]) hl2
            have s59 := s6.trans (s7.trans (s8.trans s9))
            refine ⟨d, l2, _, _, rfl, rfl, s59 _ _ hd5, upd_same, (by show 9 ≤ sizeLine; decide), fun l3 hl3 => ?_⟩
            have s10 := same_new (o := .lst (T9 n e D D2)) hl3
            exact k (.ref l3) _ (s5.trans (s59.trans s10)) ⟨l3, e, D, D2, ys, rfl, upd_same, s10 _ _ (s59 _ _ he5), hys, s10 _ _ (s9 _ _ (s8 _ _ hD7)), s10 _ _ (s9 _ _ hD8)⟩
end
end Pe
set_option Elab.async false
set_option maxRecDepth 100000
set_option maxHeartbeats 8000000
/-! the law's own comparison -/
namespace Pe
open PySem PySem.Spec PyProof.Rows L2 RZ
mutual
/-- v is the data d, all of it laid by the law -/
def Dat (H : Hp) : PyData → V → Prop
  | .none, _ => False
  | .bool b, v => v = .bl b
  | .int i, v => v = .int i
  | .str x, v => v = .str x
  | .list ds, v => ∃ a xs, v = .ref a ∧ H a = some (.lst xs) ∧ xs.length ≤ 100000 ∧ Dats H ds xs
  | .tuple ds, v => ∃ a xs, v = .ref a ∧ H a = some (.tup xs) ∧ xs.length ≤ 100000 ∧ Dats H ds xs
  | .dict _, _ => False
def Dats (H : Hp) : List PyData → List V → Prop
  | [], vs => vs = []
  | d :: r, vs => ∃ v vs', vs = v :: vs' ∧ Dat H d v ∧ Dats H r vs'
end
mutual
theorem Dat.same {H H' : Hp} (s : Same H H') : ∀ (d : PyData) (v : V), Dat H d v → Dat H' d v
  | .none, v, h => by
    rw [Dat] at h
    exact h.elim
  | .bool b, v, h => by
    rw [Dat] at h ⊢
    exact h
  | .int b, v, h => by
    rw [Dat] at h ⊢
    exact h
  | .str b, v, h => by
    rw [Dat] at h ⊢
    exact h
  | .list ds, v, h => by
    rw [Dat] at h ⊢
    obtain ⟨a, xs, e, h1, h2, h3⟩ := h
    exact ⟨a, xs, e, s _ _ h1, h2, Dats.same s ds xs h3⟩
  | .tuple ds, v, h => by
    rw [Dat] at h ⊢
    obtain ⟨a, xs, e, h1, h2, h3⟩ := h
    exact ⟨a, xs, e, s _ _ h1, h2, Dats.same s ds xs h3⟩
  | .dict _, v, h => by
    rw [Dat] at h
    exact h.elim
theorem Dats.same {H H' : Hp} (s : Same H H') : ∀ (ds : List PyData) (vs : List V), Dats H ds vs → Dats H' ds vs
  | [], vs, h => by
    rw [Dats] at h ⊢
    exact h
  | d :: r, vs, h => by
    rw [Dats] at h ⊢
    obtain ⟨v, vs', e, h1, h2⟩ := h
    exact ⟨v, vs', e, Dat.same s d v h1, Dats.same s r vs' h2⟩
end
theorem Dats.len {H : Hp} : ∀ {ds : List PyData} {vs : List V}, Dats H ds vs → vs.length = ds.length
  | [], vs, h => by
    rw [Dats] at h
    rw [h]; rfl
  | d :: r, vs, h => by
    rw [Dats] at h
    obtain ⟨v, vs', rfl, h1, h2⟩ := h
    rw [List.length_cons, List.length_cons, Dats.len h2]
theorem Dats.get {H : Hp} : ∀ {ds : List PyData} {vs : List V}, Dats H ds vs → ∀ {i : Nat} {v : V}, vs[i]? = some v → ∃ d, ds[i]? = some d ∧ Dat H d v
  | [], vs, h, i, v, e => by
    rw [Dats] at h
    rw [h] at e
    simp at e
  | m :: r, vs, h, 0, v, e => by
    rw [Dats] at h
    obtain ⟨u, vs', rfl, h1, h2⟩ := h
    simp at e
    subst e
    exact ⟨m, rfl, h1⟩
  | m :: r, vs, h, i + 1, v, e => by
    rw [Dats] at h
    obtain ⟨u, vs', rfl, h1, h2⟩ := h
    simp at e
    obtain ⟨n, e1, e2⟩ := Dats.get h2 e
    exact ⟨n, by simpa using e1, e2⟩
theorem depthAll_le : ∀ {ds : List PyData} {d : PyData}, d ∈ ds → d.depth ≤ PyData.depthAll ds
  | [], _, h => by cases h
  | a :: r, d, h => by
    rw [PyData.depthAll]
    rcases List.mem_cons.mp h with e | e
    · rw [e]; omega
    · have := depthAll_le e
      omega
theorem walk_zipT {K : PySem.W.Frag} {a b : Addr} {xs ys : List V} {n : Nat} (hn : n = min xs.length ys.length) : Walk (ItzT K a b) n (fun H => SqT K H a xs ∧ SqT K H b ys) (YPair (fun i => xs[i]?) (fun i => ys[i]?)) := by
  subst hn
  refine ⟨fun i _ hi q => ?_, fun _ q => ⟨xs, ys, q.1, q.2, by omega⟩, fun i H v H' _ q y => ?_⟩
  · have h1 : i < xs.length := by omega
    have h2 : i < ys.length := by omega
    exact ⟨xs, ys, xs[i], ys[i], q.1, q.2, by simp [h1], by simp [h2]⟩
  · obtain ⟨T, x, z, h1, h2, h3, h4, h5⟩ := y
    exact ⟨T, x, z, h1, h2, h3, h4 xs q.1, h5 ys q.2⟩
abbrev sSame : Stmt := top 38
def spSame (d : Nat) : Sp := fun vs H Q _ => ∃ (D : PyData) (v u : V), vs = [v, u] ∧ Dat H D v ∧ Dat H D u ∧ D.depth < d ∧ ∀ H', Same H H' → Q (.bl true) H'
section
variable {P : Program} {w : World} {K : PySem.W.Frag} {mg : Str → Option Value} {base : Heap} {f : Addr} {fd : FuncData}
abbrev nSm : List Str := ["_law_found", "_law_due", "_law_x", "_law_y", "_law_mark"]
theorem scSm : FnScope nSm ["_law_found", "_law_due"] (C8.fnScope sSame) := C8.fnScope_by (by decide +kernel)
theorem ok_same (F : C8.Def K mg "_law_same" sSame f fd) (b : Binds K fd ["_law_found", "_law_due"] []) (zI : mg "isinstance" = none) (zl : mg "list" = none) (zt : mg "tuple" = none) (zd : mg "dict" = none) (zb : mg "bool" = none) (zi : mg "int" = none) (zs : mg "str" = none) (zA : mg "all" = none) (zZ : mg "zip" = none) (zL : mg "len" = none) : ∀ d, C8.Cal P w K mg base d "_law_same" (spSame d) []
  | 0 => cal_false F b fun vs H Q E h => by
    obtain ⟨D, v, u, _, _, _, hd, _⟩ := h
    exact absurd hd (Nat.not_lt_zero _)
  | d + 1 => by
    have ih := ok_same F b zI zl zt zd zb zi zs zA zZ zL d
    refine C8.cal0 F b .nil scSm (fun vs H Q E h => ?_) (fun cdv A outer s H vs Q E hr h => ?_)
    · obtain ⟨D, v, u, rfl, _⟩ := h
      rfl
    · obtain ⟨D, v, u, rfl, hv, hu, hd, k⟩ := h
      refine ⟨_, pss_cons (ps_if (PW.pt (pw_or (pt_cmpR op_isN1 (pv 1) pe_non rfl) (pw_or1 (pt_cmpR op_isN1 (pv 0) pe_non rfl)))) pss_never pss_nil)
        (pss_cons (ps_if (pt_val (pe_callB call_isiT (by rfl) zI (by decide +kernel) (pa_cons (pv 1) (pa_cons (pe_tup (pa_cons (pe_bltn (v := .ty "list") (by rfl) zl (by decide +kernel) rfl) (pa_cons (pe_bltn (v := .ty "tuple") (by rfl) zt (by decide +kernel) rfl) pa_nil))) pa_nil))))
          (pss_cons (ps_if (PW.pt (pw_or (pt_cmpR op_ne (pe_callB call_isi (by rfl) zI (by decide +kernel) (pa_cons (pv 0) (pa_cons (pe_bltn (v := .ty "list") (by rfl) zl (by decide +kernel) rfl) pa_nil))) (pe_callB call_isi (by rfl) zI (by decide +kernel) (pa_cons (pv 1) (pa_cons (pe_bltn (v := .ty "list") (by rfl) zl (by decide +kernel) rfl) pa_nil))) (nomark _))
              (pw_or1 (pt_cmpR op_ne (pe_callB call_isi (by rfl) zI (by decide +kernel) (pa_cons (pv 0) (pa_cons (pe_bltn (v := .ty "tuple") (by rfl) zt (by decide +kernel) rfl) pa_nil))) (pe_callB call_isi (by rfl) zI (by decide +kernel) (pa_cons (pv 1) (pa_cons (pe_bltn (v := .ty "tuple") (by rfl) zt (by decide +kernel) rfl) pa_nil))) (nomark _))))) pss_never pss_nil)
          (pss_one (ps_ret (pe_and (pe_cmpR op_eq (pe_callB call_len_seq (by rfl) zL PySem.boot_len (pa_cons (pv 0) pa_nil)) (pe_callB call_len_seq (by rfl) zL PySem.boot_len (pa_cons (pv 1) pa_nil)) (nomark _))
            (pe_one (pe_callB (cr_all rfl) (by rfl) zA (by decide +kernel) (pa_cons (pe_lc (own := [("_law_x", 2), ("_law_y", 3)]) (g := gTup K 2 (gCons (gName 2) (gCons (gName 3) gNil))) (tt := tYes) (te := tCall (spSame d) [] C8.E0 (tCons (tVar 2) (tCons (tVar 3) tNil)))
              rfl scSm.nd (pi_zipA (by rfl) zZ (pa_cons (pv 0) (pa_cons (pv 1) pa_nil))) (blkOk_by (N := nSm) (sc := C8.fnScope sSame) (by decide +kernel))
              (fun _ _ _ _ _ => pg_tup rfl (pgs_cons (pg_name (i := 2) scSm.nd rfl (Or.inl rfl)) (pgs_cons (pg_name (i := 3) scSm.nd rfl (Or.inl rfl)) pgs_nil))) (fun _ _ _ _ _ => pts_nil)
              (fun _ _ _ _ _ => C8.pe_c ih hr (Nat.le_refl _) (by rfl) (pa_cons (pv 2) (pa_cons (pv 3) pa_nil)))) pa_nil))))))) pss_nil)
        (pss_cons (ps_if (pt_val (pe_callB call_isi (by rfl) zI (by decide +kernel) (pa_cons (pv 1) (pa_cons (pe_bltn (v := .ty "dict") (by rfl) zd (by decide +kernel) rfl) pa_nil)))) pss_never pss_nil)
        (pss_cons (ps_if (PW.pt (pw_or (pt_cmpR op_ne (pe_callB call_isi (by rfl) zI (by decide +kernel) (pa_cons (pv 1) (pa_cons (pe_bltn (v := .ty "bool") (by rfl) zb (by decide +kernel) rfl) pa_nil))) (pe_callB call_isi (by rfl) zI (by decide +kernel) (pa_cons (pv 0) (pa_cons (pe_bltn (v := .ty "bool") (by rfl) zb (by decide +kernel) rfl) pa_nil))) (nomark _))
              (pw_or1 (pt_cmpR op_ne (pe_callB call_isi (by rfl) zI (by decide +kernel) (pa_cons (pv 1) (pa_cons (pe_bltn (v := .ty "int") (by rfl) zi (by decide +kernel) rfl) pa_nil))) (pe_callB call_isi (by rfl) zI (by decide +kernel) (pa_cons (pv 0) (pa_cons (pe_bltn (v := .ty "int") (by rfl) zi (by decide +kernel) rfl) pa_nil))) (nomark _))))) pss_never pss_nil)
        (pss_one (ps_ret (pe_and (pe_cmpR op_eq (pe_callB call_isi (by rfl) zI (by decide +kernel) (pa_cons (pv 1) (pa_cons (pe_bltn (v := .ty "str") (by rfl) zs (by decide +kernel) rfl) pa_nil))) (pe_callB call_isi (by rfl) zI (by decide +kernel) (pa_cons (pv 0) (pa_cons (pe_bltn (v := .ty "str") (by rfl) zs (by decide +kernel) rfl) pa_nil))) (nomark _))
          (pe_one (pe_cmpR op_eq (pv 0) (pv 1) (nomark _))))))))), ?_⟩
      have flat : (∃ (T : String) (b1 b2 b3 : Bool), kitB T "list" = some false ∧ kitB T "tuple" = some false ∧ kitB T "dict" = some false ∧ kitB T "bool" = some b1 ∧ kitB T "int" = some b2 ∧ kitB T "str" = some b3 ∧ (∀ H', TyX K H' v (.type T)) ∧ v = u ∧ scal v u = true ∧ v ≠ .non) ∨ (∃ ds, D = .list ds) ∨ (∃ ds, D = .tuple ds) := by
        cases D with
        | none =>
          rw [Dat] at hv
          exact hv.elim
        | dict _ =>
          rw [Dat] at hv
          exact hv.elim
        | list ds => exact .inr (.inl ⟨_, rfl⟩)
        | tuple ds => exact .inr (.inr ⟨_, rfl⟩)
        | bool x =>
          rw [Dat] at hv hu
          subst hv hu
          exact .inl ⟨"bool", true, true, false, by decide +kernel, by decide +kernel, by decide +kernel, by decide +kernel, by decide +kernel, by decide +kernel, fun _ => .base (.bl _), rfl, rfl, fun z => nomatch z⟩
        | int x =>
          rw [Dat] at hv hu
          subst hv hu
          exact .inl ⟨"int", false, true, false, by decide +kernel, by decide +kernel, by decide +kernel, by decide +kernel, by decide +kernel, by decide +kernel, fun _ => .base (.int _), rfl, rfl, fun z => nomatch z⟩
        | str x =>
          rw [Dat] at hv hu
          subst hv hu
          exact .inl ⟨"str", false, false, true, by decide +kernel, by decide +kernel, by decide +kernel, by decide +kernel, by decide +kernel, by decide +kernel, fun _ => .base (.str _), rfl, rfl, fun z => nomatch z⟩
      rcases flat with ⟨T, b1, b2, b3, k1, k2, k3, k4, k5, k6, ty, rfl, hsc, hnn⟩ | ⟨ds, rfl⟩ | ⟨ds, rfl⟩
      · refine ⟨_, rfl, rfl, _, rfl, ?_⟩
        rw [decide_eq_false hnn]
        refine iteF ?_
        refine ⟨_, rfl, rfl, _, rfl, ?_⟩
        rw [decide_eq_false hnn]
        refine iteF ?_
        refine ⟨_, rfl, (by show 2 ≤ sizeLine; decide), fun tp htp => ⟨_, tp, _, _, _, false, rfl, upd_same, .cons (.ty _) (.cons (.ty _) .nil), ty _, kitAny_cons (b := false) (kit_ty k1) (fun _ => kitAny_cons (b := false) (kit_ty k2) (fun _ => kitAny_nil) (fun z => nomatch z)) (fun z => nomatch z), _, rfl, ?_⟩⟩
        have s1 := same_new (o := .tup [.ty "list", .ty "tuple"]) htp
        generalize upd H tp (.tup [.ty "list", .ty "tuple"]) = H1 at s1
        refine iteF ?_
        refine ⟨_, rfl, _, .ty "dict", _, _, false, rfl, .ty _, ty _, kit_ty k3, _, rfl, ?_⟩
        refine iteF ?_
        refine ⟨_, rfl, _, .ty "bool", _, _, b1, rfl, .ty _, ty _, kit_ty k4, _, rfl, _, .ty "bool", _, _, b1, rfl, .ty _, ty _, kit_ty k4, rfl, _, rfl, ?_⟩
        rw [decide_eq_true rfl]
        refine iteF ?_
        refine ⟨_, rfl, _, .ty "int", _, _, b2, rfl, .ty _, ty _, kit_ty k5, _, rfl, _, .ty "int", _, _, b2, rfl, .ty _, ty _, kit_ty k5, rfl, _, rfl, ?_⟩
        rw [decide_eq_true rfl]
        refine iteF ?_
        refine ⟨_, rfl, _, .ty "str", _, _, b3, rfl, .ty _, ty _, kit_ty k6, _, rfl, _, .ty "str", _, _, b3, rfl, .ty _, ty _, kit_ty k6, rfl, _, rfl, ?_⟩
        rw [decide_eq_true rfl]
        refine iteT ?_
        refine ⟨_, rfl, _, rfl, hsc, ?_⟩
        rw [decide_eq_true rfl]
        exact k H1 s1
      ·
        rw [Dat] at hv hu
        obtain ⟨a, xs, rfl, ha, hxl, hxs⟩ := hv
        obtain ⟨c, ys, rfl, hc, hyl, hys⟩ := hu
        refine ⟨_, rfl, rfl, _, rfl, ?_⟩
        refine iteF ?_
        refine ⟨_, rfl, rfl, _, rfl, ?_⟩
        refine iteF ?_
        refine ⟨_, rfl, (by show 2 ≤ sizeLine; decide), fun tp htp => ⟨_, tp, _, _, _, true, rfl, upd_same, .cons (.ty _) (.cons (.ty _) .nil), .base (.lst (same_new htp _ _ hc)), kitAny_cons (b := true) (kit_ty (by decide +kernel)) (fun z => nomatch z) (fun _ => rfl), _, rfl, ?_⟩⟩
        have s1 := same_new (o := .tup [.ty "list", .ty "tuple"]) htp
        generalize upd H tp (.tup [.ty "list", .ty "tuple"]) = H1 at s1
        refine iteT ?_
        refine ⟨_, rfl, _, .ty "list", _, _, true, rfl, .ty _, .base (.lst (s1 _ _ ha)), kit_ty (by decide +kernel), _, rfl, _, .ty "list", _, _, true, rfl, .ty _, .base (.lst (s1 _ _ hc)), kit_ty (by decide +kernel), rfl, _, rfl, ?_⟩
        refine iteF ?_
        refine ⟨_, rfl, _, .ty "tuple", _, _, false, rfl, .ty _, .base (.lst (s1 _ _ ha)), kit_ty (by decide +kernel), _, rfl, _, .ty "tuple", _, _, false, rfl, .ty _, .base (.lst (s1 _ _ hc)), kit_ty (by decide +kernel), rfl, _, rfl, ?_⟩
        refine iteF ?_
        refine ⟨_, rfl, a, xs, rfl, .inl (SqL.of (s1 _ _ ha)), _, rfl, c, ys, rfl, .inl (SqL.of (s1 _ _ hc)), rfl, _, rfl, ?_⟩
        have hl1 := Dats.len hxs
        have hl2 := Dats.len hys
        rw [decide_eq_true (by rw [hl1, hl2])]
        refine iteT ?_
        refine ⟨_, rfl, _, rfl, a, c, xs, ys, rfl, .inl ⟨SqL.of (s1 _ _ ha), SqL.of (s1 _ _ hc), fun Dd hD => lc_it (walk_zip (xs := xs) (ys := ys) rfl) (fun i H2 => Same H1 H2 ∧ H2 Dd = some (.lst ((ds.take i).map fun _ => V.bl true))) ⟨same_new hD, upd_same⟩ (fun i H2 _ pv => ⟨SqL.of (pv.1 _ _ (s1 _ _ ha)), SqL.of (pv.1 _ _ (s1 _ _ hc))⟩) ?_ ?_⟩⟩
        · rintro i y H2 H3 hi ⟨sm, hD1⟩ ⟨T, x, y', rfl, hT, rfl, hx, hy⟩
          obtain ⟨d1, hd1, hx1⟩ := Dats.get (Dats.same (s1.trans sm) _ _ hxs) hx
          obtain ⟨d2, hd2, hy1⟩ := Dats.get (Dats.same (s1.trans sm) _ _ hys) hy
          rw [hd1] at hd2
          cases hd2
          have sT := same_new (o := .tup [x, y']) hT
          have hdp := depthAll_le (List.mem_of_getElem? hd1)
          rw [PyData.depth] at hd
          refine ⟨T, _, rfl, SqT.of upd_same, rfl, _, _, rfl, _, _, rfl, rfl, rfl, _, rfl, _, rfl, d1, x, y', rfl, Dat.same sT _ _ hx1, Dat.same sT _ _ hy1, by omega, fun H4 s4 => ?_⟩
          exact lc_put (g := fun _ => V.bl true) hD sm (sT.trans s4) hD1 hd1 (by omega)
        · intro H2 ⟨sm, hD1⟩
          rw [hl1, hl2, Nat.min_self, List.take_length] at hD1
          refine ⟨Dd, ds.map fun _ => true, rfl, SqL.of (by rw [hD1, List.map_map]; rfl), ?_⟩
          have e : (ds.map fun _ => true).all id = true := by
            rw [List.all_map]
            exact List.all_eq_true.mpr fun _ _ => rfl
          rw [e]
          exact k H2 (s1.trans sm)
      ·
        rw [Dat] at hv hu
        obtain ⟨a, xs, rfl, ha, hxl, hxs⟩ := hv
        obtain ⟨c, ys, rfl, hc, hyl, hys⟩ := hu
        refine ⟨_, rfl, rfl, _, rfl, ?_⟩
        refine iteF ?_
        refine ⟨_, rfl, rfl, _, rfl, ?_⟩
        refine iteF ?_
        refine ⟨_, rfl, (by show 2 ≤ sizeLine; decide), fun tp htp => ⟨_, tp, _, _, _, true, rfl, upd_same, .cons (.ty _) (.cons (.ty _) .nil), .base (.tup (same_new htp _ _ hc)), kitAny_cons (b := false) (kit_ty (by decide +kernel)) (fun _ => kitAny_cons (b := true) (kit_ty (by decide +kernel)) (fun z => nomatch z) (fun _ => rfl)) (fun z => nomatch z), _, rfl, ?_⟩⟩
        have s1 := same_new (o := .tup [.ty "list", .ty "tuple"]) htp
        generalize upd H tp (.tup [.ty "list", .ty "tuple"]) = H1 at s1
        refine iteT ?_
        refine ⟨_, rfl, _, .ty "list", _, _, false, rfl, .ty _, .base (.tup (s1 _ _ ha)), kit_ty (by decide +kernel), _, rfl, _, .ty "list", _, _, false, rfl, .ty _, .base (.tup (s1 _ _ hc)), kit_ty (by decide +kernel), rfl, _, rfl, ?_⟩
        refine iteF ?_
        refine ⟨_, rfl, _, .ty "tuple", _, _, true, rfl, .ty _, .base (.tup (s1 _ _ ha)), kit_ty (by decide +kernel), _, rfl, _, .ty "tuple", _, _, true, rfl, .ty _, .base (.tup (s1 _ _ hc)), kit_ty (by decide +kernel), rfl, _, rfl, ?_⟩
        refine iteF ?_
        refine ⟨_, rfl, a, xs, rfl, .inr (SqT.of (s1 _ _ ha)), _, rfl, c, ys, rfl, .inr (SqT.of (s1 _ _ hc)), rfl, _, rfl, ?_⟩
        have hl1 := Dats.len hxs
        have hl2 := Dats.len hys
        rw [decide_eq_true (by rw [hl1, hl2])]
        refine iteT ?_
        refine ⟨_, rfl, _, rfl, a, c, xs, ys, rfl, .inr ⟨SqT.of (s1 _ _ ha), SqT.of (s1 _ _ hc), fun Dd hD => lc_it (walk_zipT (xs := xs) (ys := ys) rfl) (fun i H2 => Same H1 H2 ∧ H2 Dd = some (.lst ((ds.take i).map fun _ => V.bl true))) ⟨same_new hD, upd_same⟩ (fun i H2 _ pv => ⟨SqT.of (pv.1 _ _ (s1 _ _ ha)), SqT.of (pv.1 _ _ (s1 _ _ hc))⟩) ?_ ?_⟩⟩
        · rintro i y H2 H3 hi ⟨sm, hD1⟩ ⟨T, x, y', rfl, hT, rfl, hx, hy⟩
          obtain ⟨d1, hd1, hx1⟩ := Dats.get (Dats.same (s1.trans sm) _ _ hxs) hx
          obtain ⟨d2, hd2, hy1⟩ := Dats.get (Dats.same (s1.trans sm) _ _ hys) hy
          rw [hd1] at hd2
          cases hd2
          have sT := same_new (o := .tup [x, y']) hT
          have hdp := depthAll_le (List.mem_of_getElem? hd1)
          rw [PyData.depth] at hd
          refine ⟨T, _, rfl, SqT.of upd_same, rfl, _, _, rfl, _, _, rfl, rfl, rfl, _, rfl, _, rfl, d1, x, y', rfl, Dat.same sT _ _ hx1, Dat.same sT _ _ hy1, by omega, fun H4 s4 => ?_⟩
          exact lc_put (g := fun _ => V.bl true) hD sm (sT.trans s4) hD1 hd1 (by omega)
        · intro H2 ⟨sm, hD1⟩
          rw [hl1, hl2, Nat.min_self, List.take_length] at hD1
          refine ⟨Dd, ds.map fun _ => true, rfl, SqL.of (by rw [hD1, List.map_map]; rfl), ?_⟩
          have e : (ds.map fun _ => true).all id = true := by
            rw [List.all_map]
            exact List.all_eq_true.mpr fun _ _ => rfl
          rw [e]
          exact k H2 (s1.trans sm)
end
end Pe
set_option Elab.async false
set_option maxRecDepth 100000
set_option maxHeartbeats 8000000
/-! the law's own as, try -/
namespace Pe
open PySem PySem.Spec PyProof.Rows L2
abbrev sAs : Stmt := top 51
abbrev sTry : Stmt := top 39
def outCan : Out → Prop
  | .inr (.ok n) => can n
  | _ => True
def spAs (C : Addr) : Sp := fun vs H Q _ => ∃ (o : Out) (v u : V), vs = [v, u] ∧ FndT C H o v ∧ DueT H o u ∧ outCan o ∧ ∀ H', Same H H' → Q (.bl true) H'
def TD (n : Nd) (ys : List Str) : PyData := .list [.str (kdN n), .str (nmN n), .int (size n : Int), .int (depth n : Int), .list (ys.map PyData.str), .str (SX.S (words n)), .str (SX.S (crc (words n))), .list ((kids n).map fun m => PyData.str (SX.S (words m))), .list ((kids n).map fun m => PyData.str (kdN m))]
theorem dats_str {α : Type} {H : Hp} (g : α → Str) : ∀ l : List α, Dats H (l.map fun a => PyData.str (g a)) (l.map fun a => V.str (g a))
  | [] => by
    show Dats H [] []
    rw [Dats]
  | a :: r => by
    show Dats H (PyData.str (g a) :: r.map fun a => PyData.str (g a)) (V.str (g a) :: r.map fun a => V.str (g a))
    rw [Dats]
    exact ⟨_, _, rfl, by rw [Dat], dats_str g r⟩
theorem depthAll_str {α : Type} (g : α → Str) : ∀ l : List α, PyData.depthAll (l.map fun a => PyData.str (g a)) = 0
  | [] => by
    show PyData.depthAll [] = 0
    rw [PyData.depthAll]
  | a :: r => by
    show PyData.depthAll (PyData.str (g a) :: r.map fun a => PyData.str (g a)) = 0
    rw [PyData.depthAll, PyData.depth, depthAll_str g r]
    rfl
theorem td_depth (n : Nd) (ys : List Str) : (TD n ys).depth < 4 := by
  unfold TD
  simp only [PyData.depth, PyData.depthAll]
  have e := depthAll_str (fun y : Str => y) ys
  have e : PyData.depthAll (ys.map PyData.str) = 0 := e
  rw [e, depthAll_str, depthAll_str]
  decide
theorem told_dat {H : Hp} {n : Nd} {v : V} (hc : can n) (h : Told9 H n v) : ∃ ys, NamesOf ys (leaves n) ∧ Dat H (TD n ys) v := by
  obtain ⟨l, e, p1, p2, ys, rfl, h1, h2, h3, h4, h5⟩ := h
  have ll := kids_60 hc
  have hy := h3.le
  rw [leaves_len] at hy
  have h60 := can_size hc
  refine ⟨ys, h3, ?_⟩
  unfold TD T9 at *
  rw [Dat]
  refine ⟨l, _, rfl, h1, (by show 9 ≤ 100000; decide), ?_⟩
  simp only [Dats, Dat]
  refine ⟨_, _, rfl, rfl, _, _, rfl, rfl, _, _, rfl, rfl, _, _, rfl, rfl, _, _, rfl, ⟨e, _, rfl, h2, ?_, dats_str (fun y : Str => y) ys⟩, _, _, rfl, rfl, _, _, rfl, rfl, _, _, rfl, ⟨p1, _, rfl, h4, ?_, dats_str _ _⟩, _, _, rfl, ⟨p2, _, rfl, h5, ?_, dats_str _ _⟩, rfl⟩
  · rw [List.length_map]
    omega
  · rw [List.length_map]
    omega
  · rw [List.length_map]
    omega
section
variable {P : Program} {w : World} {K : PySem.W.Frag} {mg : Str → Option Value} {base : Heap} {C : Addr} {f : Addr} {fd : FuncData}
abbrev nAs : List Str := ["_law_found", "_law_due"]
theorem scAs : FnScope nAs ["_law_found", "_law_due"] (C8.fnScope sAs) := C8.fnScope_by (by decide +kernel)
theorem ok_as (F : C8.Def K mg "_law_as" sAs f fd) (b : Binds K fd ["_law_found", "_law_due"] []) (T : CiT K mg C) (zI : mg "isinstance" = none) (cS : C8.Cal P w K mg base 4 "_law_same" (spSame 4) []) (cT : C8.Cal P w K mg base 4 "_law_told_of" (spTold C) []) (cD : C8.Cal P w K mg base 23 "_law_due_of" spDue []) :
    C8.Cal P w K mg base 24 "_law_as" (spAs C) [] := by
  refine C8.cal0 F b .nil scAs (fun vs H Q E h => ?_) (fun cdv A outer s H vs Q E hr h => ?_)
  · obtain ⟨_, _, _, rfl, _⟩ := h
    rfl
  · obtain ⟨o, v, u, rfl, hv, hu, hcan, k⟩ := h
    refine ⟨_, pss_cons (ps_if (PW.pt (pw_or (pt_cmpR op_ne (pe_ix ix_tup (pv 1) pe_int (fun _ _ => rfl)) pe_str (nomark _)) (pw_or1 (pt_cmpR op_ne (pe_ix ix_tup (pv 0) pe_int (fun _ _ => rfl)) pe_str (nomark _))))) (pss_one (ps_ret (C8.pe_c cS hr (by decide) (by rfl) (pa_cons (pv 0) (pa_cons (pv 1) pa_nil))))) pss_nil)
      (pss_one (ps_ret (pe_and (pe_callB (C8.call_isC T.isC) (by rfl) zI (by decide +kernel) (pa_cons (pe_ix ix_tup (pv 0) pe_int (fun _ _ => rfl)) (pa_cons (pe_glob (v := .ref C) (by rfl) T.mgC rfl) pa_nil)))
        (pe_one (C8.pe_c cS hr (by decide) (by rfl) (pa_cons (C8.pe_c cT hr (by decide) (by rfl) (pa_cons (pe_ix ix_tup (pv 0) pe_int (fun _ _ => rfl)) pa_nil)) (pa_cons (C8.pe_c cD hr (by decide) (by rfl) (pa_cons (pe_ix ix_tup (pv 1) pe_int (fun _ _ => rfl)) pa_nil)) pa_nil))))))), ?_⟩
    have bad : ∀ (D : PyData) (nm : Str) (p q p' q' : Addr), v = .ref p → u = .ref p' → H p = some (.tup [.str nm, .ref q]) → H p' = some (.tup [.str nm, .ref q']) → nm ≠ "" → Dat H D v → Dat H D u → D.depth < 4 → True := fun _ _ _ _ _ _ _ _ _ _ _ _ _ _ => trivial
    match o, hv, hu, hcan with
    | .inl i, hv, hu, _ =>
      obtain ⟨p, q, rfl, h1, h2⟩ := hv
      obtain ⟨p', q', rfl, h1', h2'⟩ := hu
      refine ⟨_, rfl, p', _, 0, _, rfl, rfl, SqT.of h1', rfl, rfl, _, rfl, ?_⟩
      refine iteT ?_
      refine iteT ?_
      refine ⟨_, rfl, _, rfl, .tuple [.str "InvalidText", .tuple [.int i]], _, _, rfl, ?_, ?_, ?_, fun H' s' => k H' s'⟩
      · simp only [Dats, Dat]
        exact ⟨p, _, rfl, h1, (by show 2 ≤ 100000; decide), _, _, rfl, rfl, _, _, rfl, ⟨q, _, rfl, h2, (by show 1 ≤ 100000; decide), _, _, rfl, rfl, rfl⟩, rfl⟩
      · simp only [Dats, Dat]
        exact ⟨p', _, rfl, h1', (by show 2 ≤ 100000; decide), _, _, rfl, rfl, _, _, rfl, ⟨q', _, rfl, h2', (by show 1 ≤ 100000; decide), _, _, rfl, rfl, rfl⟩, rfl⟩
      · simp only [PyData.depth, PyData.depthAll]
        decide
    | .inr (.error e), hv, hu, _ =>
      obtain ⟨p, q, rfl, h1, h2⟩ := hv
      obtain ⟨p', q', rfl, h1', h2'⟩ := hu
      refine ⟨_, rfl, p', _, 0, _, rfl, rfl, SqT.of h1', rfl, rfl, _, rfl, ?_⟩
      refine iteT ?_
      refine iteT ?_
      cases e with
      | true =>
        refine ⟨_, rfl, _, rfl, .tuple [.str "TooMany", .tuple [.str "eyes", .int 60]], _, _, rfl, ?_, ?_, ?_, fun H' s' => k H' s'⟩
        · simp only [Dats, Dat]
          exact ⟨p, _, rfl, h1, (by show 2 ≤ 100000; decide), _, _, rfl, rfl, _, _, rfl, ⟨q, _, rfl, h2, (by show 2 ≤ 100000; decide), _, _, rfl, rfl, _, _, rfl, rfl, rfl⟩, rfl⟩
        · simp only [Dats, Dat]
          exact ⟨p', _, rfl, h1', (by show 2 ≤ 100000; decide), _, _, rfl, rfl, _, _, rfl, ⟨q', _, rfl, h2', (by show 2 ≤ 100000; decide), _, _, rfl, rfl, _, _, rfl, rfl, rfl⟩, rfl⟩
        · simp only [PyData.depth, PyData.depthAll]
          decide
      | false =>
        refine ⟨_, rfl, _, rfl, .tuple [.str "TooMany", .tuple [.str "depth", .int 20]], _, _, rfl, ?_, ?_, ?_, fun H' s' => k H' s'⟩
        · simp only [Dats, Dat]
          exact ⟨p, _, rfl, h1, (by show 2 ≤ 100000; decide), _, _, rfl, rfl, _, _, rfl, ⟨q, _, rfl, h2, (by show 2 ≤ 100000; decide), _, _, rfl, rfl, _, _, rfl, rfl, rfl⟩, rfl⟩
        · simp only [Dats, Dat]
          exact ⟨p', _, rfl, h1', (by show 2 ≤ 100000; decide), _, _, rfl, rfl, _, _, rfl, ⟨q', _, rfl, h2', (by show 2 ≤ 100000; decide), _, _, rfl, rfl, _, _, rfl, rfl, rfl⟩, rfl⟩
        · simp only [PyData.depth, PyData.depthAll]
          decide
    | .inr (.ok n), hv, hu, hcan =>
      obtain ⟨p, a, rfl, h1, ct⟩ := hv
      obtain ⟨p', x, rfl, h1', hn⟩ := hu
      refine ⟨_, rfl, p', _, 0, _, rfl, rfl, SqT.of h1', rfl, rfl, _, rfl, ?_⟩
      refine iteF ?_
      refine ⟨_, rfl, p, _, 0, _, rfl, rfl, SqT.of h1, rfl, rfl, _, rfl, ?_⟩
      refine iteF ?_
      obtain ⟨as, ⟨dx, r, pp, ys, q1, _⟩, _⟩ := ct.top
      refine ⟨_, rfl, p, _, 1, _, rfl, rfl, SqT.of h1, rfl, a, dx, _, rfl, q1, _, rfl, ?_⟩
      refine iteT ?_
      refine ⟨_, rfl, p, _, 1, _, rfl, rfl, SqT.of h1, rfl, n, a, rfl, ct, hcan, fun v H1 s1 hv1 => ?_⟩
      refine ⟨_, rfl, p', _, 1, _, rfl, rfl, SqT.of (s1 _ _ h1'), rfl, n, x, rfl, hn.same s1, hcan, fun u H2 s2 hu2 => ?_⟩
      obtain ⟨y1, n1, d1⟩ := told_dat hcan hv1
      obtain ⟨y2, n2, d2⟩ := told_dat hcan hu2
      have e := n1.uniq n2
      subst e
      exact ⟨TD n y1, v, u, rfl, Dat.same s2 _ _ d1, d2, td_depth n y1, fun H' s' => k H' (s1.trans (s2.trans s'))⟩
end
end Pe
set_option Elab.async false
set_option maxRecDepth 100000
set_option maxHeartbeats 8000000
/-! the law's own try -/
namespace Pe
open PySem PySem.Spec PyProof.Rows L2
theorem takes_len {X : Cx} {W : WX} (t : Takes X W) : Takes X (fun cls d σ H => σ.length = X.N.length → W cls d σ H) := fun u s' ⟨a, B, sI, pins, σ, H, cls, d, e, I, nb, up, sky, na, os, ag, w⟩ =>
  t u s' ⟨a, B, sI, pins, σ, H, cls, d, e, I, nb, up, sky, na, os, ag, w I.len⟩
/-- what is caught -/
def TryE (C CI CT : Addr) (Q : VK) : XK := fun cls d H' =>
  (cls = .ref CI ∧ ∃ dx k, d = some dx ∧ H' dx = some (.xd [("at", .int k)]) ∧ ∀ v H2, Same H' H2 → FndT C H2 (.inl k) v → Q v H2) ∨
  (cls = .ref CT ∧ ∃ dx b, d = some dx ∧ H' dx = some (.xd (many b)) ∧ ∀ v H2, Same H' H2 → FndT C H2 (.inr (.error b)) v → Q v H2)
def TTry (C CI CT : Addr) : (XK → Hp → VK → Prop) → Hp → VK → Prop := fun tl H Q =>
  tl (TryE C CI CT Q) H (fun v H1 => ([.str "", v] : List V).length ≤ sizeLine ∧ ∀ p, H1 p = none → Q (.ref p) (upd H1 p (.tup [.str "", v])))
/-- the clauses' classes -/
structure TryF (K : PySem.W.Frag) (mg : Str → Option Value) (CI CT : Addr) : Prop where
  ex : ∃ c1 c2 c4 c5 c6 c7 : Addr, mg "InvalidName" = some (.ref c1) ∧ mg "InvalidNumber" = some (.ref c2) ∧ mg "InvalidCircle" = some (.ref c4) ∧ mg "InvalidTie" = some (.ref c5) ∧ mg "InvalidParting" = some (.ref c6) ∧ mg "InvalidCase" = some (.ref c7) ∧
    PySem.W.exmOne K (.ref CI) (.ref c1) = some false ∧ PySem.W.exmOne K (.ref CI) (.ref c2) = some false ∧
    PySem.W.exmOne K (.ref CT) (.ref c1) = some false ∧ PySem.W.exmOne K (.ref CT) (.ref c2) = some false ∧ PySem.W.exmOne K (.ref CT) (.ref CI) = some false ∧ PySem.W.exmOne K (.ref CT) (.ref c4) = some false ∧ PySem.W.exmOne K (.ref CT) (.ref c5) = some false ∧ PySem.W.exmOne K (.ref CT) (.ref c6) = some false ∧ PySem.W.exmOne K (.ref CT) (.ref c7) = some false
  mI : mg "InvalidText" = some (.ref CI)
  mT : mg "TooMany" = some (.ref CT)
  eI : PySem.W.exmOne K (.ref CI) (.ref CI) = some true
  eT : PySem.W.exmOne K (.ref CT) (.ref CT) = some true
  xI : XfC K CI
  xT : XfC K CT
  nI : PySem.W.findIn K (.ref CI) "at" = some none
  nW : PySem.W.findIn K (.ref CT) "what" = some none
  nM : PySem.W.findIn K (.ref CT) "most" = some none
abbrev nTr : List Str := ["_law_ask", "e"]
theorem scTr : FnScope nTr ["_law_ask"] (C8.fnScope sTry) := C8.fnScope_by (by decide +kernel)
theorem try_gives {X : Cx} {C CI CT g : Addr} {cdg : Value} {q : Str} (T : TryF X.K X.mg CI CT) : LamX.GivesTo X nTr "_law_try" (C8.fnScope sTry) g cdg (C8.fnBody sTry) "_law_ask" q (TTry C CI CT) := by
  intro f c' s H Q tl act hc h
  obtain ⟨c1, c2, c4, c5, c6, c7, m1, m2, m4, m5, m6, m7, i1, i2, t1, t2, t3, t4, t5, t6, t7⟩ := T.ex
  refine ⟨_, pss_one (ps_try_asm (X := (cxOf C8.CX0 X.prog X.w X.K X.mg X.base nTr "_law_try" (C8.fnScope sTry) g cdg X.A X.stack s H C8.E0).nox) (n := "e") (i := 1)
      (tb := fun W D σ H => ∃ Ech : XK, (∀ cls d σ' H', σ'.length = 2 → Ech cls d H' → W cls d σ' H') ∧ σ[0]? = some (some (.ref f)) ∧ H c' = some (LamX.CodeO c' q) ∧ tl Ech H (fun v H1 => ([.str "", v] : List V).length ≤ sizeLine ∧ ∀ p, H1 p = none → D.rt (.ref p) (upd H1 p (.tup [.str "", v]))))
      rfl rfl scTr.nd rfl rfl (fun W pn xe tk _ => ?_)
      (HdsA.cons (x := "InvalidName") (c := .ref c1) (ts := fun _ _ _ _ _ _ => False) ⟨by rfl, by decide, .inl m1⟩ (fun a oe cls d pn _ _ => pss_never)
      (HdsA.cons (x := "InvalidNumber") (c := .ref c2) (ts := fun _ _ _ _ _ _ => False) ⟨by rfl, by decide, .inl m2⟩ (fun a oe cls d pn _ _ => pss_never)
      (HdsA.cons (x := "InvalidText") (c := .ref CI) (ts := fun a cls d => tRet (tTup (tCons (tC (.str ("InvalidText" : Str))) (tCons (tTup (tCons (tXf a cls d CI ("at" : Str) (tVar 1)) tNil)) tNil)))) ⟨by rfl, by decide, .inl T.mI⟩ (fun a oe cls d pn hz hf => pss_one (ps_ret (pe_tup (pa_cons pe_str (pa_cons (pe_tup (pa_cons (pe_xf T.xI T.nI hz hf (pv 1)) pa_nil)) pa_nil)))))
      (HdsA.cons (x := "InvalidCircle") (c := .ref c4) (ts := fun _ _ _ _ _ _ => False) ⟨by rfl, by decide, .inl m4⟩ (fun a oe cls d pn _ _ => pss_never)
      (HdsA.cons (x := "InvalidTie") (c := .ref c5) (ts := fun _ _ _ _ _ _ => False) ⟨by rfl, by decide, .inl m5⟩ (fun a oe cls d pn _ _ => pss_never)
      (HdsA.cons (x := "InvalidParting") (c := .ref c6) (ts := fun _ _ _ _ _ _ => False) ⟨by rfl, by decide, .inl m6⟩ (fun a oe cls d pn _ _ => pss_never)
      (HdsA.cons (x := "InvalidCase") (c := .ref c7) (ts := fun _ _ _ _ _ _ => False) ⟨by rfl, by decide, .inl m7⟩ (fun a oe cls d pn _ _ => pss_never)
      (HdsA.cons (x := "TooMany") (c := .ref CT) (ts := fun a cls d => tRet (tTup (tCons (tC (.str ("TooMany" : Str))) (tCons (tTup (tCons (tXf a cls d CT ("what" : Str) (tVar 1)) (tCons (tXf a cls d CT ("most" : Str) (tVar 1)) tNil))) tNil)))) ⟨by rfl, by decide, .inl T.mT⟩ (fun a oe cls d pn hz hf => pss_one (ps_ret (pe_tup (pa_cons pe_str (pa_cons (pe_tup (pa_cons (pe_xf T.xT T.nW hz hf (pv 1)) (pa_cons (pe_xf T.xT T.nM hz hf (pv 1)) pa_nil))) pa_nil)))))
      HdsA.stop))))))))), ?_⟩
  · refine ⟨fun pins s' σ H' D I h' => ?_⟩
    obtain ⟨Ech, hW, h1, h2, h3⟩ := h'
    have hp := fun p1 p2 => act _ pn xe Ech p1 p2 (takes_len tk) (fun cls d σ' H' he hl => hW cls d σ' H' hl he)
    exact (pss_one (ps_ret (pe_tup (pa_cons pe_str (pa_cons (hp _ _) pa_nil))))).run pins s' σ H' D I ⟨h1, h2, h3⟩
  · refine ⟨TryE C CI CT Q, fun cls d σ' H' hl he => ?_, rfl, hc, h⟩
    rcases he with ⟨rfl, dx, k, rfl, hx, k1⟩ | ⟨rfl, dx, b, rfl, hx, k1⟩
    · refine ⟨false, i1, (fun z => nomatch z), fun _ => ⟨false, i2, (fun z => nomatch z), fun _ => ⟨true, T.eI, fun _ a ha => ?_, fun z => nomatch z⟩⟩⟩
      obtain ⟨x0, x1, rfl⟩ : ∃ x0 x1, σ' = [x0, x1] := by
        match σ', hl with
        | [x0, x1], _ => exact ⟨x0, x1, rfl⟩
      refine ⟨_, rfl, rfl, rfl, dx, _, _, rfl, hx, rfl, (by show 1 ≤ sizeLine; decide), fun p hp => ⟨(by show 2 ≤ sizeLine; decide), fun q hq => ?_⟩⟩
      exact k1 _ _ ((same_new hp).trans (same_new hq)) ⟨q, p, rfl, upd_same, by rw [upd_ne (ne_of_none upd_same hq), upd_same]⟩
    · refine ⟨false, t1, (fun z => nomatch z), fun _ => ⟨false, t2, (fun z => nomatch z), fun _ => ⟨false, t3, (fun z => nomatch z), fun _ => ⟨false, t4, (fun z => nomatch z), fun _ => ⟨false, t5, (fun z => nomatch z), fun _ => ⟨false, t6, (fun z => nomatch z), fun _ => ⟨false, t7, (fun z => nomatch z), fun _ => ⟨true, T.eT, fun _ a ha => ?_, fun z => nomatch z⟩⟩⟩⟩⟩⟩⟩⟩
      obtain ⟨x0, x1, rfl⟩ : ∃ x0 x1, σ' = [x0, x1] := by
        match σ', hl with
        | [x0, x1], _ => exact ⟨x0, x1, rfl⟩
      cases b with
      | true =>
        refine ⟨_, rfl, rfl, rfl, dx, _, _, rfl, hx, rfl, _, rfl, rfl, rfl, dx, _, _, rfl, hx, rfl, (by show 2 ≤ sizeLine; decide), fun p hp => ⟨(by show 2 ≤ sizeLine; decide), fun q hq => ?_⟩⟩
        exact k1 _ _ ((same_new hp).trans (same_new hq)) ⟨q, p, rfl, upd_same, by rw [upd_ne (ne_of_none upd_same hq), upd_same]; rfl⟩
      | false =>
        refine ⟨_, rfl, rfl, rfl, dx, _, _, rfl, hx, rfl, _, rfl, rfl, rfl, dx, _, _, rfl, hx, rfl, (by show 2 ≤ sizeLine; decide), fun p hp => ⟨(by show 2 ≤ sizeLine; decide), fun q hq => ?_⟩⟩
        exact k1 _ _ ((same_new hp).trans (same_new hq)) ⟨q, p, rfl, upd_same, by rw [upd_ne (ne_of_none upd_same hq), upd_same]; rfl⟩
end Pe
set_option Elab.async false
set_option maxRecDepth 100000
set_option maxHeartbeats 8000000
/-! the law's own any_so -/
namespace Pe
open PySem PySem.Spec PyProof.Rows L2
theorem ext_same {H H' : Hp} (s : Same H H') : LamX.ExtN H H' := LamX.ExtN.of s
theorem NAt.ext {H H' : Hp} (s : LamX.ExtN H H') {n : Nd} {v : V} (h : NAt H n v) : NAt H' n v := NAt.mono (fun b xs e => s b _ e fun ps z => by cases z) n v h
theorem RdT.ext {H H' : Hp} {r : Except Bool Nd} {v : V} (s : LamX.ExtN H H') (h : RdT H r v) : RdT H' r v := by
  cases r with
  | error b =>
    obtain ⟨p, q, e, h1, h2⟩ := h
    exact ⟨p, q, e, s _ _ h1 (fun ps z => by cases z), s _ _ h2 (fun ps z => by cases z)⟩
  | ok n =>
    obtain ⟨p, u, e, h1, h2⟩ := h
    exact ⟨p, u, e, s _ _ h1 (fun ps z => by cases z), h2.ext s⟩
theorem DueT.ext {H H' : Hp} {o : Out} {v : V} (s : LamX.ExtN H H') (h : DueT H o v) : DueT H' o v := by
  cases o with
  | inl k =>
    obtain ⟨p, q, e, h1, h2⟩ := h
    exact ⟨p, q, e, s _ _ h1 (fun ps z => by cases z), s _ _ h2 (fun ps z => by cases z)⟩
  | inr r => exact RdT.ext s h
theorem TyX.ext {K : PySem.W.Frag} {H H' : Hp} {v : V} {t : Value} (s : LamX.ExtN H H') (h : TyX K H v t) : TyX K H' v t := by
  cases h with
  | base b =>
    cases b with
    | non => exact .base .non
    | bl y => exact .base (.bl y)
    | int i => exact .base (.int i)
    | str y => exact .base (.str y)
    | flt y => exact .base (.flt y)
    | lst e => exact .base (.lst (s _ _ e (fun ps z => by cases z)))
    | frz e => exact .base (.frz (s _ _ e (fun ps z => by cases z)))
    | tup e => exact .base (.tup (s _ _ e (fun ps z => by cases z)))
    | dK e => exact .base (.dK (s _ _ e (fun ps z => by cases z)))
    | dT e => exact .base (.dT (s _ _ e (fun ps z => by cases z)))
    | ins e cl ha hn htk hm => exact .base (.ins (s _ _ e (fun ps z => by cases z)) cl ha hn htk hm)
  | byt y => exact .byt y
  | set e => exact .set (s _ _ e (fun ps z => by cases z))
  | kList e c => exact .kList e c
  | kTuple e c => exact .kTuple e c
  | kDict e c => exact .kDict e c
  | fTuple e => exact .fTuple (s _ _ e (fun ps z => by cases z))
  | fDict e => exact .fDict (s _ _ e (fun ps z => by cases z))
theorem ThO.ext {K : PySem.W.Frag} {H H' : Hp} {v : V} {o : Out} (s : LamX.ExtN H H') (h : ThO K H v o) : ThO K H' v o := by
  rcases h with h | ⟨ty, h1, h2, h3⟩
  · exact .inl h
  · exact .inr ⟨ty, TyX.ext s h1, h2, h3⟩
theorem tho_can {K : PySem.W.Frag} {H : Hp} {v : V} {o : Out} (h : ThO K H v o) : outCan o := by
  rcases h with ⟨x, _, _, ⟨t, ht, _, _, rfl⟩ | ⟨_, rfl⟩⟩ | ⟨_, _, _, rfl⟩
  · cases e : t.ev with
    | error b => trivial
    | ok n => exact Tx.ev_can ht e
  · trivial
  · trivial
abbrev sAny : Stmt := top 59
abbrev qAny : Str := (envOfC "_law_any_so" (C8.fnScope sAny) 0 0 .none).qual ++ ("<lambda>" : Str)
def spAny (K : PySem.W.Frag) (P : Addr) : Sp := fun vs H Q _ => ∃ (v : V) (o : Out), vs = [v] ∧ LamX.Tabs [(P, qAny)] H ∧ ThO K H v o ∧ ∀ H', LamX.ExtN H H' → LamX.Tabs [(P, qAny)] H' → Q (.bl true) H'
section
variable {P : Program} {w : World} {K : PySem.W.Frag} {mg : Str → Option Value} {base : Heap}
theorem fnC {x qual : Str} {st : Stmt} {f : Addr} {fd : FuncData} {N ps : List Str} {k : Nat} {sp : Sp} (F : C8.Fun K x qual st f fd) (S : FnScope N ps (C8.fnScope st)) (len : ∀ vs H Q E, sp vs H Q E → vs.length = ps.length)
    (hbody : ∀ (cdv : Value) (A : Around) (outer : List Env) (s : Shared) (H : Hp) (vs : List V) (Q : VK) (E : XK), fd.code = cdv → Room k (A.deeper (envOfC qual (C8.fnScope st) s.heap.objs.size f cdv)) → sp vs H Q E →
      ∃ t, PSs (cxOf C8.CX0 P w K mg base N qual (C8.fnScope st) f cdv A outer s H E).nox (C8.fnBody st) t ∧ t { nx := fun _ H' => Q .non H', rt := Q } (L2.start N vs) H) : FnOk P w K mg base C8.CX0 (k + 1) f fd ps sp := by
  obtain ⟨oc, od, dV, kV, doc, pm, an, cdv, ct, osl, rfl, lk, hcd⟩ := F.ex
  refine fn_of lk hcd S len fun A outer s H vs Q E hr hsp => ?_
  obtain ⟨t, h1, h2⟩ := hbody cdv A outer s H vs Q E rfl hr hsp
  exact ⟨t, h1.nox, h2⟩
end
theorem call_nil {sp : Sp} {v : V} {σ : L2.St} {H : Hp} {Q : VK} {E : XK} (h : sp [v] H Q E) : tNil σ H (fun xs H2 => (fun vs H1 => sp (vs ++ []) H1 Q E) (v :: xs) H2) := h
abbrev nAn : List Str := ["_law_thing", "_law_due", "_law_sound"]
theorem scAn : FnScope nAn ["_law_thing"] (C8.fnScope sAny) := C8.fnScope_by (by decide +kernel)
section
variable {P : Program} {w : World} {K : PySem.W.Frag} {mg : Str → Option Value} {base : Heap} {C CT CI : Addr} {f g : Addr} {fd gd : FuncData}
theorem ok_any {c PT : Addr} (F : C8.Def K mg "_law_any_so" sAny f fd) (b : Binds K fd ["_law_thing"] []) (FT : C8.Def K mg "_law_try" sTry g gd) (bT : Binds K gd ["_law_ask"] []) (hc : fd.code = .ref c) (TB : LamX.TabB base mg c PT) (TF : TryF K mg CI CT)
    (cR : CalX P w K mg base 11 "read_circle" (spRead C CT CI K)) (cI : C8.Cal P w K mg base 11 "is_circle_text" (spIsText K) []) (cL : C8.Cal P w K mg base 66 "_law_read" (spLRead K) []) (cA : C8.Cal P w K mg base 24 "_law_as" (spAs C) []) (cW : C8.Cal P w K mg base 22 "_law_words" (spWords 22) []) (cS : C8.Cal P w K mg base 4 "_law_same" (spSame 4) []) :
    C8.Cal P w K mg base 67 "_law_any_so" (spAny K PT) [] := by
  obtain ⟨oc, od, dV, kV, doc, pm, an, cdg, ct, osl, rfl, lk, hcg⟩ := FT.fn.ex
  refine ⟨f, fd, ["_law_thing"], [], fnC F.fn scAn (fun vs H Q E h => ?_) (fun cdv A outer s H vs Q E hcdv hr h => ?_), F.mgf, F.kp, b, .nil⟩
  · obtain ⟨_, _, rfl, _⟩ := h
    rfl
  · obtain ⟨v, o, rfl, hT, hth, k⟩ := h
    have hcode : cdv = .ref c := hcdv.symm.trans hc
    subst hcode
    refine ⟨_, pss_cons (ps_set (i := 1) scAn.nd rfl (Or.inl rfl) (C8.pe_c cL hr (by decide) (by rfl) (pa_cons (pv 0) pa_nil)))
      (C8.pss_cut (ps_if (pt_not (pt_val (C8.pe_c cA hr (by decide) (by rfl) (pa_cons (LamX.pe_lamcall (T := [(PT, qAny)]) (TT := TTry C CI CT) (k := 11) (by rfl) FT.mgf FT.kp lk hcg bT scTr rfl (by first | exact Or.inl rfl | exact Or.inr (Or.inl rfl)) (try_gives TF) TB rfl (List.mem_cons_self) (fun p hp e => by rw [List.mem_singleton.mp hp]; rfl) (hr.mono (by decide)) (LamX.lamS_by (by show LamX.lamSB (C8.fnScope sAny) _ = true; decide +kernel)) rfl (fun _ _ _ _ _ => rfl)
          (fun A outer s H E f c' hr2 => pe_cx cR hr2 (Nat.le_refl _) (by rfl) (passes_call (takes_of rfl rfl rfl rfl) (fun _ _ _ _ h => h)) (pa_cons (pv 0) pa_nil))) (pa_cons (pv 1) pa_nil))))) (pss_one (ps_ret pe_bl)) pss_nil)
      (C8.pss_cut (ps_set (i := 2) scAn.nd rfl (Or.inl rfl) (pe_and (pe_cmpR op_eq (pe_ix ix_tup (pv 1) pe_int (fun _ _ => rfl)) pe_str (nomark _)) (pe_one (pe_cmpR op_eq (C8.pe_c cW hr (by decide) (by rfl) (pa_cons (pe_ix ix_tup (pv 1) pe_int (fun _ _ => rfl)) pa_nil)) (pv 0) (nomark _)))))
      (pss_one (ps_ret (C8.pe_c cS hr (by decide) (by rfl) (pa_cons (pe_lst (pa_cons (C8.pe_c cI hr (by decide) (by rfl) (pa_cons (pv 0) pa_nil)) (pa_cons (C8.pe_c cI hr (by decide) (by rfl) (pa_cons (pv 0) pa_nil)) pa_nil))) (pa_cons (pe_lst (pa_cons (pv 2) (pa_cons (pv 2) pa_nil))) pa_nil))))))), ?_⟩
    refine ⟨_, rfl, v, o, rfl, hth, fun u H1 s1 hu => ?_⟩
    have T1 := hT.ext s1
    have th1 := hth.same s1
    have hcan := tho_can hth
    refine ⟨fun σ' H' => σ' = [some v, some u, none] ∧ LamX.ExtN H1 H' ∧ LamX.Tabs [(PT, qAny)] H', ?_, ?_⟩
    · refine ⟨T1, fun H2 x2 T2 => ⟨_, rfl, v, rfl, ?_⟩⟩
      have th2 := th1.ext x2
      rcases th2 with ⟨x, rfl, hx, ⟨t, ht, rfl, hw, rfl⟩ | ⟨hw, rfl⟩⟩ | ⟨ty, hty, hk, rfl⟩
      · refine .inl ⟨t.text, rfl, hx, .inl ⟨t, ht, rfl, hw, ?_⟩⟩
        cases e : t.ev with
        | ok n =>
          rw [e] at hu hcan
          intro H3 a s3 ca
          refine ⟨(by show 2 ≤ sizeLine; decide), fun p hp => ?_⟩
          have s4 := s3.trans (same_new (o := .tup [.str "", .ref a]) hp)
          refine ⟨_, rfl, .inr (.ok n), _, u, rfl, ⟨p, a, rfl, upd_same, ca.same (same_new hp)⟩, (DueT.ext x2 hu).same s4, hcan, fun H5 s5 => ⟨_, rfl, ?_⟩⟩
          refine iteF ?_
          exact ⟨rfl, x2.trans (ext_same (s4.trans s5)), T2.ext (s4.trans s5)⟩
        | error b =>
          rw [e] at hu hcan
          intro H3 d s3 hd
          refine .inr ⟨rfl, d, b, rfl, hd, fun v3 H4 s4 hv => ?_⟩
          refine ⟨_, rfl, .inr (.error b), _, u, rfl, hv, (DueT.ext x2 hu).same (s3.trans s4), hcan, fun H5 s5 => ⟨_, rfl, ?_⟩⟩
          refine iteF ?_
          exact ⟨rfl, x2.trans (ext_same (s3.trans (s4.trans s5))), T2.ext (s3.trans (s4.trans s5))⟩
      · refine .inl ⟨x, rfl, hx, .inr ⟨hw, fun H3 d s3 hd => ?_⟩⟩
        refine .inl ⟨rfl, d, _, rfl, hd, fun v3 H4 s4 hv => ?_⟩
        refine ⟨_, rfl, .inl _, _, u, rfl, hv, (DueT.ext x2 hu).same (s3.trans s4), hcan, fun H5 s5 => ⟨_, rfl, ?_⟩⟩
        refine iteF ?_
        exact ⟨rfl, x2.trans (ext_same (s3.trans (s4.trans s5))), T2.ext (s3.trans (s4.trans s5))⟩
      · refine .inr ⟨ty, hty, hk, fun H3 d s3 hd => ?_⟩
        refine .inl ⟨rfl, d, _, rfl, hd, fun v3 H4 s4 hv => ?_⟩
        refine ⟨_, rfl, .inl _, _, u, rfl, hv, (DueT.ext x2 hu).same (s3.trans s4), hcan, fun H5 s5 => ⟨_, rfl, ?_⟩⟩
        refine iteF ?_
        exact ⟨rfl, x2.trans (ext_same (s3.trans (s4.trans s5))), T2.ext (s3.trans (s4.trans s5))⟩
    rintro σ' H5 ⟨rfl, x5, T5⟩
    have th5 := th1.ext x5
    have hu5 := DueT.ext x5 hu
    refine ⟨fun σ' H' => ∃ sd : Bool, σ' = [some v, some u, some (.bl sd)] ∧ Same H5 H' ∧ ∀ Hx Qx, Same H5 Hx → (∀ H', Same Hx H' → Qx (.bl sd) H') → spIsText K [v] Hx Qx C8.E0, ?_, ?_⟩
    · rcases th5 with ⟨x, rfl, hx, ⟨t, ht, rfl, hw, rfl⟩ | ⟨hw, rfl⟩⟩ | ⟨ty, hty, hk, rfl⟩
      · cases e : t.ev with
        | ok n =>
          rw [e] at hu5 hcan
          obtain ⟨p, x, rfl, h1, h2⟩ := hu5
          refine ⟨_, rfl, p, _, 0, _, rfl, rfl, SqT.of h1, rfl, rfl, _, rfl, ?_⟩
          refine iteT ?_
          have hd := can_depth hcan
          refine ⟨_, rfl, p, _, 1, _, rfl, rfl, SqT.of h1, rfl, n, x, rfl, h2, by omega, hcan, fun H6 s6 => ⟨_, rfl, rfl, ?_⟩⟩
          refine ⟨_, rfl, s6, fun Hx Qx sx kx => ⟨_, rfl, .inl ⟨t.text, some (.ok n), rfl, hx, .inr ⟨t, ht, rfl, hw, by rw [e]⟩, fun H' s' => ?_⟩⟩⟩
          have q := kx H' s'
          rw [strS_eq] at q
          exact q
        | error b =>
          rw [e] at hu5
          obtain ⟨p, q, rfl, h1, h2⟩ := hu5
          refine ⟨_, rfl, p, _, 0, _, rfl, rfl, SqT.of h1, rfl, rfl, _, rfl, ?_⟩
          refine iteF ?_
          exact ⟨false, rfl, Same.refl _, fun Hx Qx sx kx => ⟨_, rfl, .inl ⟨t.text, some (.error b), rfl, hx, .inr ⟨t, ht, rfl, hw, by rw [e]⟩, fun H' s' => kx H' s'⟩⟩⟩
      · obtain ⟨p, q, rfl, h1, h2⟩ := hu5
        refine ⟨_, rfl, p, _, 0, _, rfl, rfl, SqT.of h1, rfl, rfl, _, rfl, ?_⟩
        refine iteF ?_
        exact ⟨false, rfl, Same.refl _, fun Hx Qx sx kx => ⟨_, rfl, .inl ⟨x, none, rfl, hx, .inl ⟨rfl, hw⟩, fun H' s' => kx H' s'⟩⟩⟩
      · obtain ⟨p, q, rfl, h1, h2⟩ := hu5
        refine ⟨_, rfl, p, _, 0, _, rfl, rfl, SqT.of h1, rfl, rfl, _, rfl, ?_⟩
        refine iteF ?_
        exact ⟨false, rfl, Same.refl _, fun Hx Qx sx kx => ⟨_, rfl, .inr ⟨ty, TyX.same sx hty, hk, fun H' s' => kx H' s'⟩⟩⟩
    rintro σ' H6 ⟨sd, rfl, s6, isT⟩
    refine ⟨_, rfl, ?_⟩
    refine call_nil ?_
    refine isT H6 _ s6 fun H7 s7 => ?_
    refine ⟨_, rfl, ?_⟩
    refine call_nil ?_
    refine isT H7 _ (s6.trans s7) fun H8 s8 => ?_
    refine ⟨(by show 2 ≤ sizeLine; decide), fun l hl => ⟨_, rfl, _, rfl, (by show 2 ≤ sizeLine; decide), fun l2 hl2 => ?_⟩⟩
    have sa := same_new (o := .lst [.bl sd, .bl sd]) hl
    have sb := same_new (o := .lst [.bl sd, .bl sd]) hl2
    refine ⟨.list [.bool sd, .bool sd], _, _, rfl, ?_, ?_, ?_, fun H' s' => ?_⟩
    · simp only [Dats, Dat]
      exact ⟨l, _, rfl, sb _ _ upd_same, (by show 2 ≤ 100000; decide), _, _, rfl, rfl, _, _, rfl, rfl, rfl⟩
    · simp only [Dats, Dat]
      exact ⟨l2, _, rfl, upd_same, (by show 2 ≤ 100000; decide), _, _, rfl, rfl, _, _, rfl, rfl, rfl⟩
    · simp only [PyData.depth, PyData.depthAll]
      decide
    · have st := s6.trans (s7.trans (s8.trans (sa.trans (sb.trans s'))))
      exact k H' ((ext_same s1).trans (x5.trans (ext_same st))) (T5.ext st)
end
end Pe
set_option Elab.async false
set_option maxRecDepth 100000
set_option maxHeartbeats 8000000
/-! the law's own bag and draws -/
namespace Pe
open PySem PySem.Spec PyProof.Rows L2
abbrev sBag : Stmt := top 35
abbrev sDraw : Stmt := top 36
abbrev sOf : Stmt := top 37
def Bag (B S : Addr) (H : Hp) : Prop := ∃ (ns : List Int) (i g st c : Int), H B = some (.lst [.ref S, .int i, .int g, .int st, .int c]) ∧ H S = some (.lst (ns.map V.int)) ∧ S ≠ B ∧ 0 ≤ i ∧ 0 ≤ st ∧ st < 4294967296
theorem Kp1.refl {a : Addr} {H : Hp} : Kp1 a H H := fun _ _ e _ => e
theorem Kp1.trans {a : Addr} {H H1 H2 : Hp} (s : Kp1 a H H1) (t : Kp1 a H1 H2) : Kp1 a H H2 := fun b o e n => t b o (s b o e n) n
theorem Kp1.same {a : Addr} {H H1 : Hp} (s : Same H H1) : Kp1 a H H1 := fun b o e _ => s b o e
theorem Kp1.updA {a : Addr} {H H1 : Hp} {o : HO} (s : Kp1 a H H1) : Kp1 a H (upd H1 a o) := fun b u e n => by
  rw [upd_ne n]
  exact s b u e n
theorem Bag.same {B S : Addr} {H H' : Hp} (s : Same H H') (h : Bag B S H) : Bag B S H' := by
  obtain ⟨ns, i, g, st, c, h1, h2, h3⟩ := h
  exact ⟨ns, i, g, st, c, s _ _ h1, s _ _ h2, h3⟩
def spDraw : Sp := fun vs H Q _ => ∃ (B S : Addr) (m : Int), vs = [.ref B, .int m] ∧ Bag B S H ∧ 1 ≤ m ∧ m < 1000000 ∧ ∀ j H', 0 ≤ j → j < m → Kp1 B H H' → Bag B S H' → Q (.int j) H'
section
variable {P : Program} {w : World} {K : PySem.W.Frag} {mg : Str → Option Value} {base : Heap} {f : Addr} {fd : FuncData}
abbrev nDr : List Str := ["_law_bag_here", "_law_sides", "_law_piece", "_law_digit", "_law_state"]
theorem scDr : FnScope nDr ["_law_bag_here", "_law_sides"] (C8.fnScope sDraw) := C8.fnScope_by (by decide +kernel)
theorem mod_range {a m : Int} (h : 0 < m) : 0 ≤ a % m ∧ a % m < m := ⟨Int.emod_nonneg _ (by omega), Int.emod_lt_of_pos _ h⟩
theorem ok_draw (F : C8.Def K mg "_law_draw" sDraw f fd) (b : Binds K fd ["_law_bag_here", "_law_sides"] []) (zL : mg "len" = none) (zA : mg "abs" = none) (zi : mg "int" = none) : C8.Cal P w K mg base 1 "_law_draw" spDraw [] := by
  refine C8.cal0 F b .nil scDr (fun vs H Q E h => ?_) (fun cdv A outer s H vs Q E hr h => ?_)
  · obtain ⟨_, _, _, rfl, _⟩ := h
    rfl
  · obtain ⟨B, S, m, rfl, hB, hm, hm2, k⟩ := h
    refine ⟨_, C8.pss_cut (ps_asg (pe_op op_add (pe_ix ix_list (pv 0) pe_int (fun _ _ => rfl)) pe_int) (pg_sub (pv 0) pe_int set_list))
      (C8.pss_cut (ps_if (PW.pt (pw_and (pt_cmpR op_eq (pe_ix ix_list (pv 0) pe_int (fun _ _ => rfl)) pe_int (nomark _)) (pw_and1 (pt_cmpR op_lt (pe_ix ix_list (pv 0) pe_int (fun _ _ => rfl)) (pe_callB call_len_seq (by rfl) zL PySem.boot_len (pa_cons (pe_ix ix_list (pv 0) pe_int (fun _ _ => rfl)) pa_nil)) (nomark _)))))
        (pss_cons (ps_set (i := 2) scDr.nd rfl (Or.inl rfl) (pe_callB call_abs (by rfl) zA (by decide +kernel) (pa_cons (pe_callTy call_int1 (by rfl) zi (by decide +kernel) (pa_cons (pe_ix ix_list (pe_ix ix_list (pv 0) pe_int (fun _ _ => rfl)) (pe_ix ix_list (pv 0) pe_int (fun _ _ => rfl)) (fun _ _ => rfl)) pa_nil)) pa_nil)))
        (C8.pss_cut (ps_asg (pe_op op_add (pe_ix ix_list (pv 0) pe_int (fun _ _ => rfl)) pe_int) (pg_sub (pv 0) pe_int set_list))
        (pss_one (ps_if (pt_cmpR op_ge (pv 2) (pe_op op_pow pe_int pe_int) (nomark _))
          (pss_one (ps_asg (pv 2) (pg_sub (pv 0) pe_int set_list)))
          (pss_one (ps_asg (pe_op op_mod (pe_callTy call_int1 (by rfl) zi (by decide +kernel) (pa_cons (pe_op op_add (pe_op op_add (pe_op op_mul (pe_ix ix_list (pv 0) pe_int (fun _ _ => rfl)) pe_int) (pe_op op_mul (pe_op op_mod (pv 2) pe_int) pe_int)) pe_int) pa_nil)) pe_int) (pg_sub (pv 0) pe_int set_list)))))))
        pss_nil)
      (pss_cons (ps_if (pt_cmpR op_gt (pe_ix ix_list (pv 0) pe_int (fun _ _ => rfl)) pe_int (nomark _))
        (pss_cons (ps_set (i := 3) scDr.nd rfl (Or.inl rfl) (pe_op op_mod (pe_callTy call_int1 (by rfl) zi (by decide +kernel) (pa_cons (pe_ix ix_list (pv 0) pe_int (fun _ _ => rfl)) pa_nil)) (pv 1)))
        (pss_cons (ps_asg (pe_op op_fdiv (pe_ix ix_list (pv 0) pe_int (fun _ _ => rfl)) (pv 1)) (pg_sub (pv 0) pe_int set_list))
        (pss_one (ps_ret (pv 3))))) pss_nil)
      (pss_cons (ps_set (i := 4) scDr.nd rfl (Or.inl rfl) (pe_callTy call_int1 (by rfl) zi (by decide +kernel) (pa_cons (pe_ix ix_list (pv 0) pe_int (fun _ _ => rfl)) pa_nil)))
      (C8.pss_cut (ps_asg (pe_op op_mod (pe_callTy call_int1 (by rfl) zi (by decide +kernel) (pa_cons (pe_op op_add (pe_op op_add (pe_op op_add (pe_op op_mul (pe_op op_mul (pv 4) (pv 4)) pe_int) (pe_op op_mul (pv 4) pe_int)) (pe_op op_mul (pe_ix ix_list (pv 0) pe_int (fun _ _ => rfl)) pe_int)) pe_int) pa_nil)) pe_int) (pg_sub (pv 0) pe_int set_list))
      (pss_one (ps_ret (pe_op op_mod (pe_callTy call_int1 (by rfl) zi (by decide +kernel) (pa_cons (pe_op op_add (pe_op op_fdiv (pe_ix ix_list (pv 0) pe_int (fun _ _ => rfl)) pe_int) (pe_op op_mul (pe_op op_mod (pe_callTy call_int1 (by rfl) zi (by decide +kernel) (pa_cons (pe_ix ix_list (pv 0) pe_int (fun _ _ => rfl)) pa_nil)) pe_int) pe_int)) pa_nil)) (pv 1)))))))), ?_⟩
    have bagK : ∀ {Hc : Hp} {ns : List Int} {i g st c i' g' st' c' : Int}, Hc B = some (.lst [.ref S, .int i, .int g, .int st, .int c]) → Hc S = some (.lst (ns.map V.int)) → S ≠ B → 0 ≤ i' → 0 ≤ st' → st' < 4294967296 → Bag B S (upd Hc B (.lst [.ref S, .int i', .int g', .int st', .int c'])) := fun {Hc ns i g st c i' g' st' c'} h1 h2 h3 h4 h5 h6 => ⟨ns, i', g', st', c', upd_same, by rw [upd_ne h3]; exact h2, h3, h4, h5, h6⟩
    refine ⟨fun σ' Hc => σ' = L2.start nDr [.ref B, .int m] ∧ Kp1 B H Hc ∧ Bag B S Hc, ?_, ?_⟩
    · obtain ⟨ns, i, g, st, c, h1, h2, h3, h4, h5, h6⟩ := hB
      exact ⟨_, rfl, B, _, 4, _, rfl, rfl, SqL.of h1, rfl, _, _, rfl, rfl, _, rfl, B, _, 4, 4, rfl, rfl, h1, rfl, rfl, Kp1.updA Kp1.refl, bagK h1 h2 h3 h4 h5 h6⟩
    rintro σ' H1 ⟨rfl, k1, hB1⟩
    refine ⟨fun σ' Hc => ∃ v2, σ' = [some (.ref B), some (.int m), v2, none, none] ∧ Kp1 B H Hc ∧ Bag B S Hc, ?_, ?_⟩
    · obtain ⟨ns, i, g, st, c, h1, h2, h3, h4, h5, h6⟩ := hB1
      refine ⟨_, rfl, B, _, 2, _, rfl, rfl, SqL.of h1, rfl, rfl, _, rfl, ?_⟩
      rw [ei]
      by_cases hg : g = 0
      · rw [decide_eq_true hg]
        refine iteT ?_
        refine ⟨_, rfl, B, _, 1, _, rfl, rfl, SqL.of h1, rfl, _, rfl, B, _, 0, _, rfl, rfl, SqL.of h1, rfl, S, _, rfl, .inl (SqL.of h2), _, _, rfl, rfl, _, rfl, ?_⟩
        refine ite2 (fun hc => ?_) (fun hc => ?_)
        · have hlt := of_decide_eq_true hc
          rw [List.length_map] at hlt
          have hin : i.toNat < ns.length := by omega
          have hat : atI (ns.map V.int) i = some (.int ns[i.toNat]) := by
            have e : i = ((i.toNat : Nat) : Int) := by omega
            exact (congrArg (atI (ns.map V.int)) e).trans (atI_nat (by rw [List.getElem?_map, List.getElem?_eq_getElem hin]; rfl))
          refine ⟨_, rfl, B, _, 0, _, rfl, rfl, SqL.of h1, rfl, _, rfl, B, _, 1, _, rfl, rfl, SqL.of h1, rfl, S, _, i, _, rfl, rfl, SqL.of h2, hat, .inl ⟨_, rfl, _, rfl, ?_⟩⟩
          generalize (if ns[i.toNat] < 0 then -ns[i.toNat] else ns[i.toNat]) = pc
          refine ⟨fun σ' Hc => σ' = [some (.ref B), some (.int m), some (.int pc), none, none] ∧ Kp1 B H Hc ∧ Bag B S Hc, ?_, ?_⟩
          · exact ⟨_, rfl, B, _, 1, _, rfl, rfl, SqL.of h1, rfl, _, _, rfl, rfl, _, rfl, B, _, 1, 1, rfl, rfl, h1, rfl, rfl, Kp1.updA k1, bagK h1 h2 h3 (by omega) h5 h6⟩
          · rintro σ' H2 ⟨rfl, k2, hB2⟩
            obtain ⟨ns, i, g, st, c, h1, h2, h3, h4, h5, h6⟩ := hB2
            refine ⟨_, rfl, _, _, rfl, rfl, ⟨by decide, by decide, by decide⟩, _, _, rfl, rfl, _, rfl, ?_⟩
            refine ite2 (fun hc => ?_) (fun hc => ?_)
            · exact ⟨_, rfl, _, rfl, B, _, 2, 2, rfl, rfl, h1, rfl, _, rfl, Kp1.updA k2, bagK h1 h2 h3 h4 h5 h6⟩
            · refine ⟨_, rfl, B, _, 3, _, rfl, rfl, SqL.of h1, rfl, _, _, rfl, rfl, .inr ⟨by decide, by decide⟩, _, rfl, _, _, rfl, rfl, (show (0 : Int) < 999979 by decide), _, _, rfl, rfl, .inr ⟨by decide, by decide⟩, _, _, rfl, rfl, _, _, rfl, rfl, .inl ⟨_, rfl, _, _, rfl, rfl, (show (0 : Int) < 2147483579 by decide), _, rfl, B, _, 3, 3, rfl, rfl, h1, rfl, _, rfl, Kp1.updA k2, ?_⟩⟩
              have r := fun a => mod_range (a := a) (m := 2147483579) (by decide)
              exact bagK h1 h2 h3 h4 (r _).1 (Int.lt_trans (r _).2 (by decide))
        · exact ⟨none, rfl, k1, ns, i, g, st, c, h1, h2, h3, h4, h5, h6⟩
      · rw [decide_eq_false hg]
        refine iteF ?_
        refine iteF ?_
        exact ⟨none, rfl, k1, ns, i, g, st, c, h1, h2, h3, h4, h5, h6⟩
    rintro σ' H2 ⟨v2, rfl, k2, hB2⟩
    obtain ⟨ns, i, g, st, c, h1, h2, h3, h4, h5, h6⟩ := hB2
    refine ⟨_, rfl, B, _, 2, _, rfl, rfl, SqL.of h1, rfl, _, _, rfl, rfl, _, rfl, ?_⟩
    refine ite2 (fun hc => ?_) (fun hc => ?_)
    · refine ⟨_, rfl, B, _, 2, _, rfl, rfl, SqL.of h1, rfl, .inl ⟨_, rfl, _, rfl, _, _, rfl, rfl, by omega, ?_⟩⟩
      refine ⟨_, rfl, B, _, 2, _, rfl, rfl, SqL.of h1, rfl, _, rfl, _, _, rfl, rfl, ⟨by omega, by omega⟩, _, rfl, B, _, 2, 2, rfl, rfl, h1, rfl, ?_⟩
      have r := mod_range (a := g) (m := m) (by omega)
      exact ⟨_, rfl, k _ _ r.1 r.2 (Kp1.updA k2) (bagK h1 h2 h3 h4 h5 h6)⟩
    · refine ⟨_, rfl, B, _, 3, _, rfl, rfl, SqL.of h1, rfl, .inl ⟨_, rfl, ?_⟩⟩
      have r := fun a => mod_range (a := a) (m := 2147483629) (by decide)
      have cm : CMul st st := .inl ⟨by omega, by omega⟩
      refine ⟨fun σ' Hc => ∃ v2 v4, σ' = [some (.ref B), some (.int m), v2, none, v4] ∧ Kp1 B H Hc ∧ Bag B S Hc, ?_, ?_⟩
      · refine ⟨_, rfl, _, rfl, _, _, rfl, rfl, cm, _, _, rfl, rfl, .inr ⟨by decide, by decide⟩, _, rfl, _, _, rfl, rfl, .inr ⟨by decide, by decide⟩, _, _, rfl, rfl, _, rfl, B, _, 4, _, rfl, rfl, SqL.of h1, rfl, _, _, rfl, rfl, .inr ⟨by decide, by decide⟩, _, _, rfl, rfl, _, _, rfl, rfl, .inl ⟨_, rfl, _, _, rfl, rfl, (show (0 : Int) < 2147483629 by decide), _, rfl, B, _, 3, 3, rfl, rfl, h1, rfl, ?_⟩⟩
        exact ⟨_, _, rfl, Kp1.updA k2, bagK h1 h2 h3 h4 (r _).1 (Int.lt_trans (r _).2 (by decide))⟩
      rintro σ' H3 ⟨v2, v4, rfl, k3, hB3⟩
      obtain ⟨ns, i, g, st, c, h1, h2, h3, h4, h5, h6⟩ := hB3
      refine ⟨_, rfl, B, _, 3, _, rfl, rfl, SqL.of h1, rfl, _, _, rfl, rfl, ⟨by decide, by decide⟩, _, rfl, B, _, 3, _, rfl, rfl, SqL.of h1, rfl, .inl ⟨_, rfl, _, _, rfl, rfl, (show (0 : Int) < 9001 by decide), _, _, rfl, rfl, .inr ⟨by decide, by decide⟩, _, _, rfl, rfl, .inl ⟨_, rfl, _, rfl, _, _, rfl, rfl, by omega, ?_⟩⟩⟩
      have rm' := mod_range (a := st / 71 + st % 9001 * 59) (m := m) (by omega)
      exact k _ _ rm'.1 rm'.2 k3 ⟨ns, i, g, st, c, h1, h2, h3, h4, h5, h6⟩
end
end Pe
set_option Elab.async false
set_option maxRecDepth 100000
set_option maxHeartbeats 8000000
/-! the law's own bag, of -/
namespace Pe
open PySem PySem.Spec PyProof.Rows L2
theorem slen (x y : Str) : (x ++ y).length = x.length + y.length := Nat.le_antisymm (PyProof.Rows.fact_append x y).1 (PyProof.Rows.fact_append x y).2
def spBag (K : PySem.W.Frag) : Sp := fun vs H Q _ => ∃ (a : Addr) (ns : List Int), vs = [.ref a] ∧ SqL K H a (ns.map V.int) ∧ ns.length ≤ 63 ∧ ∀ B S H', Same H H' → Bag B S H' → H B = none → Q (.ref B) H'
/-- one of a list's items, or of a text's signs -/
def spOf : Sp := fun vs H Q _ => ∃ (B S : Addr) (x : V), vs = [.ref B, x] ∧ Bag B S H ∧
  ((∃ (l : Addr) (xs : List V), x = .ref l ∧ l ≠ B ∧ H l = some (.lst xs) ∧ xs ≠ [] ∧ xs.length < 1000000 ∧ ∀ y H', y ∈ xs → Kp1 B H H' → Bag B S H' → Q y H') ∨
   (∃ (z : Str), x = .str z ∧ 0 < z.length ∧ z.length < 1000000 ∧ ∀ (c : Nat) H', Kp1 B H H' → Bag B S H' → Q (.str ⟨#[c]⟩) H'))
section
variable {P : Program} {w : World} {K : PySem.W.Frag} {mg : Str → Option Value} {base : Heap} {f : Addr} {fd : FuncData}
abbrev nBg : List Str := ["_law_script", "_law_mixed", "_law_piece"]
theorem scBg : FnScope nBg ["_law_script"] (C8.fnScope sBag) := C8.fnScope_by (by decide +kernel)
theorem cut63 (ns : List Int) : cutV (ns.map V.int) none (some 63) = (ns.take 63).map V.int := by
  unfold cutV
  rw [HT.sIx_none, List.drop_zero, show (63 : Int) = ((63 : Nat) : Int) from rfl, HT.sIx_nat, Nat.sub_zero, List.length_map, ← List.map_take]
  by_cases h : 63 ≤ ns.length
  · rw [Nat.min_eq_left h]
  · rw [Nat.min_eq_right (by omega), List.take_length, List.take_of_length_le (by omega)]
theorem ok_bag (F : C8.Def K mg "_law_bag" sBag f fd) (b : Binds K fd ["_law_script"] []) (zl : mg "list" = none) (zi : mg "int" = none) : C8.Cal P w K mg base 1 "_law_bag" (spBag K) [] := by
  refine C8.cal0 F b .nil scBg (fun vs H Q E h => ?_) (fun cdv A outer s H vs Q E hr h => ?_)
  · obtain ⟨_, _, rfl, _⟩ := h
    rfl
  · obtain ⟨a, ns, rfl, ha, hl, k⟩ := h
    refine ⟨_, pss_cons (ps_set (i := 1) scBg.nd rfl (Or.inl rfl) pe_int)
      (pss_cons (ps_for PassesOwn.never rfl (pi_list (pe_slice sl_list (pv 0) po_none (po_some pe_int))) (pg_name (i := 2) scBg.nd rfl (Or.inl rfl))
        (pss_one (ps_set (i := 1) scBg.nd rfl (Or.inl rfl) (pe_op op_mod (pe_callTy call_int1 (by rfl) zi (by decide +kernel) (pa_cons (pe_op op_add (pe_op op_add (pe_op op_mul (pv 1) pe_int) (pe_op op_mul (pe_op op_mod (pe_callTy call_int1 (by rfl) zi (by decide +kernel) (pa_cons (pv 2) pa_nil)) pe_int) pe_int)) pe_int) pa_nil)) pe_int))))
      (pss_one (ps_ret (pe_lst (pa_cons (pe_callTy call_list_of (by rfl) zl (by decide +kernel) (pa_cons (pe_slice sl_list (pv 0) po_none (po_some pe_int)) pa_nil)) (pa_cons pe_int (pa_cons pe_int (pa_cons (pv 1) (pa_cons pe_int pa_nil))))))))), ?_⟩
    refine ⟨_, rfl, _, rfl, a, _, rfl, ha, fun p hp => ?_⟩
    rw [cut63]
    have s1 := same_new (o := .lst ((ns.take 63).map V.int)) hp
    have haT : ∀ {H' : Hp}, Same H H' → SqL K H' a (ns.map V.int) := fun {H'} s' => by
      rcases ha with (h | ⟨o, h⟩) | h
      · exact .inl (.inl (s' _ _ h))
      · exact .inl (.inr ⟨o, s' _ _ h⟩)
      · exact .inr h
    refine ⟨p, rfl, ⟨_, SqL.of upd_same⟩, for_it (walk_list (xs := (ns.take 63).map V.int)) (fun i σ H1 => ∃ (mx : Int) (v2 : Option V), σ = [some (.ref a), some (.int mx), v2] ∧ Same (upd H p (.lst ((ns.take 63).map V.int))) H1 ∧ 0 ≤ mx ∧ mx < 4294967296) ⟨43001, none, rfl, Same.refl _, by decide, by decide⟩ (fun i σ H1 _ pv => ?_) ?_ ?_⟩
    · obtain ⟨_, _, _, s2, _⟩ := pv
      exact SqL.of (s2 _ _ upd_same)
    · rintro i y σ H1 H2 hi ⟨mx, v2, rfl, s2, m1, m2⟩ ⟨rfl, hy⟩
      rw [List.getElem?_map] at hy
      cases e : (ns.take 63)[i]? with
      | none => rw [e] at hy; cases hy
      | some z =>
        rw [e] at hy
        obtain rfl : y = .int z := (Option.some.inj hy).symm
        have r := fun a => mod_range (a := a) (m := 2147483587) (by decide)
        refine ⟨_, rfl, _, _, rfl, rfl, .inr ⟨by decide, by decide⟩, _, rfl, .inl ⟨_, rfl, _, _, rfl, rfl, (show (0 : Int) < 999979 by decide), _, _, rfl, rfl, .inr ⟨by decide, by decide⟩, _, _, rfl, rfl, _, _, rfl, rfl, .inl ⟨_, rfl, _, _, rfl, rfl, (show (0 : Int) < 2147483587 by decide), ?_⟩⟩⟩
        exact ⟨_, _, rfl, s2, (r _).1, Int.lt_trans (r _).2 (by decide)⟩
    · rintro σ H1 ⟨mx, v2, rfl, s2, m1, m2⟩
      have s3 := s1.trans s2
      refine ⟨_, rfl, _, rfl, a, _, rfl, haT s3, fun p1 hp1 => ?_⟩
      rw [cut63]
      refine ⟨p1, _, rfl, .inl (SqL.of upd_same), fun S hS => ⟨_, rfl, (by show 5 ≤ sizeLine; decide), fun B hB => ?_⟩⟩
      have sa := same_new (o := .lst ((ns.take 63).map V.int)) hp1
      have sb := same_new (o := .lst ((ns.take 63).map V.int)) hS
      have sc := same_new (o := .lst [.ref S, .int 0, .int 0, .int mx, .int 0]) hB
      have hSB : S ≠ B := ne_of_none upd_same hB
      have st := s3.trans (sa.trans (sb.trans sc))
      refine k B S _ st ⟨ns.take 63, 0, 0, mx, 0, upd_same, by rw [upd_ne hSB, upd_same], hSB, by decide, m1, m2⟩ ?_
      cases e : H B with
      | none => rfl
      | some o => rw [(s3.trans (sa.trans sb)) _ _ e] at hB; cases hB
abbrev nOf : List Str := ["_law_bag_here", "_law_things"]
theorem scOf : FnScope nOf ["_law_bag_here", "_law_things"] (C8.fnScope sOf) := C8.fnScope_by (by decide +kernel)
theorem ok_of (F : C8.Def K mg "_law_of" sOf f fd) (b : Binds K fd ["_law_bag_here", "_law_things"] []) (zL : mg "len" = none) (cD : C8.Cal P w K mg base 1 "_law_draw" spDraw []) : C8.Cal P w K mg base 2 "_law_of" spOf [] := by
  refine C8.cal0 F b .nil scOf (fun vs H Q E h => ?_) (fun cdv A outer s H vs Q E hr h => ?_)
  · obtain ⟨_, _, _, rfl, _⟩ := h
    rfl
  · obtain ⟨B, S, x, rfl, hB, h⟩ := h
    refine ⟨_, pss_one (ps_ret (pe_ix ix_seq (pv 1) (C8.pe_c cD hr (by decide) (by rfl) (pa_cons (pv 0) (pa_cons (pe_callB (CallR.or call_len_seq call_len_str) (by rfl) zL PySem.boot_len (pa_cons (pv 1) pa_nil)) pa_nil))) (fun _ _ => rfl))), ?_⟩
    rcases h with ⟨l, xs, rfl, hlB, hl, hne, hlen, k⟩ | ⟨z, rfl, hne, hlen, k⟩
    · have h0 := List.length_pos_iff.mpr hne
      refine ⟨_, rfl, _, rfl, _, rfl, .inl ⟨l, xs, rfl, .inl (SqL.of hl), B, S, _, rfl, hB, by omega, by omega, fun j H' j0 j1 kp hB' => ?_⟩⟩
      have hin : j.toNat < xs.length := by omega
      have e : j = ((j.toNat : Nat) : Int) := by omega
      have hat : atI xs j = some xs[j.toNat] := (congrArg (atI xs) e).trans (atI_nat (List.getElem?_eq_getElem hin))
      exact .inl ⟨l, xs, j, _, rfl, rfl, SqL.of (kp _ _ hl hlB), hat, k _ _ (List.getElem_mem hin) kp hB'⟩
    · refine ⟨_, rfl, _, rfl, _, rfl, .inr ⟨z, rfl, Nat.le_trans (Nat.le_of_lt hlen) (by decide), B, S, _, rfl, hB, by omega, by omega, fun j H' j0 j1 kp hB' => ?_⟩⟩
      have hzl : z.cps.toList.length = z.length := by simp [Str.length]
      have hin : j.toNat < z.cps.toList.length := by omega
      have e : j = ((j.toNat : Nat) : Int) := by omega
      have hat : atI z.cps.toList j = some z.cps.toList[j.toNat] := (congrArg (atI z.cps.toList) e).trans (atI_nat (List.getElem?_eq_getElem hin))
      exact .inr (.inr ⟨z, j, _, rfl, rfl, Nat.le_trans (Nat.le_of_lt hlen) (by decide), hat, k _ _ kp hB'⟩)
end
end Pe
set_option Elab.async false
set_option maxRecDepth 100000
set_option maxHeartbeats 8000000
/-! the law's own title, titles -/
namespace Pe
open PySem PySem.Spec PyProof.Rows L2
abbrev sTitle : Stmt := top 40
abbrev sTitles : Stmt := top 41
theorem Bag.ne {B S D : Addr} {H : Hp} (h : Bag B S H) (hD : H D = none) : D ≠ B ∧ D ≠ S := by
  obtain ⟨ns, i, g, st, c, h1, h2, _⟩ := h
  exact ⟨(ne_of_none h1 hD).symm, (ne_of_none h2 hD).symm⟩
theorem Bag.upd {B S D : Addr} {H : Hp} {o : HO} (h : Bag B S H) (h1 : D ≠ B) (h2 : D ≠ S) : Bag B S (upd H D o) := by
  obtain ⟨ns, i, g, st, c, e1, e2, e3⟩ := h
  exact ⟨ns, i, g, st, c, by rw [upd_ne (Ne.symm h1)]; exact e1, by rw [upd_ne (Ne.symm h2)]; exact e2, e3⟩
theorem Bag.new {B S D : Addr} {H : Hp} {o : HO} (h : Bag B S H) (hD : H D = none) : Bag B S (L2.upd H D o) := h.upd (h.ne hD).1 (h.ne hD).2
theorem Kp1.new {B D : Addr} {H H1 : Hp} {o : HO} (s : Kp1 B H H1) (hD : H1 D = none) (hB : D ≠ B) : Kp1 B H (L2.upd H1 D o) := fun b u e n => by
  rw [upd_ne (ne_of_none (s b u e n) hD)]
  exact s b u e n
/-- one more told by a comprehension that draws -/
theorem lc_putK {Hc H2 H4 : Hp} {B S D : Addr} {acc : List V} {y : V} (hD : Hc D = none) (hDB : D ≠ B) (hDS : D ≠ S) (sm : Kp1 B Hc H2) (s : Kp1 B H2 H4) (hb : Bag B S H4) (hD1 : H2 D = some (.lst acc)) (hl : acc.length ≤ 6000000) :
    ∃ a, H4 D = some (.lst a) ∧ a.length < sizeLine ∧ a = acc ∧ Kp1 B Hc (L2.upd H4 D (.lst (a ++ [y]))) ∧ Bag B S (L2.upd H4 D (.lst (a ++ [y]))) ∧ (L2.upd H4 D (.lst (a ++ [y]))) D = some (.lst (acc ++ [y])) := by
  refine ⟨acc, s _ _ hD1 hDB, Nat.lt_of_le_of_lt hl (by decide), rfl, fun b o q n => ?_, hb.upd hDB hDS, upd_same⟩
  rw [upd_ne (ne_of_none q hD)]
  exact s _ _ (sm b o q n) n
theorem nodup_le : ∀ (a b : List Str), a.Nodup → (∀ y ∈ a, y ∈ b) → a.length ≤ b.length := by
  intro a
  induction a with
  | nil => intro b _ _; exact Nat.zero_le _
  | cons x a ih =>
    intro b n s
    rw [List.nodup_cons] at n
    have hx := s x List.mem_cons_self
    have h2 := ih (b.erase x) n.2 fun y hy => by
      refine (List.mem_erase_of_ne ?_).mpr (s y (List.mem_cons_of_mem _ hy))
      intro e
      exact n.1 (by rw [← e]; exact hy)
    rw [List.length_erase_of_mem hx] at h2
    have := List.length_pos_of_mem hx
    rw [List.length_cons]
    omega
abbrev abc2 : Str := "xkvjqgzwybhfpmucldnrsoiaet"
theorem abc2_free {xs : List Str} (h : xs.length ≤ 20) : (((abc2.cps.toList.map fun c => (⟨#[c]⟩ : Str))).filter fun z => !decide (z ∈ xs)) ≠ [] := by
  intro e
  have h1 : ∀ y ∈ (abc2.cps.toList.map fun c => (⟨#[c]⟩ : Str)), y ∈ xs := fun y hy => by
    cases hm : decide (y ∈ xs) with
    | true => exact of_decide_eq_true hm
    | false =>
      have : y ∈ ((abc2.cps.toList.map fun c => (⟨#[c]⟩ : Str))).filter fun z => !decide (z ∈ xs) := List.mem_filter.mpr ⟨hy, by rw [hm]; rfl⟩
      rw [e] at this
      cases this
  have h2 := nodup_le _ _ (by decide +kernel) h1
  have h3 : (abc2.cps.toList.map fun c => (⟨#[c]⟩ : Str)).length = 26 := by decide +kernel
  omega
theorem jlen (a : Str) (ys : List Str) : (Txt.join a ys).length ≤ (ys.map fun y => y.length + a.length).sum := by
  have e1 : a = SX.S a.cps.toList := (SX.S_tl a).symm
  have e2 : ys = (ys.map fun y => y.cps.toList).map SX.S := by
    rw [List.map_map]
    exact (List.map_id ys).symm.trans (List.map_congr_left fun y _ => (SX.S_tl y).symm)
  cases ys with
  | nil => 
    have : (Txt.join a []).length = 0 := by
      rw [e1]
      rfl
    rw [this]
    exact Nat.zero_le _
  | cons y r =>
    rw [e1, e2, SX.join_S, SX.S_len]
    have h := joinL_len a.cps.toList ((y :: r).map fun y => y.cps.toList) (by simp)
    refine Nat.le_trans (Nat.le_trans (Nat.le_add_right _ _) h) (Nat.le_of_eq ?_)
    rw [List.map_map, List.map_map, List.map_map]
    refine congrArg List.sum (List.map_congr_left fun z _ => ?_)
    simp [Str.length]
theorem flat_strs : ∀ xs : List Str, (xs.map V.str).all flatV = true
  | [] => rfl
  | _ :: r => flat_strs r
theorem one_len (c : Nat) : (⟨#[c]⟩ : Str).length = 1 := rfl
theorem sum_ones : ∀ {ys : List Str} {n : Nat}, (∀ y ∈ ys, y.length ≤ n) → ∀ m : Nat, (ys.map fun y => y.length + m).sum ≤ ys.length * (n + m)
  | [], _, _, _ => by simp
  | y :: r, n, h, m => by
    have h1 := h y List.mem_cons_self
    have h2 := sum_ones (fun z hz => h z (List.mem_cons_of_mem _ hz)) m (ys := r) (n := n)
    rw [List.map_cons, List.sum_cons, List.length_cons, Nat.succ_mul]
    omega
def spTitle : Sp := fun vs H Q _ => ∃ (B S l : Addr) (xs : List Str), vs = [.ref B, .ref l] ∧ Bag B S H ∧ l ≠ B ∧ H l = some (.lst (xs.map V.str)) ∧ xs.length ≤ 20 ∧ ∀ (z : Str) H', z.length ≤ 20 → Kp1 B H H' → Bag B S H' → Q (.str z) H'
section
variable {P : Program} {w : World} {K : PySem.W.Frag} {mg : Str → Option Value} {base : Heap} {f : Addr} {fd : FuncData}
abbrev nTi : List Str := ["_law_bag_here", "_law_taken", "_law_title_here", "_law_k", "_law_sign"]
theorem scTi : FnScope nTi ["_law_bag_here", "_law_taken"] (C8.fnScope sTitle) := C8.fnScope_by (by decide +kernel)
theorem ok_title (F : C8.Def K mg "_law_title" sTitle f fd) (b : Binds K fd ["_law_bag_here", "_law_taken"] []) (zR : mg "range" = none) (cD : C8.Cal P w K mg base 1 "_law_draw" spDraw []) (cO : C8.Cal P w K mg base 2 "_law_of" spOf []) : C8.Cal P w K mg base 3 "_law_title" spTitle [] := by
  refine C8.cal0 F b .nil scTi (fun vs H Q E h => ?_) (fun cdv A outer s H vs Q E hr h => ?_)
  · obtain ⟨_, _, _, _, rfl, _⟩ := h
    rfl
  · obtain ⟨B, S, l, xs, rfl, hB, hlB, hl, hx, k⟩ := h
    refine ⟨_, C8.pss_cut (ps_if (pt_cmpR op_eq (C8.pe_c cD hr (by decide) (by rfl) (pa_cons (pv 0) (pa_cons pe_int pa_nil))) pe_int (nomark _))
        (pss_one (ps_set (i := 2) scTi.nd rfl (Or.inl rfl) (C8.pe_c cO hr (by decide) (by rfl) (pa_cons (pv 0) (pa_cons (pe_lst (pa_cons pe_str (pa_cons pe_str (pa_cons pe_str (pa_cons pe_str (pa_cons pe_str (pa_cons pe_str (pa_cons pe_str (pa_cons pe_str (pa_cons pe_str (pa_cons pe_str (pa_cons pe_str pa_nil)))))))))))) pa_nil)))))
        (pss_one (ps_set (i := 2) scTi.nd rfl (Or.inl rfl) (pe_join pe_str (pe_lc (own := [("_law_k", 3)]) (g := gName 3) (tt := tYes) (te := tCall spOf [] C8.E0 (tCons (tVar 0) (tCons (tC (.str ("tfkqzjbxhcwgmvyonpsrdlieua" : Str))) tNil)))
          rfl scTi.nd (pi_range1 (by rfl) zR (pa_cons (pe_op op_add pe_int (C8.pe_c cD hr (by decide) (by rfl) (pa_cons (pv 0) (pa_cons pe_int pa_nil)))) pa_nil)) (blkOk_by (N := nTi) (sc := C8.fnScope sTitle) (by decide +kernel))
          (fun _ _ _ _ _ => pg_name (i := 3) scTi.nd rfl (Or.inl rfl)) (fun _ _ _ _ _ => pts_nil) (fun _ _ _ _ _ => C8.pe_c cO hr (by decide) (by rfl) (pa_cons (pv 0) (pa_cons pe_str pa_nil))))))))
      (pss_cons (ps_if (pt_cmpR op_in_seq (pv 2) (pv 1) rfl)
        (pss_one (ps_set (i := 2) scTi.nd rfl (Or.inl rfl) (pe_ix ix_list (pe_lc (own := [("_law_sign", 4)]) (g := gName 4) (tt := tTest (tOp (rIn K true) (tVar 4) (tVar 1))) (te := tVar 4) rfl scTi.nd (pi_str pe_str) (blkOk_by (N := nTi) (sc := C8.fnScope sTitle) (by decide +kernel))
          (fun _ _ _ _ _ => pg_name (i := 4) scTi.nd rfl (Or.inl rfl)) (fun _ _ _ _ _ => pts_one (pt_cmpR op_notIn_seq (pv 4) (pv 1) rfl)) (fun _ _ _ _ _ => pv 4)) pe_int (fun _ _ => rfl)))) pss_nil)
      (pss_one (ps_ret (pv 2)))), ?_⟩
    refine ⟨fun σ' Hc => ∃ z : Str, σ' = [some (.ref B), some (.ref l), some (.str z), none, none] ∧ Kp1 B H Hc ∧ Bag B S Hc ∧ z.length ≤ 20, ?_, ?_⟩
    · refine ⟨_, rfl, B, S, 7, rfl, hB, by decide, by decide, fun j H1 j0 j1 k1 hB1 => ⟨rfl, _, rfl, ?_⟩⟩
      refine ite2 (fun hc => ?_) (fun hc => ?_)
      · refine ⟨_, rfl, (by show 11 ≤ sizeLine; decide), fun p hp => ⟨B, S, _, rfl, hB1.new hp, .inl ⟨p, _, rfl, (hB1.ne hp).1, upd_same, by simp, (by show 11 < 1000000; decide), fun y H' hy k' hB' => ?_⟩⟩⟩
        have kk := (k1.new (o := .lst [.str "cases", .str "case", .str "eye", .str "pool", .str "common", .str "self", .str "zzzzzz", .str "aa", .str "a", .str "world", .str "z"]) hp (hB1.ne hp).1).trans k'
        simp only [List.mem_cons, List.not_mem_nil, or_false] at hy
        rcases hy with rfl | rfl | rfl | rfl | rfl | rfl | rfl | rfl | rfl | rfl | rfl
        all_goals exact ⟨_, rfl, kk, hB', by decide +kernel⟩
      · refine ⟨⟨_, rfl⟩, _, rfl, B, S, 6, rfl, hB1, by decide, by decide, fun j2 H2 j3 j4 k2 hB2 => ?_⟩
        refine ⟨_, _, rfl, rfl, _, rfl, by omega, by omega, fun D hD => ?_⟩
        have hDn := hB2.ne hD
        refine lc_it (walk_range (lo := 0)) (fun i H3 => Kp1 B H2 H3 ∧ Bag B S H3 ∧ ∃ zs : List Str, H3 D = some (.lst (zs.map V.str)) ∧ zs.length = i ∧ ∀ z ∈ zs, z.length ≤ 1) ⟨Kp1.refl.new hD hDn.1, hB2.new hD, [], upd_same, rfl, fun z hz => by cases hz⟩ (fun _ _ _ _ => trivial) ?_ ?_
        · rintro i y H3 H4 hi ⟨k3, hB3, zs, hD3, hzl, hz1⟩ ⟨rfl, _⟩
          refine ⟨rfl, _, rfl, B, S, _, rfl, hB3, .inr ⟨_, rfl, by decide +kernel, by decide +kernel, fun c H5 k5 hB5 => ?_⟩⟩
          have hi' : i < 6 := by omega
          obtain ⟨a, p1, p2, p3, p4, p5, p6⟩ := lc_putK (y := V.str ⟨#[c]⟩) hD hDn.1 hDn.2 k3 k5 hB5 hD3 (by rw [List.length_map]; omega)
          subst p3
          exact ⟨_, p1, p2, p4, p5, zs ++ [⟨#[c]⟩], by rw [p6, List.map_append]; rfl, by rw [List.length_append, hzl]; rfl, fun z hz => (List.mem_append.mp hz).elim (hz1 z) fun q => by rw [List.mem_singleton.mp q]; exact Nat.le_refl _⟩
        · rintro H3 ⟨k3, hB3, zs, hD3, hzl, hz1⟩
          have hb := sum_ones hz1 0
          have e0 : ("" : Str).length = 0 := by decide +kernel
          refine ⟨_, D, zs, rfl, rfl, .inl (SqL.of hD3), ?_, ?_⟩
          · rw [e0]
            have hb2 := sum_ones hz1 0
            simp only [Nat.add_zero] at hb2
            omega
          · refine ⟨_, rfl, (k1.trans k2).trans k3, hB3, ?_⟩
            refine Nat.le_trans (jlen _ _) ?_
            rw [e0]
            omega
    · rintro σ' H1 ⟨z, rfl, k1, hB1, hz⟩
      have hl1 := k1 _ _ hl hlB
      refine ⟨_, rfl, _, rfl, l, _, rfl, .inl (SqL.of hl1), rfl, flat_strs xs, _, rfl, ?_⟩
      refine ite2 (fun hc => ?_) (fun hc => ?_)
      · refine ⟨_, rfl, fun D hD => ?_⟩
        have hDn := hB1.ne hD
        have hDl : l ≠ D := ne_of_none hl1 hD
        refine lc_it walk_str (fun i H3 => Same H1 H3 ∧ Bag B S H3 ∧ H3 D = some (.lst (((((abc2.cps.toList.map fun c => (⟨#[c]⟩ : Str))).take i).filter fun z => !decide (z ∈ xs)).map V.str))) ⟨same_new hD, hB1.new hD, by rw [upd_same]; rfl⟩ (fun _ _ _ _ => trivial) ?_ ?_
        · rintro i y H3 H4 hi ⟨s3, hB3, hD3⟩ ⟨rfl, c, hc2, rfl⟩
          have hc' : abc2.cps.toList[i]? = some c := by simpa using hc2
          have ht : ((abc2.cps.toList.map fun c => (⟨#[c]⟩ : Str))).take (i + 1) = ((abc2.cps.toList.map fun c => (⟨#[c]⟩ : Str))).take i ++ [⟨#[c]⟩] := take_snoc (by rw [List.getElem?_map, hc']; rfl)
          have hin : inV (.str ⟨#[c]⟩) (xs.map V.str) = decide ((⟨#[c]⟩ : Str) ∈ xs) := inV_str _ _
          refine ⟨rfl, _, rfl, _, rfl, l, _, rfl, .inl (SqL.of (s3 _ _ hl1)), rfl, flat_strs xs, _, rfl, ?_⟩
          have hl26 : ((((abc2.cps.toList.map fun c => (⟨#[c]⟩ : Str))).take i).filter fun z => !decide (z ∈ xs)).length ≤ 26 := by
            refine Nat.le_trans (List.length_filter_le _ _) ?_
            rw [List.length_take]
            have h3 : (abc2.cps.toList.map fun c => (⟨#[c]⟩ : Str)).length = 26 := by decide +kernel
            omega
          show if (!inV (.str ⟨#[c]⟩) (xs.map V.str)) = true then _ else _
          rw [hin]
          refine ite2 (fun hq => ?_) (fun hq => ?_)
          · refine ⟨_, rfl, _, hD3, ?_, fun b o q => ?_, hB3.upd hDn.1 hDn.2, ?_⟩
            · rw [List.length_map]
              exact Nat.lt_of_le_of_lt hl26 (by decide)
            · rw [upd_ne (ne_of_none q hD)]
              exact s3 _ _ q
            · rw [upd_same, ht, List.filter_append, List.map_append]
              have e : [(⟨#[c]⟩ : Str)].filter (fun z => !decide (z ∈ xs)) = [⟨#[c]⟩] := by
                rw [List.filter_cons, if_pos hq]
                rfl
              rw [e]
              rfl
          · refine ⟨s3, hB3, ?_⟩
            rw [hD3, ht, List.filter_append]
            have e : [(⟨#[c]⟩ : Str)].filter (fun z => !decide (z ∈ xs)) = [] := by
              rw [List.filter_cons, if_neg hq]
              rfl
            rw [e, List.append_nil]
        · rintro H3 ⟨s3, hB3, hD3⟩
          have e26 : ((abc2.cps.toList.map fun c => (⟨#[c]⟩ : Str))).take (abc2).cps.size = (abc2.cps.toList.map fun c => (⟨#[c]⟩ : Str)) := by
            refine List.take_of_length_le ?_
            rw [List.length_map]
            exact Nat.le_refl _
          have hD3 : H3 D = some (.lst ((((abc2.cps.toList.map fun c => (⟨#[c]⟩ : Str))).filter fun z => !decide (z ∈ xs)).map V.str)) := by rw [hD3]; exact congrArg (fun q => some (HO.lst ((List.filter (fun z => !decide (z ∈ xs)) q).map V.str))) e26
          have hfr := abc2_free hx
          cases e : (((abc2.cps.toList.map fun c => (⟨#[c]⟩ : Str))).filter fun z => !decide (z ∈ xs)) with
          | nil => exact absurd e hfr
          | cons y r =>
            rw [e] at hD3
            have hy : y.length = 1 := by
              have : y ∈ (abc2.cps.toList.map fun c => (⟨#[c]⟩ : Str)) := (List.mem_filter.mp (by rw [e]; exact List.mem_cons_self)).1
              obtain ⟨c, _, rfl⟩ := List.mem_map.mp this
              rfl
            refine ⟨D, _, 0, .str y, rfl, rfl, SqL.of hD3, atI_nat (j := 0) rfl, ?_⟩
            exact ⟨_, rfl, k y _ (by omega) (k1.trans (Kp1.same s3)) hB3⟩
      · exact ⟨_, rfl, k z _ hz k1 hB1⟩
end
end Pe
set_option Elab.async false
set_option maxRecDepth 100000
set_option maxHeartbeats 8000000
/-! the law's own titles -/
namespace Pe
open PySem PySem.Spec PyProof.Rows L2
def spTitles : Sp := fun vs H Q _ => ∃ (B S : Addr) (n : Int), vs = [.ref B, .int n] ∧ Bag B S H ∧ 0 ≤ n ∧ n ≤ 10 ∧ ∀ (r : Addr) (xs : List Str) H', (xs.length : Int) = n → (∀ z ∈ xs, z.length ≤ 20) → Kp1 B H H' → Bag B S H' → H r = none → H' r = some (.lst (xs.map V.str)) → Q (.ref r) H'
section
variable {P : Program} {w : World} {K : PySem.W.Frag} {mg : Str → Option Value} {base : Heap} {f : Addr} {fd : FuncData}
abbrev nTs : List Str := ["_law_bag_here", "_law_size_here", "_law_found", "_law_stem", "_law_spot", "_law_begun", "_law_k"]
theorem scTs : FnScope nTs ["_law_bag_here", "_law_size_here"] (C8.fnScope sTitles) := C8.fnScope_by (by decide +kernel)
theorem ok_titles (F : C8.Def K mg "_law_titles" sTitles f fd) (b : Binds K fd ["_law_bag_here", "_law_size_here"] []) (zR : mg "range" = none) (zL : mg "len" = none) (zi : mg "int" = none) (cD : C8.Cal P w K mg base 1 "_law_draw" spDraw []) (cO : C8.Cal P w K mg base 2 "_law_of" spOf []) (cT : C8.Cal P w K mg base 3 "_law_title" spTitle []) : C8.Cal P w K mg base 4 "_law_titles" spTitles [] := by
  refine C8.cal0 F b .nil scTs (fun vs H Q E h => ?_) (fun cdv A outer s H vs Q E hr h => ?_)
  · obtain ⟨_, _, _, rfl, _⟩ := h
    rfl
  · obtain ⟨B, S, n, rfl, hB, hn0, hn1, k⟩ := h
    refine ⟨_, pss_cons (ps_set (i := 2) scTs.nd rfl (Or.inl rfl) (pe_lst pa_nil))
      (pss_cons (ps_if (pt_cmpR op_eq (C8.pe_c cD hr (by decide) (by rfl) (pa_cons (pv 0) (pa_cons pe_int pa_nil))) pe_int (nomark _))
        (C8.pss_cut (ps_set (i := 3) scTs.nd rfl (Or.inl rfl) (pe_join pe_str (pe_lc (own := [("_law_k", 6)]) (g := gName 6) (tt := tYes) (te := tCall spOf [] C8.E0 (tCons (tVar 0) (tCons (tC (.str ("tfkqzjbxhcwgmvyonpsrdlieua" : Str))) tNil)))
          rfl scTs.nd (pi_range1 (by rfl) zR (pa_cons (C8.pe_c cD hr (by decide) (by rfl) (pa_cons (pv 0) (pa_cons pe_int pa_nil))) pa_nil)) (blkOk_by (N := nTs) (sc := C8.fnScope sTitles) (by decide +kernel))
          (fun _ _ _ _ _ => pg_name (i := 6) scTs.nd rfl (Or.inl rfl)) (fun _ _ _ _ _ => pts_nil) (fun _ _ _ _ _ => C8.pe_c cO hr (by decide) (by rfl) (pa_cons (pv 0) (pa_cons pe_str pa_nil))))))
        (pss_cons (ps_par (i := 4) (j := 5) rfl scTs.nd rfl rfl (by decide) rfl rfl (pa_cons (C8.pe_c cD hr (by decide) (by rfl) (pa_cons (pv 0) (pa_cons (pe_op op_add (pe_callB call_len_str (by rfl) zL PySem.boot_len (pa_cons (pv 3) pa_nil)) pe_int) pa_nil))) (pa_cons (C8.pe_c cD hr (by decide) (by rfl) (pa_cons (pv 0) (pa_cons pe_int pa_nil))) pa_nil)) (by rfl))
        (pss_cons (ps_for PassesOwn.never rfl (pi_range1 (by rfl) zR (pa_cons (pv 1) pa_nil)) (pg_name (i := 6) scTs.nd rfl (Or.inl rfl))
          (pss_one (ps_expr (pe_bm PySem.F.plainAttrs_list PySem.F.slot_list_append PySem.F.type_list_append mt_append (pv 2) (pa_cons (pe_op op_add_str (pe_op op_add_str (pe_slice sl_str (pv 3) po_none (po_some (pv 4))) (pe_ix ix_str pe_str (pe_op op_mod (pe_callTy call_int1 (by rfl) zi (by decide +kernel) (pa_cons (pe_op op_add (pv 5) (pe_op op_mul pe_int (pv 6))) pa_nil)) pe_int) (fun _ _ => rfl))) (pe_slice sl_str (pv 3) (po_some (pv 4)) po_none)) pa_nil)))))
        (pss_one (ps_ret (pv 2)))))) pss_nil)
      (pss_cons (ps_for PassesOwn.never rfl (pi_range1 (by rfl) zR (pa_cons (pv 1) pa_nil)) (pg_name (i := 6) scTs.nd rfl (Or.inl rfl))
          (pss_one (ps_expr (pe_bm PySem.F.plainAttrs_list PySem.F.slot_list_append PySem.F.type_list_append mt_append (pv 2) (pa_cons (C8.pe_c cT hr (by decide) (by rfl) (pa_cons (pv 0) (pa_cons (pv 2) pa_nil))) pa_nil)))))
      (pss_one (ps_ret (pv 2))))), ?_⟩
    refine ⟨by decide, fun r hr0 => ?_⟩
    have hrn := hB.ne hr0
    have hrB : r ≠ B := hrn.1
    have k0 : Kp1 B H (upd H r (.lst [])) := Kp1.refl.new hr0 hrB
    have hB0 : Bag B S (upd H r (.lst [])) := hB.new hr0
    have ul : (upd H r (.lst [])) r = some (.lst []) := upd_same
    have put : ∀ {H3 H4 : Hp} {xs : List Str} {z : Str}, Kp1 B H H3 → Kp1 B H3 H4 → H3 r = some (.lst (xs.map V.str)) → Bag B S H4 → Kp1 B H (upd H4 r (.lst (xs.map V.str ++ [.str z]))) ∧ Bag B S (upd H4 r (.lst (xs.map V.str ++ [.str z]))) ∧ (upd H4 r (.lst (xs.map V.str ++ [.str z]))) r = some (.lst ((xs ++ [z]).map V.str)) := fun {H3 H4 xs z} a1 a2 a3 a4 =>
      ⟨fun b o q n => by rw [upd_ne (ne_of_none q hr0)]; exact a2 _ _ (a1 b o q n) n, a4.upd hrB hrn.2, by rw [upd_same, List.map_append]; rfl⟩
    have hnn : n.toNat ≤ 10 := by omega
    refine ⟨_, rfl, B, S, 3, rfl, hB0, by decide, by decide, fun j H1 j0 j1 k1 hB1 => ⟨rfl, _, rfl, ?_⟩⟩
    have ul1 := k1 _ _ ul hrB
    have k01 := k0.trans k1
    refine ite2 (fun hc => ?_) (fun hc => ?_)
    · refine ⟨fun σ' Hc => ∃ z : Str, σ' = [some (.ref B), some (.int n), some (.ref r), some (.str z), none, none, none] ∧ Kp1 B H1 Hc ∧ Bag B S Hc ∧ z.length ≤ 6, ?_, ?_⟩
      · refine ⟨⟨_, rfl⟩, _, rfl, B, S, 6, rfl, hB1, by decide, by decide, fun j2 H2 j3 j4 k2 hB2 => ?_⟩
        refine ⟨_, rfl, by omega, by omega, fun D hD => ?_⟩
        have hDn := hB2.ne hD
        refine lc_it (walk_range (lo := 0)) (fun i H3 => Kp1 B H2 H3 ∧ Bag B S H3 ∧ ∃ zs : List Str, H3 D = some (.lst (zs.map V.str)) ∧ zs.length = i ∧ ∀ z ∈ zs, z.length ≤ 1) ⟨Kp1.refl.new hD hDn.1, hB2.new hD, [], upd_same, rfl, fun z hz => by cases hz⟩ (fun _ _ _ _ => trivial) ?_ ?_
        · rintro i y H3 H4 hi ⟨k3, hB3, zs, hD3, hzl, hz1⟩ ⟨rfl, _⟩
          refine ⟨rfl, _, rfl, B, S, _, rfl, hB3, .inr ⟨_, rfl, by decide +kernel, by decide +kernel, fun c H5 k5 hB5 => ?_⟩⟩
          have hi' : i < 6 := by omega
          obtain ⟨a, p1, p2, p3, p4, p5, p6⟩ := lc_putK (y := V.str ⟨#[c]⟩) hD hDn.1 hDn.2 k3 k5 hB5 hD3 (by rw [List.length_map]; omega)
          subst p3
          exact ⟨_, p1, p2, p4, p5, zs ++ [⟨#[c]⟩], by rw [p6, List.map_append]; rfl, by rw [List.length_append, hzl]; rfl, fun z hz => (List.mem_append.mp hz).elim (hz1 z) fun q => by rw [List.mem_singleton.mp q]; exact Nat.le_refl _⟩
        · rintro H3 ⟨k3, hB3, zs, hD3, hzl, hz1⟩
          have hb := sum_ones hz1 0
          have e0 : ("" : Str).length = 0 := by decide +kernel
          refine ⟨_, D, zs, rfl, rfl, .inl (SqL.of hD3), ?_, ?_⟩
          · rw [e0]
            have hb2 := sum_ones hz1 0
            simp only [Nat.add_zero] at hb2
            omega
          · refine ⟨_, rfl, k2.trans k3, hB3, ?_⟩
            refine Nat.le_trans (jlen _ _) ?_
            rw [e0]
            omega
      · rintro σ' H2 ⟨z, rfl, k2, hB2, hz⟩
        refine ⟨_, rfl, _, rfl, z, rfl, Nat.le_trans hz (by decide), _, _, rfl, rfl, B, S, _, rfl, hB2, by omega, by omega, fun sp H3 s0 s1 k3 hB3 => ?_⟩
        refine ⟨_, rfl, B, S, 26, rfl, hB3, by decide, by decide, fun bg H4 b0 b1 k4 hB4 => ⟨_, _, rfl, ?_⟩⟩
        have k14 := (k2.trans k3).trans k4
        refine ⟨_, rfl, _, rfl, by omega, by omega, for_it (walk_range (lo := 0)) (fun i σ H5 => ∃ (xs : List Str) (v6 : Option V), σ = [some (.ref B), some (.int n), some (.ref r), some (.str z), some (.int sp), some (.int bg), v6] ∧ Kp1 B H H5 ∧ Bag B S H5 ∧ H5 r = some (.lst (xs.map V.str)) ∧ xs.length = i ∧ ∀ y ∈ xs, y.length ≤ 20) ⟨[], none, rfl, k01.trans k14, hB4, k14 _ _ ul1 hrB, rfl, fun y hy => by cases hy⟩ (fun _ _ _ _ _ => trivial) ?_ ?_⟩
        · rintro i y σ H5 H6 hi ⟨xs, v6, rfl, k5, hB5, hr5, hxl, hx20⟩ ⟨rfl, hk⟩
          subst hk
          have rr := mod_range (a := bg + 5 * (0 + (i : Int))) (m := 26) (by decide)
          have hq : ("qazwsxedcrfvtgbyhnujmikolp" : Str).cps.toList.length = 26 := by decide +kernel
          have hin : ((bg + 5 * (0 + (i : Int))) % 26).toNat < ("qazwsxedcrfvtgbyhnujmikolp" : Str).cps.toList.length := by omega
          have e : ((bg + 5 * (0 + (i : Int))) % 26) = ((((bg + 5 * (0 + (i : Int))) % 26).toNat : Nat) : Int) := by omega
          have hat := (congrArg (atI ("qazwsxedcrfvtgbyhnujmikolp" : Str).cps.toList) e).trans (atI_nat (List.getElem?_eq_getElem hin))
          have c1 := cutS_length z none (some sp)
          have c2 := cutS_length z (some sp) none
          have hzs : z.length ≤ sizeLine := Nat.le_trans hz (by decide)
          refine ⟨_, rfl, .inl ⟨rfl, _, SqL.of hr5⟩, _, rfl, _, rfl, _, rfl, _, rfl, hzs, _, rfl, _, rfl, _, _, rfl, rfl, .inl ⟨by decide, by decide⟩, _, _, rfl, rfl, .inl ⟨_, rfl, _, _, rfl, rfl, (show (0 : Int) < 26 by decide), _, _, _, rfl, rfl, by decide +kernel, hat, _, _, rfl, rfl, ?_, _, rfl, _, rfl, _, rfl, _, rfl, hzs, _, _, rfl, rfl, ?_, r, _, _, rfl, rfl, hr5, ?_, ?_⟩⟩
          · rw [one_len, sizeLine_eq]
            omega
          · rw [slen, one_len, sizeLine_eq]
            omega
          · rw [List.length_map, sizeLine_eq]
            omega
          · obtain ⟨p1, p2, p3⟩ := put k5 Kp1.refl hr5 hB5 (z := cutS z none (some sp) ++ ⟨#[("qazwsxedcrfvtgbyhnujmikolp" : Str).cps.toList[((bg + 5 * (0 + (i : Int))) % 26).toNat]]⟩ ++ cutS z (some sp) none)
            refine ⟨_, _, rfl, p1, p2, p3, by rw [List.length_append, hxl]; rfl, fun y hy => (List.mem_append.mp hy).elim (hx20 y) fun q => ?_⟩
            rw [List.mem_singleton.mp q, slen, slen, one_len]
            omega
        · rintro σ H5 ⟨xs, v6, rfl, k5, hB5, hr5, hxl, hx20⟩
          exact ⟨_, rfl, k r xs _ (by omega) hx20 k5 hB5 hr0 hr5⟩
    · refine ⟨_, rfl, _, rfl, by omega, by omega, for_it (walk_range (lo := 0)) (fun i σ H5 => ∃ (xs : List Str) (v6 : Option V), σ = [some (.ref B), some (.int n), some (.ref r), none, none, none, v6] ∧ Kp1 B H H5 ∧ Bag B S H5 ∧ H5 r = some (.lst (xs.map V.str)) ∧ xs.length = i ∧ ∀ y ∈ xs, y.length ≤ 20) ⟨[], none, rfl, k01, hB1, ul1, rfl, fun y hy => by cases hy⟩ (fun _ _ _ _ _ => trivial) ?_ ?_⟩
      · rintro i y σ H5 H6 hi ⟨xs, v6, rfl, k5, hB5, hr5, hxl, hx20⟩ ⟨rfl, hk⟩
        refine ⟨_, rfl, .inl ⟨rfl, _, SqL.of hr5⟩, _, rfl, _, rfl, B, S, r, xs, rfl, hB5, hrB, hr5, by omega, fun z H7 hz k7 hB7 => ?_⟩
        refine ⟨r, _, _, rfl, rfl, k7 _ _ hr5 hrB, ?_, ?_⟩
        · rw [List.length_map, sizeLine_eq]
          omega
        · obtain ⟨p1, p2, p3⟩ := put k5 k7 hr5 hB7 (z := z)
          refine ⟨_, _, rfl, p1, p2, p3, by rw [List.length_append, hxl]; rfl, fun y hy => (List.mem_append.mp hy).elim (hx20 y) fun q => ?_⟩
          rw [List.mem_singleton.mp q]
          exact hz
      · rintro σ H5 ⟨xs, v6, rfl, k5, hB5, hr5, hxl, hx20⟩
        exact ⟨_, rfl, k r xs _ (by omega) hx20 k5 hB5 hr0 hr5⟩
end
end Pe
set_option Elab.async false
set_option maxRecDepth 100000
set_option maxHeartbeats 8000000
/-! the law's own raw, loose -/
namespace Pe
open PySem PySem.Spec PyProof.Rows L2
abbrev sRaw : Stmt := top 53
abbrev sLoose : Stmt := top 54
def rawOk : Nat → Nd → Prop
  | _, .eye x => x.length ≤ 20
  | 0, .nd _ _ => False
  | d + 1, .nd _ l => l.length ≤ 4 ∧ l ≠ [] ∧ ∀ n ∈ l, rawOk d n
theorem kp_tup {B S : Addr} {H H' : Hp} (hb : Bag B S H) (k : Kp1 B H H') : ∀ b xs, H b = some (.tup xs) → H' b = some (.tup xs) := fun b xs e => k _ _ e fun z => by
  obtain ⟨ns, i, g, st, c, h1, _⟩ := hb
  rw [z, h1] at e
  cases e
theorem NAt.kp {B S : Addr} {H H' : Hp} (hb : Bag B S H) (k : Kp1 B H H') {n : Nd} {v : V} (h : NAt H n v) : NAt H' n v := NAt.mono (kp_tup hb k) n v h
theorem NAts.kp {B S : Addr} {H H' : Hp} (hb : Bag B S H) (k : Kp1 B H H') {l : List Nd} {vs : List V} (h : NAts H l vs) : NAts H' l vs := NAts.mono (kp_tup hb k) l vs h
def spRaw (d : Nat) : Sp := fun vs H Q _ => ∃ (B S l : Addr) (xs : List Str) (k : Nat), vs = [.ref B, .ref l, .int (k : Int)] ∧ k < d ∧ Bag B S H ∧ l ≠ B ∧ H l = some (.lst (xs.map V.str)) ∧ xs ≠ [] ∧ xs.length ≤ 20 ∧ (∀ z ∈ xs, z.length ≤ 20) ∧ ∀ (n : Nd) v H', rawOk k n → NAt H' n v → Kp1 B H H' → Bag B S H' → Q v H'
section
variable {P : Program} {w : World} {K : PySem.W.Frag} {mg : Str → Option Value} {base : Heap} {f : Addr} {fd : FuncData}
abbrev nRw : List Str := ["_law_bag_here", "_law_titles_here", "_law_deep", "_law_turn", "_law_nodes", "_law_k"]
theorem scRw : FnScope nRw ["_law_bag_here", "_law_titles_here", "_law_deep"] (C8.fnScope sRaw) := C8.fnScope_by (by decide +kernel)
theorem ok_raw (F : C8.Def K mg "_law_raw" sRaw f fd) (b : Binds K fd ["_law_bag_here", "_law_titles_here", "_law_deep"] []) (zR : mg "range" = none) (zT : mg "tuple" = none) (cD : C8.Cal P w K mg base 1 "_law_draw" spDraw []) (cO : C8.Cal P w K mg base 2 "_law_of" spOf []) : ∀ d, C8.Cal P w K mg base (2 + d) "_law_raw" (spRaw d) []
  | 0 => by
    refine ⟨f, fd, ["_law_bag_here", "_law_titles_here", "_law_deep"], [], ⟨fun vs H Q E h => ?_, fun A outer s H args us vs Q E _ _ _ _ h => ?_⟩, F.mgf, F.kp, b, .nil⟩
    · obtain ⟨_, _, _, _, _, _, h, _⟩ := h
      exact absurd h (Nat.not_lt_zero _)
    · obtain ⟨_, _, _, _, _, _, h, _⟩ := h
      exact absurd h (Nat.not_lt_zero _)
  | d + 1 => by
    have ih := ok_raw F b zR zT cD cO d
    refine C8.cal0 F b .nil scRw (fun vs H Q E h => ?_) (fun cdv A outer s H vs Q E hr h => ?_)
    · obtain ⟨_, _, _, _, _, rfl, _⟩ := h
      rfl
    · obtain ⟨B, S, l, xs, k, rfl, hkd, hB, hlB, hl, hne, hxl, hx, kk⟩ := h
      refine ⟨_, pss_cons (ps_set (i := 3) scRw.nd rfl (Or.inl rfl) (C8.pe_c cD hr (Nat.le_trans (by decide) (Nat.le_add_right 2 d)) (by rfl) (pa_cons (pv 0) (pa_cons pe_int pa_nil))))
        (pss_cons (ps_if (PW.pt (pw_or (pt_cmpR op_eq (pv 2) pe_int (nomark _)) (pw_or1 (pt_cmpR op_eq (pv 3) pe_int (nomark _))))) (pss_one (ps_ret (pe_tup (pa_cons pe_str (pa_cons (C8.pe_c cO hr (Nat.le_add_right 2 d) (by rfl) (pa_cons (pv 0) (pa_cons (pv 1) pa_nil))) pa_nil))))) pss_nil)
        (C8.pss_cut (ps_setLc (i := 4) (own := [("_law_k", 5)]) (g := gName 5) (tt := tYes) (te := tCall (spRaw d) [] C8.E0 (tCons (tVar 0) (tCons (tVar 1) (tCons (tOp (rI0 fun i j => .int (i - j)) (tVar 2) (tC (.int 1))) tNil))))
          rfl scRw.nd rfl rfl rfl (pi_range1 (by rfl) zR (pa_cons (pe_op op_add pe_int (C8.pe_c cD hr (Nat.le_trans (by decide) (Nat.le_add_right 2 d)) (by rfl) (pa_cons (pv 0) (pa_cons pe_int pa_nil)))) pa_nil)) (blkOk_by (N := nRw) (sc := C8.fnScope sRaw) (by decide +kernel))
          (fun _ _ _ _ _ => pg_name (i := 5) scRw.nd rfl (Or.inl rfl)) (fun _ _ _ _ _ => pts_nil) (fun _ _ _ _ _ => C8.pe_c ih hr (Nat.le_refl _) (by rfl) (pa_cons (pv 0) (pa_cons (pv 1) (pa_cons (pe_op op_sub (pv 2) pe_int) pa_nil)))))
        (C8.pss_cut (ps_if (pt_cmpR op_eq (C8.pe_c cD hr (Nat.le_trans (by decide) (Nat.le_add_right 2 d)) (by rfl) (pa_cons (pv 0) (pa_cons pe_int pa_nil))) pe_int (nomark _))
          (pss_one (ps_expr (pe_bm PySem.F.plainAttrs_list PySem.F.slot_list_append PySem.F.type_list_append mt_append (pv 4) (pa_cons (C8.pe_c cO hr (Nat.le_add_right 2 d) (by rfl) (pa_cons (pv 0) (pa_cons (pv 4) pa_nil))) pa_nil)))) pss_nil)
        (pss_one (ps_ret (pe_tup (pa_cons (pe_ifExp (pt_cmpR op_lt (pv 3) pe_int (nomark _)) pe_str pe_str) (pa_cons (pe_callTy call_tuple_of (by rfl) zT (by decide +kernel) (pa_cons (pv 4) pa_nil)) pa_nil)))))))), ?_⟩
      refine ⟨_, rfl, B, S, 5, rfl, hB, by decide, by decide, fun j H1 j0 j1 k1 hB1 => ?_⟩
      have hl1 := k1 _ _ hl hlB
      have eye : ∃ x, some (V.ref B) = some x ∧ True := ⟨_, rfl, trivial⟩
      refine ⟨_, rfl, rfl, _, rfl, ?_⟩
      rw [ei]
      by_cases h0 : (k : Int) = 0
      · rw [decide_eq_true h0]
        refine iteT ?_
        refine iteT ?_
        refine ⟨_, rfl, _, rfl, B, S, _, rfl, hB1, .inl ⟨l, _, rfl, hlB, hl1, by simpa using hne, by rw [List.length_map]; omega, fun y H2 hy k2 hB2 => ⟨(by show 2 ≤ sizeLine; decide), fun p hp => ?_⟩⟩⟩
        obtain ⟨z, hz, rfl⟩ := List.mem_map.mp hy
        refine kk (.eye z.cps.toList) _ _ (by rw [rawOk]; have := hx z hz; simpa [Str.length] using this) ?_ ((k1.trans k2).new hp (hB2.ne hp).1) (hB2.new hp)
        rw [NAt]
        exact ⟨p, rfl, by rw [upd_same, SX.S_tl]⟩
      · rw [decide_eq_false h0]
        refine iteF ?_
        refine ⟨_, rfl, rfl, _, rfl, ?_⟩
        refine ite2 (fun hc => ?_) (fun hc => ?_)
        · refine ⟨_, rfl, _, rfl, B, S, _, rfl, hB1, .inl ⟨l, _, rfl, hlB, hl1, by simpa using hne, by rw [List.length_map]; omega, fun y H2 hy k2 hB2 => ⟨(by show 2 ≤ sizeLine; decide), fun p hp => ?_⟩⟩⟩
          obtain ⟨z, hz, rfl⟩ := List.mem_map.mp hy
          refine kk (.eye z.cps.toList) _ _ (by rw [rawOk]; have := hx z hz; simpa [Str.length] using this) ?_ ((k1.trans k2).new hp (hB2.ne hp).1) (hB2.new hp)
          rw [NAt]
          exact ⟨p, rfl, by rw [upd_same, SX.S_tl]⟩
        · obtain ⟨k', rfl⟩ : ∃ k', k = k' + 1 := ⟨k - 1, by omega⟩
          refine ⟨fun σ' Hc => ∃ (D : Addr) (ns : List Nd) (vs : List V), σ' = [some (.ref B), some (.ref l), some (.int ((k' + 1 : Nat) : Int)), some (.int j), some (.ref D), none] ∧ Kp1 B H Hc ∧ Bag B S Hc ∧ H D = none ∧ D ≠ B ∧ D ≠ S ∧ Hc D = some (.lst vs) ∧ NAts Hc ns vs ∧ 2 ≤ ns.length ∧ ns.length ≤ 3 ∧ ∀ n ∈ ns, rawOk k' n, ?_, ?_⟩
          · refine ⟨_, rfl, B, S, 2, rfl, hB1, by decide, by decide, fun j2 H2 j3 j4 k2 hB2 => ?_⟩
            refine ⟨_, _, rfl, rfl, _, rfl, by omega, by omega, fun D hD => ?_⟩
            have hDn := hB2.ne hD
            have k12 := k1.trans k2
            have hDH : H D = none := by
              cases e : H D with
              | none => rfl
              | some o => rw [k12 _ _ e hDn.1] at hD; cases hD
            have hl2 := k2 _ _ hl1 hlB
            refine lc_it (walk_range (lo := 0)) (fun i H3 => Kp1 B H2 H3 ∧ Bag B S H3 ∧ ∃ (ns : List Nd) (vs : List V), H3 D = some (.lst vs) ∧ NAts H3 ns vs ∧ ns.length = i ∧ ∀ n ∈ ns, rawOk k' n) ⟨Kp1.refl.new hD hDn.1, hB2.new hD, [], [], upd_same, NAts.nil, rfl, fun z hz => by cases hz⟩ (fun _ _ _ _ => trivial) ?_ ?_
            · rintro i y H3 H4 hi ⟨k3, hB3, ns, vs, hD3, hns, hnl, hok⟩ ⟨rfl, _⟩
              have hi' : i < 3 := by omega
              have ek : ((k' + 1 : Nat) : Int) - 1 = (k' : Int) := by omega
              refine ⟨rfl, _, rfl, _, rfl, _, rfl, _, _, rfl, rfl, B, S, l, xs, k', by rw [← ek]; rfl, by omega, hB3, hlB, k3 _ _ hl2 hlB, hne, hxl, hx, fun n v H5 hn hv k5 hB5 => ?_⟩
              obtain ⟨a, p1, p2, p3, p4, p5, p6⟩ := lc_putK (y := v) hD hDn.1 hDn.2 k3 k5 hB5 hD3 (by rw [hns.len]; omega)
              subst p3
              have mono : ∀ b xs', H5 b = some (.tup xs') → upd H5 D (.lst (a ++ [v])) b = some (.tup xs') := tup_upd p1
              exact ⟨_, p1, p2, p4, p5, ns ++ [n], a ++ [v], p6, (NAts.mono mono _ _ (hns.kp hB3 k5)).app (NAts.cons (NAt.mono mono _ _ hv) NAts.nil), by rw [List.length_append, hnl]; rfl, fun m hm => (List.mem_append.mp hm).elim (hok m) fun q => by rw [List.mem_singleton.mp q]; exact hn⟩
            · rintro H3 ⟨k3, hB3, ns, vs, hD3, hns, hnl, hok⟩
              exact ⟨D, ns, vs, rfl, k12.trans k3, hB3, hDH, hDn.1, hDn.2, hD3, hns, by omega, by omega, hok⟩
          · rintro σ' H2 ⟨D, ns, vs, rfl, k2, hB2, hDH, hDB, hDS, hD2, hns, hn2, hn3, hok⟩
            refine ⟨fun σ' Hc => ∃ (ns : List Nd) (vs : List V), σ' = [some (.ref B), some (.ref l), some (.int ((k' + 1 : Nat) : Int)), some (.int j), some (.ref D), none] ∧ Kp1 B H Hc ∧ Bag B S Hc ∧ Hc D = some (.lst vs) ∧ NAts Hc ns vs ∧ 2 ≤ ns.length ∧ ns.length ≤ 4 ∧ ∀ n ∈ ns, rawOk k' n, ?_, ?_⟩
            · refine ⟨_, rfl, B, S, 4, rfl, hB2, by decide, by decide, fun j2 H3 j3 j4 k3 hB3 => ⟨rfl, _, rfl, ?_⟩⟩
              have hns3 := hns.kp hB2 k3
              have hD3 := k3 _ _ hD2 hDB
              refine ite2 (fun hc => ?_) (fun hc => ?_)
              · refine ⟨_, rfl, .inl ⟨rfl, _, SqL.of hD3⟩, _, rfl, _, rfl, B, S, _, rfl, hB3, .inl ⟨D, vs, rfl, hDB, hD3, ?_, ?_, fun y H4 hy k4 hB4 => ?_⟩⟩
                · intro e
                  have := hns.len
                  rw [e] at this
                  simp at this
                  omega
                · rw [hns.len]
                  omega
                · obtain ⟨i, hi, e⟩ := List.mem_iff_getElem.mp hy
                  obtain ⟨n, hn1, hn2'⟩ := hns3.get (i := i) (v := y) (by rw [List.getElem?_eq_getElem hi, e])
                  have hD4 := k4 _ _ hD3 hDB
                  refine ⟨D, _, _, rfl, rfl, hD4, ?_, ?_⟩
                  · rw [hns.len, sizeLine_eq]
                    omega
                  · have mono : ∀ b xs', H4 b = some (.tup xs') → upd H4 D (.lst (vs ++ [y])) b = some (.tup xs') := tup_upd hD4
                    refine ⟨ns ++ [n], vs ++ [y], rfl, fun b o q nb => ?_, hB4.upd hDB hDS, upd_same, (NAts.mono mono _ _ (hns3.kp hB3 k4)).app (NAts.cons (NAt.mono mono _ _ (hn2'.kp hB3 k4)) NAts.nil), by rw [List.length_append]; omega, by rw [List.length_append]; exact Nat.succ_le_succ hn3, fun m hm => (List.mem_append.mp hm).elim (hok m) fun q => by rw [List.mem_singleton.mp q]; exact hok _ (List.mem_of_getElem? hn1)⟩
                    rw [upd_ne (ne_of_none q hDH)]
                    exact k4 _ _ (k3 _ _ (k2 b o q nb) nb) nb
              · exact ⟨ns, vs, rfl, k2.trans k3, hB3, hD3, hns3, hn2, by omega, hok⟩
            · rintro σ' H3 ⟨ns, vs, rfl, k3, hB3, hD3, hns, hn2, hn4, hok⟩
              refine ⟨_, rfl, _, _, rfl, rfl, _, rfl, ?_⟩
              have fin : ∀ bb : Bool, ∀ (t : Addr), H3 t = none → ∀ p, (upd H3 t (.tup vs)) p = none → Q (.ref p) (upd (upd H3 t (.tup vs)) p (.tup [.str (kdS bb), .ref t])) := fun bb t ht p hp => by
                have hbt := hB3.new (o := .tup vs) ht
                refine kk (.nd bb ns) _ _ ?_ ?_ ((k3.new ht (hB3.ne ht).1).new hp (hbt.ne hp).1) (hbt.new hp)
                · rw [rawOk]
                  exact ⟨hn4, fun e => by rw [e] at hn2; exact absurd hn2 (by decide), hok⟩
                · rw [NAt]
                  exact ⟨p, t, vs, rfl, upd_same, by rw [upd_ne (ne_of_none upd_same hp), upd_same], (hns.same ((same_new ht).trans (same_new hp)))⟩
              refine ite2 (fun hc => ?_) (fun hc => ?_)
              · exact ⟨_, rfl, D, vs, rfl, .inl ⟨SqL.of hD3, fun t ht => ⟨(by show 2 ≤ sizeLine; decide), fun p hp => fin true t ht p hp⟩⟩⟩
              · exact ⟨_, rfl, D, vs, rfl, .inl ⟨SqL.of hD3, fun t ht => ⟨(by show 2 ≤ sizeLine; decide), fun p hp => fin false t ht p hp⟩⟩⟩
end
end Pe
set_option Elab.async false
set_option maxRecDepth 100000
set_option maxHeartbeats 8000000
/-! the law's own loose -/
namespace Pe
open PySem PySem.Spec PyProof.Rows L2
def lb : Nat → Nat
  | 0 => 20
  | k + 1 => 4 * (lb k + 9)
theorem lb_ge : ∀ k, 20 ≤ lb k
  | 0 => Nat.le_refl _
  | k + 1 => by
    have := lb_ge k
    rw [lb]
    omega
theorem lb_le {k : Nat} (h : k ≤ 3) : lb k ≤ 2036 := by
  match k, h with
  | 0, _ => decide
  | 1, _ => decide
  | 2, _ => decide
  | 3, _ => decide
def spLoose (d : Nat) : Sp := fun vs H Q _ => ∃ (B S : Addr) (n : Nd) (v : V) (k : Nat), vs = [.ref B, v] ∧ k < d ∧ k ≤ 3 ∧ Bag B S H ∧ rawOk k n ∧ NAt H n v ∧ ∀ (z : Str) H', z.length ≤ lb k → Kp1 B H H' → Bag B S H' → Q (.str z) H'
section
variable {P : Program} {w : World} {K : PySem.W.Frag} {mg : Str → Option Value} {base : Heap} {f : Addr} {fd : FuncData}
abbrev nLo : List Str := ["_law_bag_here", "_law_raw_here", "_law_pieces", "_law_x", "_law_wide"]
theorem scLo : FnScope nLo ["_law_bag_here", "_law_raw_here"] (C8.fnScope sLoose) := C8.fnScope_by (by decide +kernel)
theorem ok_loose (F : C8.Def K mg "_law_loose" sLoose f fd) (b : Binds K fd ["_law_bag_here", "_law_raw_here"] []) (cO : C8.Cal P w K mg base 2 "_law_of" spOf []) : ∀ d, C8.Cal P w K mg base (2 + d) "_law_loose" (spLoose d) []
  | 0 => by
    refine ⟨f, fd, ["_law_bag_here", "_law_raw_here"], [], ⟨fun vs H Q E h => ?_, fun A outer s H args us vs Q E _ _ _ _ h => ?_⟩, F.mgf, F.kp, b, .nil⟩
    · obtain ⟨_, _, _, _, _, _, h, _⟩ := h
      exact absurd h (Nat.not_lt_zero _)
    · obtain ⟨_, _, _, _, _, _, h, _⟩ := h
      exact absurd h (Nat.not_lt_zero _)
  | d + 1 => by
    have ih := ok_loose F b cO d
    refine C8.cal0 F b .nil scLo (fun vs H Q E h => ?_) (fun cdv A outer s H vs Q E hr h => ?_)
    · obtain ⟨_, _, _, _, _, rfl, _⟩ := h
      rfl
    · obtain ⟨B, S, n, v, k, rfl, hkd, hk3, hB, hraw, hn, kk⟩ := h
      refine ⟨_, pss_cons (ps_if (pt_cmpR op_eq (pe_ix ix_tup (pv 1) pe_int (fun _ _ => rfl)) pe_str (nomark _)) (pss_one (ps_ret (pe_ix ix_tup (pv 1) pe_int (fun _ _ => rfl)))) pss_nil)
        (pss_cons (ps_set (i := 2) scLo.nd rfl (Or.inl rfl) (pe_lst pa_nil))
        (pss_cons (ps_for PassesOwn.never rfl (pi_tup (pe_ix ix_tup (pv 1) pe_int (fun _ _ => rfl))) (pg_name (i := 3) scLo.nd rfl (Or.inl rfl))
          (C8.pss_cut (ps_set (i := 4) scLo.nd rfl (Or.inl rfl) (pe_op op_add (C8.pe_c cO hr (Nat.le_add_right 2 d) (by rfl) (pa_cons (pv 0) (pa_cons (pe_lst (pa_cons pe_int (pa_cons pe_int (pa_cons pe_int (pa_cons pe_int (pa_cons pe_int pa_nil)))))) pa_nil))) (pe_ifExp (pt_cmpR op_eq (pe_ix ix_tup (pv 3) pe_int (fun _ _ => rfl)) pe_str (nomark _)) pe_int pe_int)))
          (pss_one (ps_expr (pe_bm PySem.F.plainAttrs_list PySem.F.slot_list_append PySem.F.type_list_append mt_append (pv 2) (pa_cons (pe_op op_add_str (pe_op op_add_str (pe_op op_mulS pe_str (pv 4)) (C8.pe_c ih hr (Nat.le_refl _) (by rfl) (pa_cons (pv 0) (pa_cons (pv 3) pa_nil)))) (pe_op op_mulS pe_str (pv 4))) pa_nil))))))
        (pss_one (ps_ret (pe_ifExp (pt_cmpR op_eq (pe_ix ix_tup (pv 1) pe_int (fun _ _ => rfl)) pe_str (nomark _)) (pe_join pe_str (pv 2)) (pe_join pe_str (pv 2))))))), ?_⟩
      have hlk := lb_ge k
      cases n with
      | eye x =>
        rw [NAt] at hn
        obtain ⟨p, rfl, hp⟩ := hn
        refine ⟨_, rfl, p, _, 0, _, rfl, rfl, SqT.of hp, rfl, rfl, _, rfl, ?_⟩
        rw [eye_eye]
        refine iteT ?_
        have hx : x.length ≤ 20 := by
          cases k with
          | zero => rw [rawOk] at hraw; exact hraw
          | succ k => rw [rawOk] at hraw; exact hraw
        exact ⟨_, rfl, p, _, 1, _, rfl, rfl, SqT.of hp, rfl, kk _ H (by rw [SX.S_len]; omega) Kp1.refl hB⟩
      | nd bb l =>
        cases k with
        | zero =>
          rw [rawOk] at hraw
          exact hraw.elim
        | succ k' =>
          rw [rawOk] at hraw
          obtain ⟨hl4, hne, hok⟩ := hraw
          have hlk' := lb_le (k := k') (by omega)
          rw [NAt] at hn
          obtain ⟨p, q, vs, rfl, hp, hq, hl⟩ := hn
          refine ⟨_, rfl, p, _, 0, _, rfl, rfl, SqT.of hp, rfl, rfl, _, rfl, ?_⟩
          rw [kd_eye bb]
          refine iteF ?_
          refine ⟨by decide, fun D hD => ?_⟩
          have hDn := hB.ne hD
          have k0 : Kp1 B H (upd H D (.lst [])) := Kp1.refl.new hD hDn.1
          have hB0 : Bag B S (upd H D (.lst [])) := hB.new hD
          refine ⟨_, rfl, p, _, 1, _, rfl, rfl, SqT.of (same_new hD _ _ hp), rfl, q, rfl, ⟨_, SqT.of (same_new hD _ _ hq)⟩, for_it (walk_tup (xs := vs)) (fun i σ H1 => ∃ (zs : List Str) (v3 v4 : Option V), σ = [some (.ref B), some (.ref p), some (.ref D), v3, v4] ∧ Kp1 B H H1 ∧ Bag B S H1 ∧ H1 D = some (.lst (zs.map V.str)) ∧ zs.length = i ∧ ∀ z ∈ zs, z.length ≤ lb k' + 6) ⟨[], none, none, rfl, k0, hB0, upd_same, rfl, fun z hz => by cases hz⟩ (fun i σ H1 _ pv => ?_) ?_ ?_⟩
          · obtain ⟨_, _, _, _, k1, _⟩ := pv
            exact SqT.of (kp_tup hB k1 _ _ hq)
          · rintro i y σ H1 H2 hi ⟨zs, v3, v4, rfl, k1, hB1, hD1, hzl, hz⟩ ⟨rfl, hy⟩
            obtain ⟨m, hm, hnm⟩ := (hl.kp hB k1).get hy
            have hmem := List.mem_of_getElem? hm
            have hi4 : i < 4 := by
              rw [hl.len] at hi
              omega
            obtain ⟨pm, um, rfl, hpm⟩ := hnm.top
            refine ⟨fun σ' Hc => ∃ (wd : Nat), σ' = [some (.ref B), some (.ref p), some (.ref D), some (.ref pm), some (.int (wd : Int))] ∧ wd ≤ 3 ∧ Kp1 B H2 Hc ∧ Bag B S Hc, ?_, ?_⟩
            · refine ⟨_, rfl, (by show 5 ≤ sizeLine; decide), fun p5 hp5 => ⟨B, S, _, rfl, hB1.new hp5, .inl ⟨p5, _, rfl, (hB1.ne hp5).1, upd_same, by simp, (by show 5 < 1000000; decide), fun y H3 hy3 k3 hB3 => ?_⟩⟩⟩
              have k13 : Kp1 B H2 H3 := (Kp1.refl.new hp5 (hB1.ne hp5).1).trans k3
              obtain ⟨wd, hwd, rfl⟩ : ∃ wd : Nat, wd ≤ 2 ∧ y = .int (wd : Int) := by
                simp only [List.mem_cons, List.not_mem_nil, or_false] at hy3
                rcases hy3 with rfl | rfl | rfl | rfl | rfl
                · exact ⟨0, by decide, rfl⟩
                · exact ⟨0, by decide, rfl⟩
                · exact ⟨0, by decide, rfl⟩
                · exact ⟨1, by decide, rfl⟩
                · exact ⟨2, by decide, rfl⟩
              refine ⟨_, rfl, pm, _, 0, _, rfl, rfl, SqT.of (kp_tup hB1 k13 _ _ hpm), rfl, rfl, _, rfl, ?_⟩
              refine ite2 (fun hc => ?_) (fun hc => ?_)
              · exact ⟨_, _, rfl, rfl, wd, rfl, by omega, k13, hB3⟩
              · exact ⟨_, _, rfl, rfl, wd + 1, rfl, by omega, k13, hB3⟩
            · rintro σ' H3 ⟨wd, rfl, hwd, k3, hB3⟩
              have hD3 := k3 _ _ hD1 hDn.1
              have e1 : ("(" : Str).length = 1 := by decide +kernel
              have e2 : (")" : Str).length = 1 := by decide +kernel
              refine ⟨_, rfl, .inl ⟨rfl, _, SqL.of hD3⟩, _, rfl, _, wd, rfl, rfl, by rw [e1]; decide, by omega, fun t ht => ?_⟩
              rw [e1] at ht
              refine ⟨_, rfl, _, rfl, B, S, m, _, k', rfl, by omega, by omega, hB3, hok m hmem, hnm.kp hB1 k3, fun z H4 hz4 k4 hB4 => ?_⟩
              refine ⟨_, _, rfl, rfl, by rw [sizeLine_eq]; omega, _, rfl, _, wd, rfl, rfl, by rw [e2]; decide, by omega, fun t2 ht2 => ?_⟩
              rw [e2] at ht2
              have hD4 := k4 _ _ hD3 hDn.1
              refine ⟨_, _, rfl, rfl, by rw [slen, sizeLine_eq]; omega, D, _, _, rfl, rfl, hD4, by rw [List.length_map, sizeLine_eq]; omega, ?_⟩
              refine ⟨zs ++ [t ++ z ++ t2], _, _, rfl, fun b o q nb => ?_, hB4.upd hDn.1 hDn.2, by rw [upd_same, List.map_append]; rfl, by rw [List.length_append, hzl]; rfl, fun y hy => (List.mem_append.mp hy).elim (hz y) fun q => ?_⟩
              · rw [upd_ne (ne_of_none q hD)]
                exact k4 _ _ (k3 _ _ (k1 b o q nb) nb) nb
              · rw [List.mem_singleton.mp q, slen, slen]
                omega
          · rintro σ H1 ⟨zs, v3, v4, rfl, k1, hB1, hD1, hzl, hz⟩
            have hp1 := kp_tup hB k1 _ _ hp
            have e3 : (" & " : Str).length = 3 := by decide +kernel
            have e4 : (" | " : Str).length = 3 := by decide +kernel
            have hzl4 : zs.length ≤ 4 := by
              rw [hzl, hl.len]
              exact hl4
            have hsm := sum_ones hz 0
            have hsm3 := sum_ones hz 3
            simp only [Nat.add_zero] at hsm
            have hmul : zs.length * (lb k' + 6) ≤ 4 * (lb k' + 6) := Nat.mul_le_mul_right _ hzl4
            have hmul3 : zs.length * (lb k' + 6 + 3) ≤ 4 * (lb k' + 9) := Nat.mul_le_mul hzl4 (Nat.le_refl _)
            refine ⟨_, rfl, p, _, 0, _, rfl, rfl, SqT.of hp1, rfl, rfl, _, rfl, ?_⟩
            refine ite2 (fun hc => ?_) (fun hc => ?_)
            · refine ⟨⟨_, rfl⟩, _, rfl, _, D, zs, rfl, rfl, .inl (SqL.of hD1), ?_, kk _ _ ?_ k1 hB1⟩
              · rw [e3]
                omega
              · refine Nat.le_trans (jlen _ _) ?_
                rw [e3, lb]
                omega
            · refine ⟨⟨_, rfl⟩, _, rfl, _, D, zs, rfl, rfl, .inl (SqL.of hD1), ?_, kk _ _ ?_ k1 hB1⟩
              · rw [e4]
                omega
              · refine Nat.le_trans (jlen _ _) ?_
                rw [e4, lb]
                omega
end
end Pe
set_option Elab.async false
set_option maxRecDepth 100000
set_option maxHeartbeats 8000000
/-! the law's own bent -/
namespace Pe
open PySem PySem.Spec PyProof.Rows L2
abbrev sBent : Stmt := top 58
def spBent : Sp := fun vs H Q _ => ∃ (B S : Addr) (x y : Str), vs = [.ref B, .str x, .str y] ∧ Bag B S H ∧ x.length ≤ 15000 ∧ y.length ≤ 3000 ∧ ∀ (z : Str) H', z.length ≤ x.length + y.length + 20 → Kp1 B H H' → Bag B S H' → Q (.str z) H'
theorem cut_len (z : Str) (lo hi : Option Int) : (cutS z lo hi).length ≤ HT.sIx z.length z.length hi - HT.sIx z.length 0 lo := by
  show (((z.cps.toList.drop (HT.sIx z.length 0 lo)).take (HT.sIx z.length z.length hi - HT.sIx z.length 0 lo)).toArray).size ≤ _
  rw [List.size_toArray, List.length_take]
  exact Nat.min_le_left _ _
theorem cl_to (z : Str) {i : Int} (h : 0 ≤ i) : ((cutS z none (some i)).length : Int) ≤ i ∧ (cutS z none (some i)).length ≤ z.length := by
  obtain ⟨a, rfl⟩ : ∃ a : Nat, i = (a : Int) := ⟨i.toNat, by omega⟩
  have h1 := cut_len z none (some (a : Int))
  rw [HT.sIx_nat, HT.sIx_none] at h1
  omega
theorem cl_from (z : Str) {i : Int} (h : 0 ≤ i) : ((cutS z (some i) none).length : Int) + i ≤ max i z.length ∧ (cutS z (some i) none).length ≤ z.length := by
  obtain ⟨a, rfl⟩ : ∃ a : Nat, i = (a : Int) := ⟨i.toNat, by omega⟩
  have h1 := cut_len z (some (a : Int)) none
  rw [HT.sIx_nat, HT.sIx_none] at h1
  omega
theorem cl_mid (z : Str) {i j : Int} (h : 0 ≤ i) (h2 : i ≤ j) : ((cutS z (some i) (some j)).length : Int) ≤ j - i ∧ (cutS z (some i) (some j)).length ≤ z.length := by
  obtain ⟨a, rfl⟩ : ∃ a : Nat, i = (a : Int) := ⟨i.toNat, by omega⟩
  obtain ⟨b, rfl⟩ : ∃ b : Nat, j = (b : Int) := ⟨j.toNat, by omega⟩
  have h1 := cut_len z (some (a : Int)) (some (b : Int))
  rw [HT.sIx_nat, HT.sIx_nat] at h1
  omega
abbrev st19 : List Str := [" ", "&", "|", "(", ")", "a", " & ", " | ", "  ", "A", "1", "\n", "_", "~", ",", "()", "zzzzzz", ") & (", "&&"]
abbrev st8 : List Str := ["", " ", " & ", " | ", "&", "(", ")", "\n"]
theorem st19_len : ∀ z ∈ st19, z.length ≤ 6 := by decide +kernel
theorem st8_len : ∀ z ∈ st8, z.length ≤ 6 := by decide +kernel
section
variable {P : Program} {w : World} {K : PySem.W.Frag} {mg : Str → Option Value} {base : Heap} {f : Addr} {fd : FuncData}
abbrev nBe : List Str := ["_law_bag_here", "_law_words_here", "_law_other_words", "_law_turn", "_law_spot", "_law_sign"]
theorem scBe : FnScope nBe ["_law_bag_here", "_law_words_here", "_law_other_words"] (C8.fnScope sBent) := C8.fnScope_by (by decide +kernel)
theorem ok_bent (F : C8.Def K mg "_law_bent" sBent f fd) (b : Binds K fd ["_law_bag_here", "_law_words_here", "_law_other_words"] []) (zL : mg "len" = none) (cD : C8.Cal P w K mg base 1 "_law_draw" spDraw []) (cO : C8.Cal P w K mg base 2 "_law_of" spOf []) : C8.Cal P w K mg base 3 "_law_bent" spBent [] := by
  refine C8.cal0 F b .nil scBe (fun vs H Q E h => ?_) (fun cdv A outer s H vs Q E hr h => ?_)
  · obtain ⟨_, _, _, _, rfl, _⟩ := h
    rfl
  · obtain ⟨B, S, x, y, rfl, hB, hx, hy, kk⟩ := h
    refine ⟨_, C8.pss_cut (ps_par (i := 3) (j := 4) rfl scBe.nd rfl rfl (by decide) rfl rfl (pa_cons (C8.pe_c cD hr (by decide) (by rfl) (pa_cons (pv 0) (pa_cons pe_int pa_nil))) (pa_cons (C8.pe_c cD hr (by decide) (by rfl) (pa_cons (pv 0) (pa_cons (pe_op op_add (pe_callB call_len_str (by rfl) zL PySem.boot_len (pa_cons (pv 1) pa_nil)) pe_int) pa_nil))) pa_nil)) (by rfl))
        (C8.pss_cut (ps_set (i := 5) scBe.nd rfl (Or.inl rfl) (C8.pe_c cO hr (by decide) (by rfl) (pa_cons (pv 0) (pa_cons (pe_lst (pa_cons pe_str (pa_cons pe_str (pa_cons pe_str (pa_cons pe_str (pa_cons pe_str (pa_cons pe_str (pa_cons pe_str (pa_cons pe_str (pa_cons pe_str (pa_cons pe_str (pa_cons pe_str (pa_cons pe_str (pa_cons pe_str (pa_cons pe_str (pa_cons pe_str (pa_cons pe_str (pa_cons pe_str (pa_cons pe_str (pa_cons pe_str pa_nil)))))))))))))))))))) pa_nil))))
        (pss_cons (ps_if (pt_cmpR op_eq (pv 3) pe_int (nomark _)) (pss_one (ps_ret (pe_op op_add_str (pe_op op_add_str (pe_slice sl_str (pv 1) po_none (po_some (pv 4))) (pv 5)) (pe_slice sl_str (pv 1) (po_some (pv 4)) po_none)))) pss_nil)
        (pss_cons (ps_if (pt_cmpR op_eq (pv 3) pe_int (nomark _)) (pss_one (ps_ret (pe_op op_add_str (pe_slice sl_str (pv 1) po_none (po_some (pv 4))) (pe_slice sl_str (pv 1) (po_some (pe_op op_add (pv 4) pe_int)) po_none)))) pss_nil)
        (pss_cons (ps_if (pt_cmpR op_eq (pv 3) pe_int (nomark _)) (pss_one (ps_ret (pe_op op_add_str (pe_op op_add_str (pe_slice sl_str (pv 1) po_none (po_some (pv 4))) (pv 5)) (pe_slice sl_str (pv 1) (po_some (pe_op op_add (pv 4) pe_int)) po_none)))) pss_nil)
        (pss_cons (ps_if (pt_cmpR op_eq (pv 3) pe_int (nomark _)) (pss_one (ps_ret (pe_slice sl_str (pv 1) po_none (po_some (pv 4))))) pss_nil)
        (pss_cons (ps_if (pt_cmpR op_eq (pv 3) pe_int (nomark _)) (pss_one (ps_ret (pe_op op_add_str (pe_op op_add_str (pv 1) (C8.pe_c cO hr (by decide) (by rfl) (pa_cons (pv 0) (pa_cons (pe_lst (pa_cons pe_str (pa_cons pe_str (pa_cons pe_str (pa_cons pe_str (pa_cons pe_str (pa_cons pe_str (pa_cons pe_str (pa_cons pe_str pa_nil))))))))) pa_nil)))) (pv 2)))) pss_nil)
        (pss_cons (ps_if (pt_cmpR op_eq (pv 3) pe_int (nomark _)) (pss_one (ps_ret (pe_op op_add_str (pe_op op_add_str (pe_slice sl_str (pv 1) po_none (po_some (pv 4))) (pe_slice sl_str (pv 1) (po_some (pv 4)) (po_some (pe_op op_add (pe_op op_add (pv 4) pe_int) (C8.pe_c cD hr (by decide) (by rfl) (pa_cons (pv 0) (pa_cons pe_int pa_nil))))))) (pe_slice sl_str (pv 1) (po_some (pv 4)) po_none)))) pss_nil)
        (pss_cons (ps_if (pt_cmpR op_eq (pv 3) pe_int (nomark _)) (pss_one (ps_ret (pe_op op_add_str (pe_op op_add_str (pe_op op_add_str (pe_slice sl_str (pv 1) po_none (po_some (pv 4))) (pe_slice sl_str (pv 1) (po_some (pe_op op_add (pv 4) pe_int)) (po_some (pe_op op_add (pv 4) pe_int)))) (pe_slice sl_str (pv 1) (po_some (pv 4)) (po_some (pe_op op_add (pv 4) pe_int)))) (pe_slice sl_str (pv 1) (po_some (pe_op op_add (pv 4) pe_int)) po_none)))) pss_nil)
        (pss_one (ps_ret (C8.pe_c cO hr (by decide) (by rfl) (pa_cons (pv 0) (pa_cons (pe_lst (pa_cons (pe_op op_add_str pe_str (pv 1)) (pa_cons (pe_op op_add_str (pv 1) pe_str) (pa_cons (pe_op op_add_str pe_str (pv 1)) (pa_cons (pe_op op_add_str (pv 1) pe_str) (pa_cons (pe_op op_add_str (pv 1) pe_str) (pa_cons (pe_op op_add_str (pv 1) pe_str) (pa_cons (pe_op op_add_str (pe_op op_add_str (pe_op op_add_str pe_str (pv 1)) pe_str) (pv 2)) pa_nil)))))))) pa_nil))))))))))))), ?_⟩
    have hxs : x.length ≤ sizeLine := by rw [sizeLine_eq]; omega
    refine ⟨fun σ' Hc => ∃ (t sp : Int), σ' = [some (.ref B), some (.str x), some (.str y), some (.int t), some (.int sp), none] ∧ 0 ≤ sp ∧ sp ≤ x.length ∧ Kp1 B H Hc ∧ Bag B S Hc, ?_, ?_⟩
    · refine ⟨_, rfl, B, S, 8, rfl, hB, by decide, by decide, fun t H1 t0 t1 k1 hB1 => ?_⟩
      refine ⟨_, rfl, _, rfl, x, rfl, hxs, _, _, rfl, rfl, B, S, _, rfl, hB1, by omega, by omega, fun sp H2 s0 s1 k2 hB2 => ⟨_, _, rfl, ?_⟩⟩
      exact ⟨t, sp, rfl, s0, by omega, k1.trans k2, hB2⟩
    rintro σ' H1 ⟨t, sp, rfl, s0, s1, k1, hB1⟩
    refine ⟨fun σ' Hc => ∃ (sg : Str), σ' = [some (.ref B), some (.str x), some (.str y), some (.int t), some (.int sp), some (.str sg)] ∧ sg.length ≤ 6 ∧ Kp1 B H Hc ∧ Bag B S Hc, ?_, ?_⟩
    · refine ⟨_, rfl, (by show 19 ≤ sizeLine; decide), fun p hp => ⟨B, S, _, rfl, hB1.new hp, .inl ⟨p, st19.map V.str, rfl, (hB1.ne hp).1, upd_same, by simp, (by show 19 < 1000000; decide), fun v H2 hv k2 hB2 => ?_⟩⟩⟩
      obtain ⟨z, hz, rfl⟩ := List.mem_map.mp hv
      exact ⟨z, rfl, st19_len z hz, (k1.new hp (hB1.ne hp).1).trans k2, hB2⟩
    rintro σ' H2 ⟨sg, rfl, hsg, k2, hB2⟩
    have c1 := cl_to x s0
    have c2 := cl_from x s0
    have c3 := cl_from x (i := sp + 1) (by omega)
    have c4 := cl_from x (i := sp + 2) (by omega)
    have c5 := cl_mid x (i := sp) (j := sp + 1) s0 (by omega)
    have c6 := cl_mid x (i := sp + 1) (j := sp + 2) (by omega) (by omega)
    refine ⟨_, rfl, rfl, _, rfl, ?_⟩
    refine ite2 (fun hc => ?_) (fun hc => ?_)
    · refine ⟨_, rfl, _, rfl, _, rfl, _, rfl, hxs, _, rfl, _, _, rfl, rfl, by rw [sizeLine_eq]; omega, _, rfl, _, rfl, _, rfl, _, rfl, hxs, _, _, rfl, rfl, by rw [slen, sizeLine_eq]; omega, ?_⟩
      exact kk _ _ (by rw [slen, slen]; omega) k2 hB2
    refine ⟨_, rfl, rfl, _, rfl, ?_⟩
    refine ite2 (fun hc => ?_) (fun hc => ?_)
    · refine ⟨_, rfl, _, rfl, _, rfl, _, rfl, hxs, _, rfl, _, rfl, _, _, rfl, rfl, _, rfl, _, rfl, hxs, _, _, rfl, rfl, by rw [sizeLine_eq]; omega, ?_⟩
      exact kk _ _ (by rw [slen]; omega) k2 hB2
    refine ⟨_, rfl, rfl, _, rfl, ?_⟩
    refine ite2 (fun hc => ?_) (fun hc => ?_)
    · refine ⟨_, rfl, _, rfl, _, rfl, _, rfl, hxs, _, rfl, _, _, rfl, rfl, by rw [sizeLine_eq]; omega, _, rfl, _, rfl, _, _, rfl, rfl, _, rfl, _, rfl, hxs, _, _, rfl, rfl, by rw [slen, sizeLine_eq]; omega, ?_⟩
      exact kk _ _ (by rw [slen, slen]; omega) k2 hB2
    refine ⟨_, rfl, rfl, _, rfl, ?_⟩
    refine ite2 (fun hc => ?_) (fun hc => ?_)
    · refine ⟨_, rfl, _, rfl, _, rfl, _, rfl, hxs, ?_⟩
      exact kk _ _ (by omega) k2 hB2
    refine ⟨_, rfl, rfl, _, rfl, ?_⟩
    refine ite2 (fun hc => ?_) (fun hc => ?_)
    · refine ⟨_, rfl, _, rfl, (by show 8 ≤ sizeLine; decide), fun p hp => ⟨B, S, _, rfl, hB2.new hp, .inl ⟨p, st8.map V.str, rfl, (hB2.ne hp).1, upd_same, by simp, (by show 8 < 1000000; decide), fun v H3 hv k3 hB3 => ?_⟩⟩⟩
      obtain ⟨z, hz, rfl⟩ := List.mem_map.mp hv
      have hz6 := st8_len z hz
      refine ⟨_, _, rfl, rfl, by rw [sizeLine_eq]; omega, _, rfl, _, _, rfl, rfl, by rw [slen, sizeLine_eq]; omega, ?_⟩
      exact kk _ _ (by rw [slen, slen]; omega) ((k2.new hp (hB2.ne hp).1).trans k3) hB3
    refine ⟨_, rfl, rfl, _, rfl, ?_⟩
    refine ite2 (fun hc => ?_) (fun hc => ?_)
    · refine ⟨_, rfl, _, rfl, _, rfl, _, rfl, hxs, _, rfl, _, rfl, _, rfl, _, rfl, _, _, rfl, rfl, _, rfl, B, S, 7, rfl, hB2, by decide, by decide, fun j H3 j0 j1 k3 hB3 => ?_⟩
      have c7 := cl_mid x (i := sp) (j := sp + 1 + j) s0 (by omega)
      refine ⟨_, _, rfl, rfl, _, rfl, _, rfl, hxs, _, _, rfl, rfl, by rw [sizeLine_eq]; omega, _, rfl, _, rfl, _, rfl, _, rfl, hxs, _, _, rfl, rfl, by rw [slen, sizeLine_eq]; omega, ?_⟩
      exact kk _ _ (by rw [slen, slen]; omega) (k2.trans k3) hB3
    refine ⟨_, rfl, rfl, _, rfl, ?_⟩
    refine ite2 (fun hc => ?_) (fun hc => ?_)
    · refine ⟨_, rfl, _, rfl, _, rfl, _, rfl, hxs, _, rfl, _, rfl, _, _, rfl, rfl, _, rfl, _, rfl, _, _, rfl, rfl, _, rfl, _, rfl, hxs, _, _, rfl, rfl, by rw [sizeLine_eq]; omega,
        _, rfl, _, rfl, _, rfl, _, rfl, _, _, rfl, rfl, _, rfl, _, rfl, hxs, _, _, rfl, rfl, by rw [slen, sizeLine_eq]; omega, _, rfl, _, rfl, _, _, rfl, rfl, _, rfl, _, rfl, hxs, _, _, rfl, rfl, by rw [slen, slen, sizeLine_eq]; omega, ?_⟩
      exact kk _ _ (by rw [slen, slen, slen]; omega) k2 hB2
    have q1 : ("(" : Str).length = 1 := by decide +kernel
    have q2 : (")" : Str).length = 1 := by decide +kernel
    have q3 : (" " : Str).length = 1 := by decide +kernel
    have q4 : (" &" : Str).length = 2 := by decide +kernel
    have q5 : (" | " : Str).length = 3 := by decide +kernel
    have q6 : (") & " : Str).length = 4 := by decide +kernel
    refine ⟨_, rfl, _, rfl, _, _, rfl, rfl, by rw [q1, sizeLine_eq]; omega, _, rfl, _, _, rfl, rfl, by rw [q2, sizeLine_eq]; omega, _, rfl, _, _, rfl, rfl, by rw [q3, sizeLine_eq]; omega, _, rfl, _, _, rfl, rfl, by rw [q3, sizeLine_eq]; omega, _, rfl, _, _, rfl, rfl, by rw [q4, sizeLine_eq]; omega, _, rfl, _, _, rfl, rfl, by rw [q5, sizeLine_eq]; omega,
      _, rfl, _, _, rfl, rfl, by rw [q1, sizeLine_eq]; omega, _, _, rfl, rfl, by rw [slen, q1, q6, sizeLine_eq]; omega, _, rfl, _, _, rfl, rfl, by rw [slen, slen, q1, q6, sizeLine_eq]; omega, (by show 7 ≤ sizeLine; decide), fun p hp => ?_⟩
    refine ⟨B, S, _, rfl, hB2.new hp, .inl ⟨p, [("(" : Str) ++ x, x ++ (")" : Str), (" " : Str) ++ x, x ++ (" " : Str), x ++ (" &" : Str), x ++ (" | " : Str), ("(" : Str) ++ x ++ (") & " : Str) ++ y].map V.str, rfl, (hB2.ne hp).1, upd_same, by simp, (by show 7 < 1000000; decide), fun v H3 hv k3 hB3 => ?_⟩⟩
    obtain ⟨z, hz, rfl⟩ := List.mem_map.mp hv
    refine kk _ _ ?_ ((k2.new hp (hB2.ne hp).1).trans k3) hB3
    simp only [List.mem_cons, List.not_mem_nil, or_false] at hz
    rcases hz with rfl | rfl | rfl | rfl | rfl | rfl | rfl
    all_goals simp only [slen, q1, q2, q3, q4, q5, q6]
    all_goals omega
end
end Pe
set_option Elab.async false
set_option maxRecDepth 100000
set_option maxHeartbeats 8000000
/-! the law's own odd, circle -/
namespace Pe
open PySem PySem.Spec PyProof.Rows L2
abbrev sOdd : Stmt := top 52
abbrev sCirc : Stmt := top 48
def OddV (C B : Addr) (H : Hp) (v : V) : Prop := v = .non ∨ (∃ b, v = .bl b) ∨ (∃ i, v = .int i) ∨ (∃ z : Str, v = .str z ∧ z.length ≤ 100) ∨ ∃ a, v = .ref a ∧ a ≠ B ∧ ((∃ xs, H a = some (.lst xs)) ∨ (∃ xs, H a = some (.tup xs)) ∨ ∃ dx fs, H a = some (.ins C dx fs))
theorem OddV.kp {C B : Addr} {H H' : Hp} {v : V} (k : Kp1 B H H') (h : OddV C B H v) : OddV C B H' v := by
  rcases h with h | h | h | h | ⟨a, e, n, h⟩
  · exact .inl h
  · exact .inr (.inl h)
  · exact .inr (.inr (.inl h))
  · exact .inr (.inr (.inr (.inl h)))
  · refine .inr (.inr (.inr (.inr ⟨a, e, n, ?_⟩)))
    rcases h with ⟨xs, h⟩ | ⟨xs, h⟩ | ⟨dx, fs, h⟩
    · exact .inl ⟨xs, k _ _ h n⟩
    · exact .inr (.inl ⟨xs, k _ _ h n⟩)
    · exact .inr (.inr ⟨dx, fs, k _ _ h n⟩)
theorem tho_str (K : PySem.W.Frag) (H : Hp) {z : Str} (h : z.length ≤ 20000) : ∃ o, ThO K H (.str z) o := by
  have := tho_text K H (x := z.cps.toList) (by simpa [Str.length] using h)
  rw [SX.S_tl] at this
  exact this
theorem odd_tho {K : PySem.W.Frag} {C B : Addr} {H : Hp} {v : V} (I : C8.InsC K C) (kS : PySem.W.kitOne K (.ref C) (.type "str") = some false) (h : OddV C B H v) : ∃ o, ThO K H v o := by
  rcases h with rfl | ⟨b, rfl⟩ | ⟨i, rfl⟩ | ⟨z, rfl, hz⟩ | ⟨a, rfl, n, h⟩
  · exact ⟨_, .inr ⟨_, .base .non, kit_ty (by decide +kernel), rfl⟩⟩
  · exact ⟨_, .inr ⟨_, .base (.bl b), kit_ty (by decide +kernel), rfl⟩⟩
  · exact ⟨_, .inr ⟨_, .base (.int i), kit_ty (by decide +kernel), rfl⟩⟩
  · exact tho_str K H (by omega)
  · rcases h with ⟨xs, h⟩ | ⟨xs, h⟩ | ⟨dx, fs, h⟩
    · exact ⟨_, .inr ⟨_, .base (.lst h), kit_ty (by decide +kernel), rfl⟩⟩
    · exact ⟨_, .inr ⟨_, .base (.tup h), kit_ty (by decide +kernel), rfl⟩⟩
    · exact ⟨_, .inr ⟨_, .base (.ins h I.cl I.ha I.hn I.htk I.hm), kS, rfl⟩⟩
def spOdd (C : Addr) : Sp := fun vs H Q _ => ∃ (B S l : Addr) (more : List V), vs = [.ref B, .ref l] ∧ Bag B S H ∧ l ≠ B ∧ H l = some (.lst more) ∧ more.length ≤ 100 ∧ (∀ m ∈ more, OddV C B H m) ∧ ∀ v H', OddV C B H' v → Kp1 B H H' → Bag B S H' → Q v H'
def spCirc (C : Addr) : Sp := fun vs H Q _ => ∃ (p : Addr), vs = [.ref p] ∧ H p = some (.tup [.str "eye", .str "a"]) ∧ ∀ H' a, Same H H' → CAt C H' (.eye [97]) a → Q (.ref a) H'
section
variable {P : Program} {w : World} {K : PySem.W.Frag} {mg : Str → Option Value} {base : Heap} {C : Addr} {f : Addr} {fd : FuncData}
abbrev nOd : List Str := ["_law_bag_here", "_law_more"]
theorem scOd : FnScope nOd ["_law_bag_here", "_law_more"] (C8.fnScope sOdd) := C8.fnScope_by (by decide +kernel)
theorem ok_odd (F : C8.Def K mg "_law_odd" sOdd f fd) (b : Binds K fd ["_law_bag_here", "_law_more"] []) (cO : C8.Cal P w K mg base 2 "_law_of" spOf []) : C8.Cal P w K mg base 3 "_law_odd" (spOdd C) [] := by
  refine C8.cal0 F b .nil scOd (fun vs H Q E h => ?_) (fun cdv A outer s H vs Q E hr h => ?_)
  · obtain ⟨_, _, _, _, rfl, _⟩ := h
    rfl
  · obtain ⟨B, S, l, more, rfl, hB, hlB, hl, hmo, hod, kk⟩ := h
    refine ⟨_, pss_one (ps_ret (C8.pe_c cO hr (by decide) (by rfl) (pa_cons (pv 0) (pa_cons (pe_op op_cat (pe_lst (pa_cons pe_non (pa_cons pe_bl (pa_cons pe_bl (pa_cons pe_int (pa_cons (pe_un un_neg pe_int) (pa_cons pe_str (pa_cons pe_str (pa_cons pe_str
      (pa_cons (pe_lst pa_nil) (pa_cons (pe_tup pa_nil) (pa_cons (pe_lst (pa_cons pe_non pa_nil)) (pa_cons (pe_tup (pa_cons pe_str pa_nil)) (pa_cons (pe_tup (pa_cons pe_str (pa_cons pe_int (pa_cons pe_int pa_nil)))) (pa_cons pe_int (pa_cons pe_str (pa_cons (pe_lst (pa_cons pe_int pa_nil)) (pa_cons (pe_tup (pa_cons pe_int (pa_cons pe_int pa_nil))) pa_nil)))))))))))))))))) (pv 1)) pa_nil)))), ?_⟩
    refine ⟨_, rfl, _, rfl, by decide, fun a1 h1 => ⟨by decide, fun a2 h2 => ⟨by decide, fun a3 h3 => ⟨by decide, fun a4 h4 => ⟨by decide, fun a5 h5 => ⟨by decide, fun a6 h6 => ⟨by decide, fun a7 h7 => ⟨(by show 17 ≤ sizeLine; decide), fun L hL => ⟨_, rfl, L, l, _, more, rfl, rfl, upd_same, ?_, ?_, fun p hp => ?_⟩⟩⟩⟩⟩⟩⟩⟩⟩
    all_goals have s1 := same_new (o := .lst []) h1
    all_goals have s2 := s1.trans (same_new (o := .tup []) h2)
    all_goals have s3 := s2.trans (same_new (o := .lst [.non]) h3)
    all_goals have s4 := s3.trans (same_new (o := .tup [.str "x"]) h4)
    all_goals have s5 := s4.trans (same_new (o := .tup [.str "x", .int 1, .int 2]) h5)
    all_goals have s6 := s5.trans (same_new (o := .lst [.int 1]) h6)
    all_goals have s7 := s6.trans (same_new (o := .tup [.int 1, .int 2]) h7)
    all_goals have s8 := s7.trans (same_new (o := .lst [.non, .bl true, .bl false, .int 7, .int (-1), .str "", .str "x", .str "A", .ref a1, .ref a2, .ref a3, .ref a4, .ref a5, .int 999999999, .str "x y", .ref a6, .ref a7]) hL)
    · exact s8 _ _ hl
    · show 17 + more.length ≤ sizeLine
      rw [sizeLine_eq]
      omega
    · have hB8 := hB.same s8
      have n1 := (hB.ne h1).1
      have n2 := ((hB.same s1).ne h2).1
      have n3 := ((hB.same s2).ne h3).1
      have n4 := ((hB.same s3).ne h4).1
      have n5 := ((hB.same s4).ne h5).1
      have n6 := ((hB.same s5).ne h6).1
      have n7 := ((hB.same s6).ne h7).1
      have sp := same_new (o := .lst ([.non, .bl true, .bl false, .int 7, .int (-1), .str "", .str "x", .str "A", .ref a1, .ref a2, .ref a3, .ref a4, .ref a5, .int 999999999, .str "x y", .ref a6, .ref a7] ++ more)) hp
      have t8 := same_new (o := .lst [.non, .bl true, .bl false, .int 7, .int (-1), .str "", .str "x", .str "A", .ref a1, .ref a2, .ref a3, .ref a4, .ref a5, .int 999999999, .str "x y", .ref a6, .ref a7]) hL
      have t7 := (same_new (o := .tup [.int 1, .int 2]) h7).trans t8
      have t6 := (same_new (o := .lst [.int 1]) h6).trans t7
      have t5 := (same_new (o := .tup [.str "x", .int 1, .int 2]) h5).trans t6
      have t4 := (same_new (o := .tup [.str "x"]) h4).trans t5
      have t3 := (same_new (o := .lst [.non]) h3).trans t4
      have t2 := (same_new (o := .tup []) h2).trans t3
      have f1 := t2 _ _ (upd_same (H := H) (a := a1) (o := .lst []))
      have f2 := t3 _ _ (upd_same (a := a2) (o := .tup []))
      have f3 := t4 _ _ (upd_same (a := a3) (o := .lst [.non]))
      have f4 := t5 _ _ (upd_same (a := a4) (o := .tup [.str "x"]))
      have f5 := t6 _ _ (upd_same (a := a5) (o := .tup [.str "x", .int 1, .int 2]))
      have f6 := t7 _ _ (upd_same (a := a6) (o := .lst [.int 1]))
      have f7 := t8 _ _ (upd_same (a := a7) (o := .tup [.int 1, .int 2]))
      refine ⟨B, S, _, rfl, hB8.new hp, .inl ⟨p, _, rfl, (hB8.ne hp).1, upd_same, by simp, ?_, fun v H' hv k' hB' => kk v H' ?_ ((Kp1.same (s8.trans sp)).trans k') hB'⟩⟩
      · rw [List.length_append]
        show 17 + more.length < 1000000
        omega
      · refine OddV.kp k' (OddV.kp (Kp1.same sp) ?_)
        rcases List.mem_append.mp hv with hv | hv
        · simp only [List.mem_cons, List.not_mem_nil, or_false] at hv
          rcases hv with rfl | rfl | rfl | rfl | rfl | rfl | rfl | rfl | rfl | rfl | rfl | rfl | rfl | rfl | rfl | rfl | rfl
          · exact .inl rfl
          · exact .inr (.inl ⟨_, rfl⟩)
          · exact .inr (.inl ⟨_, rfl⟩)
          · exact .inr (.inr (.inl ⟨_, rfl⟩))
          · exact .inr (.inr (.inl ⟨_, rfl⟩))
          · exact .inr (.inr (.inr (.inl ⟨_, rfl, by decide +kernel⟩)))
          · exact .inr (.inr (.inr (.inl ⟨_, rfl, by decide +kernel⟩)))
          · exact .inr (.inr (.inr (.inl ⟨_, rfl, by decide +kernel⟩)))
          · exact .inr (.inr (.inr (.inr ⟨_, rfl, n1, .inl ⟨_, f1⟩⟩)))
          · exact .inr (.inr (.inr (.inr ⟨_, rfl, n2, .inr (.inl ⟨_, f2⟩)⟩)))
          · exact .inr (.inr (.inr (.inr ⟨_, rfl, n3, .inl ⟨_, f3⟩⟩)))
          · exact .inr (.inr (.inr (.inr ⟨_, rfl, n4, .inr (.inl ⟨_, f4⟩)⟩)))
          · exact .inr (.inr (.inr (.inr ⟨_, rfl, n5, .inr (.inl ⟨_, f5⟩)⟩)))
          · exact .inr (.inr (.inl ⟨_, rfl⟩))
          · exact .inr (.inr (.inr (.inl ⟨_, rfl, by decide +kernel⟩)))
          · exact .inr (.inr (.inr (.inr ⟨_, rfl, n6, .inl ⟨_, f6⟩⟩)))
          · exact .inr (.inr (.inr (.inr ⟨_, rfl, n7, .inr (.inl ⟨_, f7⟩)⟩)))
        · exact OddV.kp (Kp1.same s8) (hod v hv)
abbrev nCc : List Str := ["_law_node", "_law_found", "_law_x"]
theorem scCc : FnScope nCc ["_law_node"] (C8.fnScope sCirc) := C8.fnScope_by (by decide +kernel)
theorem ok_circ (F : C8.Def K mg "_law_circle" sCirc f fd) (b : Binds K fd ["_law_node"] []) (cE : C8.Cal P w K mg base 7 "eye" (spEye C) []) : C8.Cal P w K mg base 8 "_law_circle" (spCirc C) [] := by
  refine C8.cal0 F b .nil scCc (fun vs H Q E h => ?_) (fun cdv A outer s H vs Q E hr h => ?_)
  · obtain ⟨_, rfl, _⟩ := h
    rfl
  · obtain ⟨p, rfl, hp, k⟩ := h
    refine ⟨_, pss_cons (ps_if (pt_cmpR op_eq (pe_ix ix_tup (pv 0) pe_int (fun _ _ => rfl)) pe_str (nomark _)) (pss_one (ps_ret (C8.pe_c cE hr (by decide) (by rfl) (pa_cons (pe_ix ix_tup (pv 0) pe_int (fun _ _ => rfl)) pa_nil)))) pss_nil) pss_never, ?_⟩
    refine ⟨_, rfl, p, _, 0, _, rfl, rfl, SqT.of hp, rfl, rfl, _, rfl, ?_⟩
    rw [eye_eye]
    refine iteT ?_
    have ea : ("a" : Str) = SX.S [97] := by decide +kernel
    exact ⟨_, rfl, p, _, 1, _, rfl, rfl, SqT.of hp, rfl, [97], by rw [← ea]; rfl, by simp, by decide, by decide, fun H' a s' c => k H' a s' c⟩
end
end Pe
set_option Elab.async false
set_option maxRecDepth 100000
set_option maxHeartbeats 16000000
set_option linter.all false
/-! the law's own long_so -/
namespace Pe
open PySem PySem.Spec PyProof.Rows L2
abbrev sLong : Stmt := top 60
/-- all but the bag and the tables stay -/
def FrB (B : Addr) (H H' : Hp) : Prop := ∀ b o, H b = some o → b ≠ B → (∀ ps, o ≠ .tbl ps) → H' b = some o
theorem FrB.refl {B : Addr} {H : Hp} : FrB B H H := fun _ _ e _ _ => e
theorem FrB.trans {B : Addr} {H H1 H2 : Hp} (a : FrB B H H1) (b : FrB B H1 H2) : FrB B H H2 := fun x o e n t => b x o (a x o e n t) n t
theorem FrB.kp {B : Addr} {H H1 : Hp} (k : Kp1 B H H1) : FrB B H H1 := fun x o e n _ => k x o e n
theorem FrB.ext {B : Addr} {H H1 : Hp} (k : LamX.ExtN H H1) : FrB B H H1 := fun x o e _ t => k x o e t
theorem Bag.ext {B S : Addr} {H H' : Hp} (k : LamX.ExtN H H') (h : Bag B S H) : Bag B S H' := by
  obtain ⟨ns, i, g, st, c, h1, h2, h3⟩ := h
  exact ⟨ns, i, g, st, c, k _ _ h1 (fun _ z => by cases z), k _ _ h2 (fun _ z => by cases z), h3⟩
structure BT (B S PT : Addr) (H : Hp) : Prop where
  bag : Bag B S H
  tab : LamX.Tabs [(PT, qAny)] H
theorem BT.kp {B S PT : Addr} {H H' : Hp} (t : BT B S PT H) (k : Kp1 B H H') (hb : Bag B S H') : BT B S PT H' := by
  refine ⟨hb, fun p hp => ?_⟩
  obtain ⟨ps, h1, h2, h3⟩ := t.tab p hp
  obtain ⟨ns, i, g, st, c, e1, _⟩ := t.bag
  refine ⟨ps, k _ _ h1 (fun z => ?_), h2, fun pos cv hc => ?_⟩
  · rw [z, e1] at h1
    cases h1
  · obtain ⟨c', q1, q2⟩ := h3 pos cv hc
    refine ⟨c', q1, k _ _ q2 fun z => ?_⟩
    rw [z, e1] at q2
    have q3 := Option.some.inj q2
    unfold LamX.CodeO at q3
    cases q3
theorem BT.ext {B S PT : Addr} {H H' : Hp} (t : BT B S PT H) (k : LamX.ExtN H H') (hb : LamX.Tabs [(PT, qAny)] H') : BT B S PT H' := ⟨t.bag.ext k, hb⟩
theorem BT.same {B S PT : Addr} {H H' : Hp} (t : BT B S PT H) (s : Same H H') : BT B S PT H' := t.kp (Kp1.same s) (t.bag.same s)
theorem any_val {K : PySem.W.Frag} {B S PT : Addr} {H : Hp} {v : V} {Q : VK} {E : XK} (h : ∃ o, ThO K H v o) (bt : BT B S PT H) (k : ∀ H', FrB B H H' → BT B S PT H' → Q (.bl true) H') : spAny K PT [v] H Q E := by
  obtain ⟨o, h⟩ := h
  exact ⟨v, o, rfl, bt.tab, h, fun H' e t => k H' (FrB.ext e) (bt.ext e t)⟩
theorem any_text {K : PySem.W.Frag} {B S PT : Addr} {H : Hp} {z : Str} {Q : VK} {E : XK} (h : z.length ≤ 20000) (bt : BT B S PT H) (k : ∀ H', FrB B H H' → BT B S PT H' → Q (.bl true) H') : spAny K PT [.str z] H Q E := any_val (tho_str K H h) bt k
theorem let_at {i : Int} (h0 : 0 ≤ i) (h1 : i < 26) : ∃ c, atI ("abcdefghijklmnopqrstuvwxyz" : Str).cps.toList i = some c := by
  have hq : ("abcdefghijklmnopqrstuvwxyz" : Str).cps.toList.length = 26 := by decide +kernel
  have hin : i.toNat < ("abcdefghijklmnopqrstuvwxyz" : Str).cps.toList.length := by omega
  have e : i = ((i.toNat : Nat) : Int) := by omega
  exact ⟨_, (congrArg (atI ("abcdefghijklmnopqrstuvwxyz" : Str).cps.toList) e).trans (atI_nat (List.getElem?_eq_getElem hin))⟩
def spLong (PT : Addr) : Sp := fun vs H Q _ => ∃ (B S l : Addr) (xs : List Str), vs = [.ref B, .ref l] ∧ BT B S PT H ∧ l ≠ B ∧ H l = some (.lst (xs.map V.str)) ∧ 2 ≤ xs.length ∧ (∀ z ∈ xs, z.length ≤ 20) ∧ ∀ H', FrB B H H' → BT B S PT H' → Q (.bl true) H'
theorem cutV_map (zs : List Str) (lo hi : Option Int) : ∃ ys : List Str, cutV (zs.map V.str) lo hi = ys.map V.str ∧ ys.length ≤ zs.length ∧ ∀ y ∈ ys, y ∈ zs := by
  refine ⟨(zs.drop (HT.sIx (zs.map V.str).length 0 lo)).take (HT.sIx (zs.map V.str).length (zs.map V.str).length hi - HT.sIx (zs.map V.str).length 0 lo), ?_, ?_, fun y hy => List.mem_of_mem_drop (List.mem_of_mem_take hy)⟩
  · unfold cutV
    rw [List.map_take, List.map_drop]
  · rw [List.length_take, List.length_drop]
    omega
section
variable {P : Program} {w : World} {K : PySem.W.Frag} {mg : Str → Option Value} {base : Heap} {f : Addr} {fd : FuncData} {PT : Addr}
abbrev nLg : List Str := ["_law_bag_here", "_law_titles_here", "_law_x", "_law_y", "_law_turn", "_law_wide", "_law_words_here", "_law_k", "_law_letters", "_law_many_names", "_law_cut", "_law_lhs", "_law_rhs"]
theorem scLg : FnScope nLg ["_law_bag_here", "_law_titles_here"] (C8.fnScope sLong) := C8.fnScope_by (by decide +kernel)
theorem ok_long (F : C8.Def K mg "_law_long_so" sLong f fd) (b : Binds K fd ["_law_bag_here", "_law_titles_here"] []) (zR : mg "range" = none) (zL : mg "len" = none) (cD : C8.Cal P w K mg base 1 "_law_draw" spDraw []) (cO : C8.Cal P w K mg base 2 "_law_of" spOf []) (cA : C8.Cal P w K mg base 67 "_law_any_so" (spAny K PT) []) : C8.Cal P w K mg base 68 "_law_long_so" (spLong PT) [] := by
  refine C8.cal0 F b .nil scLg (fun vs H Q E h => ?_) (fun cdv A outer s H vs Q E hr h => ?_)
  · obtain ⟨_, _, _, _, rfl, _⟩ := h
    rfl
  · obtain ⟨B, S, l, xs, rfl, bt, hlB, hl, hx2, hx, kk⟩ := h
    refine ⟨_, pss_cons (ps_par (i := 2) (j := 3) rfl scLg.nd rfl rfl (by decide) rfl rfl (pa_cons (pe_ix ix_list (pv 1) pe_int (fun _ _ => rfl)) (pa_cons (pe_ix ix_list (pv 1) pe_int (fun _ _ => rfl)) pa_nil)) (by rfl))
        (C8.pss_cut (ps_set (i := 4) scLg.nd rfl (Or.inl rfl) (C8.pe_c cD hr (by decide) (by rfl) (pa_cons (pv 0) (pa_cons pe_int pa_nil))))
        (pss_cons (ps_if (pt_cmpR op_eq (pv 4) pe_int (nomark _)) (C8.pss_cut (ps_set (i := 5) scLg.nd rfl (Or.inl rfl) (C8.pe_c cO hr (by decide) (by rfl) (pa_cons (pv 0) (pa_cons (pe_lst (pa_cons pe_int (pa_cons pe_int (pa_cons pe_int (pa_cons pe_int (pa_cons pe_int (pa_cons pe_int pa_nil))))))) pa_nil))))
          (pss_one (ps_ret (pe_and (C8.pe_c cA hr (by decide) (by rfl) (pa_cons (pe_op op_add_str (pe_op op_add_str (pe_op op_mulS pe_str (pv 5)) (pv 2)) (pe_op op_mulS pe_str (pv 5))) pa_nil)) (pe_one (C8.pe_c cA hr (by decide) (by rfl) (pa_cons (pe_op op_mulS pe_str (pv 5)) pa_nil))))))) pss_nil)
        (pss_cons (ps_if (pt_cmpR op_eq (pv 4) pe_int (nomark _)) (C8.pss_cut (ps_set (i := 5) scLg.nd rfl (Or.inl rfl) (C8.pe_c cO hr (by decide) (by rfl) (pa_cons (pv 0) (pa_cons (pe_lst (pa_cons pe_int (pa_cons pe_int (pa_cons pe_int (pa_cons pe_int pa_nil))))) pa_nil))))
          (C8.pss_cut (ps_set (i := 6) scLg.nd rfl (Or.inl rfl) (C8.pe_c cO hr (by decide) (by rfl) (pa_cons (pv 0) (pa_cons (pe_lst (pa_cons (pv 2) (pa_cons (pe_op op_add_str (pe_op op_add_str (pv 2) pe_str) (pv 3)) (pa_cons (pe_op op_add_str (pe_op op_add_str (pv 2) pe_str) (pv 3)) pa_nil)))) pa_nil))))
          (pss_cons (ps_for PassesOwn.never rfl (pi_range1 (by rfl) zR (pa_cons (pv 5) pa_nil)) (pg_name (i := 7) scLg.nd rfl (Or.inl rfl)) (pss_one (ps_set (i := 6) scLg.nd rfl (Or.inl rfl) (pe_op op_add_str (pe_op op_add_str (pe_op op_add_str (pv 3) (pe_ix ix_list (pe_lst (pa_cons pe_str (pa_cons pe_str pa_nil))) (pe_op op_mod (pv 7) pe_int) (fun _ _ => rfl))) (pv 6)) pe_str))))
          (pss_one (ps_ret (pe_and (C8.pe_c cA hr (by decide) (by rfl) (pa_cons (pv 6) pa_nil)) (pe_and (C8.pe_c cA hr (by decide) (by rfl) (pa_cons (pe_slice sl_str (pv 6) po_none (po_some (pe_op op_sub (pe_callB call_len_str (by rfl) zL PySem.boot_len (pa_cons (pv 6) pa_nil)) pe_int))) pa_nil)) (pe_one (C8.pe_c cA hr (by decide) (by rfl) (pa_cons (pe_op op_add_str (pv 6) pe_str) pa_nil)))))))))) pss_nil)
        (pss_cons (ps_if (pt_cmpR op_eq (pv 4) pe_int (nomark _)) (pss_one (ps_ret (pe_and (C8.pe_c cA hr (by decide) (by rfl) (pa_cons (pe_op op_add_str (pe_op op_mulS (pe_op op_add_str (pv 2) pe_str) (pe_op op_add pe_int (C8.pe_c cD hr (by decide) (by rfl) (pa_cons (pv 0) (pa_cons pe_int pa_nil))))) (pv 3)) pa_nil)) (pe_one (C8.pe_c cA hr (by decide) (by rfl) (pa_cons (pe_op op_add_str (pe_op op_add_str (pe_op op_mulS (pe_op op_add_str (pv 2) pe_str) pe_int) pe_str) (pv 3)) pa_nil)))))) pss_nil)
        (pss_cons (ps_if (pt_cmpR op_eq (pv 4) pe_int (nomark _)) (pss_cons (ps_set (i := 8) scLg.nd rfl (Or.inr rfl) pe_str)
          (C8.pss_cut (ps_setLc (i := 9) (own := [("_law_k", 7)]) (g := gName 7) (tt := tYes) (te := tOp rAddS (tOp rIxS (tVar 8) (tOp (rI (fun _ j => 0 < j) fun i j => .int (i % j)) (tVar 7) (tC (.int 26)))) (tOp rIxS (tVar 8) (tOp (rI CDiv fun i j => .int (i / j)) (tVar 7) (tC (.int 26))))) rfl scLg.nd rfl rfl rfl (pi_range1 (by rfl) zR (pa_cons (pe_op op_add pe_int (C8.pe_c cD hr (by decide) (by rfl) (pa_cons (pv 0) (pa_cons pe_int pa_nil)))) pa_nil)) (blkOk_by (N := nLg) (sc := C8.fnScope sLong) (by decide +kernel)) (fun _ _ _ _ _ => pg_name (i := 7) scLg.nd rfl (Or.inl rfl)) (fun _ _ _ _ _ => pts_nil) (fun _ _ _ _ _ => pe_op op_add_str (pe_ix ix_str (pv 8) (pe_op op_mod (pv 7) pe_int) (fun _ _ => rfl)) (pe_ix ix_str (pv 8) (pe_op op_fdiv (pv 7) pe_int) (fun _ _ => rfl))))
          (C8.pss_cut (ps_set (i := 10) scLg.nd rfl (Or.inl rfl) (pe_op op_add pe_int (C8.pe_c cD hr (by decide) (by rfl) (pa_cons (pv 0) (pa_cons (pe_op op_sub (pe_callB call_len_seq (by rfl) zL PySem.boot_len (pa_cons (pv 9) pa_nil)) pe_int) pa_nil)))))
          (C8.pss_cut (ps_par (i := 11) (j := 12) rfl scLg.nd rfl rfl (by decide) rfl rfl (pa_cons (pe_join pe_str (pe_slice sl_list (pv 9) po_none (po_some (pv 10)))) (pa_cons (pe_join pe_str (pe_slice sl_list (pv 9) (po_some (pv 10)) po_none)) pa_nil)) (by rfl))
          (pss_one (ps_ret (pe_and (C8.pe_c cA hr (by decide) (by rfl) (pa_cons (pe_op op_add_str (pe_op op_add_str (pe_op op_add_str (pe_op op_add_str pe_str (pv 11)) pe_str) (pv 12)) pe_str) pa_nil)) (pe_and (C8.pe_c cA hr (by decide) (by rfl) (pa_cons (pe_op op_add_str (pe_op op_add_str (pe_op op_add_str (pe_op op_add_str pe_str (pv 11)) pe_str) (pv 12)) pe_str) pa_nil)) (pe_one (C8.pe_c cA hr (by decide) (by rfl) (pa_cons (pe_op op_add_str (pe_op op_add_str (pe_op op_add_str (pe_op op_add_str pe_str (pv 11)) pe_str) (pv 12)) pe_str) pa_nil))))))))))) pss_nil)
        (pss_cons (ps_if (pt_cmpR op_eq (pv 4) pe_int (nomark _)) (pss_one (ps_ret (pe_and (C8.pe_c cA hr (by decide) (by rfl) (pa_cons (pe_op op_mulS pe_str (pe_op op_add pe_int (C8.pe_c cD hr (by decide) (by rfl) (pa_cons (pv 0) (pa_cons pe_int pa_nil))))) pa_nil)) (pe_one (C8.pe_c cA hr (by decide) (by rfl) (pa_cons (pe_op op_add_str (pe_op op_add_str (pe_op op_add_str (pv 2) pe_str) (pe_slice sl_str pe_str po_none (po_some (pe_op op_add pe_int (C8.pe_c cD hr (by decide) (by rfl) (pa_cons (pv 0) (pa_cons pe_int pa_nil))))))) pe_str) pa_nil)))))) pss_nil)
        (pss_one (ps_ret (pe_and (C8.pe_c cA hr (by decide) (by rfl) (pa_cons (pe_op op_add_str (pe_op op_add_str (pe_op op_add_str pe_str (pv 2)) pe_str) (pv 3)) pa_nil)) (pe_and (C8.pe_c cA hr (by decide) (by rfl) (pa_cons (pe_op op_add_str (pe_op op_add_str (pe_op op_add_str (pv 2) pe_str) (pv 3)) pe_str) pa_nil)) (pe_one (C8.pe_c cA hr (by decide) (by rfl) (pa_cons (pe_op op_add_str (pe_op op_add_str (pe_op op_add_str (pe_op op_add_str (pe_op op_add_str (pe_op op_add_str pe_str (pv 2)) pe_str) (pv 3)) pe_str) (pv 2)) pe_str) pa_nil))))))))))))), ?_⟩
    match xs, hx2 with
    | x :: y :: xr, _ =>
    have hxl := hx x List.mem_cons_self
    have hyl := hx y (List.mem_cons_of_mem _ List.mem_cons_self)
    refine ⟨_, rfl, l, _, 0, .str x, rfl, rfl, SqL.of hl, atI_nat (j := 0) rfl, _, rfl, l, _, 1, .str y, rfl, rfl, SqL.of hl, atI_nat (j := 1) rfl, _, _, rfl, ?_⟩
    refine ⟨fun σ' Hc => ∃ (t : Int), σ' = [some (.ref B), some (.ref l), some (.str x), some (.str y), some (.int t), none, none, none, none, none, none, none, none] ∧ FrB B H Hc ∧ BT B S PT Hc, ?_, ?_⟩
    · exact ⟨_, rfl, B, S, 6, rfl, bt.bag, by decide, by decide, fun t H1 t0 t1 k1 hB1 => ⟨t, rfl, FrB.kp k1, bt.kp k1 hB1⟩⟩
    rintro σ' H1 ⟨t, rfl, f1, bt1⟩
    refine ⟨_, rfl, rfl, _, rfl, ?_⟩
    have q1 : ("(" : Str).length = 1 := by decide +kernel
    have q2 : (")" : Str).length = 1 := by decide +kernel
    have q3 : (" " : Str).length = 1 := by decide +kernel
    have q4 : (" & " : Str).length = 3 := by decide +kernel
    have q5 : (" | " : Str).length = 3 := by decide +kernel
    have q6 : (") & (" : Str).length = 5 := by decide +kernel
    have q7 : (") | (" : Str).length = 5 := by decide +kernel
    have q8 : (") " : Str).length = 2 := by decide +kernel
    have q9 : (" (" : Str).length = 2 := by decide +kernel
    have qa : ("a" : Str).length = 1 := by decide +kernel
    refine ite2 (fun hc => ?_) (fun hc => ?_)
    · refine ⟨fun σ' Hc => ∃ (wd : Nat), σ' = [some (.ref B), some (.ref l), some (.str x), some (.str y), some (.int t), some (.int (wd : Int)), none, none, none, none, none, none, none] ∧ wd ≤ 1200 ∧ FrB B H Hc ∧ BT B S PT Hc, ?_, ?_⟩
      · refine ⟨_, rfl, (by show 6 ≤ sizeLine; decide), fun p hp => ⟨B, S, _, rfl, bt1.bag.new hp, .inl ⟨p, _, rfl, (bt1.bag.ne hp).1, upd_same, by simp, (by show 6 < 1000000; decide), fun v H2 hv k2 hB2 => ?_⟩⟩⟩
        have kp := Kp1.new (o := .lst [.int 19, .int 20, .int 21, .int 22, .int 40, .int 1200]) (Kp1.refl (a := B)) hp (bt1.bag.ne hp).1
        have fin : ∀ wd : Nat, wd ≤ 1200 → v = .int (wd : Int) → ∃ (wd : Nat), [some (V.ref B), some (.ref l), some (.str x), some (.str y), some (.int t), some v, none, none, none, none, none, none, none] = [some (.ref B), some (.ref l), some (.str x), some (.str y), some (.int t), some (.int (wd : Int)), none, none, none, none, none, none, none] ∧ wd ≤ 1200 ∧ FrB B H H2 ∧ BT B S PT H2 := fun wd hw e => ⟨wd, by rw [e], hw, f1.trans (FrB.kp (kp.trans k2)), bt1.kp (kp.trans k2) hB2⟩
        simp only [List.mem_cons, List.not_mem_nil, or_false] at hv
        rcases hv with rfl | rfl | rfl | rfl | rfl | rfl
        · exact fin 19 (by decide) rfl
        · exact fin 20 (by decide) rfl
        · exact fin 21 (by decide) rfl
        · exact fin 22 (by decide) rfl
        · exact fin 40 (by decide) rfl
        · exact fin 1200 (by decide) rfl
      rintro σ' H2 ⟨wd, rfl, hwd, f2, bt2⟩
      refine ⟨_, rfl, _, wd, rfl, rfl, by rw [q1]; decide, by omega, fun t1 ht1 => ?_⟩
      rw [q1] at ht1
      refine ⟨_, rfl, _, _, rfl, rfl, (by simp only [slen, q1, q2, q3, q4, q5, q6, q7, q8, q9, qa, sizeLine_eq]; omega), _, rfl, _, wd, rfl, rfl, by rw [q2]; decide, by omega, fun t2 ht2 => ?_⟩
      rw [q2] at ht2
      refine ⟨_, _, rfl, rfl, (by simp only [slen, q1, q2, q3, q4, q5, q6, q7, q8, q9, qa, sizeLine_eq]; omega), ?_⟩
      refine call_nil (any_text (by first | omega | (simp only [slen, q1, q2, q3, q4, q5, q6, q7, q8, q9, qa]; omega)) bt2 fun H3 f3 bt3 => ?_)
      refine ⟨_, rfl, ?_⟩
      refine iteT ?_
      refine ⟨_, rfl, _, wd, rfl, rfl, by rw [q1]; decide, by omega, fun t3 ht3 => ?_⟩
      rw [q1] at ht3
      refine call_nil (any_text (by first | omega | (simp only [slen, q1, q2, q3, q4, q5, q6, q7, q8, q9, qa]; omega)) bt3 fun H4 f4 bt4 => ?_)
      exact kk H4 (f2.trans (f3.trans f4)) bt4
    refine ⟨_, rfl, rfl, _, rfl, ?_⟩
    refine ite2 (fun hc => ?_) (fun hc => ?_)
    · refine ⟨fun σ' Hc => ∃ (wd : Nat), σ' = [some (.ref B), some (.ref l), some (.str x), some (.str y), some (.int t), some (.int (wd : Int)), none, none, none, none, none, none, none] ∧ wd ≤ 21 ∧ FrB B H Hc ∧ BT B S PT Hc, ?_, ?_⟩
      · refine ⟨_, rfl, (by show 4 ≤ sizeLine; decide), fun p hp => ⟨B, S, _, rfl, bt1.bag.new hp, .inl ⟨p, _, rfl, (bt1.bag.ne hp).1, upd_same, by simp, (by show 4 < 1000000; decide), fun v H2 hv k2 hB2 => ?_⟩⟩⟩
        have kp := Kp1.new (o := .lst [.int 18, .int 19, .int 20, .int 21]) (Kp1.refl (a := B)) hp (bt1.bag.ne hp).1
        have fin : ∀ wd : Nat, wd ≤ 21 → v = .int (wd : Int) → ∃ (wd : Nat), [some (V.ref B), some (.ref l), some (.str x), some (.str y), some (.int t), some v, none, none, none, none, none, none, none] = [some (.ref B), some (.ref l), some (.str x), some (.str y), some (.int t), some (.int (wd : Int)), none, none, none, none, none, none, none] ∧ wd ≤ 21 ∧ FrB B H H2 ∧ BT B S PT H2 := fun wd hw e => ⟨wd, by rw [e], hw, f1.trans (FrB.kp (kp.trans k2)), bt1.kp (kp.trans k2) hB2⟩
        simp only [List.mem_cons, List.not_mem_nil, or_false] at hv
        rcases hv with rfl | rfl | rfl | rfl
        · exact fin 18 (by decide) rfl
        · exact fin 19 (by decide) rfl
        · exact fin 20 (by decide) rfl
        · exact fin 21 (by decide) rfl
      rintro σ' H2 ⟨wd, rfl, hwd, f2, bt2⟩
      refine ⟨fun σ' Hc => ∃ (z : Str), σ' = [some (.ref B), some (.ref l), some (.str x), some (.str y), some (.int t), some (.int (wd : Int)), some (.str z), none, none, none, none, none, none] ∧ z.length ≤ 43 ∧ FrB B H Hc ∧ BT B S PT Hc, ?_, ?_⟩
      · refine ⟨_, rfl, _, rfl, _, rfl, _, _, rfl, rfl, (by simp only [slen, q1, q2, q3, q4, q5, q6, q7, q8, q9, qa, sizeLine_eq]; omega), _, rfl, _, _, rfl, rfl, (by simp only [slen, q1, q2, q3, q4, q5, q6, q7, q8, q9, qa, sizeLine_eq]; omega), _, rfl, _, _, rfl, rfl, (by simp only [slen, q1, q2, q3, q4, q5, q6, q7, q8, q9, qa, sizeLine_eq]; omega), _, rfl, _, _, rfl, rfl, (by simp only [slen, q1, q2, q3, q4, q5, q6, q7, q8, q9, qa, sizeLine_eq]; omega), (by show 3 ≤ sizeLine; decide), fun p hp => ?_⟩
        refine ⟨B, S, _, rfl, bt2.bag.new hp, .inl ⟨p, [x, x ++ (" | " : Str) ++ y, x ++ (" & " : Str) ++ y].map V.str, rfl, (bt2.bag.ne hp).1, upd_same, by simp, (by show 3 < 1000000; decide), fun v H3 hv k3 hB3 => ?_⟩⟩
        obtain ⟨z, hz, rfl⟩ := List.mem_map.mp hv
        have kp := (Kp1.new (o := .lst ([x, x ++ (" | " : Str) ++ y, x ++ (" & " : Str) ++ y].map V.str)) (Kp1.refl (a := B)) hp (bt2.bag.ne hp).1).trans k3
        refine ⟨z, rfl, ?_, f2.trans (FrB.kp kp), bt2.kp kp hB3⟩
        simp only [List.mem_cons, List.not_mem_nil, or_false] at hz
        rcases hz with rfl | rfl | rfl
        · omega
        · simp only [slen, q5]; omega
        · simp only [slen, q4]; omega
      rintro σ' H3 ⟨z0, rfl, hz0, f3, bt3⟩
      refine ⟨_, rfl, _, rfl, by omega, by omega, for_it (walk_range (lo := 0)) (fun i σ H5 => ∃ (z : Str) (v7 : Option V), σ = [some (.ref B), some (.ref l), some (.str x), some (.str y), some (.int t), some (.int (wd : Int)), some (.str z), v7, none, none, none, none, none] ∧ z.length ≤ 43 + 25 * i ∧ FrB B H H5 ∧ BT B S PT H5) ⟨z0, none, rfl, by omega, f3, bt3⟩ (fun _ _ _ _ _ => trivial) ?_ ?_⟩
      · rintro i yv σ H5 H6 hi ⟨z, v7, rfl, hz, f5, bt5⟩ ⟨rfl, hk⟩
        subst hk
        have hi21 : i < 21 := by omega
        obtain ⟨sv, hsv, hat⟩ : ∃ sv : Str, sv.length ≤ 4 ∧ atI [V.str (" & (" : Str), .str (" | (" : Str)] ((0 + (i : Int)) % 2) = some (.str sv) := by
          rcases (by omega : (0 + (i : Int)) % 2 = 0 ∨ (0 + (i : Int)) % 2 = 1) with e | e
          · exact ⟨_, by decide +kernel, (congrArg (atI _) e).trans (atI_nat (j := 0) rfl)⟩
          · exact ⟨_, by decide +kernel, (congrArg (atI _) e).trans (atI_nat (j := 1) rfl)⟩
        refine ⟨_, rfl, (by show 2 ≤ sizeLine; decide), fun p hp => ⟨_, rfl, _, _, rfl, rfl, (show (0 : Int) < 2 by decide), p, _, _, _, rfl, rfl, SqL.of upd_same, hat, _, _, rfl, rfl, (by simp only [slen, q1, q2, q3, q4, q5, q6, q7, q8, q9, qa, sizeLine_eq]; omega), _, rfl, _, _, rfl, rfl, (by simp only [slen, q1, q2, q3, q4, q5, q6, q7, q8, q9, qa, sizeLine_eq]; omega), _, _, rfl, rfl, (by simp only [slen, q1, q2, q3, q4, q5, q6, q7, q8, q9, qa, sizeLine_eq]; omega), ?_⟩⟩
        have s6 := same_new (o := .lst [V.str (" & (" : Str), .str (" | (" : Str)]) hp
        exact ⟨_, _, rfl, by simp only [slen, q2]; omega, f5.trans (FrB.kp (Kp1.same s6)), bt5.same s6⟩
      · rintro σ H5 ⟨z, v7, rfl, hz, f5, bt5⟩
        have hz2 : z.length ≤ 600 := by omega
        refine ⟨_, rfl, ?_⟩
        refine call_nil (any_text (by first | omega | (simp only [slen, q1, q2, q3, q4, q5, q6, q7, q8, q9, qa]; omega)) bt5 fun H6 f6 bt6 => ?_)
        refine ⟨_, rfl, ?_⟩
        refine iteT ?_
        have cl := cutS_length z none (some ((z.length : Int) - 1))
        refine ⟨_, rfl, _, rfl, z, rfl, (by rw [sizeLine_eq]; omega), _, _, rfl, rfl, _, rfl, _, rfl, (by rw [sizeLine_eq]; omega), ?_⟩
        refine call_nil (any_text (by first | omega | (simp only [slen, q1, q2, q3, q4, q5, q6, q7, q8, q9, qa]; omega)) bt6 fun H7 f7 bt7 => ?_)
        refine ⟨_, rfl, ?_⟩
        refine iteT ?_
        refine ⟨_, rfl, _, _, rfl, rfl, (by simp only [slen, q1, q2, q3, q4, q5, q6, q7, q8, q9, qa, sizeLine_eq]; omega), ?_⟩
        refine call_nil (any_text (by first | omega | (simp only [slen, q1, q2, q3, q4, q5, q6, q7, q8, q9, qa]; omega)) bt7 fun H8 f8 bt8 => ?_)
        exact kk H8 (f5.trans (f6.trans (f7.trans f8))) bt8
    refine ⟨_, rfl, rfl, _, rfl, ?_⟩
    refine ite2 (fun hc => ?_) (fun hc => ?_)
    · refine ⟨_, rfl, _, _, rfl, rfl, (by simp only [slen, q1, q2, q3, q4, q5, q6, q7, q8, q9, qa, sizeLine_eq]; omega), _, rfl, B, S, 200, rfl, bt1.bag, by decide, by decide, fun j H2 j0 j1 k2 hB2 => ?_⟩
      have bt2 := bt1.kp k2 hB2
      refine ⟨_, _, rfl, rfl, _, (1 + j).toNat, rfl, congrArg V.int (by omega), (by simp only [slen, q5]; omega), by omega, fun t1 ht1 => ?_⟩
      have hm1 : t1.length ≤ 23 * 201 := by
        rw [ht1]
        exact Nat.mul_le_mul (by simp only [slen, q5]; omega) (by omega)
      refine ⟨_, rfl, _, _, rfl, rfl, (by simp only [slen, q1, q2, q3, q4, q5, q6, q7, q8, q9, qa, sizeLine_eq]; omega), ?_⟩
      refine call_nil (any_text (by first | omega | (simp only [slen, q1, q2, q3, q4, q5, q6, q7, q8, q9, qa]; omega)) bt2 fun H3 f3 bt3 => ?_)
      refine ⟨_, rfl, ?_⟩
      refine iteT ?_
      refine ⟨_, rfl, _, _, rfl, rfl, (by simp only [slen, q1, q2, q3, q4, q5, q6, q7, q8, q9, qa, sizeLine_eq]; omega), _, 300, rfl, rfl, (by simp only [slen, q4]; omega), by decide, fun t2 ht2 => ?_⟩
      have hm2 : t2.length ≤ 23 * 300 := by
        rw [ht2]
        exact Nat.mul_le_mul (by simp only [slen, q4]; omega) (Nat.le_refl _)
      refine ⟨_, _, rfl, rfl, (by simp only [slen, q1, q2, q3, q4, q5, q6, q7, q8, q9, qa, sizeLine_eq]; omega), _, rfl, _, _, rfl, rfl, (by simp only [slen, q1, q2, q3, q4, q5, q6, q7, q8, q9, qa, sizeLine_eq]; omega), ?_⟩
      refine call_nil (any_text (by first | omega | (simp only [slen, q1, q2, q3, q4, q5, q6, q7, q8, q9, qa]; omega)) bt3 fun H4 f4 bt4 => ?_)
      exact kk H4 (f1.trans ((FrB.kp k2).trans (f3.trans f4))) bt4
    refine ⟨_, rfl, rfl, _, rfl, ?_⟩
    refine ite2 (fun hc => ?_) (fun hc => ?_)
    · refine ⟨fun σ' Hc => ∃ (D : Addr) (zs : List Str) (v7 : Option V), σ' = [some (.ref B), some (.ref l), some (.str x), some (.str y), some (.int t), none, none, v7, some (.str ("abcdefghijklmnopqrstuvwxyz" : Str)), some (.ref D), none, none, none] ∧ D ≠ B ∧ Hc D = some (.lst (zs.map V.str)) ∧ 59 ≤ zs.length ∧ zs.length ≤ 62 ∧ (∀ z ∈ zs, z.length ≤ 2) ∧ FrB B H Hc ∧ BT B S PT Hc, ?_, ?_⟩
      · refine ⟨_, rfl, B, S, 4, rfl, bt1.bag, by decide, by decide, fun j H2 j0 j1 k2 hB2 => ⟨_, _, rfl, rfl, _, rfl, by omega, by omega, fun D hD => ?_⟩⟩
        have bt2 := bt1.kp k2 hB2
        have hDn := hB2.ne hD
        refine lc_it (walk_range (lo := 0)) (fun i H3 => Kp1 B H2 H3 ∧ Bag B S H3 ∧ ∃ zs : List Str, H3 D = some (.lst (zs.map V.str)) ∧ zs.length = i ∧ ∀ z ∈ zs, z.length ≤ 2) ⟨Kp1.refl.new hD hDn.1, hB2.new hD, [], upd_same, rfl, fun z hz => by cases hz⟩ (fun _ _ _ _ => trivial) ?_ ?_
        · rintro i yv H3 H4 hi ⟨k3, hB3, zs, hD3, hzl, hz1⟩ ⟨rfl, hk⟩
          subst hk
          have hi' : i < 63 := by omega
          obtain ⟨c1, a1⟩ := let_at (i := (0 + (i : Int)) % 26) (by omega) (by omega)
          obtain ⟨c2, a2⟩ := let_at (i := (0 + (i : Int)) / 26) (by omega) (by omega)
          refine ⟨rfl, _, rfl, _, rfl, _, _, rfl, rfl, (show (0 : Int) < 26 by decide), _, _, c1, rfl, rfl, by decide +kernel, a1, _, rfl, _, rfl, _, _, rfl, rfl, ⟨by decide, by decide⟩, _, _, c2, rfl, rfl, by decide +kernel, a2, _, _, rfl, rfl, by rw [one_len, one_len]; decide, ?_⟩
          obtain ⟨a, p1, p2, p3, p4, p5, p6⟩ := lc_putK (y := V.str ((⟨#[c1]⟩ : Str) ++ ⟨#[c2]⟩)) hD hDn.1 hDn.2 k3 Kp1.refl hB3 hD3 (by rw [List.length_map]; omega)
          subst p3
          exact ⟨_, p1, p2, p4, p5, zs ++ [(⟨#[c1]⟩ : Str) ++ ⟨#[c2]⟩], by rw [p6, List.map_append]; rfl, by rw [List.length_append, hzl]; rfl, fun z hz => (List.mem_append.mp hz).elim (hz1 z) fun q => by rw [List.mem_singleton.mp q, slen, one_len, one_len]; exact Nat.le_refl _⟩
        · rintro H3 ⟨k3, hB3, zs, hD3, hzl, hz1⟩
          exact ⟨D, zs, none, rfl, hDn.1, hD3, by omega, by omega, hz1, f1.trans (FrB.kp (k2.trans k3)), bt2.kp k3 hB3⟩
      rintro σ' H2 ⟨D, zs, v7, rfl, hDB, hD2, hl1, hl2, hz, f2, bt2⟩
      refine ⟨fun σ' Hc => ∃ (cu : Int), σ' = [some (.ref B), some (.ref l), some (.str x), some (.str y), some (.int t), none, none, v7, some (.str ("abcdefghijklmnopqrstuvwxyz" : Str)), some (.ref D), some (.int cu), none, none] ∧ Hc D = some (.lst (zs.map V.str)) ∧ FrB B H Hc ∧ BT B S PT Hc, ?_, ?_⟩
      · refine ⟨_, rfl, _, rfl, D, _, rfl, .inl (SqL.of hD2), _, _, rfl, rfl, B, S, _, rfl, bt2.bag, by rw [List.length_map]; omega, by rw [List.length_map]; omega, fun j H3 j0 j1 k3 hB3 => ⟨_, _, rfl, rfl, ?_⟩⟩
        exact ⟨1 + j, rfl, k3 _ _ hD2 hDB, f2.trans (FrB.kp k3), bt2.kp k3 hB3⟩
      rintro σ' H3 ⟨cu, rfl, hD3, f3, bt3⟩
      refine ⟨fun σ' Hc => ∃ (u v : Str), σ' = [some (.ref B), some (.ref l), some (.str x), some (.str y), some (.int t), none, none, v7, some (.str ("abcdefghijklmnopqrstuvwxyz" : Str)), some (.ref D), some (.int cu), some (.str u), some (.str v)] ∧ u.length ≤ 400 ∧ v.length ≤ 400 ∧ FrB B H Hc ∧ BT B S PT Hc, ?_, ?_⟩
      · obtain ⟨ys, ey, hy1, hy2⟩ := cutV_map zs none (some cu)
        obtain ⟨ws, ew, hw1, hw2⟩ := cutV_map zs (some cu) none
        have bnd : ∀ {ks : List Str}, ks.length ≤ zs.length → (∀ k ∈ ks, k ∈ zs) → (ks.map (·.length)).sum + ks.length * (" & " : Str).length ≤ 16777216 ∧ (Txt.join (" & " : Str) ks).length ≤ 400 := fun {ks} h1 h2 => by
          have g1 := sum_ones (ys := ks) (n := 2) (fun z hk => hz z (h2 z hk)) 0
          have g2 := sum_ones (ys := ks) (n := 2) (fun z hk => hz z (h2 z hk)) 3
          simp only [Nat.add_zero] at g1
          have g3 := jlen (" & " : Str) ks
          rw [q4] at g3 ⊢
          omega
        refine ⟨⟨_, rfl⟩, _, rfl, _, rfl, _, rfl, D, _, rfl, SqL.of hD3, fun p hp => ?_⟩
        rw [ey]
        have s4 := same_new (o := .lst (ys.map V.str)) hp
        refine ⟨_, p, ys, rfl, rfl, .inl (SqL.of upd_same), (bnd hy1 hy2).1, ⟨_, rfl⟩, _, rfl, _, rfl, _, rfl, D, _, rfl, SqL.of (s4 _ _ hD3), fun p2 hp2 => ?_⟩
        rw [ew]
        have s5 := s4.trans (same_new (o := .lst (ws.map V.str)) hp2)
        exact ⟨_, p2, ws, rfl, rfl, .inl (SqL.of upd_same), (bnd hw1 hw2).1, _, _, rfl, _, _, rfl, (bnd hy1 hy2).2, (bnd hw1 hw2).2, f3.trans (FrB.kp (Kp1.same s5)), bt3.same s5⟩
      rintro σ' H4 ⟨u, v, rfl, hu, hv, f4, bt4⟩
      refine ⟨_, rfl, _, _, rfl, rfl, (by simp only [slen, q1, q2, q3, q4, q5, q6, q7, q8, q9, qa, sizeLine_eq]; omega), _, _, rfl, rfl, (by simp only [slen, q1, q2, q3, q4, q5, q6, q7, q8, q9, qa, sizeLine_eq]; omega), _, rfl, _, _, rfl, rfl, (by simp only [slen, q1, q2, q3, q4, q5, q6, q7, q8, q9, qa, sizeLine_eq]; omega), _, _, rfl, rfl, (by simp only [slen, q1, q2, q3, q4, q5, q6, q7, q8, q9, qa, sizeLine_eq]; omega), ?_⟩
      refine call_nil (any_text (by first | omega | (simp only [slen, q1, q2, q3, q4, q5, q6, q7, q8, q9, qa]; omega)) bt4 fun H5 f5 bt5 => ?_)
      refine ⟨_, rfl, ?_⟩
      refine iteT ?_
      refine ⟨_, rfl, _, _, rfl, rfl, (by simp only [slen, q1, q2, q3, q4, q5, q6, q7, q8, q9, qa, sizeLine_eq]; omega), _, _, rfl, rfl, (by simp only [slen, q1, q2, q3, q4, q5, q6, q7, q8, q9, qa, sizeLine_eq]; omega), _, rfl, _, _, rfl, rfl, (by simp only [slen, q1, q2, q3, q4, q5, q6, q7, q8, q9, qa, sizeLine_eq]; omega), _, _, rfl, rfl, (by simp only [slen, q1, q2, q3, q4, q5, q6, q7, q8, q9, qa, sizeLine_eq]; omega), ?_⟩
      refine call_nil (any_text (by first | omega | (simp only [slen, q1, q2, q3, q4, q5, q6, q7, q8, q9, qa]; omega)) bt5 fun H6 f6 bt6 => ?_)
      refine ⟨_, rfl, ?_⟩
      refine iteT ?_
      refine ⟨_, rfl, _, _, rfl, rfl, (by simp only [slen, q1, q2, q3, q4, q5, q6, q7, q8, q9, qa, sizeLine_eq]; omega), _, _, rfl, rfl, (by simp only [slen, q1, q2, q3, q4, q5, q6, q7, q8, q9, qa, sizeLine_eq]; omega), _, rfl, _, _, rfl, rfl, (by simp only [slen, q1, q2, q3, q4, q5, q6, q7, q8, q9, qa, sizeLine_eq]; omega), _, _, rfl, rfl, (by simp only [slen, q1, q2, q3, q4, q5, q6, q7, q8, q9, qa, sizeLine_eq]; omega), ?_⟩
      refine call_nil (any_text (by first | omega | (simp only [slen, q1, q2, q3, q4, q5, q6, q7, q8, q9, qa]; omega)) bt6 fun H7 f7 bt7 => ?_)
      exact kk H7 (f4.trans (f5.trans (f6.trans f7))) bt7
    refine ⟨_, rfl, rfl, _, rfl, ?_⟩
    refine ite2 (fun hc => ?_) (fun hc => ?_)
    · refine ⟨_, rfl, B, S, 4, rfl, bt1.bag, by decide, by decide, fun j H2 j0 j1 k2 hB2 => ?_⟩
      have bt2 := bt1.kp k2 hB2
      refine ⟨_, _, rfl, rfl, _, (5 + j).toNat, rfl, congrArg V.int (by omega), by rw [qa]; decide, by omega, fun t1 ht1 => ?_⟩
      rw [qa] at ht1
      refine call_nil (any_text (by first | omega | (simp only [slen, q1, q2, q3, q4, q5, q6, q7, q8, q9, qa]; omega)) bt2 fun H3 f3 bt3 => ?_)
      refine ⟨_, rfl, ?_⟩
      refine iteT ?_
      refine ⟨_, rfl, _, _, rfl, rfl, (by simp only [slen, q1, q2, q3, q4, q5, q6, q7, q8, q9, qa, sizeLine_eq]; omega), _, rfl, B, S, 5, rfl, bt3.bag, by decide, by decide, fun j2 H4 j3 j4 k4 hB4 => ?_⟩
      have bt4 := bt3.kp k4 hB4
      have cl := cutS_length ("zyxwvutsrq" : Str) none (some (5 + j2))
      have q10 : ("zyxwvutsrq" : Str).length = 10 := by decide +kernel
      rw [q10] at cl
      refine ⟨_, _, rfl, rfl, _, rfl, _, rfl, (by rw [q10]; decide), _, _, rfl, rfl, (by simp only [slen, q1, q2, q3, q4, q5, q6, q7, q8, q9, qa, sizeLine_eq]; omega), _, _, rfl, rfl, (by simp only [slen, q1, q2, q3, q4, q5, q6, q7, q8, q9, qa, sizeLine_eq]; omega), ?_⟩
      refine call_nil (any_text (by first | omega | (simp only [slen, q1, q2, q3, q4, q5, q6, q7, q8, q9, qa]; omega)) bt4 fun H5 f5 bt5 => ?_)
      exact kk H5 (f1.trans ((FrB.kp k2).trans (f3.trans ((FrB.kp k4).trans f5)))) bt5
    refine ⟨_, rfl, _, _, rfl, rfl, (by simp only [slen, q1, q2, q3, q4, q5, q6, q7, q8, q9, qa, sizeLine_eq]; omega), _, _, rfl, rfl, (by simp only [slen, q1, q2, q3, q4, q5, q6, q7, q8, q9, qa, sizeLine_eq]; omega), _, rfl, _, _, rfl, rfl, (by simp only [slen, q1, q2, q3, q4, q5, q6, q7, q8, q9, qa, sizeLine_eq]; omega), ?_⟩
    refine call_nil (any_text (by first | omega | (simp only [slen, q1, q2, q3, q4, q5, q6, q7, q8, q9, qa]; omega)) bt1 fun H2 f2 bt2 => ?_)
    refine ⟨_, rfl, ?_⟩
    refine iteT ?_
    refine ⟨_, rfl, _, _, rfl, rfl, (by simp only [slen, q1, q2, q3, q4, q5, q6, q7, q8, q9, qa, sizeLine_eq]; omega), _, rfl, _, _, rfl, rfl, (by simp only [slen, q1, q2, q3, q4, q5, q6, q7, q8, q9, qa, sizeLine_eq]; omega), _, _, rfl, rfl, (by simp only [slen, q1, q2, q3, q4, q5, q6, q7, q8, q9, qa, sizeLine_eq]; omega), ?_⟩
    refine call_nil (any_text (by first | omega | (simp only [slen, q1, q2, q3, q4, q5, q6, q7, q8, q9, qa]; omega)) bt2 fun H3 f3 bt3 => ?_)
    refine ⟨_, rfl, ?_⟩
    refine iteT ?_
    refine ⟨_, rfl, _, _, rfl, rfl, (by simp only [slen, q1, q2, q3, q4, q5, q6, q7, q8, q9, qa, sizeLine_eq]; omega), _, _, rfl, rfl, (by simp only [slen, q1, q2, q3, q4, q5, q6, q7, q8, q9, qa, sizeLine_eq]; omega), _, rfl, _, _, rfl, rfl, (by simp only [slen, q1, q2, q3, q4, q5, q6, q7, q8, q9, qa, sizeLine_eq]; omega), _, _, rfl, rfl, (by simp only [slen, q1, q2, q3, q4, q5, q6, q7, q8, q9, qa, sizeLine_eq]; omega), _, rfl, _, _, rfl, rfl, (by simp only [slen, q1, q2, q3, q4, q5, q6, q7, q8, q9, qa, sizeLine_eq]; omega), _, _, rfl, rfl, (by simp only [slen, q1, q2, q3, q4, q5, q6, q7, q8, q9, qa, sizeLine_eq]; omega), ?_⟩
    refine call_nil (any_text (by first | omega | (simp only [slen, q1, q2, q3, q4, q5, q6, q7, q8, q9, qa]; omega)) bt3 fun H4 f4 bt4 => ?_)
    exact kk H4 (f1.trans (f2.trans (f3.trans f4))) bt4
end
end Pe
set_option Elab.async false
set_option maxRecDepth 100000
set_option maxHeartbeats 16000000
set_option linter.all false
/-! the law itself -/
namespace Pe
open PySem PySem.Spec PyProof.Rows L2
abbrev sLaw : Stmt := top 61
theorem BT.updL {B S PT D : Addr} {H : Hp} {xs ys : List V} (t : BT B S PT H) (e : H D = some (.lst xs)) (h1 : D ≠ B) (h2 : D ≠ S) : BT B S PT (upd H D (.lst ys)) := by
  refine ⟨t.bag.upd h1 h2, fun p hp => ?_⟩
  obtain ⟨ps, a1, a2, a3⟩ := t.tab p hp
  refine ⟨ps, ?_, a2, fun pos cv hc => ?_⟩
  · rw [upd_ne]
    · exact a1
    · intro z
      rw [z, e] at a1
      cases a1
  · obtain ⟨c, q1, q2⟩ := a3 pos cv hc
    refine ⟨c, q1, ?_⟩
    rw [upd_ne]
    · exact q2
    · intro z
      rw [z, e] at q2
      have q3 := Option.some.inj q2
      unfold LamX.CodeO at q3
      cases q3
theorem OddV.fr {C B : Addr} {H H' : Hp} {v : V} (k : FrB B H H') (h : OddV C B H v) : OddV C B H' v := by
  rcases h with h | h | h | h | ⟨a, e, n, h⟩
  · exact .inl h
  · exact .inr (.inl h)
  · exact .inr (.inr (.inl h))
  · exact .inr (.inr (.inr (.inl h)))
  · refine .inr (.inr (.inr (.inr ⟨a, e, n, ?_⟩)))
    rcases h with ⟨xs, h⟩ | ⟨xs, h⟩ | ⟨dx, fs, h⟩
    · exact .inl ⟨xs, k _ _ h n (fun _ z => by cases z)⟩
    · exact .inr (.inl ⟨xs, k _ _ h n (fun _ z => by cases z)⟩)
    · exact .inr (.inr ⟨dx, fs, k _ _ h n (fun _ z => by cases z)⟩)
theorem FrB.lst {B a : Addr} {H H' : Hp} {xs : List V} (k : FrB B H H') (e : H a = some (.lst xs)) (n : a ≠ B) : H' a = some (.lst xs) := k _ _ e n (fun _ z => by cases z)
def spLaw (K : PySem.W.Frag) (PT : Addr) : Sp := fun vs H Q _ => ∃ (a : Addr) (ns : List Int), vs = [.ref a] ∧ SqL K H a (ns.map V.int) ∧ ns.length ≤ 63 ∧ LamX.Tabs [(PT, qAny)] H ∧ ∀ H', Q (.bl true) H'
section
variable {P : Program} {w : World} {K : PySem.W.Frag} {mg : Str → Option Value} {base : Heap} {C : Addr} {f : Addr} {fd : FuncData} {PT : Addr}
abbrev nLw : List Str := ["_law_script", "_law_bag_here", "_law_titles_here", "_law_texts", "_law_k", "_law_turn", "_law_words_here", "_law_thing"]
theorem scLw : FnScope nLw ["_law_script"] (C8.fnScope sLaw) := C8.fnScope_by (by decide +kernel)
theorem ok_law (F : C8.Def K mg "law" sLaw f fd) (b : Binds K fd ["_law_script"] []) (I : C8.InsC K C) (kS : PySem.W.kitOne K (.ref C) (.type "str") = some false) (zR : mg "range" = none) (zA : mg "all" = none)
    (cB : C8.Cal P w K mg base 1 "_law_bag" (spBag K) []) (cD : C8.Cal P w K mg base 1 "_law_draw" spDraw []) (cO : C8.Cal P w K mg base 2 "_law_of" spOf []) (cT : C8.Cal P w K mg base 4 "_law_titles" spTitles []) (cR : C8.Cal P w K mg base 6 "_law_raw" (spRaw 4) []) (cL : C8.Cal P w K mg base 6 "_law_loose" (spLoose 4) [])
    (cE : C8.Cal P w K mg base 3 "_law_bent" spBent []) (cN : C8.Cal P w K mg base 67 "_law_any_so" (spAny K PT) []) (cG : C8.Cal P w K mg base 68 "_law_long_so" (spLong PT) []) (cX : C8.Cal P w K mg base 3 "_law_odd" (spOdd C) []) (cC : C8.Cal P w K mg base 8 "_law_circle" (spCirc C) []) :
    FnOk P w K mg base C8.CX0 69 f fd ["_law_script"] (spLaw K PT) := by
  refine C8.fn0 F.fn scLw (fun vs H Q E h => ?_) (fun cdv A outer s H vs Q E hr h => ?_)
  · obtain ⟨_, _, rfl, _⟩ := h
    rfl
  · obtain ⟨a, ns, rfl, ha, hns, hT, kk⟩ := h
    refine ⟨_, pss_cons (ps_set (i := 1) scLw.nd rfl (Or.inl rfl) (C8.pe_c cB hr (by decide) (by rfl) (pa_cons (pv 0) pa_nil)))
      (pss_cons (ps_set (i := 2) scLw.nd rfl (Or.inl rfl) (C8.pe_c cT hr (by decide) (by rfl) (pa_cons (pv 1) (pa_cons (pe_op op_add pe_int (C8.pe_c cD hr (by decide) (by rfl) (pa_cons (pv 1) (pa_cons pe_int pa_nil)))) pa_nil))))
      (pss_cons (ps_set (i := 3) scLw.nd rfl (Or.inl rfl) (pe_lst pa_nil))
      (pss_cons (ps_for PassesOwn.never rfl (pi_range1 (by rfl) zR (pa_cons pe_int pa_nil)) (pg_name (i := 4) scLw.nd rfl (Or.inl rfl))
        (pss_one (ps_expr (pe_bm PySem.F.plainAttrs_list PySem.F.slot_list_append PySem.F.type_list_append mt_append (pv 3) (pa_cons (C8.pe_c cL hr (by decide) (by rfl) (pa_cons (pv 1) (pa_cons (C8.pe_c cR hr (by decide) (by rfl) (pa_cons (pv 1) (pa_cons (pv 2) (pa_cons (C8.pe_c cO hr (by decide) (by rfl) (pa_cons (pv 1) (pa_cons (pe_lst (pa_cons pe_int (pa_cons pe_int (pa_cons pe_int (pa_cons pe_int (pa_cons pe_int pa_nil)))))) pa_nil))) pa_nil)))) pa_nil))) pa_nil)))))
      (pss_cons (ps_for PassesOwn.never rfl (pi_range1 (by rfl) zR (pa_cons pe_int pa_nil)) (pg_name (i := 5) scLw.nd rfl (Or.inl rfl))
        (C8.pss_cut (ps_set (i := 6) scLw.nd rfl (Or.inl rfl) (C8.pe_c cO hr (by decide) (by rfl) (pa_cons (pv 1) (pa_cons (pv 3) pa_nil))))
        (pss_cons (ps_for PassesOwn.never rfl (pi_range1 (by rfl) zR (pa_cons (C8.pe_c cO hr (by decide) (by rfl) (pa_cons (pv 1) (pa_cons (pe_lst (pa_cons pe_int (pa_cons pe_int (pa_cons pe_int (pa_cons pe_int (pa_cons pe_int pa_nil)))))) pa_nil))) pa_nil)) (pg_name (i := 4) scLw.nd rfl (Or.inl rfl))
          (pss_one (ps_set (i := 6) scLw.nd rfl (Or.inl rfl) (C8.pe_c cE hr (by decide) (by rfl) (pa_cons (pv 1) (pa_cons (pv 6) (pa_cons (pe_ix ix_list (pv 3) pe_int (fun _ _ => rfl)) pa_nil)))))))
        (pss_one (ps_if (pt_not (pt_val (C8.pe_c cN hr (by decide) (by rfl) (pa_cons (pv 6) pa_nil)))) (pss_one (ps_ret pe_bl)) pss_nil)))))
      (pss_cons (ps_if (pt_not (pt_val (C8.pe_c cG hr (by decide) (by rfl) (pa_cons (pv 1) (pa_cons (pv 2) pa_nil))))) (pss_one (ps_ret pe_bl)) pss_nil)
      (pss_cons (ps_for PassesOwn.never rfl (pi_list (pe_lst (pa_cons (C8.pe_c cX hr (by decide) (by rfl) (pa_cons (pv 1) (pa_cons (pe_lst (pa_cons (pe_lst (pa_cons pe_str pa_nil)) (pa_cons (pe_tup (pa_cons pe_str pa_nil)) (pa_cons (C8.pe_c cC hr (by decide) (by rfl) (pa_cons (pe_tup (pa_cons pe_str (pa_cons pe_str pa_nil))) pa_nil)) (pa_cons (pe_lst (pa_cons (pe_op op_add_str (pe_ix ix_list (pv 2) pe_int (fun _ _ => rfl)) pe_str) pa_nil)) pa_nil))))) pa_nil)))
          (pa_cons pe_str (pa_cons pe_str (pa_cons pe_str (pa_cons (pe_ix ix_list (pv 2) pe_int (fun _ _ => rfl)) pa_nil))))))) (pg_name (i := 7) scLw.nd rfl (Or.inl rfl))
        (pss_one (ps_if (pt_not (pt_val (C8.pe_c cN hr (by decide) (by rfl) (pa_cons (pv 7) pa_nil)))) (pss_one (ps_ret pe_bl)) pss_nil)))
      (pss_one (ps_ret (pe_callB (cr_all rfl) (by rfl) zA (by decide +kernel) (pa_cons (pe_lc (own := [("_law_words_here", 6)]) (g := gName 6) (tt := tYes) (te := tCall (spAny K PT) [] C8.E0 (tCons (tVar 6) tNil)) rfl scLw.nd (pi_list (pv 3)) (blkOk_by (N := nLw) (sc := C8.fnScope sLaw) (by decide +kernel))
        (fun _ _ _ _ _ => pg_name (i := 6) scLw.nd rfl (Or.inl rfl)) (fun _ _ _ _ _ => pts_nil) (fun _ _ _ _ _ => C8.pe_c cN hr (by decide) (by rfl) (pa_cons (pv 6) pa_nil))) pa_nil)))))))))), ?_⟩
    refine ⟨_, rfl, a, ns, rfl, ha, hns, fun B S H1 s1 hB1 hB0 => ?_⟩
    have bt1 : BT B S PT H1 := ⟨hB1, hT.ext s1⟩
    refine ⟨_, rfl, _, rfl, B, S, 3, rfl, hB1, by decide, by decide, fun j H2 j0 j1 k2 hB2 => ?_⟩
    have bt2 := bt1.kp k2 hB2
    refine ⟨_, _, rfl, rfl, B, S, _, rfl, hB2, by omega, by omega, fun r xs H3 hxl hx k3 hB3 hr0 hr3 => ?_⟩
    have bt3 := bt2.kp k3 hB3
    have hrB := (hB2.ne hr0).1
    have hx2 : 2 ≤ xs.length ∧ xs.length ≤ 4 := by omega
    refine ⟨by decide, fun r2 hr20 => ?_⟩
    have hr2n := hB3.ne hr20
    have hrr2 : r ≠ r2 := ne_of_none hr3 hr20
    have s4 := same_new (o := .lst []) hr20
    have bt4 := bt3.same s4
    refine ⟨_, rfl, by decide, by decide, for_it (walk_range (lo := 0)) (fun i σ H5 => ∃ (zs : List Str) (v4 : Option V), σ = [some (.ref a), some (.ref B), some (.ref r), some (.ref r2), v4, none, none, none] ∧ Kp1 B H3 H5 ∧ BT B S PT H5 ∧ H5 r2 = some (.lst (zs.map V.str)) ∧ zs.length = i ∧ ∀ z ∈ zs, z.length ≤ 2036) ⟨[], none, rfl, Kp1.refl.new hr20 hr2n.1, bt4, upd_same, rfl, fun z hz => by cases hz⟩ (fun _ _ _ _ _ => trivial) ?_ ?_⟩
    · rintro i yv σ H5 H6 hi ⟨zs, v4, rfl, k5, bt5, hr25, hzl, hz⟩ ⟨rfl, _⟩
      have hi3 : i < 3 := hi
      have hr5 := k5 _ _ hr3 hrB
      refine ⟨_, rfl, .inl ⟨rfl, _, SqL.of hr25⟩, _, rfl, _, rfl, _, rfl, _, rfl, (by show 5 ≤ sizeLine; decide), fun p hp => ⟨B, S, _, rfl, bt5.bag.new hp, .inl ⟨p, _, rfl, (bt5.bag.ne hp).1, upd_same, by simp, (by show 5 < 1000000; decide), fun v H7 hv k7 hB7 => ?_⟩⟩⟩
      have k57 := (Kp1.new (o := .lst [.int 2, .int 1, .int 2, .int 3, .int 0]) (Kp1.refl (a := B)) hp (bt5.bag.ne hp).1).trans k7
      obtain ⟨kq, hkq, rfl⟩ : ∃ kq : Nat, kq ≤ 3 ∧ v = .int (kq : Int) := by
        simp only [List.mem_cons, List.not_mem_nil, or_false] at hv
        rcases hv with rfl | rfl | rfl | rfl | rfl
        · exact ⟨2, by decide, rfl⟩
        · exact ⟨1, by decide, rfl⟩
        · exact ⟨2, by decide, rfl⟩
        · exact ⟨3, by decide, rfl⟩
        · exact ⟨0, by decide, rfl⟩
      refine ⟨B, S, r, xs, kq, rfl, by omega, hB7, hrB, k57 _ _ hr5 hrB, fun e => by rw [e] at hx2; exact absurd hx2.1 (by decide), by omega, hx, fun n u H8 hn hu k8 hB8 => ?_⟩
      refine ⟨B, S, n, u, kq, rfl, by omega, hkq, hB8, hn, hu, fun z H9 hz9 k9 hB9 => ?_⟩
      have k59 := (k57.trans k8).trans k9
      have hr29 := k59 _ _ hr25 hr2n.1
      have bt9 := bt5.kp k59 hB9
      refine ⟨r2, _, _, rfl, rfl, hr29, by rw [List.length_map, sizeLine_eq]; omega, ?_⟩
      refine ⟨zs ++ [z], _, rfl, fun b o q n => ?_, bt9.updL hr29 hr2n.1 hr2n.2, by rw [upd_same, List.map_append]; rfl, by rw [List.length_append, hzl]; rfl, fun y hy => (List.mem_append.mp hy).elim (hz y) fun q => by rw [List.mem_singleton.mp q]; exact Nat.le_trans hz9 (lb_le hkq)⟩
      rw [upd_ne (ne_of_none q hr20)]
      exact k59 _ _ (k5 b o q n) n
    rintro σ H5 ⟨zs, v4, rfl, k5, bt5, hr25, hzl, hz⟩
    have hzl3 : zs.length = 3 := hzl
    have hr5 := k5 _ _ hr3 hrB
    refine ⟨_, rfl, by decide, by decide, for_it (walk_range (lo := 0)) (fun i σ H6 => ∃ (v4 v5 v6 : Option V), σ = [some (.ref a), some (.ref B), some (.ref r), some (.ref r2), v4, v5, v6, none] ∧ FrB B H5 H6 ∧ BT B S PT H6) ⟨v4, none, none, rfl, FrB.refl, bt5⟩ (fun _ _ _ _ _ => trivial) ?_ ?_⟩
    · rintro i yv σ H6 H7 hi ⟨v4, v5, v6, rfl, f6, bt6⟩ ⟨rfl, hk⟩
      subst hk
      refine ⟨fun σ' Hc => ∃ (z : Str), σ' = [some (.ref a), some (.ref B), some (.ref r), some (.ref r2), v4, some (.int (0 + (i : Int))), some (.str z), none] ∧ z.length ≤ 2036 ∧ FrB B H5 Hc ∧ BT B S PT Hc, ?_, ?_⟩
      · refine ⟨_, rfl, _, rfl, B, S, _, rfl, bt6.bag, .inl ⟨r2, _, rfl, hr2n.1, f6.lst hr25 hr2n.1, ?_, ?_, fun v H8 hv k8 hB8 => ?_⟩⟩
        · intro e
          have := congrArg List.length e
          rw [List.length_map, hzl3] at this
          cases this
        · rw [List.length_map, hzl3]
          decide
        · obtain ⟨z, hz1, rfl⟩ := List.mem_map.mp hv
          exact ⟨z, rfl, hz z hz1, f6.trans (FrB.kp k8), bt6.kp k8 hB8⟩
      rintro σ' H8 ⟨z0, rfl, hz0, f8, bt8⟩
      refine ⟨_, rfl, (by show 5 ≤ sizeLine; decide), fun p hp => ⟨B, S, _, rfl, bt8.bag.new hp, .inl ⟨p, _, rfl, (bt8.bag.ne hp).1, upd_same, by simp, (by show 5 < 1000000; decide), fun v H9 hv k9 hB9 => ?_⟩⟩⟩
      have k89 := (Kp1.new (o := .lst [.int 1, .int 1, .int 1, .int 2, .int 3]) (Kp1.refl (a := B)) hp (bt8.bag.ne hp).1).trans k9
      obtain ⟨m, hm, rfl⟩ : ∃ m : Nat, m ≤ 3 ∧ v = .int (m : Int) := by
        simp only [List.mem_cons, List.not_mem_nil, or_false] at hv
        rcases hv with rfl | rfl | rfl | rfl | rfl
        · exact ⟨1, by decide, rfl⟩
        · exact ⟨1, by decide, rfl⟩
        · exact ⟨1, by decide, rfl⟩
        · exact ⟨2, by decide, rfl⟩
        · exact ⟨3, by decide, rfl⟩
      refine ⟨_, rfl, by omega, by omega, for_it (walk_range (lo := 0)) (fun j σ H10 => ∃ (z : Str) (v4 : Option V), σ = [some (.ref a), some (.ref B), some (.ref r), some (.ref r2), v4, some (.int (0 + (i : Int))), some (.str z), none] ∧ z.length ≤ 2036 + 2100 * j ∧ FrB B H5 H10 ∧ BT B S PT H10) ⟨z0, _, rfl, by omega, f8.trans (FrB.kp k89), bt8.kp k89 hB9⟩ (fun _ _ _ _ _ => trivial) ?_ ?_⟩
      · rintro j yv σ H10 H11 hj ⟨z, v4', rfl, hz10, f10, bt10⟩ ⟨rfl, _⟩
        have hj3 : j < 3 := by omega
        match zs, hzl3, hz with
        | z1 :: zr, _, hz =>
        have hz1 := hz z1 List.mem_cons_self
        refine ⟨_, rfl, _, rfl, _, rfl, r2, _, 0, .str z1, rfl, rfl, SqL.of (f10.lst hr25 hr2n.1), atI_nat (j := 0) rfl, B, S, z, z1, rfl, bt10.bag, by omega, by omega, fun z' H12 hz' k12 hB12 => ?_⟩
        exact ⟨z', _, rfl, by omega, f10.trans (FrB.kp k12), bt10.kp k12 hB12⟩
      · rintro σ H10 ⟨z, v4', rfl, hz10, f10, bt10⟩
        refine ⟨_, rfl, ?_⟩
        refine call_nil (any_text (by omega) bt10 fun H11 f11 bt11 => ?_)
        refine ⟨_, rfl, ?_⟩
        refine iteF ?_
        exact ⟨_, _, _, rfl, f10.trans f11, bt11⟩
    rintro σ H6 ⟨v4, v5, v6, rfl, f6, bt6⟩
    refine ⟨_, rfl, _, rfl, B, S, r, xs, rfl, bt6, hrB, f6.lst hr5 hrB, hx2.1, hx, fun H7 f7 bt7 => ⟨_, rfl, ?_⟩⟩
    refine iteF ?_
    have f57 := f6.trans f7
    have hr7 := f57.lst hr5 hrB
    match xs, hx2, hx, hr7 with
    | x :: xr, _, hx, hr7 =>
    have hxl0 := hx x List.mem_cons_self
    have qa : (" & a" : Str).length = 4 := by decide +kernel
    refine ⟨_, rfl, (by show 1 ≤ sizeLine; decide), fun a1 h1 => ⟨(by show 1 ≤ sizeLine; decide), fun a2 h2 => ⟨(by show 2 ≤ sizeLine; decide), fun a3 h3 => ⟨a3, rfl, upd_same, fun H8 c s8 ct => ?_⟩⟩⟩⟩
    have t3 := same_new (o := .tup [.str "eye", .str "a"]) h3
    have t2 := same_new (o := .tup [.str "a"]) h2
    have t1 := same_new (o := .lst [.str "a"]) h1
    have t28 := t2.trans (t3.trans s8)
    have t38 := t3.trans s8
    have t18 := t1.trans t28
    have hB8 := bt7.bag.same t18
    have n1 := (bt7.bag.ne h1).1
    have n2 := ((bt7.bag.same t1).ne h2).1
    refine ⟨_, rfl, r, _, 0, .str x, rfl, rfl, SqL.of (t18 _ _ hr7), atI_nat (j := 0) rfl, _, _, rfl, rfl, by rw [qa, sizeLine_eq]; omega, (by show 1 ≤ sizeLine; decide), fun a4 h4 => ⟨(by show 4 ≤ sizeLine; decide), fun L hL => ?_⟩⟩
    have t4 := same_new (o := .lst [.str (x ++ (" & a" : Str))]) h4
    have t5 := same_new (o := .lst [.ref a1, .ref a2, .ref c, .ref a4]) hL
    have n4 := (hB8.ne h4).1
    have nL := ((hB8.same t4).ne hL).1
    have nc : c ≠ B := fun z => by
      obtain ⟨as, ⟨dx, rr, pp, yy, q1, _⟩, _⟩ := ct.top
      obtain ⟨ns', i', g', st', c', e1, _⟩ := hB8
      rw [z, e1] at q1
      cases q1
    have f1 := (t28.trans (t4.trans t5)) _ _ (upd_same (H := H7) (a := a1) (o := .lst [.str "a"]))
    have f2 := (t38.trans (t4.trans t5)) _ _ (upd_same (a := a2) (o := .tup [.str "a"]))
    have f4 := t5 _ _ (upd_same (a := a4) (o := .lst [.str (x ++ (" & a" : Str))]))
    have tL := t18.trans (t4.trans t5)
    refine ⟨B, S, L, _, rfl, bt7.bag.same tL, nL, upd_same, (by show 4 ≤ 100; decide), ?_, fun v H9 hv k9 hB9 => ?_⟩
    · intro m hm
      simp only [List.mem_cons, List.not_mem_nil, or_false] at hm
      rcases hm with rfl | rfl | rfl | rfl
      · exact .inr (.inr (.inr (.inr ⟨_, rfl, n1, .inl ⟨_, f1⟩⟩)))
      · exact .inr (.inr (.inr (.inr ⟨_, rfl, n2, .inr (.inl ⟨_, f2⟩)⟩)))
      · obtain ⟨as, ⟨dx, rr, pp, yy, q1, _⟩, _⟩ := ct.top
        exact .inr (.inr (.inr (.inr ⟨_, rfl, nc, .inr (.inr ⟨_, _, (t4.trans t5) _ _ q1⟩)⟩)))
      · exact .inr (.inr (.inr (.inr ⟨_, rfl, n4, .inl ⟨_, f4⟩⟩)))
    have bt9 := (bt7.same tL).kp k9 hB9
    have f79 : FrB B H7 H9 := (FrB.kp (Kp1.same tL)).trans (FrB.kp k9)
    have hr9 := f79.lst hr7 hrB
    refine ⟨_, rfl, r, _, 0, .str x, rfl, rfl, SqL.of hr9, atI_nat (j := 0) rfl, (by show 5 ≤ sizeLine; decide), fun M hM => ?_⟩
    have tM := same_new (o := .lst [v, .str "", .str " a", .str "a ", .str x]) hM
    have nM := (hB9.ne hM).1
    have bt10 := bt9.same tM
    have f10 := f79.trans (FrB.kp (Kp1.same tM))
    have hod : ∀ m ∈ [v, V.str "", V.str " a", V.str "a ", V.str x], OddV C B (upd H9 M (.lst [v, .str "", .str " a", .str "a ", .str x])) m := by
      intro m hm
      simp only [List.mem_cons, List.not_mem_nil, or_false] at hm
      rcases hm with rfl | rfl | rfl | rfl | rfl
      · exact OddV.kp (Kp1.same tM) hv
      · exact .inr (.inr (.inr (.inl ⟨_, rfl, by decide +kernel⟩)))
      · exact .inr (.inr (.inr (.inl ⟨_, rfl, by decide +kernel⟩)))
      · exact .inr (.inr (.inr (.inl ⟨_, rfl, by decide +kernel⟩)))
      · exact .inr (.inr (.inr (.inl ⟨_, rfl, by omega⟩)))
    have hM10 : (upd H9 M (.lst [v, .str "", .str " a", .str "a ", .str x])) M = some (.lst [v, .str "", .str " a", .str "a ", .str x]) := upd_same
    generalize upd H9 M (.lst [v, .str "", .str " a", .str "a ", .str x]) = H10 at bt10 f10 hod hM10
    refine ⟨M, rfl, ⟨_, SqL.of hM10⟩, for_it (walk_list (xs := [v, .str "", .str " a", .str "a ", .str x])) (fun i σ H11 => ∃ (v7 : Option V), σ = [some (.ref a), some (.ref B), some (.ref r), some (.ref r2), v4, v5, v6, v7] ∧ FrB B H10 H11 ∧ BT B S PT H11) ⟨none, rfl, FrB.refl, bt10⟩ (fun i σ H11 _ pv => ?_) ?_ ?_⟩
    · obtain ⟨_, _, ff, _⟩ := pv
      exact SqL.of (ff.lst hM10 nM)
    · rintro i yv σ H11 H12 hi ⟨v7, rfl, f11, bt11⟩ ⟨rfl, hy⟩
      refine ⟨_, rfl, ?_⟩
      refine call_nil (any_val (odd_tho I kS (OddV.fr f11 (hod _ (List.mem_of_getElem? hy)))) bt11 fun H13 f13 bt13 => ?_)
      refine ⟨_, rfl, ?_⟩
      refine iteF ?_
      exact ⟨_, rfl, f11.trans f13, bt13⟩
    rintro σ H11 ⟨v7, rfl, f11, bt11⟩
    have hr211 := ((f57.trans f10).trans f11).lst hr25 hr2n.1
    refine ⟨_, rfl, r2, rfl, ⟨_, SqL.of hr211⟩, fun D hD => ?_⟩
    have hDn := bt11.bag.ne hD
    have hDr : r2 ≠ D := ne_of_none hr211 hD
    refine lc_it (walk_list (xs := zs.map V.str)) (fun i H12 => FrB B H11 H12 ∧ BT B S PT H12 ∧ H12 D = some (.lst ((zs.take i).map fun _ => V.bl true))) ⟨FrB.kp (Kp1.refl.new hD hDn.1), bt11.same (same_new hD), upd_same⟩ (fun i H12 _ pv => SqL.of (pv.1.lst hr211 hr2n.1)) ?_ ?_
    · rintro i yv H12 H13 hi ⟨f12, bt12, hD12⟩ ⟨rfl, hy⟩
      rw [List.getElem?_map] at hy
      cases e : zs[i]? with
      | none => rw [e] at hy; cases hy
      | some z =>
        rw [e] at hy
        obtain rfl : yv = .str z := (Option.some.inj hy).symm
        have hz1 := hz z (List.mem_of_getElem? e)
        refine ⟨rfl, _, rfl, ?_⟩
        refine call_nil (any_text (by omega) bt12 fun H14 f14 bt14 => ?_)
        have hD14 := f14.lst hD12 hDn.1
        refine ⟨_, hD14, ?_, fun b o q n t => ?_, bt14.updL hD14 hDn.1 hDn.2, ?_⟩
        · rw [List.length_map, List.length_take, sizeLine_eq]
          omega
        · rw [upd_ne (ne_of_none q hD)]
          exact f14 _ _ (f12 b o q n t) n t
        · rw [upd_same, take_snoc e, List.map_append]
          rfl
    · rintro H12 ⟨f12, bt12, hD12⟩
      rw [List.length_map, List.take_length] at hD12
      refine ⟨D, zs.map fun _ => true, rfl, SqL.of (by rw [hD12, List.map_map]; rfl), ?_⟩
      have e : (zs.map fun _ => true).all id = true := by
        rw [List.all_map]
        exact List.all_eq_true.mpr fun _ _ => rfl
      rw [e]
      exact kk H12
end
end Pe
set_option Elab.async false
set_option maxRecDepth 100000
set_option maxHeartbeats 16000000
set_option linter.all false
/-! all walks joined -/
namespace Pe
open PySem PySem.Spec PyProof.Rows L2
def DefF (K : PySem.W.Frag) (mg : Str → Option Value) (x : Str) (st : Stmt) : Prop := ∃ f fd, C8.Def K mg x st f fd ∧ fd.defaults = .none
def MetF (K : PySem.W.Frag) (C : Addr) (m qual : Str) (st : Stmt) : Prop := ∃ f fd, C8.Fun K m qual st f fd ∧ fd.defaults = .none ∧ Meth K C m f
def MakF (K : PySem.W.Frag) (C : Addr) (qual : Str) (st : Stmt) : Prop := ∃ f fd, C8.Fun K "__init__" qual st f fd ∧ fd.defaults = .none ∧ Mk K C f
structure FreeF (mg : Str → Option Value) : Prop where
  zIsi : mg "isinstance" = none
  zLen : mg "len" = none
  zAll : mg "all" = none
  zStr : mg "str" = none
  zList : mg "list" = none
  zTuple : mg "tuple" = none
  zSum : mg "sum" = none
  zMax : mg "max" = none
  zSorted : mg "sorted" = none
  zSet : mg "set" = none
  zEnum : mg "enumerate" = none
  zRepr : mg "repr" = none
  zRange : mg "range" = none
  zDict : mg "dict" = none
  zBool : mg "bool" = none
  zInt : mg "int" = none
  zZip : mg "zip" = none
  zAbs : mg "abs" = none
structure CircF (K : PySem.W.Frag) (w : World) (mg : Str → Option Value) (C : Addr) : Prop where
  T : CiT K mg C
  kS : PySem.W.kitOne K (.ref C) (.type "str") = some false
  lim : ∃ mc u, ClX.CRead K C mc ∧ ClX.CVal K C mc "LIMIT" (.int 60) u
  parts : MetF K C "parts" "Circle.parts" sParts
  eyes : MetF K C "eyes" "Circle.eyes" sEyes
  str : MetF K C "__str__" "Circle.__str__" sStr
  repr : MetF K C "__repr__" "Circle.__repr__" sRepr
  init : MakF K C "Circle.__init__" sCInit
  signs : ∃ d, mg "SIGNS" = some (.ref d) ∧ KDct K w d "pool" (.str " & ") ∧ KDct K w d "common" (.str " | ")
structure ScanF (K : PySem.W.Frag) (mg : Str → Option Value) (C : Addr) : Prop where
  T : ScT K mg C
  mgS : mg "Scanner" = some (.ref C)
  begins : MetF K C "begins_item" "Scanner.begins_item" sBegins
  sign : MetF K C "takes_sign" "Scanner.takes_sign" sSign
  closes : MetF K C "closes" "Scanner.closes" sCloses
  canEnd : MetF K C "can_end" "Scanner.can_end" sCanEnd
  takes : MetF K C "takes" "Scanner.takes" sTakes
  init : MakF K C "Scanner.__init__" sScI
structure ProgF (K : PySem.W.Frag) (mg : Str → Option Value) : Prop where
  isName : DefF K mg "is_name" sIsName
  wp : DefF K mg "written_part" sWp
  eye : DefF K mg "eye" sEye
  flat : DefF K mg "flat_parts" sFlat
  unlike : DefF K mg "unlike_rows" sUnlike
  built : DefF K mg "built_circle" sBuilt
  pool : DefF K mg "pool" sPool
  common : DefF K mg "common" sCommon
  joined : DefF K mg "joined_items" sJoined
  cof : DefF K mg "circle_of" sCof
  wrong : DefF K mg "wrong_place" sWrong
  read : DefF K mg "read_circle" sRead
  isText : DefF K mg "is_circle_text" sIsText
  deepest : ∃ t, mg "DEEPEST" = some (.int 20 t)
structure LawF (K : PySem.W.Frag) (mg : Str → Option Value) : Prop where
  bag : DefF K mg "_law_bag" sBag
  draw : DefF K mg "_law_draw" sDraw
  of_ : DefF K mg "_law_of" sOf
  same : DefF K mg "_law_same" sSame
  try_ : DefF K mg "_law_try" sTry
  title : DefF K mg "_law_title" sTitle
  titles : DefF K mg "_law_titles" sTitles
  words : DefF K mg "_law_words" sWords
  size : DefF K mg "_law_size" sSize
  depth : DefF K mg "_law_depth" sDepth
  leaves : DefF K mg "_law_leaves" sLeaves
  join : DefF K mg "_law_join" sJoin
  checked : DefF K mg "_law_checked" sChecked
  circ : DefF K mg "_law_circle" sCirc
  told : DefF K mg "_law_told_of" sTold
  due : DefF K mg "_law_due_of" sDue
  as_ : DefF K mg "_law_as" sAs
  odd : DefF K mg "_law_odd" sOdd
  raw : DefF K mg "_law_raw" sRaw
  loose : DefF K mg "_law_loose" sLoose
  scan : DefF K mg "_law_scan" sScan
  good : DefF K mg "_law_read_good" sGood
  lread : DefF K mg "_law_read" sLRead
  bent : DefF K mg "_law_bent" sBent
  long : DefF K mg "_law_long_so" sLong
  law : DefF K mg "law" sLaw
end Pe
set_option Elab.async false
set_option maxRecDepth 100000
set_option maxHeartbeats 16000000
set_option linter.all false
/-! all walks joined: the law keeps its promise -/
namespace Pe
open PySem PySem.Spec PyProof.Rows L2
theorem exB {P : Program} {K : PySem.W.Frag} {mg : Str → Option Value} {C f cda cc : Addr} {qual x : Str} {st : Stmt} {fd : FuncData} (E : ExcF P K mg x qual st C f cda cc fd) {ps : List Str}
    (h : ∀ (kV doc pm : Value) (an : Option Addr) (ct : Value) (us : List Value), us.length = ps.length → bindArgs (PySem.W.ksFn "__init__" qual (C8.fnArgs st) (C8.fnBody st) (C8.fnScope st) .none kV doc pm an (.ref cda) ct cc) ⟨us, []⟩ = pure (ps.zip us)) : L2.Binds K fd ps [] := by
  obtain ⟨oc, od, dV, kV, doc, pm, an, ct, osl, efd, lk⟩ := E.sup.fn
  have e : fd.defaults = .none := E.df
  subst efd
  have e2 : dV = .none := e
  subst e2
  exact .all (h kV doc pm an ct)
theorem all_ok {P : Program} {w : World} {K : PySem.W.Frag} {mg : Str → Option Value} {base : Heap} {C CS CT CI fI cda cc fT cdb cd c PT : Addr} {fdI fdT : FuncData} {fA fL : Addr} {fdA fdL : FuncData}
    (Z : FreeF mg) (X : CircF K w mg C) (Y : ScanF K mg CS) (G : ProgF K mg) (L : LawF K mg) (EI : ExcF P K mg "InvalidText" "InvalidText.__init__" sTextI CI fI cda cc fdI) (ET : ExcF P K mg "TooMany" "TooMany.__init__" sManyI CT fT cdb cd fdT) (TF : TryF K mg CI CT)
    (htop : (P.main.scope.names.lookup ("super" : Str)).isSome = false) (FA : C8.Def K mg "_law_any_so" sAny fA fdA) (dA : fdA.defaults = .none) (cA : fdA.code = .ref c) (TB : LamX.TabB base mg c PT) (FL : C8.Def K mg "law" sLaw fL fdL) (dL : fdL.defaults = .none) :
    FnOk P w K mg base C8.CX0 69 fL fdL ["_law_script"] (spLaw K PT) := by
  have b1 : ∀ {x qual p : Str} {st : Stmt} {f : Addr} {fd : FuncData} (F : C8.Fun K x qual st f fd) (df : fd.defaults = .none), (∀ (kV doc pm : Value) (an : Option Addr) (cdv ct : Value) (us : List Value), us.length = [p].length → bindArgs (PySem.W.fnOf x qual (C8.fnArgs st) (C8.fnBody st) (C8.fnScope st) .none kV doc pm an cdv ct) ⟨us, []⟩ = pure ([p].zip us)) → L2.Binds K fd [p] [] := fun F df h => F.binds df h
  -- the scanner
  obtain ⟨f1, g1, F1, d1, M1⟩ := Y.begins
  obtain ⟨f2, g2, F2, d2, M2⟩ := Y.sign
  obtain ⟨f3, g3, F3, d3, M3⟩ := Y.closes
  obtain ⟨f4, g4, F4, d4, M4⟩ := Y.canEnd
  obtain ⟨f5, g5, F5, d5, M5⟩ := Y.takes
  obtain ⟨f6, g6, F6, d6, M6⟩ := Y.init
  have m1 := ok_begins (P := P) (w := w) (base := base) F1 (F1.binds d1 fun _ _ _ _ _ _ us hl => match us, hl with | [_, _], _ => rfl) M1 Y.T
  have m2 := ok_sign (P := P) (w := w) (base := base) F2 (F2.binds d2 fun _ _ _ _ _ _ us hl => match us, hl with | [_, _], _ => rfl) M2 Y.T
  have m3 := ok_closes (P := P) (w := w) (base := base) F3 (F3.binds d3 fun _ _ _ _ _ _ us hl => match us, hl with | [_, _], _ => rfl) M3 Y.T
  have m4 := ok_canEnd (P := P) (w := w) (base := base) F4 (F4.binds d4 fun _ _ _ _ _ _ us hl => match us, hl with | [_], _ => rfl) M4 Y.T
  have m5 := ok_takes (P := P) (w := w) (base := base) F5 (F5.binds d5 fun _ _ _ _ _ _ us hl => match us, hl with | [_, _], _ => rfl) M5 Y.T m1 m2 m3
  have m6 := ok_scI (P := P) (w := w) (base := base) M6 Y.mgS F6 (F6.binds d6 fun _ _ _ _ _ _ us hl => match us, hl with | [_], _ => rfl) Y.T
  obtain ⟨_, _, Fw, dw⟩ := G.wrong
  have cWr := ok_wrong Fw (Fw.fn.binds dw fun _ _ _ _ _ _ us hl => match us, hl with | [_], _ => rfl) Z.zEnum Z.zLen m6 m5 m4
  -- the circle
  obtain ⟨_, _, Fp, dp, Mp⟩ := X.parts
  obtain ⟨_, _, Fe, de, Me⟩ := X.eyes
  obtain ⟨_, _, Fs, ds, Ms⟩ := X.str
  obtain ⟨_, _, Fr, dr, Mr⟩ := X.repr
  obtain ⟨_, _, Fi, di, Mi⟩ := X.init
  have mP := ok_parts (P := P) (w := w) (base := base) Fp (Fp.binds dp fun _ _ _ _ _ _ us hl => match us, hl with | [_], _ => rfl) Mp X.T Z.zList
  have mE := ok_eyes (P := P) (w := w) (base := base) Fe (Fe.binds de fun _ _ _ _ _ _ us hl => match us, hl with | [_], _ => rfl) Me X.T Z.zList
  have mS := ok_str (P := P) (w := w) (base := base) Fs (Fs.binds ds fun _ _ _ _ _ _ us hl => match us, hl with | [_], _ => rfl) Ms X.T Z.zStr
  have mR := ok_repr (P := P) (w := w) (base := base) Fr (Fr.binds dr fun _ _ _ _ _ _ us hl => match us, hl with | [_], _ => rfl) Mr X.T
  obtain ⟨_, _, Fwp, dwp⟩ := G.wp
  have cWp := ok_wp Fwp (Fwp.fn.binds dwp fun _ _ _ _ _ _ us hl => match us, hl with | [_], _ => rfl) X.T Z.zStr mS
  obtain ⟨d, hS, s1, s2⟩ := X.signs
  have mC := ok_cinit Mi Fi (Fi.binds di fun _ _ _ _ _ _ us hl => match us, hl with | [_, _, _, _], _ => rfl) X.T Z.zTuple Z.zSum Z.zMax Z.zSorted Z.zSet hS s1 s2 mE cWp
  obtain ⟨_, _, Fn, dn⟩ := G.isName
  have cN := ok_isName (P := P) (w := w) (base := base) Fn (Fn.fn.binds dn fun _ _ _ _ _ _ us hl => match us, hl with | [_], _ => rfl) Z.zIsi Z.zLen Z.zAll Z.zStr Y.T.let_ Y.T.lon
  obtain ⟨_, _, Fey, dey⟩ := G.eye
  have cEy := ok_eye Fey (Fey.fn.binds dey fun _ _ _ _ _ _ us hl => match us, hl with | [_], _ => rfl) cN mC
  obtain ⟨_, _, Ffl, dfl⟩ := G.flat
  have cFl := ok_flat Ffl (Ffl.fn.binds dfl fun _ _ _ _ _ _ us hl => match us, hl with | [_, _], _ => rfl) X.T mP
  obtain ⟨_, _, Fun_, dun⟩ := G.unlike
  have cUn := ok_unlike Fun_ (Fun_.fn.binds dun fun _ _ _ _ _ _ us hl => match us, hl with | [_], _ => rfl) Z.zStr mS
  -- the exceptions
  have fnI := ok_textI (w := w) (base := base) EI TF.nI htop
  have fnT := ok_manyI (w := w) (base := base) ET TF.nW TF.nM htop
  have bI : L2.Binds K fdI ["self", "at"] [] := exB EI fun _ _ _ _ _ us hl => match us, hl with | [_, _], _ => rfl
  have bT : L2.Binds K fdT ["self", "what", "most"] [] := exB ET fun _ _ _ _ _ us hl => match us, hl with | [_, _, _], _ => rfl
  have tmT : TmT P w K mg base CT fT fdT := ⟨ET.hC, ET.oex, ET.init, ET.sup.tf, fnT, bT⟩
  have itT : ItT P w K mg base CI fI fdI := ⟨EI.hC, EI.oex, EI.init, EI.sup.tf, fnI, bI⟩
  obtain ⟨_, _, Fbu, dbu⟩ := G.built
  obtain ⟨mc, u, lr, lv⟩ := X.lim
  have cBu := ok_built Fbu (Fbu.fn.binds dbu fun _ _ _ _ _ _ us hl => match us, hl with | [_, _], _ => rfl) X.T tmT Z.zLen Z.zEnum Z.zIsi Z.zSum Z.zMax lr lv G.deepest cFl cUn mC
  obtain ⟨_, _, Fpo, dpo⟩ := G.pool
  obtain ⟨_, _, Fco, dco⟩ := G.common
  have cPo := ok_pool Fpo dpo cBu
  have cCo := ok_common Fco dco cBu
  obtain ⟨_, _, Fjo, djo⟩ := G.joined
  have cJo := ok_joined Fjo (Fjo.fn.binds djo fun _ _ _ _ _ _ us hl => match us, hl with | [_, _], _ => rfl) cPo cCo
  obtain ⟨_, _, Fcf, dcf⟩ := G.cof
  have cCf := ok_cof Fcf (Fcf.fn.binds dcf fun _ _ _ _ _ _ us hl => match us, hl with | [_], _ => rfl) cJo cEy
  obtain ⟨_, _, Frd, drd⟩ := G.read
  have cRd := ok_read Frd (Frd.fn.binds drd fun _ _ _ _ _ _ us hl => match us, hl with | [_], _ => rfl) Z.zIsi Z.zStr itT cWr cCf
  obtain ⟨_, _, Fit, dit⟩ := G.isText
  have cIt := ok_isText Fit (Fit.fn.binds dit fun _ _ _ _ _ _ us hl => match us, hl with | [_], _ => rfl) X.T Z.zIsi Z.zStr ET.hC ET.self cWr cCf mS
  -- the law
  obtain ⟨_, _, L1, l1⟩ := L.words
  have cWo := ok_words (P := P) (w := w) (base := base) L1 (L1.fn.binds l1 fun _ _ _ _ _ _ us hl => match us, hl with | [_], _ => rfl) 22
  obtain ⟨_, _, L2', l2⟩ := L.size
  have cSi := ok_size (P := P) (w := w) (base := base) L2' (L2'.fn.binds l2 fun _ _ _ _ _ _ us hl => match us, hl with | [_], _ => rfl) Z.zSum 22
  obtain ⟨_, _, L3, l3⟩ := L.depth
  have cDe := ok_depth (P := P) (w := w) (base := base) L3 (L3.fn.binds l3 fun _ _ _ _ _ _ us hl => match us, hl with | [_], _ => rfl) Z.zMax 22
  obtain ⟨_, _, L4, l4⟩ := L.leaves
  have cLe := ok_leaves (P := P) (w := w) (base := base) L4 (L4.fn.binds l4 fun _ _ _ _ _ _ us hl => match us, hl with | [_], _ => rfl) 22
  obtain ⟨_, _, L5, l5⟩ := L.join
  have cJn := ok_join (P := P) (w := w) (base := base) L5 (L5.fn.binds l5 fun _ _ _ _ _ _ us hl => match us, hl with | [_, _], _ => rfl) Z.zList Z.zLen Z.zTuple
  obtain ⟨_, _, L6, l6⟩ := L.checked
  have cCh := ok_checked L6 (L6.fn.binds l6 fun _ _ _ _ _ _ us hl => match us, hl with | [_, _], _ => rfl) cJn cSi cDe
  obtain ⟨_, _, L7, l7⟩ := L.scan
  have cSc := ok_scan (P := P) (w := w) (base := base) L7 (L7.fn.binds l7 fun _ _ _ _ _ _ us hl => match us, hl with | [_], _ => rfl) Z.zRange Z.zLen
  obtain ⟨_, _, L8, l8⟩ := L.good
  have cGo := ok_good L8 (L8.fn.binds l8 fun _ _ _ _ _ _ us hl => match us, hl with | [_], _ => rfl) Z.zRange Z.zLen cCh 42
  obtain ⟨_, _, L9, l9⟩ := L.lread
  have cLr := ok_lread L9 (L9.fn.binds l9 fun _ _ _ _ _ _ us hl => match us, hl with | [_], _ => rfl) Z.zIsi Z.zStr cSc cGo
  obtain ⟨_, _, L10, l10⟩ := L.told
  have cTo := ok_told L10 (L10.fn.binds l10 fun _ _ _ _ _ _ us hl => match us, hl with | [_], _ => rfl) X.T Z.zStr Z.zRepr mE mP mS mR
  obtain ⟨_, _, L11, l11⟩ := L.due
  have cDu := ok_due L11 (L11.fn.binds l11 fun _ _ _ _ _ _ us hl => match us, hl with | [_], _ => rfl) Z.zList Z.zSorted Z.zSet cWo cSi cDe cLe
  obtain ⟨_, _, L12, l12⟩ := L.same
  have cSm := ok_same (P := P) (w := w) (base := base) L12 (L12.fn.binds l12 fun _ _ _ _ _ _ us hl => match us, hl with | [_, _], _ => rfl) Z.zIsi Z.zList Z.zTuple Z.zDict Z.zBool Z.zInt Z.zStr Z.zAll Z.zZip Z.zLen 4
  obtain ⟨_, _, L13, l13⟩ := L.as_
  have cAs := ok_as L13 (L13.fn.binds l13 fun _ _ _ _ _ _ us hl => match us, hl with | [_, _], _ => rfl) X.T Z.zIsi cSm cTo cDu
  obtain ⟨_, _, L14, l14⟩ := L.try_
  have cAn := ok_any FA (FA.fn.binds dA fun _ _ _ _ _ _ us hl => match us, hl with | [_], _ => rfl) L14 (L14.fn.binds l14 fun _ _ _ _ _ _ us hl => match us, hl with | [_], _ => rfl) cA TB TF cRd cIt cLr cAs cWo cSm
  obtain ⟨_, _, L15, l15⟩ := L.draw
  have cDr := ok_draw (P := P) (w := w) (base := base) L15 (L15.fn.binds l15 fun _ _ _ _ _ _ us hl => match us, hl with | [_, _], _ => rfl) Z.zLen Z.zAbs Z.zInt
  obtain ⟨_, _, L16, l16⟩ := L.bag
  have cBa := ok_bag (P := P) (w := w) (base := base) L16 (L16.fn.binds l16 fun _ _ _ _ _ _ us hl => match us, hl with | [_], _ => rfl) Z.zList Z.zInt
  obtain ⟨_, _, L17, l17⟩ := L.of_
  have cOf := ok_of L17 (L17.fn.binds l17 fun _ _ _ _ _ _ us hl => match us, hl with | [_, _], _ => rfl) Z.zLen cDr
  obtain ⟨_, _, L18, l18⟩ := L.title
  have cTi := ok_title L18 (L18.fn.binds l18 fun _ _ _ _ _ _ us hl => match us, hl with | [_, _], _ => rfl) Z.zRange cDr cOf
  obtain ⟨_, _, L19, l19⟩ := L.titles
  have cTs := ok_titles L19 (L19.fn.binds l19 fun _ _ _ _ _ _ us hl => match us, hl with | [_, _], _ => rfl) Z.zRange Z.zLen Z.zInt cDr cOf cTi
  obtain ⟨_, _, L20, l20⟩ := L.raw
  have cRa := ok_raw L20 (L20.fn.binds l20 fun _ _ _ _ _ _ us hl => match us, hl with | [_, _, _], _ => rfl) Z.zRange Z.zTuple cDr cOf 4
  obtain ⟨_, _, L21, l21⟩ := L.loose
  have cLo := ok_loose L21 (L21.fn.binds l21 fun _ _ _ _ _ _ us hl => match us, hl with | [_, _], _ => rfl) cOf 4
  obtain ⟨_, _, L22, l22⟩ := L.bent
  have cBe := ok_bent L22 (L22.fn.binds l22 fun _ _ _ _ _ _ us hl => match us, hl with | [_, _, _], _ => rfl) Z.zLen cDr cOf
  obtain ⟨_, _, L23, l23⟩ := L.long
  have cLg := ok_long L23 (L23.fn.binds l23 fun _ _ _ _ _ _ us hl => match us, hl with | [_, _], _ => rfl) Z.zRange Z.zLen cDr cOf cAn
  obtain ⟨_, _, L24, l24⟩ := L.odd
  have cOd := ok_odd (C := C) L24 (L24.fn.binds l24 fun _ _ _ _ _ _ us hl => match us, hl with | [_, _], _ => rfl) cOf
  obtain ⟨_, _, L25, l25⟩ := L.circ
  have cCi := ok_circ L25 (L25.fn.binds l25 fun _ _ _ _ _ _ us hl => match us, hl with | [_], _ => rfl) cEy
  exact ok_law FL (FL.fn.binds dL fun _ _ _ _ _ _ us hl => match us, hl with | [_], _ => rfl) X.T.isC X.kS Z.zRange Z.zAll cBa cDr cOf cTs cRa cLo cBe cAn cLg cOd cCi
end Pe
set_option Elab.async false
set_option maxRecDepth 100000
set_option maxHeartbeats 16000000
set_option linter.all false
/-! makers of the facts -/
namespace Pe
open PySem PySem.Spec PyProof.Rows L2
section
variable {K : PySem.W.Frag} {h : Heap} {mg : Str → Option Value}
theorem def_mk {x : Str} {st : Stmt} {f : Addr} {oc : Value} {od : Option Addr} {kV doc pm : Value} {an : Option Addr} {cdv ct : Value} {osl : Array (Option Value)} (X : K.In h) (G : h.Ns mainGlobals mg) (a1 : PySem.W.nsIn K mainGlobals x = some (some (.ref f)))
    (l : K.lookup f = some ⟨oc, od, .func (PySem.W.fnOf x x (C8.fnArgs st) (C8.fnBody st) (C8.fnScope st) .none kV doc pm an cdv ct), osl⟩) (cq : PySem.W.codeIn K cdv x = true) (kp : PySem.W.keepIn K (.ref f) = true) : DefF K mg x st :=
  ⟨f, _, ⟨⟨_, _, _, _, _, _, _, _, _, _, rfl, l, cq⟩, PySem.W.mg_of X G a1, kp⟩, rfl⟩
theorem defC_mk {x : Str} {st : Stmt} {f c PT : Addr} {oc : Value} {od : Option Addr} {kV doc pm : Value} {an : Option Addr} {ct : Value} {osl : Array (Option Value)} (X : K.In h) (G : h.Ns mainGlobals mg) (a1 : PySem.W.nsIn K mainGlobals x = some (some (.ref f)))
    (l : K.lookup f = some ⟨oc, od, .func (PySem.W.fnOf x x (C8.fnArgs st) (C8.fnBody st) (C8.fnScope st) .none kV doc pm an (.ref c) ct), osl⟩) (cq : PySem.W.codeIn K (.ref c) x = true) (kp : PySem.W.keepIn K (.ref f) = true) (hc : PySem.W.codeHdIn K c PT = true) (nk : K.lookup PT = none) (hT : h.get? PT = some { cls := .none, data := .fields #[] }) :
    ∃ f fd c PT, C8.Def K mg x st f fd ∧ fd.defaults = .none ∧ fd.code = .ref c ∧ PySem.W.CodeHd h c PT ∧ K.lookup PT = none ∧ h.get? PT = some { cls := .none, data := .fields #[] } :=
  ⟨f, _, c, PT, ⟨⟨_, _, _, _, _, _, _, _, _, _, rfl, l, cq⟩, PySem.W.mg_of X G a1, kp⟩, rfl, rfl, PySem.W.codeHd_of_K X hc, nk, hT⟩
theorem met_mk {C : Addr} {m qual : Str} {st : Stmt} {f : Addr} {oc : Value} {od : Option Addr} {kV doc pm : Value} {an : Option Addr} {cdv ct : Value} {osl : Array (Option Value)} (a1 : PySem.W.findIn K (.ref C) m = some (some (.ref f)))
    (l : K.lookup f = some ⟨oc, od, .func (PySem.W.fnOf m qual (C8.fnArgs st) (C8.fnBody st) (C8.fnScope st) .none kV doc pm an cdv ct), osl⟩) (cq : PySem.W.codeIn K cdv qual = true) (fn : PySem.W.isFn K (.ref f) = true) (kp : PySem.W.keepIn K (.ref f) = true) : MetF K C m qual st :=
  ⟨f, _, ⟨_, _, _, _, _, _, _, _, _, _, rfl, l, cq⟩, rfl, ⟨a1, fn, kp⟩⟩
theorem mak_mk {C : Addr} {qual : Str} {st : Stmt} {f : Addr} {oc : Value} {od : Option Addr} {kV doc pm : Value} {an : Option Addr} {cdv ct : Value} {osl : Array (Option Value)} (a1 : PySem.W.findIn K (.ref C) "__init__" = some (some (.ref f)))
    (l : K.lookup f = some ⟨oc, od, .func (PySem.W.fnOf "__init__" qual (C8.fnArgs st) (C8.fnBody st) (C8.fnScope st) .none kV doc pm an cdv ct), osl⟩) (cq : PySem.W.codeIn K cdv qual = true) (fn : PySem.W.isFn K (.ref f) = true) (mk : PySem.W.makesIn K C = true) (kp : PySem.W.keepIn K (.ref C) = true) : MakF K C qual st :=
  ⟨f, _, ⟨_, _, _, _, _, _, _, _, _, _, rfl, l, cq⟩, rfl, ⟨mk, a1, fn, kp⟩⟩
theorem kd_mk {w : World} {d : Addr} {es : Array DictEntry} {n : Nat} {t1 t2 : Tok} (X : K.In h) (G : h.Ns mainGlobals mg) (a1 : PySem.W.nsIn K mainGlobals "SIGNS" = some (some (.ref d))) (a2 : K.lookup d = some ⟨.type "dict", none, .dict es n, #[]⟩)
   (a3 : PySem.W.KeysLit w.params es.toList) (a4 : PySem.W.nsIn K d "pool" = some (some (.str " & " t1))) (a5 : PySem.W.nsIn K d "common" = some (some (.str " | " t2))) : ∃ d, mg "SIGNS" = some (.ref d) ∧ L2.KDct K w d "pool" (.str " & ") ∧ L2.KDct K w d "common" (.str " | ") :=
  ⟨d, PySem.W.mg_of X G a1, ⟨_, _, _, a2, a3, a4, ⟨_, rfl⟩⟩, ⟨_, _, _, a2, a3, a5, ⟨_, rfl⟩⟩⟩
theorem str_mk {x z : Str} {t : Tok} (X : K.In h) (G : h.Ns mainGlobals mg) (a1 : PySem.W.nsIn K mainGlobals x = some (some (.str z t))) : ∃ t, mg x = some (.str z t) := ⟨_, PySem.W.mg_of X G a1⟩
theorem int_mk {x : Str} {i : Int} {t : Tok} (X : K.In h) (G : h.Ns mainGlobals mg) (a1 : PySem.W.nsIn K mainGlobals x = some (some (.int i t))) : ∃ t, mg x = some (.int i t) := ⟨_, PySem.W.mg_of X G a1⟩
theorem cls_mk {C : Addr} (p1 : PySem.W.plainGet K C Str.empty = true) (p2 : PySem.W.hasDictIn K C = true) (p3 : PySem.W.plainOver K C = true) (p4 : PySem.W.findIn K (.ref C) "__setattr__" = some (some (.builtin "object.__setattr__"))) : Cls K C := ⟨p1, p2, p3, p4⟩
theorem insC_mk {C : Addr} (c : Cls K C) (h1 : PySem.W.findIn K (.ref C) "__class__" = some (some (.builtin "object.__class__"))) (h2 : PySem.W.specialIn K (.builtin "object.__class__") "__get__" = some (some (.builtin "getset_descriptor.__get__"))) (h3 : PySem.W.takesIn K (.builtin "object.__class__") = some true) (h4 : PySem.W.mroIn K C (.type "object") = some true) (h5 : PySem.W.kitOne K (.ref C) (.ref C) = some true) : C8.InsC K C := ⟨c, h1, h2, h3, h4, h5⟩
theorem circF_mk {w : World} {C : Addr} {mc u : Value} (X : K.In h) (G : h.Ns mainGlobals mg) (a1 : PySem.W.nsIn K mainGlobals "Circle" = some (some (.ref C))) (p1 : PySem.W.plainGet K C Str.empty = true) (p2 : PySem.W.hasDictIn K C = true) (p3 : PySem.W.plainOver K C = true) (p4 : PySem.W.findIn K (.ref C) "__setattr__" = some (some (.builtin "object.__setattr__")))
    (n1 : PySem.W.findIn K (.ref C) "kind" = some none) (n2 : PySem.W.findIn K (.ref C) "name" = some none) (n3 : PySem.W.findIn K (.ref C) "_rows" = some none) (n4 : PySem.W.findIn K (.ref C) "size" = some none) (n5 : PySem.W.findIn K (.ref C) "depth" = some none) (n6 : PySem.W.findIn K (.ref C) "_text" = some none) (n7 : PySem.W.findIn K (.ref C) "_names" = some none)
    (fm : PySem.W.findIn K (.ref C) "__format__" = some (some (.builtin "object.__format__"))) (h1 : PySem.W.findIn K (.ref C) "__class__" = some (some (.builtin "object.__class__"))) (h2 : PySem.W.specialIn K (.builtin "object.__class__") "__get__" = some (some (.builtin "getset_descriptor.__get__"))) (h3 : PySem.W.takesIn K (.builtin "object.__class__") = some true) (h4 : PySem.W.mroIn K C (.type "object") = some true) (h5 : PySem.W.kitOne K (.ref C) (.ref C) = some true)
    (kS : PySem.W.kitOne K (.ref C) (.type "str") = some false) (r1 : PySem.W.readsIn K C mc = true) (r2 : PySem.W.specialIn K (.ref C) "__getattribute__" = some (some (.builtin "type.__getattribute__"))) (r3 : PySem.W.findCls K (.ref C) mc "LIMIT" = some (.val u)) (r4 : L2.RelV (.int 60) u)
    (m1 : MetF K C "parts" "Circle.parts" sParts) (m2 : MetF K C "eyes" "Circle.eyes" sEyes) (m3 : MetF K C "__str__" "Circle.__str__" sStr) (m4 : MetF K C "__repr__" "Circle.__repr__" sRepr) (m5 : MakF K C "Circle.__init__" sCInit) (sg : ∃ d, mg "SIGNS" = some (.ref d) ∧ L2.KDct K w d "pool" (.str " & ") ∧ L2.KDct K w d "common" (.str " | ")) : ∃ C, CircF K w mg C :=
  ⟨C, ⟨⟨⟨p1, p2, p3, p4⟩, n1, n2, n3, n4, n5, n6, n7, PySem.W.mg_of X G a1, fm, h4, ⟨⟨p1, p2, p3, p4⟩, h1, h2, h3, h4, h5⟩⟩, kS, ⟨mc, u, ⟨r1, r2⟩, ⟨r3, r4⟩⟩, m1, m2, m3, m4, m5, sg⟩⟩
theorem scanF_mk {C : Addr} {t1 t2 t3 : Tok} (X : K.In h) (G : h.Ns mainGlobals mg) (a1 : PySem.W.nsIn K mainGlobals "Scanner" = some (some (.ref C))) (p1 : PySem.W.plainGet K C Str.empty = true) (p2 : PySem.W.hasDictIn K C = true) (p3 : PySem.W.plainOver K C = true) (p4 : PySem.W.findIn K (.ref C) "__setattr__" = some (some (.builtin "object.__setattr__")))
    (n1 : PySem.W.findIn K (.ref C) "awaited" = some none) (n2 : PySem.W.findIn K (.ref C) "letters" = some none) (n3 : PySem.W.findIn K (.ref C) "signs" = some none) (z : PySem.W.nsIn K mainGlobals "len" = some none)
    (q1 : PySem.W.nsIn K mainGlobals "LETTERS" = some (some (.str "abcdefghijklmnopqrstuvwxyz" t1))) (q2 : PySem.W.nsIn K mainGlobals "LONGEST" = some (some (.int 6 t2))) (q3 : PySem.W.nsIn K mainGlobals "OPEN" = some (some (.int 20 t3)))
    (m1 : MetF K C "begins_item" "Scanner.begins_item" sBegins) (m2 : MetF K C "takes_sign" "Scanner.takes_sign" sSign) (m3 : MetF K C "closes" "Scanner.closes" sCloses) (m4 : MetF K C "can_end" "Scanner.can_end" sCanEnd) (m5 : MetF K C "takes" "Scanner.takes" sTakes) (m6 : MakF K C "Scanner.__init__" sScI) : ∃ C, ScanF K mg C :=
  ⟨C, ⟨⟨⟨p1, p2, p3, p4⟩, n1, n2, n3, PySem.W.mg_none_of X G z, ⟨_, PySem.W.mg_of X G q1⟩, ⟨_, PySem.W.mg_of X G q2⟩, ⟨_, PySem.W.mg_of X G q3⟩⟩, PySem.W.mg_of X G a1, m1, m2, m3, m4, m5, m6⟩⟩
theorem tryF_mk {CI CT c1 c2 c4 c5 c6 c7 : Addr} (X : K.In h) (G : h.Ns mainGlobals mg) (a0 : PySem.W.nsIn K mainGlobals "InvalidText" = some (some (.ref CI))) (b0 : PySem.W.nsIn K mainGlobals "TooMany" = some (some (.ref CT)))
    (a1 : PySem.W.nsIn K mainGlobals "InvalidName" = some (some (.ref c1))) (a2 : PySem.W.nsIn K mainGlobals "InvalidNumber" = some (some (.ref c2))) (a4 : PySem.W.nsIn K mainGlobals "InvalidCircle" = some (some (.ref c4))) (a5 : PySem.W.nsIn K mainGlobals "InvalidTie" = some (some (.ref c5))) (a6 : PySem.W.nsIn K mainGlobals "InvalidParting" = some (some (.ref c6))) (a7 : PySem.W.nsIn K mainGlobals "InvalidCase" = some (some (.ref c7)))
    (i1 : PySem.W.exmOne K (.ref CI) (.ref c1) = some false) (i2 : PySem.W.exmOne K (.ref CI) (.ref c2) = some false) (t1 : PySem.W.exmOne K (.ref CT) (.ref c1) = some false) (t2 : PySem.W.exmOne K (.ref CT) (.ref c2) = some false) (t3 : PySem.W.exmOne K (.ref CT) (.ref CI) = some false) (t4 : PySem.W.exmOne K (.ref CT) (.ref c4) = some false) (t5 : PySem.W.exmOne K (.ref CT) (.ref c5) = some false) (t6 : PySem.W.exmOne K (.ref CT) (.ref c6) = some false) (t7 : PySem.W.exmOne K (.ref CT) (.ref c7) = some false)
    (e1 : PySem.W.exmOne K (.ref CI) (.ref CI) = some true) (e2 : PySem.W.exmOne K (.ref CT) (.ref CT) = some true) (x1 : xfB K CI = true) (x2 : xfB K CT = true) (n1 : PySem.W.findIn K (.ref CI) "at" = some none) (n2 : PySem.W.findIn K (.ref CT) "what" = some none) (n3 : PySem.W.findIn K (.ref CT) "most" = some none) : ∃ CI CT, TryF K mg CI CT :=
  ⟨CI, CT, ⟨⟨c1, c2, c4, c5, c6, c7, PySem.W.mg_of X G a1, PySem.W.mg_of X G a2, PySem.W.mg_of X G a4, PySem.W.mg_of X G a5, PySem.W.mg_of X G a6, PySem.W.mg_of X G a7, i1, i2, t1, t2, t3, t4, t5, t6, t7⟩, PySem.W.mg_of X G a0, PySem.W.mg_of X G b0, e1, e2, xfB_ok x1, xfB_ok x2, n1, n2, n3⟩⟩
end
end Pe
section
set_option Elab.async false
set_option maxRecDepth 100000
set_option maxHeartbeats 0
open PySem PySem.W PyProof.Rows
open_top hd for PySem.Challenge.rw_pooledeyes_k05_whole_wrong_circle_texts
end
section
set_option Elab.async false
set_option maxRecDepth 100000
set_option maxHeartbeats 16000000
open PySem PySem.W PyProof.Rows
theorem PySem.Challenge.cw_pooledeyes_k05_whole_wrong_circle_texts_holds : PySem.Challenge.rw_pooledeyes_k05_whole_wrong_circle_texts.Holds :=
  hd (by
  k_fill
  refine LamX.walk_ofTs (n := 63) (k := 100) (CX := fun _ => L2.CX0) (x := "_law_script") (K := hd.heap_39) rfl (by decide) rfl ⟨rfl, by decide, by decide⟩ (fun w h Y => PySem.W.km_in_of Y) ?F (fun _ _ _ _ _ z => z)
  intro w mg fa h Y KX G hmg
  have tabs := km_tabs_of Y
  clear Y
  have xA : ∃ f fd c PT, C8.Def (hd.heap_39 w.params) mg "_law_any_so" Pe.sAny f fd ∧ fd.defaults = .none ∧ fd.code = .ref c ∧ PySem.W.CodeHd h c PT ∧ (hd.heap_39 w.params).lookup PT = none ∧ h.get? PT = some { cls := .none, data := .fields #[] } := by
    refine' Pe.defC_mk KX G ?a ?l ?q ?k ?hc ?nk ?hT
    case a => k_is
    case l => k_is
    case q => k_is
    case k => k_is
    case hc => exact (show codeHdIn (hd.heap_39 w.params) _ 572 = true from by kernel_rfl)
    case nk => kernel_rfl
    case hT => exact tabs _ (by k_mem)
  clear tabs
  have d_isName : Pe.DefF (hd.heap_39 w.params) mg "is_name" Pe.sIsName := by
    refine' Pe.def_mk KX G ?a ?l ?q ?k
    case a => k_is
    case l => k_is
    case q => k_is
    case k => k_is
  have d_wp : Pe.DefF (hd.heap_39 w.params) mg "written_part" Pe.sWp := by
    refine' Pe.def_mk KX G ?a ?l ?q ?k
    case a => k_is
    case l => k_is
    case q => k_is
    case k => k_is
  have d_eye : Pe.DefF (hd.heap_39 w.params) mg "eye" Pe.sEye := by
    refine' Pe.def_mk KX G ?a ?l ?q ?k
    case a => k_is
    case l => k_is
    case q => k_is
    case k => k_is
  have d_flat : Pe.DefF (hd.heap_39 w.params) mg "flat_parts" Pe.sFlat := by
    refine' Pe.def_mk KX G ?a ?l ?q ?k
    case a => k_is
    case l => k_is
    case q => k_is
    case k => k_is
  have d_unlike : Pe.DefF (hd.heap_39 w.params) mg "unlike_rows" Pe.sUnlike := by
    refine' Pe.def_mk KX G ?a ?l ?q ?k
    case a => k_is
    case l => k_is
    case q => k_is
    case k => k_is
  have d_built : Pe.DefF (hd.heap_39 w.params) mg "built_circle" Pe.sBuilt := by
    refine' Pe.def_mk KX G ?a ?l ?q ?k
    case a => k_is
    case l => k_is
    case q => k_is
    case k => k_is
  have d_pool : Pe.DefF (hd.heap_39 w.params) mg "pool" Pe.sPool := by
    refine' Pe.def_mk KX G ?a ?l ?q ?k
    case a => k_is
    case l => k_is
    case q => k_is
    case k => k_is
  have d_common : Pe.DefF (hd.heap_39 w.params) mg "common" Pe.sCommon := by
    refine' Pe.def_mk KX G ?a ?l ?q ?k
    case a => k_is
    case l => k_is
    case q => k_is
    case k => k_is
  have d_joined : Pe.DefF (hd.heap_39 w.params) mg "joined_items" Pe.sJoined := by
    refine' Pe.def_mk KX G ?a ?l ?q ?k
    case a => k_is
    case l => k_is
    case q => k_is
    case k => k_is
  have d_cof : Pe.DefF (hd.heap_39 w.params) mg "circle_of" Pe.sCof := by
    refine' Pe.def_mk KX G ?a ?l ?q ?k
    case a => k_is
    case l => k_is
    case q => k_is
    case k => k_is
  have d_wrong : Pe.DefF (hd.heap_39 w.params) mg "wrong_place" Pe.sWrong := by
    refine' Pe.def_mk KX G ?a ?l ?q ?k
    case a => k_is
    case l => k_is
    case q => k_is
    case k => k_is
  have d_read : Pe.DefF (hd.heap_39 w.params) mg "read_circle" Pe.sRead := by
    refine' Pe.def_mk KX G ?a ?l ?q ?k
    case a => k_is
    case l => k_is
    case q => k_is
    case k => k_is
  have d_isText : Pe.DefF (hd.heap_39 w.params) mg "is_circle_text" Pe.sIsText := by
    refine' Pe.def_mk KX G ?a ?l ?q ?k
    case a => k_is
    case l => k_is
    case q => k_is
    case k => k_is
  have d_bag : Pe.DefF (hd.heap_39 w.params) mg "_law_bag" Pe.sBag := by
    refine' Pe.def_mk KX G ?a ?l ?q ?k
    case a => k_is
    case l => k_is
    case q => k_is
    case k => k_is
  have d_draw : Pe.DefF (hd.heap_39 w.params) mg "_law_draw" Pe.sDraw := by
    refine' Pe.def_mk KX G ?a ?l ?q ?k
    case a => k_is
    case l => k_is
    case q => k_is
    case k => k_is
  have d_of_ : Pe.DefF (hd.heap_39 w.params) mg "_law_of" Pe.sOf := by
    refine' Pe.def_mk KX G ?a ?l ?q ?k
    case a => k_is
    case l => k_is
    case q => k_is
    case k => k_is
  have d_same : Pe.DefF (hd.heap_39 w.params) mg "_law_same" Pe.sSame := by
    refine' Pe.def_mk KX G ?a ?l ?q ?k
    case a => k_is
    case l => k_is
    case q => k_is
    case k => k_is
  have d_try_ : Pe.DefF (hd.heap_39 w.params) mg "_law_try" Pe.sTry := by
    refine' Pe.def_mk KX G ?a ?l ?q ?k
    case a => k_is
    case l => k_is
    case q => k_is
    case k => k_is
  have d_title : Pe.DefF (hd.heap_39 w.params) mg "_law_title" Pe.sTitle := by
    refine' Pe.def_mk KX G ?a ?l ?q ?k
    case a => k_is
    case l => k_is
    case q => k_is
    case k => k_is
  have d_titles : Pe.DefF (hd.heap_39 w.params) mg "_law_titles" Pe.sTitles := by
    refine' Pe.def_mk KX G ?a ?l ?q ?k
    case a => k_is
    case l => k_is
    case q => k_is
    case k => k_is
  have d_words : Pe.DefF (hd.heap_39 w.params) mg "_law_words" Pe.sWords := by
    refine' Pe.def_mk KX G ?a ?l ?q ?k
    case a => k_is
    case l => k_is
    case q => k_is
    case k => k_is
  have d_size : Pe.DefF (hd.heap_39 w.params) mg "_law_size" Pe.sSize := by
    refine' Pe.def_mk KX G ?a ?l ?q ?k
    case a => k_is
    case l => k_is
    case q => k_is
    case k => k_is
  have d_depth : Pe.DefF (hd.heap_39 w.params) mg "_law_depth" Pe.sDepth := by
    refine' Pe.def_mk KX G ?a ?l ?q ?k
    case a => k_is
    case l => k_is
    case q => k_is
    case k => k_is
  have d_leaves : Pe.DefF (hd.heap_39 w.params) mg "_law_leaves" Pe.sLeaves := by
    refine' Pe.def_mk KX G ?a ?l ?q ?k
    case a => k_is
    case l => k_is
    case q => k_is
    case k => k_is
  have d_join : Pe.DefF (hd.heap_39 w.params) mg "_law_join" Pe.sJoin := by
    refine' Pe.def_mk KX G ?a ?l ?q ?k
    case a => k_is
    case l => k_is
    case q => k_is
    case k => k_is
  have d_checked : Pe.DefF (hd.heap_39 w.params) mg "_law_checked" Pe.sChecked := by
    refine' Pe.def_mk KX G ?a ?l ?q ?k
    case a => k_is
    case l => k_is
    case q => k_is
    case k => k_is
  have d_circ : Pe.DefF (hd.heap_39 w.params) mg "_law_circle" Pe.sCirc := by
    refine' Pe.def_mk KX G ?a ?l ?q ?k
    case a => k_is
    case l => k_is
    case q => k_is
    case k => k_is
  have d_told : Pe.DefF (hd.heap_39 w.params) mg "_law_told_of" Pe.sTold := by
    refine' Pe.def_mk KX G ?a ?l ?q ?k
    case a => k_is
    case l => k_is
    case q => k_is
    case k => k_is
  have d_due : Pe.DefF (hd.heap_39 w.params) mg "_law_due_of" Pe.sDue := by
    refine' Pe.def_mk KX G ?a ?l ?q ?k
    case a => k_is
    case l => k_is
    case q => k_is
    case k => k_is
  have d_as_ : Pe.DefF (hd.heap_39 w.params) mg "_law_as" Pe.sAs := by
    refine' Pe.def_mk KX G ?a ?l ?q ?k
    case a => k_is
    case l => k_is
    case q => k_is
    case k => k_is
  have d_odd : Pe.DefF (hd.heap_39 w.params) mg "_law_odd" Pe.sOdd := by
    refine' Pe.def_mk KX G ?a ?l ?q ?k
    case a => k_is
    case l => k_is
    case q => k_is
    case k => k_is
  have d_raw : Pe.DefF (hd.heap_39 w.params) mg "_law_raw" Pe.sRaw := by
    refine' Pe.def_mk KX G ?a ?l ?q ?k
    case a => k_is
    case l => k_is
    case q => k_is
    case k => k_is
  have d_loose : Pe.DefF (hd.heap_39 w.params) mg "_law_loose" Pe.sLoose := by
    refine' Pe.def_mk KX G ?a ?l ?q ?k
    case a => k_is
    case l => k_is
    case q => k_is
    case k => k_is
  have d_scan : Pe.DefF (hd.heap_39 w.params) mg "_law_scan" Pe.sScan := by
    refine' Pe.def_mk KX G ?a ?l ?q ?k
    case a => k_is
    case l => k_is
    case q => k_is
    case k => k_is
  have d_good : Pe.DefF (hd.heap_39 w.params) mg "_law_read_good" Pe.sGood := by
    refine' Pe.def_mk KX G ?a ?l ?q ?k
    case a => k_is
    case l => k_is
    case q => k_is
    case k => k_is
  have d_lread : Pe.DefF (hd.heap_39 w.params) mg "_law_read" Pe.sLRead := by
    refine' Pe.def_mk KX G ?a ?l ?q ?k
    case a => k_is
    case l => k_is
    case q => k_is
    case k => k_is
  have d_bent : Pe.DefF (hd.heap_39 w.params) mg "_law_bent" Pe.sBent := by
    refine' Pe.def_mk KX G ?a ?l ?q ?k
    case a => k_is
    case l => k_is
    case q => k_is
    case k => k_is
  have d_long : Pe.DefF (hd.heap_39 w.params) mg "_law_long_so" Pe.sLong := by
    refine' Pe.def_mk KX G ?a ?l ?q ?k
    case a => k_is
    case l => k_is
    case q => k_is
    case k => k_is
  have d_law : Pe.DefF (hd.heap_39 w.params) mg "law" Pe.sLaw := by
    refine' Pe.def_mk KX G ?a ?l ?q ?k
    case a => k_is
    case l => k_is
    case q => k_is
    case k => k_is
  have zz : Pe.FreeF mg := by
    refine' ⟨PySem.W.mg_none_of KX G ?z0, PySem.W.mg_none_of KX G ?z1, PySem.W.mg_none_of KX G ?z2, PySem.W.mg_none_of KX G ?z3, PySem.W.mg_none_of KX G ?z4, PySem.W.mg_none_of KX G ?z5, PySem.W.mg_none_of KX G ?z6, PySem.W.mg_none_of KX G ?z7, PySem.W.mg_none_of KX G ?z8, PySem.W.mg_none_of KX G ?z9, PySem.W.mg_none_of KX G ?z10, PySem.W.mg_none_of KX G ?z11, PySem.W.mg_none_of KX G ?z12, PySem.W.mg_none_of KX G ?z13, PySem.W.mg_none_of KX G ?z14, PySem.W.mg_none_of KX G ?z15, PySem.W.mg_none_of KX G ?z16, PySem.W.mg_none_of KX G ?z17⟩
    case z0 => k_is
    case z1 => k_is
    case z2 => k_is
    case z3 => k_is
    case z4 => k_is
    case z5 => k_is
    case z6 => k_is
    case z7 => k_is
    case z8 => k_is
    case z9 => k_is
    case z10 => k_is
    case z11 => k_is
    case z12 => k_is
    case z13 => k_is
    case z14 => k_is
    case z15 => k_is
    case z16 => k_is
    case z17 => k_is
  have sg : ∃ d, mg "SIGNS" = some (.ref d) ∧ L2.KDct (hd.heap_39 w.params) w d "pool" (.str " & ") ∧ L2.KDct (hd.heap_39 w.params) w d "common" (.str " | ") := by
    refine' Pe.kd_mk KX G ?a1 ?a2 ?a3 ?a4 ?a5
    case a1 => k_is
    case a2 => k_is
    case a4 => k_is
    case a5 => k_is
    case a3 => exact ⟨⟨_, _, rfl, rfl⟩, ⟨_, _, rfl, rfl⟩, trivial⟩
  have cc : ∃ C, Pe.CircF (hd.heap_39 w.params) w mg C := by
    refine' Pe.circF_mk (mc := .type "type") KX G ?a1 ?p1 ?p2 ?p3 ?p4 ?n1 ?n2 ?n3 ?n4 ?n5 ?n6 ?n7 ?fm ?h1 ?h2 ?h3 ?h4 ?h5 ?kS ?r1 ?r2 ?r3 ?r4 ?m1 ?m2 ?m3 ?m4 ?m5 sg
    case a1 => k_is
    case p1 => k_is
    case p2 => k_is
    case p3 => k_is
    case p4 => k_is
    case n1 => k_is
    case n2 => k_is
    case n3 => k_is
    case n4 => k_is
    case n5 => k_is
    case n6 => k_is
    case n7 => k_is
    case fm => k_is
    case h1 => k_is
    case h2 => k_is
    case h3 => k_is
    case h4 => k_is
    case h5 => kernel_rfl
    case kS => kernel_rfl
    case r2 => k_is
    case r3 => k_is
    case r1 => k_is
    case r4 => exact ⟨_, rfl⟩
    case m1 =>
      refine' Pe.met_mk ?a ?l ?q ?f ?k
      case a => k_is
      case l => k_is
      case q => k_is
      case f => k_is
      case k => k_is
    case m2 =>
      refine' Pe.met_mk ?a ?l ?q ?f ?k
      case a => k_is
      case l => k_is
      case q => k_is
      case f => k_is
      case k => k_is
    case m3 =>
      refine' Pe.met_mk ?a ?l ?q ?f ?k
      case a => k_is
      case l => k_is
      case q => k_is
      case f => k_is
      case k => k_is
    case m4 =>
      refine' Pe.met_mk ?a ?l ?q ?f ?k
      case a => k_is
      case l => k_is
      case q => k_is
      case f => k_is
      case k => k_is
    case m5 =>
      refine' Pe.mak_mk ?a ?l ?q ?f ?m ?k
      case a => k_is
      case l => k_is
      case q => k_is
      case f => k_is
      case m => k_is
      case k => k_is
  have ss : ∃ C, Pe.ScanF (hd.heap_39 w.params) mg C := by
    refine' Pe.scanF_mk KX G ?a1 ?p1 ?p2 ?p3 ?p4 ?n1 ?n2 ?n3 ?z ?q1 ?q2 ?q3 ?m1 ?m2 ?m3 ?m4 ?m5 ?m6
    case a1 => k_is
    case p1 => k_is
    case p2 => k_is
    case p3 => k_is
    case p4 => k_is
    case n1 => k_is
    case n2 => k_is
    case n3 => k_is
    case z => k_is
    case q1 => k_is
    case q2 => k_is
    case q3 => k_is
    case m1 =>
      refine' Pe.met_mk ?a ?l ?q ?f ?k
      case a => k_is
      case l => k_is
      case q => k_is
      case f => k_is
      case k => k_is
    case m2 =>
      refine' Pe.met_mk ?a ?l ?q ?f ?k
      case a => k_is
      case l => k_is
      case q => k_is
      case f => k_is
      case k => k_is
    case m3 =>
      refine' Pe.met_mk ?a ?l ?q ?f ?k
      case a => k_is
      case l => k_is
      case q => k_is
      case f => k_is
      case k => k_is
    case m4 =>
      refine' Pe.met_mk ?a ?l ?q ?f ?k
      case a => k_is
      case l => k_is
      case q => k_is
      case f => k_is
      case k => k_is
    case m5 =>
      refine' Pe.met_mk ?a ?l ?q ?f ?k
      case a => k_is
      case l => k_is
      case q => k_is
      case f => k_is
      case k => k_is
    case m6 =>
      refine' Pe.mak_mk ?a ?l ?q ?f ?m ?k
      case a => k_is
      case l => k_is
      case q => k_is
      case f => k_is
      case m => k_is
      case k => k_is
  have dp : ∃ t, mg "DEEPEST" = some (.int 20 t) := by
    refine' Pe.int_mk KX G ?a
    case a => k_is
  have ei : ∃ C f cda cc fd, Pe.ExcF PySem.Challenge.pw_pooledeyes_k05_whole_wrong_circle_texts (hd.heap_39 w.params) mg "InvalidText" "InvalidText.__init__" Pe.sTextI C f cda cc fd := by
    refine' Pe.excF_mk KX G ?a1 ?a2 ?l ?cq ?c1 ?c2 ?c3 ?d ?e ?g1 ?g2 ?g3 ?g4 ?g5 ?g6 ?o1 ?o2 ?o3 ?o4 ?o5 ?o6 ?o7 ?o8
    case a1 => k_is
    case a2 => k_is
    case l => k_is
    case cq => k_is
    case c1 => k_is
    case c2 => rfl
    case c3 => decide +kernel
    case d => k_is
    case e => k_is
    case g1 => k_is
    case g2 => ks_is
    case g3 => k_is
    case g4 => k_is
    case g5 => k_is
    case g6 => k_is
    case o1 => k_is
    case o2 => decide +kernel
    case o3 => k_is
    case o4 => k_is
    case o5 => k_is
    case o6 => k_is
    case o7 => k_is
    case o8 => k_is
  have et : ∃ C f cda cc fd, Pe.ExcF PySem.Challenge.pw_pooledeyes_k05_whole_wrong_circle_texts (hd.heap_39 w.params) mg "TooMany" "TooMany.__init__" Pe.sManyI C f cda cc fd := by
    refine' Pe.excF_mk KX G ?a1 ?a2 ?l ?cq ?c1 ?c2 ?c3 ?d ?e ?g1 ?g2 ?g3 ?g4 ?g5 ?g6 ?o1 ?o2 ?o3 ?o4 ?o5 ?o6 ?o7 ?o8
    case a1 => k_is
    case a2 => k_is
    case l => k_is
    case cq => k_is
    case c1 => k_is
    case c2 => rfl
    case c3 => decide +kernel
    case d => k_is
    case e => k_is
    case g1 => k_is
    case g2 => ks_is
    case g3 => k_is
    case g4 => k_is
    case g5 => k_is
    case g6 => k_is
    case o1 => k_is
    case o2 => decide +kernel
    case o3 => k_is
    case o4 => k_is
    case o5 => k_is
    case o6 => k_is
    case o7 => k_is
    case o8 => k_is
  have tf : ∃ CI CT, Pe.TryF (hd.heap_39 w.params) mg CI CT := by
    refine' Pe.tryF_mk KX G ?a0 ?b0 ?a1 ?a2 ?a4 ?a5 ?a6 ?a7 ?i1 ?i2 ?t1 ?t2 ?t3 ?t4 ?t5 ?t6 ?t7 ?e1 ?e2 ?x1 ?x2 ?n1 ?n2 ?n3
    case a0 => k_is
    case b0 => k_is
    case a1 => k_is
    case a2 => k_is
    case a4 => k_is
    case a5 => k_is
    case a6 => k_is
    case a7 => k_is
    case i1 => kernel_rfl
    case i2 => kernel_rfl
    case t1 => kernel_rfl
    case t2 => kernel_rfl
    case t3 => kernel_rfl
    case t4 => kernel_rfl
    case t5 => kernel_rfl
    case t6 => kernel_rfl
    case t7 => kernel_rfl
    case e1 => kernel_rfl
    case e2 => kernel_rfl
    case x1 => kernel_rfl
    case x2 => kernel_rfl
    case n1 => k_is
    case n2 => k_is
    case n3 => k_is
  have gp : Pe.ProgF (hd.heap_39 w.params) mg := ⟨d_isName, d_wp, d_eye, d_flat, d_unlike, d_built, d_pool, d_common, d_joined, d_cof, d_wrong, d_read, d_isText, dp⟩
  have gl : Pe.LawF (hd.heap_39 w.params) mg := ⟨d_bag, d_draw, d_of_, d_same, d_try_, d_title, d_titles, d_words, d_size, d_depth, d_leaves, d_join, d_checked, d_circ, d_told, d_due, d_as_, d_odd, d_raw, d_loose, d_scan, d_good, d_lread, d_bent, d_long, d_law⟩
  obtain ⟨fA, fdA, c, PT, FA, dA, cA, hCd, nPT, hPT⟩ := xA
  obtain ⟨C, XC⟩ := cc
  obtain ⟨CS, YS⟩ := ss
  obtain ⟨CI, fI, cda, cci, fdI, EI⟩ := ei
  obtain ⟨CT, fT, cdb, cct, fdT, ET⟩ := et
  obtain ⟨CI', CT', TF⟩ := tf
  have e1 : CI' = CI := by
    have q := TF.mI.symm.trans EI.hC
    injection q with q
    injection q
  have e2 : CT' = CT := by
    have q := TF.mT.symm.trans ET.hC
    injection q with q
    injection q
  subst e1 e2
  obtain ⟨fL, fdL, FL, dL⟩ := d_law
  have e3 : fL = fa := by
    have q := FL.mgf.symm.trans hmg
    injection q with q
    injection q
  subst e3
  refine ⟨fdL, [(c, PT)], Pe.spLaw (hd.heap_39 w.params) PT, ?_, ?_, ?_, ?_, ?_, ?_⟩
  · intro p hp
    rw [List.mem_singleton.mp hp]
    exact hPT
  · intro p hp
    rw [List.mem_singleton.mp hp]
    exact nPT
  · intro p hp
    rw [List.mem_singleton.mp hp]
    exact hCd
  · intro s u
    obtain ⟨oc, od, dV, kV, doc, pm, an, cdv, ct, osl, efd, lk, hcd⟩ := FL.fn.ex
    subst efd
    have e : dV = .none := dL
    subst e
    exact .of_eq rfl
  · intro H a ns hn _ hT hS
    refine ⟨a, ns, rfl, hS, hn, fun p hp => ?_, fun H' => rfl⟩
    rw [List.mem_singleton.mp hp]
    exact LamX.TabS.nil (hT (c, PT) (List.mem_singleton.mpr rfl))
  · intro base kb nb tb
    have q := Pe.all_ok (P := PySem.Challenge.pw_pooledeyes_k05_whole_wrong_circle_texts) (w := w) (base := base) zz XC YS gp gl EI ET TF (by decide +kernel) FA dA cA (tb (c, PT) (List.mem_singleton.mpr rfl)) FL dL
    exact q.mono (by decide))
end
