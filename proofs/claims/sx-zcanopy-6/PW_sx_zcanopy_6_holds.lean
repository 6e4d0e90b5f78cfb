import PyProof.Rows.All
import Wide.All
import OpenK.AllK
import Wide.FinOn
import Lean
import PySem.Challenge.RW_sx_zcanopy_6
set_option Elab.async false
set_option linter.all false
set_option rowWalk.seconds 0
namespace Mine

/-- a node: keys, values, children -/
inductive T where
  | node (ks vs : List Int) (cs : List T)

noncomputable def T.nil : T := .node [] [] []

noncomputable def allM {α : Type} (f : α → Option Bool) : List α → Option Bool
  | [] => some true
  | c :: cs => match f c with
    | none => none
    | some false => some false
    | some true => allM f cs

noncomputable def shapeOk : Nat → T → Int → Bool → Option Bool
  | 0, _, _, _ => none
  | d + 1, .node ks vs cs, t, r =>
    if vs.length ≠ ks.length then some false
    else if cs.isEmpty = false ∧ cs.length ≠ ks.length + 1 then some false
    else if (ks.length : Int) > 2 * t - 1 then some false
    else if r = false ∧ (ks.length : Int) < t - 1 then some false
    else allM (fun c => shapeOk d c t false) cs

/-- strictly above an open or a written bound -/
noncomputable def above (lo : Option Int) (x : Int) : Bool := match lo with | none => true | some l => decide (l < x)
noncomputable def below (hi : Option Int) (x : Int) : Bool := match hi with | none => true | some h => decide (x < h)

noncomputable def keyGood (lo hi : Option Int) (ks : List Int) (i : Nat) : Bool :=
  (i == 0 || decide (ks.getD (i - 1) 0 < ks.getD i 0)) && above lo (ks.getD i 0) && below hi (ks.getD i 0)

noncomputable def rowOk (lo hi : Option Int) (ks : List Int) : Bool := (List.range ks.length).all (keyGood lo hi ks)

noncomputable def winLo (lo : Option Int) (ks : List Int) (i : Nat) : Option Int := if i > 0 then some (ks.getD (i - 1) 0) else lo
noncomputable def winHi (hi : Option Int) (ks : List Int) (i : Nat) : Option Int := if i < ks.length then some (ks.getD i 0) else hi

noncomputable def keysOk : Nat → T → Option Int → Option Int → Option Bool
  | 0, _, _, _ => none
  | d + 1, .node ks _ cs, lo, hi =>
    if rowOk lo hi ks then allM (fun i => keysOk d (cs.getD i T.nil) (winLo lo ks i) (winHi hi ks i)) (List.range cs.length)
    else some false

noncomputable def levM {α : Type} (f : α → Option Int) (x : Int) : List α → Option Int
  | [] => some (x + 1)
  | c :: cs => match f c with
    | none => none
    | some y => if y ≠ x then some (-1) else levM f x cs

noncomputable def leafLevel : Nat → T → Option Int
  | 0, _ => none
  | d + 1, .node _ _ cs =>
    if cs.isEmpty then some 0
    else match leafLevel d (cs.getD 0 T.nil) with
      | none => none
      | some x => if x < 0 then some (-1) else levM (leafLevel d) x (cs.drop 1)

/-- a child's stretch meets lo .. hi -/
noncomputable def meets (ks : List Int) (cs : List T) (lo hi : Int) (i : Nat) : Bool :=
  !cs.isEmpty && (i == 0 || decide (ks.getD (i - 1) 0 < hi)) && (i == ks.length || decide (ks.getD i 0 > lo))

noncomputable def ownPair (ks vs : List Int) (lo hi : Int) (i : Nat) : List (Int × Int) :=
  if i < ks.length ∧ lo ≤ ks.getD i 0 ∧ ks.getD i 0 ≤ hi then [(ks.getD i 0, vs.getD i 0)] else []

noncomputable def rngM (g : Nat → Option (List (Int × Int))) (own : Nat → List (Int × Int)) : List Nat → List (Int × Int) → Option (List (Int × Int))
  | [], acc => some acc
  | i :: is, acc => match g i with
    | none => none
    | some l => rngM g own is (acc ++ l ++ own i)

noncomputable def rangePairs : Nat → T → Int → Int → Option (List (Int × Int))
  | 0, _, _, _ => none
  | d + 1, .node ks vs cs, lo, hi =>
    if lo > hi then some []
    else rngM (fun i => if meets ks cs lo hi i then rangePairs d (cs.getD i T.nil) lo hi else some []) (ownPair ks vs lo hi) (List.range (ks.length + 1)) []

end Mine
namespace Mine

/-! the budget: generic -/
noncomputable def fitsD : Nat → T → Prop
  | 0, _ => False
  | d + 1, .node _ _ cs => ∀ c ∈ cs, fitsD d c

section
variable {α : Type} {f g : α → Option Bool} {p : α → Bool}
theorem allM_some : ∀ {cs : List α}, (∀ c ∈ cs, f c = some (p c)) → allM f cs = some (cs.all p)
  | [], _ => rfl
  | c :: cs, h => by
    rw [allM, h c (.head _), List.all_cons]
    cases p c with
    | false => rfl
    | true => simpa using allM_some fun c hc => h c (.tail _ hc)
theorem allM_true : ∀ {cs : List α}, allM f cs = some true → ∀ c ∈ cs, f c = some true
  | [], _, _, hc => nomatch hc
  | c :: cs, h, c', hc => by
    rw [allM] at h
    cases hf : f c with
    | none => rw [hf] at h; cases h
    | some b =>
      rw [hf] at h
      cases b with
      | false => cases h
      | true =>
        rcases List.mem_cons.mp hc with rfl | hc
        · exact hf
        · exact allM_true h c' hc
theorem allM_ne_none : ∀ {cs : List α}, (∀ c ∈ cs, f c ≠ none) → allM f cs ≠ none
  | [], _ => by simp [allM]
  | c :: cs, h => by
    rw [allM]
    cases hf : f c with
    | none => exact absurd hf (h c (.head _))
    | some b =>
      cases b with
      | false => simp
      | true => exact allM_ne_none fun c hc => h c (.tail _ hc)
theorem allM_mono : ∀ {cs : List α} {b : Bool}, (∀ c ∈ cs, ∀ b, f c = some b → g c = some b) → allM f cs = some b → allM g cs = some b
  | [], _, _, h => h
  | c :: cs, b, hm, h => by
    rw [allM] at h ⊢
    cases hf : f c with
    | none => rw [hf] at h; cases h
    | some b' =>
      rw [hf] at h
      rw [hm c (.head _) b' hf]
      cases b' with
      | false => exact h
      | true => exact allM_mono (fun c hc => hm c (.tail _ hc)) h
end

theorem allM_stop {α : Type} {f : α → Option Bool} : ∀ {cs : List α} {i : Nat} {c : α}, (∀ (j : Nat) c', j < i → cs[j]? = some c' → f c' = some true) → cs[i]? = some c → f c ≠ some true → allM f cs = f c
  | [], _, _, _, h, _ => by simp at h
  | c0 :: cs, 0, c, _, h, hn => by
    simp at h
    subst h
    rw [allM]
    cases hf : f c0 with
    | none => rfl
    | some b =>
      cases b with
      | false => rfl
      | true => exact absurd hf hn
  | c0 :: cs, i + 1, c, hp, h, hn => by
    rw [allM, hp 0 c0 (by (first | lia | omega)) rfl]
    have h' : cs[i]? = some c := by simpa using h
    exact allM_stop (fun j c' hj e => hp (j + 1) c' (by (first | lia | omega)) (by simpa using e)) h' hn
theorem allM_full {α : Type} {f : α → Option Bool} : ∀ {cs : List α}, (∀ (j : Nat) c', j < cs.length → cs[j]? = some c' → f c' = some true) → allM f cs = some true
  | [], _ => rfl
  | c0 :: cs, hp => by
    rw [allM, hp 0 c0 (by simp) rfl]
    exact allM_full (fun j c' hj e => hp (j + 1) c' (by simpa using hj) (by simpa using e))
theorem getD_mem {cs : List T} {i : Nat} (h : i < cs.length) : cs.getD i T.nil ∈ cs := by
  simp [h]

/-! shape -/
theorem shape_ne_none : ∀ (d : Nat) (x : T) (t : Int) (r : Bool), fitsD d x → shapeOk d x t r ≠ none
  | 0, _, _, _, h => h.elim
  | d + 1, .node ks vs cs, t, r, h => by
    rw [shapeOk]
    (repeat' split) <;> first | (intro h; cases h) | exact allM_ne_none fun c hc => shape_ne_none d c t false (h c hc)
theorem shape_true : ∀ (d : Nat) (x : T) (t : Int) (r : Bool), shapeOk d x t r = some true → fitsD d x
  | 0, _, _, _, h => by cases h
  | d + 1, .node ks vs cs, t, r, h => by
    rw [shapeOk] at h
    (repeat' split at h) <;> first | (cases h; done) | exact fun c hc => shape_true d c t false (allM_true h c hc)
theorem shape_mono : ∀ (d : Nat) (x : T) (t : Int) (r b : Bool), shapeOk d x t r = some b → shapeOk (d + 1) x t r = some b
  | 0, _, _, _, _, h => by cases h
  | d + 1, .node ks vs cs, t, r, b, h => by
    rw [shapeOk] at h ⊢
    (repeat' split at h)
    · rw [if_pos (by assumption)]; exact h
    · rw [if_neg (by assumption), if_pos (by assumption)]; exact h
    · rw [if_neg (by assumption), if_neg (by assumption), if_pos (by assumption)]; exact h
    · rw [if_neg (by assumption), if_neg (by assumption), if_neg (by assumption), if_pos (by assumption)]; exact h
    · rw [if_neg (by assumption), if_neg (by assumption), if_neg (by assumption), if_neg (by assumption)]
      exact allM_mono (fun c _ b' hb => shape_mono d c t false b' hb) h

/-! keys -/
theorem kg_iff {lo hi : Option Int} {ks : List Int} {i : Nat} : keyGood lo hi ks i = true ↔ (i = 0 ∨ ks.getD (i - 1) 0 < ks.getD i 0) ∧ (∀ l, lo = some l → l < ks.getD i 0) ∧ ∀ h, hi = some h → ks.getD i 0 < h := by
  unfold keyGood above below
  cases lo <;> cases hi <;> simp [and_assoc]
theorem rowOk_bad {lo hi : Option Int} {ks : List Int} {i : Nat} (h : i < ks.length) (q : keyGood lo hi ks i = false) : rowOk lo hi ks = false := by
  unfold rowOk
  rw [List.all_eq_false]
  exact ⟨i, List.mem_range.mpr h, by rw [q]; simp⟩
theorem rowOk_good {lo hi : Option Int} {ks : List Int} (h : ∀ (j : Nat), j < ks.length → keyGood lo hi ks j = true) : rowOk lo hi ks = true := by
  unfold rowOk
  rw [List.all_eq_true]
  exact fun i hi' => h i (List.mem_range.mp hi')
theorem keys_ne_none : ∀ (d : Nat) (x : T) (lo hi : Option Int), fitsD d x → keysOk d x lo hi ≠ none
  | 0, _, _, _, h => h.elim
  | d + 1, .node ks vs cs, lo, hi, h => by
    rw [keysOk]
    split
    · exact allM_ne_none fun i hi' => keys_ne_none d _ _ _ (h _ (getD_mem (List.mem_range.mp hi')))
    · intro h; cases h
theorem keys_true : ∀ (d : Nat) (x : T) (lo hi : Option Int), keysOk d x lo hi = some true → fitsD d x
  | 0, _, _, _, h => by cases h
  | d + 1, .node ks vs cs, lo, hi, h => by
    rw [keysOk] at h
    split at h
    · intro c hc
      obtain ⟨i, hi', rfl⟩ := List.mem_iff_getElem.mp hc
      have := keys_true d _ _ _ (allM_true h i (List.mem_range.mpr hi'))
      simpa [hi'] using this
    · cases h
theorem keys_mono : ∀ (d : Nat) (x : T) (lo hi : Option Int) (b : Bool), keysOk d x lo hi = some b → keysOk (d + 1) x lo hi = some b
  | 0, _, _, _, _, h => by cases h
  | d + 1, .node ks vs cs, lo, hi, b, h => by
    rw [keysOk] at h ⊢
    split at h
    · rw [if_pos (by assumption)]; exact allM_mono (fun i _ b' hb => keys_mono d _ _ _ b' hb) h
    · rw [if_neg (by assumption)]; exact h

/-! level -/
section
variable {α : Type} {f g : α → Option Int}
theorem levM_ne_none {x : Int} : ∀ {cs : List α}, (∀ c ∈ cs, f c ≠ none) → levM f x cs ≠ none
  | [], _ => by simp [levM]
  | c :: cs, h => by
    rw [levM]
    cases hf : f c with
    | none => exact absurd hf (h c (.head _))
    | some b =>
      dsimp only
      split
      · simp
      · exact levM_ne_none fun c hc => h c (.tail _ hc)
theorem levM_eq {x y : Int} (hx : 0 ≤ x) : ∀ {cs : List α}, levM f x cs = some y → y ≠ -1 → y = x + 1 ∧ ∀ c ∈ cs, f c = some x
  | [], h, _ => by
    rw [levM] at h; cases h
    exact ⟨rfl, fun _ h => nomatch h⟩
  | c :: cs, h, hy => by
    rw [levM] at h
    cases hf : f c with
    | none => rw [hf] at h; cases h
    | some b =>
      rw [hf] at h
      dsimp only at h
      split at h
      · cases h; exact absurd rfl hy
      · rename_i hb
        have hb' : b = x := by simpa using hb
        subst hb'
        obtain ⟨h1, h2⟩ := levM_eq hx h hy
        refine ⟨h1, fun c' hc => ?_⟩
        rcases List.mem_cons.mp hc with rfl | hc
        · exact hf
        · exact h2 c' hc
theorem levM_mono {x y : Int} : ∀ {cs : List α}, (∀ c ∈ cs, ∀ b, f c = some b → g c = some b) → levM f x cs = some y → levM g x cs = some y
  | [], _, h => h
  | c :: cs, hm, h => by
    rw [levM] at h ⊢
    cases hf : f c with
    | none => rw [hf] at h; cases h
    | some b' =>
      rw [hf] at h
      rw [hm c (.head _) b' hf]
      dsimp only at h ⊢
      split at h
      · rw [if_pos (by assumption)]; exact h
      · rw [if_neg (by assumption)]; exact levM_mono (fun c hc => hm c (.tail _ hc)) h
end
theorem levM_stop {α : Type} {f : α → Option Int} {x : Int} : ∀ {cs : List α} {i : Nat} {c : α}, (∀ (j : Nat) c', j < i → cs[j]? = some c' → f c' = some x) → cs[i]? = some c → f c ≠ some x → levM f x cs = (match f c with | none => none | some _ => some (-1))
  | [], _, _, _, h, _ => by simp at h
  | c0 :: cs, 0, c, _, h, hn => by
    simp at h
    subst h
    rw [levM]
    cases hf : f c0 with
    | none => rfl
    | some b =>
      dsimp only
      rw [if_pos (by intro e; exact hn (by rw [hf, e]))]
  | c0 :: cs, i + 1, c, hp, h, hn => by
    have h' : cs[i]? = some c := by simpa using h
    rw [levM, hp 0 c0 (by (first | lia | omega)) rfl]
    simp only [ne_eq, not_true_eq_false, if_false]
    exact levM_stop (fun j c' hj e => hp (j + 1) c' (by (first | lia | omega)) (by simpa using e)) h' hn
theorem levM_full {α : Type} {f : α → Option Int} {x : Int} : ∀ {cs : List α}, (∀ (j : Nat) c', j < cs.length → cs[j]? = some c' → f c' = some x) → levM f x cs = some (x + 1)
  | [], _ => rfl
  | c0 :: cs, hp => by
    rw [levM, hp 0 c0 (by simp) rfl]
    simp only [ne_eq, not_true_eq_false, if_false]
    exact levM_full (fun j c' hj e => hp (j + 1) c' (by simpa using hj) (by simpa using e))
theorem level_ne_none : ∀ (d : Nat) (x : T), fitsD d x → leafLevel d x ≠ none
  | 0, _, h => h.elim
  | d + 1, .node ks vs cs, h => by
    rw [leafLevel]
    split
    · simp
    · rename_i hc
      have h0 : cs.getD 0 T.nil ∈ cs := by
        cases cs with
        | nil => simp at hc
        | cons c cs => simp
      have h1 := level_ne_none d _ (h _ h0)
      cases hf : leafLevel d (cs.getD 0 T.nil) with
      | none => exact absurd hf h1
      | some x =>
        dsimp only
        split
        · simp
        · exact levM_ne_none fun c hc => level_ne_none d c (h c (List.mem_of_mem_drop hc))
theorem level_real : ∀ (d : Nat) (x : T) (y : Int), leafLevel d x = some y → y ≠ -1 → fitsD d x ∧ 0 ≤ y
  | 0, _, _, h, _ => by cases h
  | d + 1, .node ks vs cs, y, h, hy => by
    rw [leafLevel] at h
    split at h
    · rename_i hc
      cases h
      have : cs = [] := by simpa using hc
      subst this
      exact ⟨(fun c hc => (nomatch hc)), Int.le_refl _⟩
    · rename_i hc
      cases hf : leafLevel d (cs.getD 0 T.nil) with
      | none => rw [hf] at h; cases h
      | some x =>
        rw [hf] at h
        dsimp only at h
        split at h
        · cases h; exact absurd rfl hy
        · rename_i hx
          have hx' : 0 ≤ x := by (first | lia | omega)
          obtain ⟨h1, h2⟩ := levM_eq hx' h hy
          have hx1 : x ≠ -1 := by (first | lia | omega)
          refine ⟨fun c hc' => ?_, by (first | lia | omega)⟩
          cases cs with
          | nil => simp at hc
          | cons c0 cs =>
            rcases List.mem_cons.mp hc' with rfl | hc'
            · exact (level_real d _ x (by simpa using hf) hx1).1
            · exact (level_real d _ x (h2 c (by simpa using hc')) hx1).1
theorem level_mono : ∀ (d : Nat) (x : T) (y : Int), leafLevel d x = some y → leafLevel (d + 1) x = some y
  | 0, _, _, h => by cases h
  | d + 1, .node ks vs cs, y, h => by
    rw [leafLevel] at h ⊢
    split at h
    · rw [if_pos (by assumption)]; exact h
    · rw [if_neg (by assumption)]
      cases hf : leafLevel d (cs.getD 0 T.nil) with
      | none => rw [hf] at h; cases h
      | some x =>
        rw [hf] at h
        rw [level_mono d _ x hf]
        dsimp only at h ⊢
        split at h
        · rw [if_pos (by assumption)]; exact h
        · rw [if_neg (by assumption)]; exact levM_mono (fun c _ b' hb => level_mono d c b' hb) h

/-! what the law asks of an answer -/
noncomputable def fits {α : Type} [DecidableEq α] (got : Option α) (want bad : α) (enough : Bool) : Bool := match got with
  | none => !enough
  | some g => if enough = false ∧ want ≠ bad then false else decide (g = want)

theorem mono_le {α β : Type} {F : Nat → α → Option β} (hm : ∀ d x b, F d x = some b → F (d + 1) x = some b) {d : Nat} {x : α} {b : β} (h : F d x = some b) : ∀ k, F (d + k) x = some b
  | 0 => h
  | k + 1 => hm _ _ _ (mono_le hm h k)

theorem mono_meet {α β : Type} {F : Nat → α → Option β} (hm : ∀ d x b, F d x = some b → F (d + 1) x = some b) {d e : Nat} {x : α} {b c : β} (h : F d x = some b) (h' : F e x = some c) : b = c := by
  have h1 := mono_le hm h e
  have h2 := mono_le hm h' d
  rw [Nat.add_comm] at h2
  rw [h1] at h2
  exact Option.some.inj h2

theorem fits_law {α β : Type} [DecidableEq β] {F : Nat → α → Option β} (hm : ∀ d x b, F d x = some b → F (d + 1) x = some b) {x : α} {D d : Nat} {want bad : β} {enough : Bool} (hw : F D x = some want)
    (h1 : enough = true → F d x ≠ none) (h2 : ∀ b, F d x = some b → b ≠ bad → enough = true) : fits (F d x) want bad enough = true := by
  unfold fits
  cases hf : F d x with
  | none =>
    cases he : enough with
    | false => rfl
    | true => exact absurd hf (h1 he)
  | some b =>
    have hb := mono_meet hm hf hw
    subst hb
    dsimp only
    split
    · rename_i hc
      have := h2 b hf hc.2
      rw [this] at hc
      exact absurd hc.1 (by decide)
    · simp
end Mine
namespace Mine

/-- a group of the plan: a leaf of a keys, or a node over two leaves of a and b keys -/
structure G where
  dp : Bool
  a : Nat
  b : Nat
noncomputable def G.len (g : G) : Nat := if g.dp then g.a + 1 + g.b else g.a

noncomputable def slc {α : Type} (l : List α) (lo hi : Nat) : List α := (l.drop lo).take (hi - lo)

noncomputable def leafT (row vals : List Int) (lo hi : Nat) : T := .node (slc row lo hi) (slc vals lo hi) []
noncomputable def kidT (row vals : List Int) (s : Nat) (g : G) : T :=
  if g.dp then .node [row.getD (s + g.a) 0] [vals.getD (s + g.a) 0] [leafT row vals s (s + g.a), leafT row vals (s + g.a + 1) (s + g.a + 1 + g.b)]
  else leafT row vals s (s + g.a)
noncomputable def kidsL (row vals : List Int) : List G → Nat → List T
  | [], _ => []
  | g :: gs, s => kidT row vals s g :: kidsL row vals gs (s + g.len + 1)
noncomputable def keysL (row : List Int) : List G → Nat → List Int
  | [], _ => []
  | g :: gs, s => row.getD (s + g.len) 0 :: keysL row gs (s + g.len + 1)
noncomputable def endL : List G → Nat → Nat
  | [], s => s
  | g :: gs, s => endL gs (s + g.len + 1)
structure Nd where
  lev : Nat
  left : Nat
  right : Nat
  n : Nat
noncomputable def nodesG (s : Nat) (g : G) : List Nd :=
  (if g.dp then [⟨2, s, s + g.a, g.a⟩, ⟨2, s + g.a + 1, s + g.a + 1 + g.b, g.b⟩] else []) ++ [⟨1, s, s + g.len, if g.dp then 1 else g.a⟩]
noncomputable def nodesL : List G → Nat → List Nd
  | [], _ => []
  | g :: gs, s => nodesG s g ++ nodesL gs (s + g.len + 1)
noncomputable def nestT (row vals : List Int) (gs : List G) : T :=
  .node ((keysL row gs 0).take (gs.length - 1)) ((keysL vals gs 0).take (gs.length - 1)) (kidsL row vals gs 0)
noncomputable def usedN (gs : List G) : Nat := endL gs 0 - 1

theorem kidsL_length (row vals : List Int) : ∀ (gs : List G) (s : Nat), (kidsL row vals gs s).length = gs.length
  | [], _ => rfl
  | g :: gs, s => by rw [kidsL, List.length_cons, kidsL_length row vals gs, List.length_cons]
theorem keysL_length (row : List Int) : ∀ (gs : List G) (s : Nat), (keysL row gs s).length = gs.length
  | [], _ => rfl
  | g :: gs, s => by rw [keysL, List.length_cons, keysL_length row gs, List.length_cons]
theorem endL_ge : ∀ (gs : List G) (s : Nat), s ≤ endL gs s
  | [], s => Nat.le_refl s
  | g :: gs, s => by rw [endL]; have := endL_ge gs (s + g.len + 1); (first | lia | omega)
theorem slc_length {α : Type} (l : List α) {lo hi : Nat} (h : hi ≤ l.length) : (slc l lo hi).length = hi - lo := by
  simp only [slc, List.length_take, List.length_drop]; (first | lia | omega)

/-! the levels -/
noncomputable def needN (gs : List G) : Nat := if gs.any (·.dp) then 3 else 2

theorem fits_leaf (row vals : List Int) (lo hi d : Nat) : fitsD (d + 1) (leafT row vals lo hi) := by
  intro c hc; cases hc
theorem fits_kid (row vals : List Int) (s : Nat) (g : G) (d : Nat) : fitsD d (kidT row vals s g) ↔ (if g.dp then 2 else 1) ≤ d := by
  unfold kidT
  cases g.dp with
  | false =>
    cases d with
    | zero => simp [fitsD]
    | succ d => simp [fits_leaf]
  | true =>
    simp only [if_true]
    cases d with
    | zero => simp [fitsD]
    | succ d =>
      cases d with
      | zero =>
        constructor
        · intro h; exact (h _ (.head _)).elim
        · intro h; (first | lia | omega)
      | succ d => simp [fitsD, fits_leaf]
theorem fits_kids (row vals : List Int) (d : Nat) : ∀ (gs : List G) (s : Nat), (∀ c ∈ kidsL row vals gs s, fitsD d c) ↔ ∀ g ∈ gs, (if g.dp then 2 else 1) ≤ d
  | [], _ => by simp [kidsL]
  | g :: gs, s => by
    rw [kidsL]
    simp only [List.forall_mem_cons, fits_kid, fits_kids row vals d gs]
theorem fits_need {gs : List G} (hg : gs ≠ []) (d : Nat) : (∀ g ∈ gs, (if g.dp then 2 else 1) ≤ d) ↔ needN gs ≤ d + 1 := by
  unfold needN
  by_cases h : gs.any (·.dp) = true
  · rw [if_pos h]
    obtain ⟨g, hm, hd⟩ := List.any_eq_true.mp h
    constructor
    · intro q
      have := q g hm
      rw [if_pos hd] at this
      (first | lia | omega)
    · intro q g _
      split <;> (first | lia | omega)
  · rw [if_neg h]
    have h' : ∀ g ∈ gs, g.dp = false := by
      intro g hm
      cases hd : g.dp with
      | false => rfl
      | true => exact absurd (List.any_eq_true.mpr ⟨g, hm, hd⟩) h
    constructor
    · intro q
      cases gs with
      | nil => exact absurd rfl hg
      | cons g gs =>
        have := q g (.head _)
        rw [h' g (.head _)] at this
        simp at this; (first | lia | omega)
    · intro q g hm
      rw [h' g hm]; simp; (first | lia | omega)
theorem fits_nest (row vals : List Int) {gs : List G} (hg : gs ≠ []) (d : Nat) : fitsD d (nestT row vals gs) ↔ needN gs ≤ d := by
  cases d with
  | zero =>
    have : 2 ≤ needN gs := by unfold needN; split <;> (first | lia | omega)
    simp only [fitsD, false_iff]; (first | lia | omega)
  | succ d =>
    unfold nestT
    rw [fitsD, fits_kids, fits_need hg]

/-! shape -/
noncomputable def okSz (t : Int) (n : Nat) : Bool := decide ((n : Int) ≤ 2 * t - 1 ∧ t - 1 ≤ (n : Int))

theorem shape_leaf {row vals : List Int} {lo hi d : Nat} {t : Int} (h1 : hi ≤ row.length) (h2 : hi ≤ vals.length) : shapeOk (d + 1) (leafT row vals lo hi) t false = some (okSz t (hi - lo)) := by
  unfold leafT
  rw [shapeOk, slc_length _ h1, slc_length _ h2]
  simp only [ne_eq, not_true_eq_false, if_false, List.isEmpty_nil, Bool.true_eq_false, false_and, true_and, allM, okSz]
  (repeat' split) <;> simp <;> (first | lia | omega)
theorem shape_kid {row vals : List Int} {s d : Nat} {g : G} {t : Int} (h1 : s + g.len ≤ row.length) (h2 : s + g.len ≤ vals.length) : shapeOk (d + 2) (kidT row vals s g) t false = some ((nodesG s g).all fun x => okSz t x.n) := by
  unfold kidT nodesG
  cases hd : g.dp with
  | false =>
    have hl : g.len = g.a := by simp [G.len, hd]
    rw [hl] at h1 h2
    simp only [Bool.false_eq_true, if_false, shape_leaf h1 h2]
    simp
  | true =>
    have hl : g.len = g.a + 1 + g.b := by simp [G.len, hd]
    rw [hl] at h1 h2
    simp only [if_true]
    rw [shapeOk]
    have e : allM (fun c => shapeOk (d + 1) c t false) [leafT row vals s (s + g.a), leafT row vals (s + g.a + 1) (s + g.a + 1 + g.b)] = some (okSz t g.a && okSz t g.b) := by
      rw [allM, shape_leaf (by (first | lia | omega)) (by (first | lia | omega))]
      have q1 : s + g.a - s = g.a := by (first | lia | omega)
      rw [q1]
      cases okSz t g.a with
      | false => rfl
      | true =>
        simp only [allM]
        rw [shape_leaf (by (first | lia | omega)) (by (first | lia | omega))]
        have q2 : s + g.a + 1 + g.b - (s + g.a + 1) = g.b := by (first | lia | omega)
        rw [q2]
        cases okSz t g.b <;> rfl
    rw [e]
    simp only [List.length_cons, List.length_nil, ne_eq, not_true_eq_false, if_false, and_false, true_and]
    simp only [List.cons_append, List.nil_append, List.all_cons, List.all_nil, Bool.and_true]
    have : okSz t 1 = decide (((1 : Nat) : Int) ≤ 2 * t - 1 ∧ t - 1 ≤ ((1 : Nat) : Int)) := rfl
    rw [this]
    (repeat' split)
    · simp; (first | lia | omega)
    · simp; (first | lia | omega)
    · rename_i q1 q2
      rw [decide_eq_true (by (first | lia | omega) : ((1 : Nat) : Int) ≤ 2 * t - 1 ∧ t - 1 ≤ ((1 : Nat) : Int)), Bool.and_true]
theorem shape_kids {row vals : List Int} {d : Nat} {t : Int} : ∀ (gs : List G) (s : Nat), endL gs s ≤ row.length → endL gs s ≤ vals.length → allM (fun c => shapeOk (d + 2) c t false) (kidsL row vals gs s) = some ((nodesL gs s).all fun x => okSz t x.n)
  | [], _, _, _ => rfl
  | g :: gs, s, h1, h2 => by
    rw [endL] at h1 h2
    have := endL_ge gs (s + g.len + 1)
    rw [kidsL, nodesL, allM, shape_kid (by (first | lia | omega)) (by (first | lia | omega)), List.all_append]
    cases (nodesG s g).all fun x => okSz t x.n with
    | false => rfl
    | true => simpa using shape_kids gs _ h1 h2

/-- shape_ok on the lawful nest, the budget not asked -/
theorem shape_nest {row vals : List Int} {gs : List G} {t : Int} {r : Bool} (hg : 2 ≤ gs.length) (h1 : endL gs 0 ≤ row.length) (h2 : endL gs 0 ≤ vals.length) :
    shapeOk 3 (nestT row vals gs) t r = some (decide (((gs.length - 1 : Nat) : Int) ≤ 2 * t - 1) && (r || decide (t - 1 ≤ ((gs.length - 1 : Nat) : Int))) && (nodesL gs 0).all fun x => okSz t x.n) := by
  unfold nestT
  rw [shapeOk, shape_kids gs 0 h1 h2, List.length_take, List.length_take, keysL_length, keysL_length, kidsL_length]
  have q : min (gs.length - 1) gs.length = gs.length - 1 := by (first | lia | omega)
  rw [q]
  rw [if_neg (by simp), if_neg (by intro h; exact h.2 (by (first | lia | omega)))]
  (repeat' split)
  · simp; (first | lia | omega)
  · rename_i hc; obtain ⟨rfl, hc⟩ := hc; simp; (first | lia | omega)
  · rename_i hc hc'
    cases r with
    | true => simp; (first | lia | omega)
    | false => simp at hc'; simp; (first | lia | omega)

/-- the hurt nests -/
noncomputable def hurtT (x : T) (mode place : Nat) : T := match x with
  | .node ks vs cs =>
    if mode = 0 then .node ks vs (cs.take place ++ (match cs.getD place T.nil with | .node k v c => [T.node k (v ++ [0]) c]) ++ cs.drop (place + 1))
    else if mode = 1 then .node ks (vs.drop 1) cs
    else if mode = 2 then .node ks vs (cs.take place ++ cs.drop (place + 1))
    else if mode = 3 then .node ks vs (cs.take place ++ [cs.getD place T.nil] ++ cs.drop place)
    else .node ks vs cs

theorem fits_more {d : Nat} {k v : List Int} {v' : List Int} {c : List T} (h : fitsD d (.node k v c)) : fitsD d (.node k v' c) := by
  cases d with
  | zero => exact h
  | succ d => exact h
theorem fits_hurt {row vals : List Int} {gs : List G} (hg : gs ≠ []) {d mode place : Nat} (hp : place < gs.length) (h : needN gs ≤ d) : fitsD d (hurtT (nestT row vals gs) mode place) := by
  have hn := (fits_nest row vals hg d).mpr h
  cases d with
  | zero => exact hn.elim
  | succ d =>
    have hn' : ∀ c ∈ kidsL row vals gs 0, fitsD d c := hn
    have hk : (kidsL row vals gs 0).getD place T.nil ∈ kidsL row vals gs 0 := getD_mem (by rw [kidsL_length]; exact hp)
    unfold hurtT nestT
    dsimp only
    (repeat' split)
    · rename_i hx
      intro c hc
      rcases List.mem_append.mp hc with hc | hc
      · rcases List.mem_append.mp hc with hc | hc
        · exact hn' c (List.mem_of_mem_take hc)
        · have hk' := hn' _ hk
          rw [hx] at hk'
          rw [List.mem_singleton.mp hc]
          exact fits_more hk'
      · exact hn' c (List.mem_of_mem_drop hc)
    · exact hn'
    · intro c hc
      rcases List.mem_append.mp hc with hc | hc
      · exact hn' c (List.mem_of_mem_take hc)
      · exact hn' c (List.mem_of_mem_drop hc)
    · intro c hc
      rcases List.mem_append.mp hc with hc | hc
      · rcases List.mem_append.mp hc with hc | hc
        · exact hn' c (List.mem_of_mem_take hc)
        · rw [List.mem_singleton.mp hc]; exact hn' _ hk
      · exact hn' c (List.mem_of_mem_drop hc)
    · exact hn'

theorem shape_odd {d : Nat} {k v : List Int} {c : List T} {t : Int} {r : Bool} (h : v.length ≠ k.length) : shapeOk d (.node k v c) t r ≠ some true := by
  cases d with
  | zero => simp [shapeOk]
  | succ d => rw [shapeOk, if_pos h]; simp
theorem kid_vs {row vals : List Int} {s : Nat} {g : G} (h1 : s + g.len ≤ row.length) (h2 : s + g.len ≤ vals.length) : ∀ k v c, kidT row vals s g = .node k v c → v.length = k.length := by
  intro k v c h
  unfold kidT leafT at h
  cases hd : g.dp with
  | false =>
    have hl : g.len = g.a := by simp [G.len, hd]
    rw [hl] at h1 h2
    rw [hd] at h
    simp only [Bool.false_eq_true, if_false, T.node.injEq] at h
    rw [← h.1, ← h.2.1, slc_length _ h1, slc_length _ h2]
  | true =>
    rw [hd] at h
    simp only [if_true, T.node.injEq] at h
    rw [← h.1, ← h.2.1]; rfl
theorem kids_vs {row vals : List Int} : ∀ (gs : List G) (s : Nat), endL gs s ≤ row.length → endL gs s ≤ vals.length → ∀ x ∈ kidsL row vals gs s, ∀ k v c, x = .node k v c → v.length = k.length
  | [], _, _, _, _, hx, _, _, _, _ => nomatch hx
  | g :: gs, s, h1, h2, x, hx, k, v, c, e => by
    rw [endL] at h1 h2
    have := endL_ge gs (s + g.len + 1)
    rw [kidsL] at hx
    rcases List.mem_cons.mp hx with rfl | hx
    · exact kid_vs (by (first | lia | omega)) (by (first | lia | omega)) k v c e
    · exact kids_vs gs _ h1 h2 x hx k v c e
theorem shape_few {d : Nat} {k v : List Int} {c : List T} {t : Int} {r : Bool} (h : v.length = k.length) (h0 : c.length ≠ 0) (h1 : c.length ≠ k.length + 1) : shapeOk d (.node k v c) t r ≠ some true := by
  cases d with
  | zero => intro h; cases h
  | succ d =>
    rw [shapeOk, if_neg (fun q => q h), if_pos ⟨by cases c with | nil => exact absurd rfl h0 | cons _ _ => rfl, h1⟩]
    intro h; cases h
theorem shape_one {d : Nat} {k v : List Int} {c : List T} {t : Int} {r : Bool} {x : T} (hx : x ∈ c) (h : ∀ d, shapeOk d x t false ≠ some true) : shapeOk d (.node k v c) t r ≠ some true := by
  cases d with
  | zero => intro h; cases h
  | succ d =>
    intro q
    rw [shapeOk] at q
    (repeat' split at q) <;> first | (cases q; done) | exact h d (allM_true q x hx)
theorem shape_hurt {row vals : List Int} {gs : List G} {d mode place : Nat} {t : Int} {r : Bool} (hg : 2 ≤ gs.length) (hp : place < gs.length) (h1 : endL gs 0 ≤ row.length) (h2 : endL gs 0 ≤ vals.length) (hm : mode ≤ 3) :
    shapeOk d (hurtT (nestT row vals gs) mode place) t r ≠ some true := by
  have l1 : ((keysL row gs 0).take (gs.length - 1)).length = gs.length - 1 := by rw [List.length_take, keysL_length]; lia
  have l2 : ((keysL vals gs 0).take (gs.length - 1)).length = gs.length - 1 := by rw [List.length_take, keysL_length]; lia
  have l3 : (kidsL row vals gs 0).length = gs.length := kidsL_length ..
  have hv := kids_vs gs 0 h1 h2
  clear h1 h2
  unfold hurtT nestT
  generalize (keysL row gs 0).take (gs.length - 1) = ks at l1 ⊢
  generalize (keysL vals gs 0).take (gs.length - 1) = vs at l2 ⊢
  generalize kidsL row vals gs 0 = cs at l3 hv ⊢
  dsimp only
  match mode, hm with
  | 0, _ =>
    have hk : cs.getD place T.nil ∈ cs := getD_mem (by rw [l3]; exact hp)
    generalize cs.getD place T.nil = x at hk ⊢
    obtain ⟨k, v, c⟩ := x
    refine shape_one (x := .node k (v ++ [0]) c) (List.mem_append_left _ (List.mem_append_right _ (.head _))) fun d => shape_odd ?_
    rw [List.length_append, hv _ hk _ _ _ rfl]
    exact Nat.succ_ne_self _
  | 1, _ => exact shape_odd (by rw [List.length_drop, l1, l2]; lia)
  | 2, _ =>
    have e : (cs.take place ++ cs.drop (place + 1)).length = gs.length - 1 := by rw [List.length_append, List.length_take, List.length_drop, l3]; lia
    exact shape_few (l2.trans l1.symm) (by rw [e]; lia) (by rw [e, l1]; lia)
  | 3, _ =>
    have e : (cs.take place ++ [cs.getD place T.nil] ++ cs.drop place).length = gs.length + 1 := by rw [List.length_append, List.length_append, List.length_take, List.length_drop, l3, List.length_singleton]; lia
    exact shape_few (l2.trans l1.symm) (by rw [e]; lia) (by rw [e, l1]; lia)

theorem hurt_lawful {x : T} {mode place : Nat} (h : 3 < mode) : hurtT x mode place = x := by
  unfold hurtT
  cases x with
  | node ks vs cs =>
    dsimp only
    rw [if_neg (by (first | lia | omega)), if_neg (by (first | lia | omega)), if_neg (by (first | lia | omega)), if_neg (by (first | lia | omega))]

/-- the law on shapes; M the greatest of all sizes, m the least of those that count -/
theorem shape_law {row vals : List Int} {gs : List G} {d mode place : Nat} {t M m : Int} {top : Bool} (hg : 2 ≤ gs.length) (hp : place < gs.length) (h1 : endL gs 0 ≤ row.length) (h2 : endL gs 0 ≤ vals.length)
    (hM : ∀ x, x ∈ (nodesL gs 0).map (fun x => (x.n : Int)) ++ [((gs.length - 1 : Nat) : Int)] → x ≤ M) (hM' : M ∈ (nodesL gs 0).map (fun x => (x.n : Int)) ++ [((gs.length - 1 : Nat) : Int)])
    (hm : ∀ x, x ∈ (nodesL gs 0).map (fun x => (x.n : Int)) ++ (if top then [] else [((gs.length - 1 : Nat) : Int)]) → m ≤ x) (hm' : m ∈ (nodesL gs 0).map (fun x => (x.n : Int)) ++ (if top then [] else [((gs.length - 1 : Nat) : Int)])) :
    fits (shapeOk d (hurtT (nestT row vals gs) mode place) t top) (decide ((M + 2) / 2 ≤ t) && decide (t ≤ m + 1) && decide (mode > 3)) false (decide (needN gs ≤ d)) = true := by
  have hne : gs ≠ [] := by intro e; rw [e] at hg; simp at hg
  by_cases hmd : 3 < mode
  · rw [hurt_lawful hmd]
    have hw : shapeOk 3 (nestT row vals gs) t top = some (decide ((M + 2) / 2 ≤ t) && decide (t ≤ m + 1) && decide (mode > 3)) := by
      rw [shape_nest hg h1 h2]
      congr 1
      rw [Bool.eq_iff_iff]
      simp only [Bool.and_eq_true, decide_eq_true_eq, Bool.or_eq_true, List.all_eq_true, okSz]
      constructor
      · rintro ⟨⟨q1, q2⟩, q3⟩
        refine ⟨⟨?_, ?_⟩, hmd⟩
        · rcases List.mem_append.mp hM' with q | q
          · obtain ⟨x, hx, rfl⟩ := List.mem_map.mp q
            have := (q3 x hx).1
            (first | lia | omega)
          · rw [List.mem_singleton.mp q]; (first | lia | omega)
        · rcases List.mem_append.mp hm' with q | q
          · obtain ⟨x, hx, rfl⟩ := List.mem_map.mp q
            have := (q3 x hx).2
            (first | lia | omega)
          · cases top with
            | true => simp at q
            | false =>
              simp only [Bool.false_eq_true, if_false] at q
              rw [List.mem_singleton.mp q]
              have := q2.resolve_left (by decide)
              (first | lia | omega)
      · rintro ⟨⟨q1, q2⟩, _⟩
        refine ⟨⟨?_, ?_⟩, ?_⟩
        · have := hM ((gs.length - 1 : Nat) : Int) (List.mem_append_right _ (.head _))
          (first | lia | omega)
        · cases top with
          | true => exact .inl rfl
          | false =>
            have := hm ((gs.length - 1 : Nat) : Int) (List.mem_append_right _ (by simp))
            exact .inr (by (first | lia | omega))
        · intro x hx
          have a1 := hM (x.n : Int) (List.mem_append_left _ (List.mem_map.mpr ⟨x, hx, rfl⟩))
          have a2 := hm (x.n : Int) (List.mem_append_left _ (List.mem_map.mpr ⟨x, hx, rfl⟩))
          (first | lia | omega)
    refine fits_law (F := fun d x => shapeOk d x t top) (fun d x b h => shape_mono d x t top b h) hw (fun he => ?_) fun b hb hb' => ?_
    · exact shape_ne_none _ _ _ _ ((fits_nest row vals hne d).mpr (of_decide_eq_true he))
    · have : b = true := by cases b; exact absurd rfl hb'; rfl
      subst this
      exact decide_eq_true ((fits_nest row vals hne d).mp (shape_true _ _ _ _ hb))
  · have hmd' : decide (mode > 3) = false := decide_eq_false (by (first | lia | omega))
    rw [hmd', Bool.and_false]
    have hn := shape_hurt (d := d) (t := t) (r := top) hg hp h1 h2 (mode := mode) (by (first | lia | omega))
    unfold fits
    cases hf : shapeOk d (hurtT (nestT row vals gs) mode place) t top with
    | none =>
      cases he : decide (needN gs ≤ d) with
      | false => rfl
      | true => exact absurd hf (shape_ne_none _ _ _ _ (fits_hurt hne hp (of_decide_eq_true he)))
    | some b =>
      cases b with
      | true => exact absurd hf hn
      | false => simp
end Mine
namespace Mine

/-! the walk in order -/
noncomputable def weave {α : Type} : List α → List (List α) → List α
  | ks, [] => ks
  | [], c :: _ => c
  | k :: ks, c :: cs => c ++ k :: weave ks cs

noncomputable def inord : Nat → T → List Int
  | 0, _ => []
  | d + 1, .node ks _ cs => weave ks (cs.map (inord d))

/-- as many children as the keys ask for -/
noncomputable def wfD : Nat → T → Prop
  | 0, _ => False
  | d + 1, .node ks vs cs => vs.length = ks.length ∧ (cs = [] ∨ cs.length = ks.length + 1) ∧ ∀ c ∈ cs, wfD d c

noncomputable abbrev chain (lo : Option Int) (l : List Int) (hi : Option Int) : Prop := l.Pairwise (· < ·) ∧ (∀ x ∈ l, above lo x = true) ∧ ∀ x ∈ l, below hi x = true

theorem above_trans {lo : Option Int} {x y : Int} (h : above lo x = true) (hxy : x < y) : above lo y = true := by
  cases lo with
  | none => rfl
  | some l => simp only [above, decide_eq_true_eq] at h ⊢; (first | lia | omega)
theorem below_trans {hi : Option Int} {x y : Int} (h : below hi y = true) (hxy : x < y) : below hi x = true := by
  cases hi with
  | none => rfl
  | some l => simp only [below, decide_eq_true_eq] at h ⊢; (first | lia | omega)

theorem rowOk_cons {lo hi : Option Int} {k : Int} {ks : List Int} : rowOk lo hi (k :: ks) = true ↔ above lo k = true ∧ below hi k = true ∧ rowOk (some k) hi ks = true := by
  simp only [rowOk, List.all_eq_true, List.mem_range, keyGood, Bool.and_eq_true, Bool.or_eq_true, beq_iff_eq, decide_eq_true_eq, List.length_cons]
  constructor
  · intro h
    have h0 := h 0 (by (first | lia | omega))
    simp at h0
    have up : ∀ j, j < ks.length → k < ks.getD j 0 := by
      intro j
      induction j with
      | zero =>
        intro hj
        have := h 1 (by (first | lia | omega))
        simpa using this.1.1
      | succ j ih =>
        intro hj
        have h1 := ih (by (first | lia | omega))
        have := (h (j + 2) (by (first | lia | omega))).1.1
        simp at this h1 ⊢
        (first | lia | omega)
    refine ⟨h0.1, h0.2, fun j hj => ⟨⟨?_, ?_⟩, ?_⟩⟩
    · cases j with
      | zero => exact .inl rfl
      | succ j =>
        have := (h (j + 2) (by (first | lia | omega))).1.1
        simp at this
        right
        simpa using this
    · simpa [above] using up j hj
    · have := (h (j + 1) (by (first | lia | omega))).2
      simpa using this
  · rintro ⟨h1, h2, h3⟩ i hi'
    cases i with
    | zero => simp [h1, h2]
    | succ j =>
      have hj := h3 j (by (first | lia | omega))
      have a := hj.1.2
      simp [above] at a
      refine ⟨⟨?_, ?_⟩, ?_⟩
      · right
        cases j with
        | zero => simpa using a
        | succ j =>
          have := hj.1.1
          simp at this
          simpa using this
      · refine above_trans h1 ?_
        simpa using a
      · simpa using hj.2

theorem winLo_cons {lo : Option Int} {k : Int} {ks : List Int} {i : Nat} : winLo lo (k :: ks) (i + 1) = winLo (some k) ks i := by
  unfold winLo
  cases i with
  | zero => simp
  | succ i => simp
theorem winHi_cons {hi : Option Int} {k : Int} {ks : List Int} {i : Nat} : winHi hi (k :: ks) (i + 1) = winHi hi ks i := by
  unfold winHi
  simp

theorem chain_join {lo hi : Option Int} {k : Int} {w r : List Int} : chain lo (w ++ k :: r) hi ↔ chain lo w (some k) ∧ above lo k = true ∧ below hi k = true ∧ chain (some k) r hi := by
  unfold chain
  rw [List.pairwise_append, List.pairwise_cons]
  constructor
  · rintro ⟨⟨p1, ⟨p2, p3⟩, p4⟩, a, b⟩
    refine ⟨⟨p1, fun x hx => a x (List.mem_append_left _ hx), fun x hx => ?_⟩, a k (by simp), b k (by simp), p3, fun x hx => ?_, fun x hx => b x (by simp [hx])⟩
    · have := p4 x hx k (by simp); simpa [below] using this
    · have := p2 x hx; simpa [above] using this
  · rintro ⟨⟨p1, a1, b1⟩, ha, hb, p3, a2, b2⟩
    have b1' : ∀ x ∈ w, x < k := fun x hx => by have := b1 x hx; simpa [below] using this
    have a2' : ∀ x ∈ r, k < x := fun x hx => by have := a2 x hx; simpa [above] using this
    refine ⟨⟨p1, ⟨fun x hx => a2' x hx, p3⟩, fun x hx y hy => ?_⟩, fun x hx => ?_, fun x hx => ?_⟩
    · rcases List.mem_cons.mp hy with rfl | hy
      · exact b1' x hx
      · have q1 := b1' x hx
        have q2 := a2' y hy
        (first | lia | omega)
    · rcases List.mem_append.mp hx with hx | hx
      · exact a1 x hx
      · rcases List.mem_cons.mp hx with rfl | hx
        · exact ha
        · exact above_trans ha (a2' x hx)
    · rcases List.mem_append.mp hx with hx | hx
      · exact below_trans hb (b1' x hx)
      · rcases List.mem_cons.mp hx with rfl | hx
        · exact hb
        · exact b2 x hx

theorem weave_chain {hi : Option Int} : ∀ (ks : List Int) (ws : List (List Int)) (lo : Option Int), ws.length = ks.length + 1 →
    (chain lo (weave ks ws) hi ↔ rowOk lo hi ks = true ∧ ∀ i, i < ws.length → chain (winLo lo ks i) (ws.getD i []) (winHi hi ks i))
  | _, [], _, h => by simp at h
  | [], w :: ws, lo, h => by
    have : ws = [] := by cases ws with | nil => rfl | cons _ _ => simp at h
    subst this
    simp only [weave, rowOk, List.length_nil, List.range_zero, List.all_nil, true_and, List.length_cons]
    constructor
    · intro q i hi'
      have : i = 0 := by (first | lia | omega)
      subst this
      simpa [winLo, winHi] using q
    · intro q
      simpa [winLo, winHi] using q 0 (by (first | lia | omega))
  | k :: ks, w :: ws, lo, h => by
    have ih := weave_chain (hi := hi) ks ws (some k) (by simpa using h)
    rw [weave, chain_join, rowOk_cons, ih]
    constructor
    · rintro ⟨q1, q2, q3, q4, q5⟩
      refine ⟨⟨q2, q3, q4⟩, fun i hi' => ?_⟩
      cases i with
      | zero => simpa [winLo, winHi] using q1
      | succ i =>
        rw [winLo_cons, winHi_cons]
        simpa using q5 i (by simpa using hi')
    · rintro ⟨⟨q2, q3, q4⟩, q5⟩
      refine ⟨?_, q2, q3, q4, fun i hi' => ?_⟩
      · simpa [winLo, winHi] using q5 0 (by simp)
      · have := q5 (i + 1) (by simpa using hi')
        rw [winLo_cons, winHi_cons] at this
        simpa using this

theorem rowOk_chain {hi : Option Int} : ∀ (ks : List Int) (lo : Option Int), rowOk lo hi ks = true ↔ chain lo ks hi
  | [], lo => by simp [rowOk, chain]
  | k :: ks, lo => by
    have := chain_join (lo := lo) (hi := hi) (k := k) (w := []) (r := ks)
    rw [rowOk_cons, rowOk_chain ks (some k), ← List.nil_append (k :: ks), this]
    simp [chain]

theorem keys_chain : ∀ (d : Nat) (x : T) (lo hi : Option Int), wfD d x → keysOk d x lo hi = some (decide (chain lo (inord d x) hi))
  | 0, _, _, _, h => h.elim
  | d + 1, .node ks vs cs, lo, hi, ⟨_, hc, hk⟩ => by
    have e : allM (fun i => keysOk d (cs.getD i T.nil) (winLo lo ks i) (winHi hi ks i)) (List.range cs.length) = some ((List.range cs.length).all fun i => decide (chain (winLo lo ks i) (inord d (cs.getD i T.nil)) (winHi hi ks i))) :=
      allM_some fun i hi' => keys_chain d _ _ _ (hk _ (getD_mem (List.mem_range.mp hi')))
    rw [keysOk, e, inord]
    rcases hc with rfl | hc
    · simp only [List.map_nil, List.length_nil, List.range_zero, List.all_nil]
      have hw : weave ks [] = ks := by cases ks <;> rfl
      rw [hw]
      cases hr : rowOk lo hi ks with
      | true => rw [if_pos rfl, decide_eq_true ((rowOk_chain ks lo).mp hr)]
      | false =>
        have : ¬ chain lo ks hi := fun q => by rw [(rowOk_chain ks lo).mpr q] at hr; cases hr
        rw [if_neg Bool.false_ne_true, decide_eq_false this]
    · have hw := weave_chain (hi := hi) ks (cs.map (inord d)) lo (by simpa using hc)
      have hz : ∀ i, i < cs.length → (cs.map (inord d)).getD i [] = inord d (cs.getD i T.nil) := fun i hi' => by simp [hi']
      cases hr : rowOk lo hi ks with
      | true =>
        simp only [if_true]
        congr 1
        rw [Bool.eq_iff_iff, decide_eq_true_eq, hw, List.all_eq_true]
        simp only [List.mem_range, decide_eq_true_eq, hr, true_and, List.length_map]
        constructor
        · intro q i hi'; rw [hz i hi']; exact q i hi'
        · intro q i hi'; rw [← hz i hi']; exact q i hi'
      | false =>
        have : ¬ chain lo (weave ks (cs.map (inord d))) hi := fun q => by rw [(hw.mp q).1] at hr; cases hr
        rw [if_neg Bool.false_ne_true, decide_eq_false this]

/-! the nest's walk is the row -/
theorem slc_join {α : Type} (l : List α) (dv : α) {s m e : Nat} (h1 : s ≤ m) (h2 : m < e) (h3 : e ≤ l.length) : slc l s m ++ l.getD m dv :: slc l (m + 1) e = slc l s e := by
  unfold slc
  have q1 : e - s = (m - s) + ((e - (m + 1)) + 1) := by lia
  have q2 : s + (m - s) = m := by lia
  have q3 : m < l.length := Nat.lt_of_lt_of_le h2 h3
  rw [q1, List.take_add, List.drop_drop, q2, List.drop_eq_getElem_cons q3, List.take_succ_cons, List.getD_eq_getElem?_getD, List.getElem?_eq_getElem q3]
  rfl
theorem weave_one {α : Type} (k : α) (x y : List α) : weave [k] [x, y] = x ++ k :: y := rfl
theorem weave_nil {α : Type} (l : List α) : weave l [] = l := by cases l <;> rfl

theorem inord_leaf (row vals : List Int) (lo hi d : Nat) : inord (d + 1) (leafT row vals lo hi) = slc row lo hi := by
  unfold leafT; rw [inord, List.map_nil, weave_nil]
theorem inord_kid {row vals : List Int} {s d : Nat} {g : G} (h : s + g.len ≤ row.length) : inord (d + 2) (kidT row vals s g) = slc row s (s + g.len) := by
  unfold kidT
  cases hd : g.dp with
  | false =>
    have hl : g.len = g.a := by simp [G.len, hd]
    simp only [Bool.false_eq_true, if_false, inord_leaf, hl]
  | true =>
    have hl : g.len = g.a + 1 + g.b := by simp [G.len, hd]
    rw [hl] at h ⊢
    simp only [if_true]
    rw [inord, List.map_cons, List.map_cons, List.map_nil, inord_leaf, inord_leaf, weave_one, slc_join row 0 (by (first | lia | omega)) (by (first | lia | omega)) (by (first | lia | omega))]
    congr 1
    (first | lia | omega)
theorem inord_kids {row vals : List Int} {d : Nat} : ∀ (gs : List G) (s : Nat), gs ≠ [] → endL gs s ≤ row.length + 1 → weave ((keysL row gs s).take (gs.length - 1)) ((kidsL row vals gs s).map (inord (d + 2))) = slc row s (endL gs s - 1)
  | [], _, h, _ => absurd rfl h
  | [g], s, _, h => by
    simp only [endL] at h
    simp only [keysL, kidsL, List.length_cons, List.length_nil, List.map_cons, List.map_nil, endL]
    rw [inord_kid (by (first | lia | omega))]
    rfl
  | g :: g' :: gs, s, _, h => by
    rw [endL] at h
    have ih := inord_kids (row := row) (vals := vals) (d := d) (g' :: gs) (s + g.len + 1) (by simp) h
    have hge := endL_ge gs (s + g.len + 1 + g'.len + 1)
    have he : endL (g' :: gs) (s + g.len + 1) = endL gs (s + g.len + 1 + g'.len + 1) := rfl
    rw [keysL, kidsL, List.map_cons, inord_kid (by (first | lia | omega))]
    have hl : (g :: g' :: gs).length - 1 = (g' :: gs).length - 1 + 1 := by simp
    rw [hl, List.take_succ_cons, weave, ih]
    conv => rhs; rw [endL]
    exact slc_join row 0 (by (first | lia | omega)) (by (first | lia | omega)) (by (first | lia | omega))
theorem inord_nest {row vals : List Int} {gs : List G} (hg : gs ≠ []) (h : endL gs 0 ≤ row.length + 1) : inord 3 (nestT row vals gs) = row.take (usedN gs) := by
  unfold nestT usedN
  rw [inord, inord_kids gs 0 hg h]
  simp [slc]

theorem wf_leaf {row vals : List Int} {lo hi d : Nat} (h1 : hi ≤ row.length) (h2 : hi ≤ vals.length) : wfD (d + 1) (leafT row vals lo hi) :=
  ⟨by rw [slc_length _ h1, slc_length _ h2], .inl rfl, fun c hc => nomatch hc⟩
theorem wf_kid {row vals : List Int} {s d : Nat} {g : G} (h1 : s + g.len ≤ row.length) (h2 : s + g.len ≤ vals.length) : wfD (d + 2) (kidT row vals s g) := by
  unfold kidT
  cases hd : g.dp with
  | false =>
    have hl : g.len = g.a := by simp [G.len, hd]
    simp only [Bool.false_eq_true, if_false]
    exact wf_leaf (by (first | lia | omega)) (by (first | lia | omega))
  | true =>
    have hl : g.len = g.a + 1 + g.b := by simp [G.len, hd]
    simp only [if_true]
    refine ⟨rfl, .inr rfl, fun c hc => ?_⟩
    simp only [List.mem_cons, List.not_mem_nil, or_false] at hc
    rcases hc with rfl | rfl
    · exact wf_leaf (by (first | lia | omega)) (by (first | lia | omega))
    · exact wf_leaf (by (first | lia | omega)) (by (first | lia | omega))
theorem wf_kids {row vals : List Int} {d : Nat} : ∀ (gs : List G) (s : Nat), endL gs s ≤ row.length + 1 → endL gs s ≤ vals.length + 1 → ∀ c ∈ kidsL row vals gs s, wfD (d + 2) c
  | [], _, _, _, _, hc => nomatch hc
  | g :: gs, s, h1, h2, c, hc => by
    rw [endL] at h1 h2
    have := endL_ge gs (s + g.len + 1)
    rw [kidsL] at hc
    rcases List.mem_cons.mp hc with rfl | hc
    · exact wf_kid (by (first | lia | omega)) (by (first | lia | omega))
    · exact wf_kids gs _ h1 h2 c hc
theorem wf_nest {row vals : List Int} {gs : List G} {d : Nat} (hg : gs ≠ []) (h1 : endL gs 0 ≤ row.length + 1) (h2 : endL gs 0 ≤ vals.length + 1) : wfD (d + 3) (nestT row vals gs) := by
  have hl : 1 ≤ gs.length := by cases gs with | nil => exact absurd rfl hg | cons _ _ => simp
  refine ⟨by rw [List.length_take, List.length_take, keysL_length, keysL_length], .inr (by rw [kidsL_length, List.length_take, keysL_length]; (first | lia | omega)), wf_kids gs 0 h1 h2⟩

/-- the law on keys -/
theorem keys_law {row vals : List Int} {gs : List G} {d : Nat} {lo hi : Option Int} {mn mx : Int} (hg : gs ≠ []) (h1 : endL gs 0 ≤ row.length + 1) (h2 : endL gs 0 ≤ vals.length + 1)
    (hmn : mn ∈ row.take (usedN gs)) (hmn' : ∀ x ∈ row.take (usedN gs), mn ≤ x) (hmx : mx ∈ row.take (usedN gs)) (hmx' : ∀ x ∈ row.take (usedN gs), x ≤ mx)
    (hlo : ∀ l, lo = some l → l ≤ mn) (hhi : ∀ h, hi = some h → mx ≤ h) :
    fits (keysOk d (nestT row vals gs) lo hi) (decide ((row.take (usedN gs)).Pairwise (· < ·)) && decide (lo ≠ some mn) && decide (hi ≠ some mx)) false (decide (needN gs ≤ d)) = true := by
  have hw : keysOk 3 (nestT row vals gs) lo hi = some (decide ((row.take (usedN gs)).Pairwise (· < ·)) && decide (lo ≠ some mn) && decide (hi ≠ some mx)) := by
    rw [keys_chain 3 _ _ _ (wf_nest hg h1 h2), inord_nest hg h1]
    congr 1
    rw [Bool.eq_iff_iff]
    simp only [decide_eq_true_eq, Bool.and_eq_true]
    constructor
    · rintro ⟨p, a, b⟩
      refine ⟨⟨p, fun e => ?_⟩, fun e => ?_⟩
      · have := a mn hmn; rw [e] at this; simp [above] at this
      · have := b mx hmx; rw [e] at this; simp [below] at this
    · rintro ⟨⟨p, a⟩, b⟩
      refine ⟨p, fun x hx => ?_, fun x hx => ?_⟩
      · cases lo with
        | none => rfl
        | some l =>
          have q1 := hlo l rfl
          have q2 := hmn' x hx
          have q3 : l ≠ mn := fun e => a (by rw [e])
          simp only [above, decide_eq_true_eq]; (first | lia | omega)
      · cases hi with
        | none => rfl
        | some l =>
          have q1 := hhi l rfl
          have q2 := hmx' x hx
          have q3 : l ≠ mx := fun e => b (by rw [e])
          simp only [below, decide_eq_true_eq]; (first | lia | omega)
  refine fits_law (F := fun d x => keysOk d x lo hi) (fun d x b h => keys_mono d x lo hi b h) hw (fun he => ?_) fun b hb hb' => ?_
  · exact keys_ne_none _ _ _ _ ((fits_nest row vals hg d).mpr (of_decide_eq_true he))
  · have : b = true := by cases b; exact absurd rfl hb'; rfl
    subst this
    exact decide_eq_true ((fits_nest row vals hg d).mp (keys_true _ _ _ _ hb))

/-! levels -/
theorem levM_all {α : Type} {f : α → Option Int} {x : Int} : ∀ {cs : List α}, (∀ c ∈ cs, f c = some x) → levM f x cs = some (x + 1)
  | [], _ => rfl
  | c :: cs, h => by
    rw [levM, h c (.head _)]
    simpa using levM_all fun c hc => h c (.tail _ hc)
theorem levM_odd {α : Type} {f : α → Option Int} {x : Int} : ∀ {cs : List α}, (∀ c ∈ cs, f c ≠ none) → (∃ c ∈ cs, f c ≠ some x) → levM f x cs = some (-1)
  | [], _, h => by obtain ⟨c, hc, _⟩ := h; cases hc
  | c :: cs, h, h' => by
    rw [levM]
    cases hf : f c with
    | none => exact absurd hf (h c (.head _))
    | some y =>
      dsimp only
      split
      · rfl
      · rename_i hy
        have hy' : y = x := by simpa using hy
        subst hy'
        refine levM_odd (fun c hc => h c (.tail _ hc)) ?_
        obtain ⟨c', hc', hn⟩ := h'
        rcases List.mem_cons.mp hc' with rfl | hc'
        · exact absurd hf hn
        · exact ⟨c', hc', hn⟩
theorem level_kid (row vals : List Int) (s d : Nat) (g : G) : leafLevel (d + 2) (kidT row vals s g) = some (if g.dp then 1 else 0) := by
  unfold kidT leafT
  cases g.dp <;> simp [leafLevel, levM]
theorem level_kids (row vals : List Int) (d : Nat) : ∀ (gs : List G) (s : Nat), ∀ c ∈ kidsL row vals gs s, ∃ g ∈ gs, leafLevel (d + 2) c = some (if g.dp then 1 else 0)
  | [], _, _, hc => nomatch hc
  | g :: gs, s, c, hc => by
    rw [kidsL] at hc
    rcases List.mem_cons.mp hc with rfl | hc
    · exact ⟨g, .head _, level_kid ..⟩
    · obtain ⟨g', hg', e⟩ := level_kids row vals d gs _ c hc
      exact ⟨g', .tail _ hg', e⟩
theorem level_kids' (row vals : List Int) (d : Nat) : ∀ (gs : List G) (s : Nat), ∀ g ∈ gs, ∃ c ∈ kidsL row vals gs s, leafLevel (d + 2) c = some (if g.dp then 1 else 0)
  | [], _, _, hc => nomatch hc
  | g :: gs, s, g', hg => by
    rw [kidsL]
    rcases List.mem_cons.mp hg with rfl | hg
    · exact ⟨_, .head _, level_kid ..⟩
    · obtain ⟨c', hc', e⟩ := level_kids' row vals d gs (s + g.len + 1) g' hg
      exact ⟨c', .tail _ hc', e⟩

/-- the level that the law expects -/
noncomputable def levelZ (gs : List G) : Int := if gs.all (·.dp) then 2 else if gs.any (·.dp) then -1 else 1
theorem level_nest (row vals : List Int) {gs : List G} (hg : gs ≠ []) (d : Nat) : leafLevel (d + 3) (nestT row vals gs) = some (levelZ gs) := by
  cases gs with
  | nil => exact absurd rfl hg
  | cons g gs =>
    unfold nestT
    rw [leafLevel, kidsL]
    simp only [List.isEmpty_cons, Bool.false_eq_true, if_false, List.getD_cons_zero, level_kid, List.drop_succ_cons, List.drop_zero]
    have hx : ¬ ((if g.dp = true then (1 : Int) else 0) < 0) := by split <;> (first | lia | omega)
    rw [if_neg hx]
    by_cases hall : ∀ g' ∈ gs, g'.dp = g.dp
    · rw [levM_all (x := if g.dp then 1 else 0) fun c hc => ?_]
      · unfold levelZ
        cases hd : g.dp with
        | true =>
          have : (g :: gs).all (·.dp) = true := by rw [List.all_eq_true]; intro y hy; rcases List.mem_cons.mp hy with rfl | hy; exact hd; rw [hall y hy, hd]
          rw [if_pos this]; rfl
        | false =>
          have h1 : ¬ (g :: gs).all (·.dp) = true := by rw [List.all_cons, hd]; simp
          have h2 : ¬ (g :: gs).any (·.dp) = true := by
            rw [List.any_eq_true]; rintro ⟨y, hy, hy'⟩
            rcases List.mem_cons.mp hy with rfl | hy
            · rw [hd] at hy'; cases hy'
            · rw [hall y hy, hd] at hy'; cases hy'
          rw [if_neg h1, if_neg h2]; rfl
      · obtain ⟨g', hg', e⟩ := level_kids row vals d gs _ c hc
        rw [e, hall g' hg']
    · have hex : ∃ g' ∈ gs, g'.dp ≠ g.dp := by
        apply Classical.byContradiction
        intro q
        exact hall fun g' hg' => Classical.byContradiction fun q' => q ⟨g', hg', q'⟩
      obtain ⟨g', hg', hne⟩ := hex
      have hodd : levM (leafLevel (d + 2)) (if g.dp = true then (1 : Int) else 0) (kidsL row vals gs (0 + g.len + 1)) = some (-1) := by
        refine levM_odd (fun c hc => ?_) ?_
        · obtain ⟨g'', _, e⟩ := level_kids row vals d gs _ c hc
          rw [e]; simp
        · obtain ⟨c, hc, e⟩ := level_kids' row vals d gs (0 + g.len + 1) g' hg'
          refine ⟨c, hc, ?_⟩
          rw [e]
          intro q
          have q := Option.some.inj q
          apply hne
          revert q
          cases g'.dp <;> cases g.dp <;> simp
      rw [hodd]
      · unfold levelZ
        have h1 : ¬ (g :: gs).all (·.dp) = true := by
          rw [List.all_eq_true]; intro q
          exact hne ((q g' (.tail _ hg')).trans (q g (.head _)).symm)
        have h2 : (g :: gs).any (·.dp) = true := by
          rw [List.any_eq_true]
          cases hd : g.dp with
          | true => exact ⟨g, .head _, hd⟩
          | false => exact ⟨g', .tail _ hg', by rw [hd] at hne; simpa using hne⟩
        rw [if_neg h1, if_pos h2]
theorem level_law {row vals : List Int} {gs : List G} {d : Nat} (hg : gs ≠ []) : fits (leafLevel d (nestT row vals gs)) (levelZ gs) (-1) (decide (needN gs ≤ d)) = true := by
  refine fits_law (F := leafLevel) level_mono (level_nest row vals hg 0) (fun he => ?_) fun b hb hb' => ?_
  · exact level_ne_none _ _ ((fits_nest row vals hg d).mpr (of_decide_eq_true he))
  · exact decide_eq_true ((fits_nest row vals hg d).mp (level_real _ _ _ hb hb').1)
noncomputable def twinT (x : T) : T := .node [0] [0] [x, x]
theorem twin_law {row vals : List Int} {gs : List G} {d : Nat} (hg : gs ≠ []) : fits (leafLevel d (twinT (nestT row vals gs))) (if levelZ gs > 0 then levelZ gs + 1 else -1) (-1) (decide (needN gs < d)) = true := by
  have hft : ∀ d, fitsD d (twinT (nestT row vals gs)) ↔ needN gs < d := by
    intro d
    unfold twinT
    cases d with
    | zero => simp [fitsD]
    | succ d =>
      simp only [fitsD, List.mem_cons, List.not_mem_nil, or_false, or_self, forall_eq]
      rw [fits_nest row vals hg d]; (first | lia | omega)
  have hw : leafLevel 4 (twinT (nestT row vals gs)) = some (if levelZ gs > 0 then levelZ gs + 1 else -1) := by
    unfold twinT
    rw [leafLevel]
    simp only [List.isEmpty_cons, Bool.false_eq_true, if_false, List.getD_cons_zero, List.drop_succ_cons, List.drop_zero]
    rw [level_nest row vals hg 0]
    dsimp only
    have hz : levelZ gs = 2 ∨ levelZ gs = -1 ∨ levelZ gs = 1 := by unfold levelZ; (repeat' split) <;> simp
    split
    · rw [if_neg (by (first | lia | omega))]
    · rw [if_pos (by (first | lia | omega)), levM, level_nest row vals hg 0]
      simp [levM]
  refine fits_law (F := leafLevel) level_mono hw (fun he => ?_) fun b hb hb' => ?_
  · exact level_ne_none _ _ ((hft d).mpr (of_decide_eq_true he))
  · exact decide_eq_true ((hft d).mp (level_real _ _ _ hb hb').1)
end Mine
namespace Mine

/-! range_pairs -/
theorem rngM_some {g : Nat → Option (List (Int × Int))} {own : Nat → List (Int × Int)} : ∀ {is : List Nat} {acc l : List (Int × Int)}, rngM g own is acc = some l → (∀ i ∈ is, g i ≠ none) ∧ l = acc ++ is.flatMap fun i => (g i).getD [] ++ own i
  | [], acc, l, h => by
    rw [rngM] at h
    cases h
    exact ⟨(fun _ h => (nomatch h)), by simp⟩
  | i :: is, acc, l, h => by
    rw [rngM] at h
    cases hg : g i with
    | none => rw [hg] at h; cases h
    | some x =>
      rw [hg] at h
      obtain ⟨h1, h2⟩ := rngM_some h
      refine ⟨fun j hj => ?_, ?_⟩
      · rcases List.mem_cons.mp hj with rfl | hj
        · rw [hg]; simp
        · exact h1 j hj
      · rw [h2, List.flatMap_cons, hg]; simp
theorem rngM_none {g : Nat → Option (List (Int × Int))} {own : Nat → List (Int × Int)} : ∀ {is : List Nat} {acc : List (Int × Int)}, rngM g own is acc = none ↔ ∃ i ∈ is, g i = none
  | [], acc => by simp [rngM]
  | i :: is, acc => by
    rw [rngM]
    cases hg : g i with
    | none => simp [hg]
    | some x => simp only [rngM_none, List.mem_cons, exists_eq_or_imp, hg, reduceCtorEq, false_or]

noncomputable def inordP : Nat → T → List (Int × Int)
  | 0, _ => []
  | d + 1, .node ks vs cs => weave (ks.zip vs) (cs.map (inordP d))

theorem weave_map {α β : Type} (f : α → β) : ∀ (ks : List α) (ws : List (List α)), (weave ks ws).map f = weave (ks.map f) (ws.map (List.map f))
  | ks, [] => by simp [weave_nil]
  | [], w :: ws => by simp [weave]
  | k :: ks, w :: ws => by simp [weave, weave_map f ks ws]
theorem zip_fst {ks vs : List Int} (h : vs.length = ks.length) : (ks.zip vs).map Prod.fst = ks := by
  apply List.ext_getElem
  · simp [h]
  · intro i h1 h2; simp
theorem inordP_fst : ∀ (d : Nat) (x : T), wfD d x → (inordP d x).map Prod.fst = inord d x
  | 0, _, h => h.elim
  | d + 1, .node ks vs cs, ⟨hv, _, hk⟩ => by
    rw [inordP, inord, weave_map, zip_fst hv, List.map_map]
    congr 1
    apply List.map_congr_left
    intro c hc
    exact inordP_fst d c (hk c hc)

noncomputable def inR (lo hi : Int) (p : Int × Int) : Bool := decide (lo ≤ p.1 ∧ p.1 ≤ hi)

theorem weave_filter (p : Int × Int → Bool) : ∀ (ks : List (Int × Int)) (ws : List (List (Int × Int))), ws.length = ks.length + 1 →
    (weave ks ws).filter p = (List.range ws.length).flatMap fun i => (ws.getD i []).filter p ++ (if i < ks.length ∧ p (ks.getD i (0, 0)) = true then [ks.getD i (0, 0)] else [])
  | _, [], h => by simp at h
  | [], w :: ws, h => by
    have : ws = [] := by cases ws with | nil => rfl | cons _ _ => simp at h
    subst this
    simp [weave]
  | k :: ks, w :: ws, h => by
    have ih := weave_filter p ks ws (by simpa using h)
    have hl : (w :: ws).length = ws.length + 1 := rfl
    rw [hl, weave, List.filter_append, List.filter_cons, ih, List.range_succ_eq_map, List.flatMap_cons, List.flatMap_map]
    have e : ∀ (x : List (Int × Int)), (if p k = true then k :: x else x) = (if p k = true then [k] else []) ++ x := by intro x; split <;> simp
    rw [e]
    simp

theorem getD_zip {ks vs : List Int} (h : vs.length = ks.length) {i : Nat} (hi : i < ks.length) : (ks.zip vs).getD i (0, 0) = (ks.getD i 0, vs.getD i 0) := by
  have hv : i < vs.length := by (first | lia | omega)
  rw [List.getD_eq_getElem?_getD, List.getElem?_eq_getElem (by rw [List.length_zip]; (first | lia | omega)), List.getElem_zip, List.getD_eq_getElem?_getD, List.getD_eq_getElem?_getD, List.getElem?_eq_getElem hi, List.getElem?_eq_getElem hv]
  rfl
theorem flatMap_same {α β : Type} {f g : α → List β} : ∀ {l : List α}, (∀ x ∈ l, f x = g x) → l.flatMap f = l.flatMap g
  | [], _ => rfl
  | x :: l, h => by rw [List.flatMap_cons, List.flatMap_cons, h x (.head _), flatMap_same fun y hy => h y (.tail _ hy)]
theorem own_is {ks vs : List Int} (h : vs.length = ks.length) (lo hi : Int) (i : Nat) : ownPair ks vs lo hi i = if i < (ks.zip vs).length ∧ inR lo hi ((ks.zip vs).getD i (0, 0)) = true then [(ks.zip vs).getD i (0, 0)] else [] := by
  have hl : (ks.zip vs).length = ks.length := by simp [h]
  rw [hl]
  unfold ownPair inR
  by_cases hi' : i < ks.length
  · rw [getD_zip h hi']
    simp only [decide_eq_true_eq]
  · rw [if_neg (fun q => hi' q.1), if_neg (fun q => hi' q.1)]

theorem weave_blank {α : Type} : ∀ (ks : List α), weave ks (List.replicate (ks.length + 1) []) = ks
  | [] => rfl
  | k :: ks => by
    have := weave_blank ks
    rw [List.length_cons, List.replicate_succ, weave, this]; rfl

theorem filter_none {l : List (Int × Int)} {p : Int × Int → Bool} (h : ∀ x ∈ l, p x = false) : l.filter p = [] := by
  rw [List.filter_eq_nil_iff]
  intro x hx; rw [h x hx]; simp

/-- what range_pairs gives where its budget serves -/
theorem range_value : ∀ (d : Nat) (x : T) (lo hi : Int) (l : List (Int × Int)), wfD d x → (inord d x).Pairwise (· < ·) → rangePairs d x lo hi = some l → l = (inordP d x).filter (inR lo hi)
  | 0, _, _, _, _, h, _, _ => h.elim
  | d + 1, .node ks vs cs, lo, hi, l, hw, hp, h => by
    have hfst := inordP_fst (d + 1) (.node ks vs cs) hw
    obtain ⟨hv, hc, hk⟩ := hw
    rw [rangePairs] at h
    split at h
    · rename_i hlt
      cases h
      rw [filter_none]
      intro p _
      simp only [inR, decide_eq_false_iff_not]
      (first | lia | omega)
    · obtain ⟨hn, hl⟩ := rngM_some h
      rw [hl, List.nil_append, inordP]
      have hzl : (ks.zip vs).length = ks.length := by simp [hv]
      rcases hc with rfl | hc
      · have hb := weave_filter (inR lo hi) (ks.zip vs) (List.replicate ((ks.zip vs).length + 1) []) (by simp)
        rw [weave_blank] at hb
        rw [List.map_nil, weave_nil, hb]
        simp only [List.length_replicate, hzl]
        congr 1
        funext i
        rw [own_is hv, hzl]
        have hr : (List.replicate (ks.length + 1) ([] : List (Int × Int))).getD i [] = [] := by
          rw [List.getD_eq_getElem?_getD, List.getElem?_replicate]; split <;> rfl
        rw [hr, if_neg (by simp [meets])]
        simp
      · rw [weave_filter _ _ _ (by simp [hc, hzl])]
        simp only [List.length_map, hc]
        apply flatMap_same
        intro i hi'
        have hi' : i < cs.length := by rw [hc]; exact List.mem_range.mp hi'
        rw [own_is hv]
        congr 1
        have hz : (cs.map (inordP d)).getD i [] = inordP d (cs.getD i T.nil) := by simp [hi']
        rw [hz]
        have hci : cs.getD i T.nil ∈ cs := getD_mem hi'
        have hwi := hk _ hci
        -- the chain of the whole gives the child's window
        have hch : chain none (weave ks (cs.map (inord d))) none := ⟨hp, fun _ _ => rfl, fun _ _ => rfl⟩
        have hwin := ((weave_chain ks (cs.map (inord d)) none (by simpa using hc)).mp hch).2 i (by simpa using hi')
        have hz2 : (cs.map (inord d)).getD i [] = inord d (cs.getD i T.nil) := by simp [hi']
        rw [hz2] at hwin
        have hnn := hn i (List.mem_range.mpr (by (first | lia | omega)))
        by_cases hm : meets ks cs lo hi i = true
        · rw [if_pos hm] at hnn ⊢
          cases hr : rangePairs d (cs.getD i T.nil) lo hi with
          | none => exact absurd hr hnn
          | some l' => exact range_value d _ lo hi l' hwi hwin.1 hr
        · rw [if_neg hm, filter_none]
          · rfl
          · intro p hp'
            have hpf : p.1 ∈ inord d (cs.getD i T.nil) := by
              rw [← inordP_fst d _ hwi]; exact List.mem_map.mpr ⟨p, hp', rfl⟩
            have q1 := hwin.2.1 p.1 hpf
            have q2 := hwin.2.2 p.1 hpf
            simp only [meets, Bool.and_eq_true, Bool.not_eq_true', Bool.or_eq_true, beq_iff_eq, decide_eq_true_eq] at hm
            have hne : cs.isEmpty = false := by
              cases cs with
              | nil => simp at hi'
              | cons _ _ => rfl
            simp only [hne, true_and] at hm
            simp only [inR, decide_eq_false_iff_not]
            intro q
            apply hm
            constructor
            · by_cases h0 : i = 0
              · exact .inl h0
              · right
                have : winLo none ks i = some (ks.getD (i - 1) 0) := by unfold winLo; rw [if_pos (by (first | lia | omega))]
                rw [this] at q1
                simp only [above, decide_eq_true_eq] at q1
                (first | lia | omega)
            · by_cases h0 : i = ks.length
              · exact .inl h0
              · right
                have : winHi none ks i = some (ks.getD i 0) := by unfold winHi; rw [if_pos (by (first | lia | omega))]
                rw [this] at q2
                simp only [below, decide_eq_true_eq] at q2
                (first | lia | omega)

/-! where the budget serves -/
noncomputable def gsAt : List G → Nat → List (Nat × G)
  | [], _ => []
  | g :: gs, s => (s, g) :: gsAt gs (s + g.len + 1)
theorem gsAt_length : ∀ (gs : List G) (s : Nat), (gsAt gs s).length = gs.length
  | [], _ => rfl
  | g :: gs, s => by simp [gsAt, gsAt_length gs]
theorem kidsL_at (row vals : List Int) : ∀ (gs : List G) (s : Nat), kidsL row vals gs s = (gsAt gs s).map fun p => kidT row vals p.1 p.2
  | [], _ => rfl
  | g :: gs, s => by simp [gsAt, kidsL, kidsL_at row vals gs]
theorem keysL_at (row : List Int) : ∀ (gs : List G) (s : Nat), keysL row gs s = (gsAt gs s).map fun p => row.getD (p.1 + p.2.len) 0
  | [], _ => rfl
  | g :: gs, s => by simp [gsAt, keysL, keysL_at row gs]
theorem nodesL_at : ∀ (gs : List G) (s : Nat), nodesL gs s = (gsAt gs s).flatMap fun p => nodesG p.1 p.2
  | [], _ => rfl
  | g :: gs, s => by simp [gsAt, nodesL, nodesL_at gs]
theorem gsAt_first : ∀ (gs : List G) (s : Nat), (h : 0 < (gsAt gs s).length) → ((gsAt gs s)[0]).1 = s
  | [], _, h => by simp [gsAt] at h
  | g :: gs, s, _ => rfl
theorem gsAt_next : ∀ (gs : List G) (s i : Nat) (h : i + 1 < (gsAt gs s).length), ((gsAt gs s)[i + 1]).1 = ((gsAt gs s)[i]).1 + ((gsAt gs s)[i]).2.len + 1
  | [], _, _, h => by simp [gsAt] at h
  | [g], s, i, h => by simp [gsAt] at h
  | g :: g' :: gs, s, 0, _ => rfl
  | g :: g' :: gs, s, i + 1, h => gsAt_next (g' :: gs) (s + g.len + 1) i (by simpa [gsAt] using h)
theorem gsAt_last : ∀ (gs : List G) (s : Nat) (h : gs.length - 1 < (gsAt gs s).length), ((gsAt gs s)[gs.length - 1]).1 + ((gsAt gs s)[gs.length - 1]).2.len = endL gs s - 1
  | [], _, h => by simp [gsAt] at h
  | [g], s, _ => by simp [gsAt, endL]
  | g :: g' :: gs, s, h => by
    have := gsAt_last (g' :: gs) (s + g.len + 1) (by simp [gsAt_length])
    simpa [gsAt, endL] using this
theorem gsAt_ge : ∀ (gs : List G) (s i : Nat) (h : i < (gsAt gs s).length), s ≤ ((gsAt gs s)[i]).1
  | [], _, _, h => by simp [gsAt] at h
  | g :: gs, s, 0, _ => Nat.le_refl _
  | g :: gs, s, i + 1, h => by
    have := gsAt_ge gs (s + g.len + 1) i (by simpa [gsAt] using h)
    simp only [gsAt, List.getElem_cons_succ]; (first | lia | omega)
theorem gsAt_before : ∀ (gs : List G) (s i : Nat) (h : i < (gsAt gs s).length), ((gsAt gs s)[i]).1 + ((gsAt gs s)[i]).2.len + 1 ≤ endL gs s ∧ (i + 1 < gs.length → ((gsAt gs s)[i]).1 + ((gsAt gs s)[i]).2.len + 1 < endL gs s)
  | [], _, _, h => by simp [gsAt] at h
  | g :: gs, s, 0, _ => by
    have := endL_ge gs (s + g.len + 1)
    refine ⟨by simpa [gsAt, endL] using this, fun h => ?_⟩
    cases gs with
    | nil => simp at h
    | cons g' gs =>
      have := endL_ge gs (s + g.len + 1 + g'.len + 1)
      simp only [gsAt, endL, List.getElem_cons_zero]; (first | lia | omega)
  | g :: gs, s, i + 1, h => by
    have := gsAt_before gs (s + g.len + 1) i (by simpa [gsAt] using h)
    simpa [gsAt, endL] using this

/-- the law's own test of a node's stretch -/
noncomputable def metN (row : List Int) (used : Nat) (lo hi : Int) (x : Nd) : Bool :=
  decide (lo ≤ hi) && (x.left == 0 || decide (row.getD (x.left - 1) 0 < hi)) && (x.right == used || decide (row.getD x.right 0 > lo))
noncomputable def reachN (row : List Int) (used : Nat) (lo hi : Int) (l : List Nd) : Nat := l.foldl (fun r x => if metN row used lo hi x then max r (x.lev + 1) else r) 1

theorem fold_ge (p : Nd → Bool) (k : Nat) : ∀ (l : List Nd) (r : Nat), k ≤ l.foldl (fun r x => if p x then max r (x.lev + 1) else r) r ↔ k ≤ r ∨ ∃ x ∈ l, p x = true ∧ k ≤ x.lev + 1
  | [], r => by simp
  | x :: l, r => by
    rw [List.foldl_cons, fold_ge p k l]
    simp only [List.mem_cons, exists_eq_or_imp]
    by_cases hp : p x = true
    · rw [if_pos hp]
      simp only [hp, true_and]
      constructor
      · rintro (q | q)
        · by_cases q' : k ≤ r
          · exact .inl q'
          · exact .inr (.inl (by (first | lia | omega)))
        · exact .inr (.inr q)
      · rintro (q | q | q)
        · exact .inl (by (first | lia | omega))
        · exact .inl (by (first | lia | omega))
        · exact .inr q
    · rw [if_neg hp]
      simp only [hp, Bool.false_eq_true, false_and, false_or]

theorem row_lt {row : List Int} (hp : row.Pairwise (· < ·)) {i j : Nat} (h : i < j) (hj : j < row.length) : row.getD i 0 < row.getD j 0 := by
  have := List.pairwise_iff_getElem.mp hp i j (by (first | lia | omega)) hj h
  rw [List.getD_eq_getElem?_getD, List.getD_eq_getElem?_getD, List.getElem?_eq_getElem (by (first | lia | omega)), List.getElem?_eq_getElem hj]
  exact this

theorem range_leaf (row vals : List Int) (l h d : Nat) (lo hi : Int) : rangePairs (d + 1) (leafT row vals l h) lo hi ≠ none := by
  unfold leafT
  rw [rangePairs]
  split
  · simp
  · rw [ne_eq, rngM_none]
    rintro ⟨i, _, q⟩
    simp [meets] at q

theorem range_kid2 (row vals : List Int) (s d : Nat) (g : G) (lo hi : Int) : rangePairs (d + 2) (kidT row vals s g) lo hi ≠ none := by
  unfold kidT
  cases hd : g.dp with
  | false =>
    simp only [Bool.false_eq_true, if_false]
    exact range_leaf row vals s (s + g.a) (d + 1) lo hi
  | true =>
    simp only [if_true]
    rw [rangePairs]
    split
    · simp
    · rw [ne_eq, rngM_none]
      rintro ⟨i, hi', q⟩
      simp only [List.length_cons, List.length_nil, List.mem_range] at hi'
      have h2 : i = 0 ∨ i = 1 := by (first | lia | omega)
      split at q
      · rcases h2 with rfl | rfl
        · exact range_leaf _ _ _ _ _ _ _ q
        · exact range_leaf _ _ _ _ _ _ _ q
      · cases q
theorem range_kid1 (row vals : List Int) (s : Nat) (g : G) {lo hi : Int} (hlh : lo ≤ hi) : rangePairs 1 (kidT row vals s g) lo hi = none ↔ g.dp = true ∧ (row.getD (s + g.a) 0 > lo ∨ row.getD (s + g.a) 0 < hi) := by
  unfold kidT
  cases hd : g.dp with
  | false =>
    simp only [Bool.false_eq_true, if_false, false_and, iff_false]
    exact range_leaf row vals s (s + g.a) 0 lo hi
  | true =>
    simp only [if_true, true_and]
    rw [rangePairs, if_neg (by (first | lia | omega)), rngM_none]
    constructor
    · rintro ⟨i, hi', q⟩
      simp only [List.length_cons, List.length_nil, List.mem_range] at hi'
      have h2 : i = 0 ∨ i = 1 := by (first | lia | omega)
      split at q
      · rename_i hm
        rcases h2 with rfl | rfl
        · simp [meets] at hm; left; simpa using hm
        · simp [meets] at hm; right; simpa using hm
      · cases q
    · rintro (q | q)
      · refine ⟨0, by simp, ?_⟩
        rw [if_pos (by simpa [meets] using q)]; rfl
      · refine ⟨1, by simp, ?_⟩
        rw [if_pos (by simpa [meets] using q)]; rfl

section
variable {row vals : List Int} {gs : List G} {lo hi : Int}
/-- a child of the root is entered just where the law's test of its node says so -/
theorem meets_root (hg : 2 ≤ gs.length) {i : Nat} (h : i < (gsAt gs 0).length) :
    meets ((keysL row gs 0).take (gs.length - 1)) (kidsL row vals gs 0) lo hi i = true ↔
      ((((gsAt gs 0)[i]).1 = 0 ∨ row.getD (((gsAt gs 0)[i]).1 - 1) 0 < hi) ∧ (((gsAt gs 0)[i]).1 + ((gsAt gs 0)[i]).2.len = usedN gs ∨ row.getD (((gsAt gs 0)[i]).1 + ((gsAt gs 0)[i]).2.len) 0 > lo)) := by
  have hl := gsAt_length gs 0
  have hkl := kidsL_length row vals gs 0
  have hne : (kidsL row vals gs 0).isEmpty = false := by
    cases hk : kidsL row vals gs 0 with
    | nil => rw [hk] at hkl; simp at hkl; (first | lia | omega)
    | cons _ _ => rfl
  have hrl : ((keysL row gs 0).take (gs.length - 1)).length = gs.length - 1 := by rw [List.length_take, keysL_length]; (first | lia | omega)
  have hkey : ∀ j, (hj : j < gs.length - 1) → ((keysL row gs 0).take (gs.length - 1)).getD j 0 = row.getD (((gsAt gs 0)[j]'(by (first | lia | omega))).1 + ((gsAt gs 0)[j]'(by (first | lia | omega))).2.len) 0 := by
    intro j hj
    rw [keysL_at, List.getD_eq_getElem?_getD, List.getElem?_take_of_lt hj, List.getElem?_map, List.getElem?_eq_getElem (by (first | lia | omega))]
    rfl
  simp only [meets, hne, hrl, Bool.not_false, Bool.true_and, Bool.and_eq_true, Bool.or_eq_true, beq_iff_eq, decide_eq_true_eq]
  have hlast := gsAt_last gs 0 (by (first | lia | omega))
  have hbef := gsAt_before gs 0 i h
  refine and_congr ?_ ?_
  · cases i with
    | zero => simp [gsAt_first]
    | succ i =>
      have hn := gsAt_next gs 0 i h
      rw [hkey (i + 1 - 1) (by (first | lia | omega))]
      simp only [Nat.add_sub_cancel]
      rw [hn]
      constructor
      · rintro (q | q)
        · (first | lia | omega)
        · right; simpa using q
      · rintro (q | q)
        · (first | lia | omega)
        · right; simpa using q
  · by_cases hi' : i = gs.length - 1
    · constructor
      · intro _; left; subst hi'; unfold usedN; exact hlast
      · intro _; exact .inl hi'
    · rw [hkey i (by (first | lia | omega))]
      constructor
      · rintro (q | q)
        · exact absurd q hi'
        · exact .inr q
      · rintro (q | q)
        · exfalso
          have := hbef.2 (by (first | lia | omega))
          unfold usedN at q; (first | lia | omega)
        · exact .inr q
end

theorem lev_nodes {gs : List G} {x : Nd} (h : x ∈ nodesL gs 0) : ∃ i, ∃ h : i < (gsAt gs 0).length, x ∈ nodesG ((gsAt gs 0)[i]).1 ((gsAt gs 0)[i]).2 := by
  rw [nodesL_at] at h
  obtain ⟨p, hp, hx⟩ := List.mem_flatMap.mp h
  obtain ⟨i, hi, rfl⟩ := List.mem_iff_getElem.mp hp
  exact ⟨i, hi, hx⟩
theorem nodes_lev {gs : List G} {x : Nd} {i : Nat} (h : i < (gsAt gs 0).length) (hx : x ∈ nodesG ((gsAt gs 0)[i]).1 ((gsAt gs 0)[i]).2) : x ∈ nodesL gs 0 := by
  rw [nodesL_at]
  exact List.mem_flatMap.mpr ⟨_, List.getElem_mem h, hx⟩

/-- range_pairs on the nest: the budget -/
theorem range_none {row vals : List Int} {gs : List G} {lo hi : Int} {b : Nat} (hg : 2 ≤ gs.length) (hp : row.Pairwise (· < ·)) (h1 : endL gs 0 ≤ row.length) :
    rangePairs b (nestT row vals gs) lo hi = none ↔ b < reachN row (usedN gs) lo hi (nodesL gs 0) := by
  have hl := gsAt_length gs 0
  have hkl := kidsL_length row vals gs 0
  have hge : ∀ k, k ≤ reachN row (usedN gs) lo hi (nodesL gs 0) ↔ k ≤ 1 ∨ ∃ x ∈ nodesL gs 0, metN row (usedN gs) lo hi x = true ∧ k ≤ x.lev + 1 := fun k => fold_ge _ k _ _
  cases b with
  | zero =>
    rw [rangePairs]
    have := (hge 1).mpr (.inl (Nat.le_refl _))
    simp only [true_iff]; (first | lia | omega)
  | succ b =>
    have hlt : ∀ k, k < reachN row (usedN gs) lo hi (nodesL gs 0) ↔ k + 1 ≤ reachN row (usedN gs) lo hi (nodesL gs 0) := fun k => Iff.rfl
    rw [hlt, hge]
    by_cases hlh : lo ≤ hi
    · unfold nestT
      rw [rangePairs, if_neg (by (first | lia | omega)), rngM_none]
      have hrl : ((keysL row gs 0).take (gs.length - 1)).length + 1 = gs.length := by rw [List.length_take, keysL_length]; (first | lia | omega)
      rw [hrl]
      have hkid : ∀ i (h : i < (gsAt gs 0).length), (kidsL row vals gs 0).getD i T.nil = kidT row vals ((gsAt gs 0)[i]).1 ((gsAt gs 0)[i]).2 := by
        intro i h
        rw [kidsL_at, List.getD_eq_getElem?_getD, List.getElem?_map, List.getElem?_eq_getElem h]; rfl
      have hmem1 : ∀ i (h : i < (gsAt gs 0).length), (⟨1, ((gsAt gs 0)[i]).1, ((gsAt gs 0)[i]).1 + ((gsAt gs 0)[i]).2.len, if ((gsAt gs 0)[i]).2.dp then 1 else ((gsAt gs 0)[i]).2.a⟩ : Nd) ∈ nodesL gs 0 := fun i h => nodes_lev h (by unfold nodesG; simp)
      have hmet1 : ∀ i (h : i < (gsAt gs 0).length), metN row (usedN gs) lo hi ⟨1, ((gsAt gs 0)[i]).1, ((gsAt gs 0)[i]).1 + ((gsAt gs 0)[i]).2.len, if ((gsAt gs 0)[i]).2.dp then 1 else ((gsAt gs 0)[i]).2.a⟩ = true ↔
          meets ((keysL row gs 0).take (gs.length - 1)) (kidsL row vals gs 0) lo hi i = true := by
        intro i h
        rw [meets_root hg h]
        simp [metN, hlh]
      -- a node of the second level that is met: its parent is met, and the parent's key lies right
      have hup : ∀ x ∈ nodesL gs 0, metN row (usedN gs) lo hi x = true → x.lev = 2 → ∃ i, ∃ h : i < (gsAt gs 0).length, meets ((keysL row gs 0).take (gs.length - 1)) (kidsL row vals gs 0) lo hi i = true ∧ ((gsAt gs 0)[i]).2.dp = true ∧
          (row.getD (((gsAt gs 0)[i]).1 + ((gsAt gs 0)[i]).2.a) 0 > lo ∨ row.getD (((gsAt gs 0)[i]).1 + ((gsAt gs 0)[i]).2.a) 0 < hi) := by
        intro x hx hm h2
        obtain ⟨i, h, hxi⟩ := lev_nodes hx
        refine ⟨i, h, ?_⟩
        rw [meets_root hg h]
        have hbef := (gsAt_before gs 0 i h).1
        generalize hs : ((gsAt gs 0)[i]).1 = s at *
        generalize hgg : ((gsAt gs 0)[i]).2 = g at *
        unfold nodesG at hxi
        cases hd : g.dp with
        | false =>
          rw [hd] at hxi
          simp only [Bool.false_eq_true, if_false, List.nil_append, List.mem_singleton] at hxi
          rw [hxi] at h2
          simp at h2
        | true =>
          have hlen : g.len = g.a + 1 + g.b := by simp [G.len, hd]
          rw [hlen] at hbef ⊢
          rw [hd] at hxi
          simp only [if_true, List.cons_append, List.nil_append, List.mem_cons, List.not_mem_nil, or_false] at hxi
          rcases hxi with rfl | rfl | rfl
          · simp only [metN, Bool.and_eq_true, decide_eq_true_eq, Bool.or_eq_true, beq_iff_eq] at hm
            have hlo : row.getD (s + g.a) 0 > lo := by
              rcases hm.2 with q | q
              · unfold usedN at q; (first | lia | omega)
              · exact q
            have := row_lt hp (i := s + g.a) (j := s + (g.a + 1 + g.b)) (by (first | lia | omega)) (by (first | lia | omega))
            exact ⟨⟨hm.1.2, .inr (by (first | lia | omega))⟩, rfl, .inl hlo⟩
          · simp only [metN, Bool.and_eq_true, decide_eq_true_eq, Bool.or_eq_true, beq_iff_eq] at hm
            have hhi : row.getD (s + g.a) 0 < hi := by
              rcases hm.1.2 with q | q
              · (first | lia | omega)
              · simpa using q
            refine ⟨⟨?_, ?_⟩, rfl, .inr hhi⟩
            · by_cases h0 : s = 0
              · exact .inl h0
              · have := row_lt hp (i := s - 1) (j := s + g.a) (by (first | lia | omega)) (by (first | lia | omega))
                exact .inr (by (first | lia | omega))
            · have e : s + (g.a + 1 + g.b) = s + g.a + 1 + g.b := by (first | lia | omega)
              rw [e]
              exact hm.2
          · simp at h2
      have hdown : ∀ i (h : i < (gsAt gs 0).length), meets ((keysL row gs 0).take (gs.length - 1)) (kidsL row vals gs 0) lo hi i = true → ((gsAt gs 0)[i]).2.dp = true →
          (row.getD (((gsAt gs 0)[i]).1 + ((gsAt gs 0)[i]).2.a) 0 > lo ∨ row.getD (((gsAt gs 0)[i]).1 + ((gsAt gs 0)[i]).2.a) 0 < hi) → ∃ x ∈ nodesL gs 0, metN row (usedN gs) lo hi x = true ∧ x.lev = 2 := by
        intro i h hm hd hk
        rw [meets_root hg h] at hm
        have hin : ∀ x, x ∈ nodesG ((gsAt gs 0)[i]).1 ((gsAt gs 0)[i]).2 → x ∈ nodesL gs 0 := fun x hx => nodes_lev h hx
        generalize hs : ((gsAt gs 0)[i]).1 = s at *
        generalize hgg : ((gsAt gs 0)[i]).2 = g at *
        have hlen : g.len = g.a + 1 + g.b := by simp [G.len, hd]
        rw [hlen] at hm
        rcases hk with hk | hk
        · refine ⟨⟨2, s, s + g.a, g.a⟩, hin _ (by unfold nodesG; rw [hd]; simp), ?_, rfl⟩
          simp only [metN, Bool.and_eq_true, decide_eq_true_eq, Bool.or_eq_true, beq_iff_eq]
          exact ⟨⟨hlh, hm.1⟩, .inr hk⟩
        · refine ⟨⟨2, s + g.a + 1, s + g.a + 1 + g.b, g.b⟩, hin _ (by unfold nodesG; rw [hd]; simp), ?_, rfl⟩
          simp only [metN, Bool.and_eq_true, decide_eq_true_eq, Bool.or_eq_true, beq_iff_eq]
          have e : s + g.a + 1 + g.b = s + (g.a + 1 + g.b) := by (first | lia | omega)
          rw [e]
          exact ⟨⟨hlh, .inr (by simpa using hk)⟩, hm.2⟩
      have hlev : ∀ x ∈ nodesL gs 0, x.lev = 1 ∨ x.lev = 2 := by
        intro x hx
        obtain ⟨i, h, hxi⟩ := lev_nodes hx
        unfold nodesG at hxi
        rcases List.mem_append.mp hxi with q | q
        · split at q
          · simp only [List.mem_cons, List.not_mem_nil, or_false] at q
            rcases q with rfl | rfl <;> exact .inr rfl
          · cases q
        · rw [List.mem_singleton.mp q]; exact .inl rfl
      cases b with
      | zero =>
        constructor
        · rintro ⟨i, hi', q⟩
          have hi' : i < (gsAt gs 0).length := by rw [hl]; exact List.mem_range.mp hi'
          split at q
          · rename_i hm
            exact .inr ⟨_, hmem1 i hi', (hmet1 i hi').mpr hm, by simp⟩
          · cases q
        · rintro (q | ⟨x, hx, hm, _⟩)
          · (first | lia | omega)
          · have : ∃ i, ∃ h : i < (gsAt gs 0).length, meets ((keysL row gs 0).take (gs.length - 1)) (kidsL row vals gs 0) lo hi i = true := by
              rcases hlev x hx with h1' | h2'
              · obtain ⟨i, h, hxi⟩ := lev_nodes hx
                refine ⟨i, h, (hmet1 i h).mp ?_⟩
                unfold nodesG at hxi
                rcases List.mem_append.mp hxi with q | q
                · split at q
                  · simp only [List.mem_cons, List.not_mem_nil, or_false] at q
                    rcases q with rfl | rfl <;> simp at h1'
                  · cases q
                · rw [List.mem_singleton.mp q] at hm; exact hm
              · obtain ⟨i, h, hm', _⟩ := hup x hx hm h2'
                exact ⟨i, h, hm'⟩
            obtain ⟨i, h, hm'⟩ := this
            refine ⟨i, List.mem_range.mpr (by (first | lia | omega)), ?_⟩
            rw [if_pos hm']; rfl
      | succ b =>
        cases b with
        | zero =>
          constructor
          · rintro ⟨i, hi', q⟩
            have hi' : i < (gsAt gs 0).length := by rw [hl]; exact List.mem_range.mp hi'
            split at q
            · rename_i hm
              rw [hkid i hi', range_kid1 row vals _ _ hlh] at q
              obtain ⟨x, hx, hm', h2⟩ := hdown i hi' hm q.1 q.2
              exact .inr ⟨x, hx, hm', by (first | lia | omega)⟩
            · cases q
          · rintro (q | ⟨x, hx, hm, hk⟩)
            · (first | lia | omega)
            · have h2 : x.lev = 2 := by rcases hlev x hx with q | q <;> (first | lia | omega)
              obtain ⟨i, h, hm', hd, hor⟩ := hup x hx hm h2
              refine ⟨i, List.mem_range.mpr (by (first | lia | omega)), ?_⟩
              rw [if_pos hm', hkid i h, range_kid1 row vals _ _ hlh]
              exact ⟨hd, hor⟩
        | succ b =>
          constructor
          · rintro ⟨i, hi', q⟩
            have hi' : i < (gsAt gs 0).length := by rw [hl]; exact List.mem_range.mp hi'
            split at q
            · rw [hkid i hi'] at q
              exact absurd q (range_kid2 row vals _ _ _ lo hi)
            · cases q
          · rintro (q | ⟨x, hx, hm, hk⟩)
            · (first | lia | omega)
            · have := hlev x hx
              (first | lia | omega)
    · unfold nestT
      rw [rangePairs, if_pos (by (first | lia | omega))]
      constructor
      · intro q; cases q
      · rintro (q | ⟨x, hx, hm, _⟩)
        · (first | lia | omega)
        · simp [metN, hlh] at hm

/-! the pairs in order -/
theorem zip_slc (row vals : List Int) (lo hi : Nat) : (slc row lo hi).zip (slc vals lo hi) = slc (row.zip vals) lo hi := by
  unfold slc
  simp only [List.zip, List.drop_zipWith, List.take_zipWith]
theorem inordP_leaf (row vals : List Int) (lo hi d : Nat) : inordP (d + 1) (leafT row vals lo hi) = slc (row.zip vals) lo hi := by
  unfold leafT; rw [inordP, List.map_nil, weave_nil, zip_slc]
theorem zip_getD {row vals : List Int} {i : Nat} (h1 : i < row.length) (h2 : i < vals.length) : (row.zip vals).getD i (0, 0) = (row.getD i 0, vals.getD i 0) := by
  rw [List.getD_eq_getElem?_getD, List.getElem?_eq_getElem (by rw [List.length_zip]; (first | lia | omega)), List.getElem_zip, List.getD_eq_getElem?_getD, List.getD_eq_getElem?_getD, List.getElem?_eq_getElem h1, List.getElem?_eq_getElem h2]
  rfl
theorem inordP_kid {row vals : List Int} {s d : Nat} {g : G} (h : s + g.len ≤ row.length) (h2 : s + g.len ≤ vals.length) : inordP (d + 2) (kidT row vals s g) = slc (row.zip vals) s (s + g.len) := by
  unfold kidT
  cases hd : g.dp with
  | false =>
    have hl : g.len = g.a := by simp [G.len, hd]
    simp only [Bool.false_eq_true, if_false, inordP_leaf, hl]
  | true =>
    have hl : g.len = g.a + 1 + g.b := by simp [G.len, hd]
    rw [hl] at h h2 ⊢
    simp only [if_true]
    have hz : (row.zip vals).length = min row.length vals.length := List.length_zip
    rw [inordP, List.map_cons, List.map_cons, List.map_nil, inordP_leaf, inordP_leaf, List.zip_cons_cons, List.zip_nil_left, weave_one, ← zip_getD (by (first | lia | omega)) (by (first | lia | omega)), slc_join (row.zip vals) (0, 0) (by (first | lia | omega)) (by (first | lia | omega)) (by (first | lia | omega))]
    congr 1
    (first | lia | omega)
theorem inordP_kids {row vals : List Int} {d : Nat} : ∀ (gs : List G) (s : Nat), gs ≠ [] → endL gs s ≤ row.length + 1 → endL gs s ≤ vals.length + 1 →
    weave (((keysL row gs s).take (gs.length - 1)).zip ((keysL vals gs s).take (gs.length - 1))) ((kidsL row vals gs s).map (inordP (d + 2))) = slc (row.zip vals) s (endL gs s - 1)
  | [], _, h, _, _ => absurd rfl h
  | [g], s, _, h, h2 => by
    simp only [endL] at h h2
    simp only [keysL, kidsL, List.length_cons, List.length_nil, List.map_cons, List.map_nil, endL]
    rw [inordP_kid (by (first | lia | omega)) (by (first | lia | omega))]
    rfl
  | g :: g' :: gs, s, _, h, h2 => by
    rw [endL] at h h2
    have ih := inordP_kids (row := row) (vals := vals) (d := d) (g' :: gs) (s + g.len + 1) (by simp) h h2
    have hge := endL_ge gs (s + g.len + 1 + g'.len + 1)
    have he : endL (g' :: gs) (s + g.len + 1) = endL gs (s + g.len + 1 + g'.len + 1) := rfl
    have hz : (row.zip vals).length = min row.length vals.length := List.length_zip
    rw [show ∀ r : List Int, keysL r (g :: g' :: gs) s = r.getD (s + g.len) 0 :: keysL r (g' :: gs) (s + g.len + 1) from fun _ => rfl, show ∀ r : List Int, keysL r (g :: g' :: gs) s = r.getD (s + g.len) 0 :: keysL r (g' :: gs) (s + g.len + 1) from fun _ => rfl,
      kidsL, List.map_cons, inordP_kid (by (first | lia | omega)) (by (first | lia | omega))]
    have hl : (g :: g' :: gs).length - 1 = (g' :: gs).length - 1 + 1 := by simp
    rw [hl, List.take_succ_cons, List.take_succ_cons, List.zip_cons_cons, weave, ih, ← zip_getD (by (first | lia | omega)) (by (first | lia | omega))]
    conv => rhs; rw [endL]
    exact slc_join (row.zip vals) (0, 0) (by (first | lia | omega)) (by (first | lia | omega)) (by (first | lia | omega))
theorem inordP_nest {row vals : List Int} {gs : List G} (hg : gs ≠ []) (h : endL gs 0 ≤ row.length + 1) (h2 : endL gs 0 ≤ vals.length + 1) : inordP 3 (nestT row vals gs) = (row.zip vals).take (usedN gs) := by
  unfold nestT usedN
  rw [inordP, inordP_kids gs 0 hg h h2]
  simp [slc]

theorem range_mono : ∀ (d : Nat) (x : T) (lo hi : Int) (l : List (Int × Int)), rangePairs d x lo hi = some l → rangePairs (d + 1) x lo hi = some l
  | 0, _, _, _, _, h => by cases h
  | d + 1, .node ks vs cs, lo, hi, l, h => by
    rw [rangePairs] at h ⊢
    split at h
    · rw [if_pos (by assumption)]; exact h
    · rw [if_neg (by assumption)]
      have : ∀ (is : List Nat) (acc : List (Int × Int)), rngM (fun i => if meets ks cs lo hi i then rangePairs d (cs.getD i T.nil) lo hi else some []) (ownPair ks vs lo hi) is acc = some l →
          rngM (fun i => if meets ks cs lo hi i then rangePairs (d + 1) (cs.getD i T.nil) lo hi else some []) (ownPair ks vs lo hi) is acc = some l := by
        intro is
        induction is with
        | nil => intro acc q; exact q
        | cons i is ih =>
          intro acc q
          rw [rngM] at q ⊢
          by_cases hm : meets ks cs lo hi i = true
          · simp only [hm, if_true] at q ⊢
            cases hr : rangePairs d (cs.getD i T.nil) lo hi with
            | none => rw [hr] at q; cases q
            | some x =>
              rw [hr] at q
              rw [range_mono d _ lo hi x hr]
              exact ih _ q
          · simp only [hm] at q ⊢
            exact ih _ q
      exact this _ _ h

/-- the pairs of the stretch, as the law's comprehension lists them -/
noncomputable def dueL (row vals : List Int) (used : Nat) (lo hi : Int) : List (Int × Int) :=
  ((List.range used).filter fun i => decide (lo ≤ row.getD i 0) && decide (row.getD i 0 ≤ hi)).map fun i => (row.getD i 0, vals.getD i 0)
theorem due_is {row vals : List Int} {used : Nat} {lo hi : Int} (h1 : used ≤ row.length) (h2 : used ≤ vals.length) : ((row.zip vals).take used).filter (inR lo hi) = dueL row vals used lo hi := by
  have e : (row.zip vals).take used = (List.range used).map fun i => (row.getD i 0, vals.getD i 0) := by
    apply List.ext_getElem
    · simp; (first | lia | omega)
    · intro i q1 q2
      simp at q2
      have r1 : i < row.length := by (first | lia | omega)
      have r2 : i < vals.length := by (first | lia | omega)
      simp [r1, r2]
  rw [e, List.filter_map]
  unfold dueL
  congr 1
  apply List.filter_congr
  intro i _
  simp [inR]

/-- the law on range_pairs -/
theorem range_law {row vals : List Int} {gs : List G} {lo hi : Int} {b : Nat} (hg : 2 ≤ gs.length) (hp : row.Pairwise (· < ·)) (h1 : endL gs 0 ≤ row.length) (h2 : endL gs 0 ≤ vals.length) :
    rangePairs b (nestT row vals gs) lo hi = if b < reachN row (usedN gs) lo hi (nodesL gs 0) then none else some (dueL row vals (usedN gs) lo hi) := by
  have hne : gs ≠ [] := by intro e; rw [e] at hg; simp at hg
  split
  · rename_i h; exact (range_none hg hp h1).mpr h
  · rename_i h
    cases hr : rangePairs b (nestT row vals gs) lo hi with
    | none => exact absurd ((range_none hg hp h1).mp hr) h
    | some l =>
      have hu : usedN gs ≤ endL gs 0 := by unfold usedN; (first | lia | omega)
      have h3 := mono_le (F := fun d (x : T) => rangePairs d x lo hi) (fun d x l q => range_mono d x lo hi l q) hr 3
      cases hr3 : rangePairs 3 (nestT row vals gs) lo hi with
      | none =>
        have h4 := (range_none hg hp h1).mp hr3
        exfalso
        have := (fold_ge (metN row (usedN gs) lo hi) 4 (nodesL gs 0) 1).mp (by unfold reachN at h4; (first | lia | omega))
        rcases this with q | ⟨x, hx, _, q⟩
        · (first | lia | omega)
        · obtain ⟨i, h, hxi⟩ := lev_nodes hx
          unfold nodesG at hxi
          rcases List.mem_append.mp hxi with q' | q'
          · split at q'
            · simp only [List.mem_cons, List.not_mem_nil, or_false] at q'
              rcases q' with rfl | rfl <;> simp at q
            · cases q'
          · rw [List.mem_singleton.mp q'] at q; simp at q
      | some l3 =>
        have e : l = l3 := mono_meet (F := fun d (x : T) => rangePairs d x lo hi) (fun d x l q => range_mono d x lo hi l q) hr hr3
        subst e
        rw [range_value 3 _ lo hi l (wf_nest hne (by (first | lia | omega)) (by (first | lia | omega))) (by rw [inord_nest hne (by (first | lia | omega))]; exact hp.sublist (List.take_sublist _ _)) hr3, inordP_nest hne (by (first | lia | omega)) (by (first | lia | omega)), due_is (by (first | lia | omega)) (by (first | lia | omega))]
end Mine
namespace Mine
theorem lt_of_nodup {l : List Int} (hn : l.Nodup) (hs : l.Pairwise (· ≤ ·)) : l.Pairwise (· < ·) := by
  induction l with
  | nil => exact .nil
  | cons a l ih =>
    rw [List.nodup_cons] at hn
    rw [List.pairwise_cons] at hs ⊢
    refine ⟨fun b hb => ?_, ih hn.2 hs.2⟩
    have := hs.1 b hb
    have hne : a ≠ b := fun e => hn.1 (e ▸ hb)
    omega
theorem nodup_of_lt {l : List Int} (h : l.Pairwise (· < ·)) : l.Nodup := h.imp fun h => by omega
theorem sorted_unique : ∀ {a b : List Int}, a.Pairwise (· < ·) → b.Pairwise (· < ·) → (∀ x, x ∈ a ↔ x ∈ b) → a = b
  | [], [], _, _, _ => rfl
  | [], y :: b, _, _, h => by have := (h y).mpr (.head _); cases this
  | x :: a, [], _, _, h => by have := (h x).mp (.head _); cases this
  | x :: a, y :: b, h1, h2, h => by
    rw [List.pairwise_cons] at h1 h2
    have hxy : x = y := by
      rcases List.mem_cons.mp ((h x).mp (.head _)) with e | e
      · exact e
      · rcases List.mem_cons.mp ((h y).mpr (.head _)) with e' | e'
        · exact e'.symm
        · have := h1.1 y e'; have := h2.1 x e; omega
    subst hxy
    congr 1
    refine sorted_unique h1.2 h2.2 fun z => ⟨fun hz => ?_, fun hz => ?_⟩
    · rcases List.mem_cons.mp ((h z).mp (.tail _ hz)) with e | e
      · have := h1.1 z hz; omega
      · exact e
    · rcases List.mem_cons.mp ((h z).mpr (.tail _ hz)) with e | e
      · have := h2.1 z hz; omega
      · exact e
theorem sorted_eq {line ks ns : List Int} (hk : ks.Nodup) (hm : ∀ x, x ∈ ks ↔ x ∈ line) (hp : ns.Perm ks) (hs : ns.Pairwise (· ≤ ·)) : line = ns ↔ line.Pairwise (· < ·) := by
  have hns : ns.Pairwise (· < ·) := lt_of_nodup (hp.nodup_iff.mpr hk) hs
  constructor
  · intro e; rw [e]; exact hns
  · intro h; exact sorted_unique h hns fun x => (hm x).symm.trans (hp.mem_iff).symm
end Mine
namespace Mine
theorem perm_of_len : ∀ {fm ks : List Int}, fm.Nodup → (∀ x ∈ fm, x ∈ ks) → ks.length ≤ fm.length → ks.Perm fm
  | [], ks, _, _, hl => by
    have : ks = [] := List.length_eq_zero_iff.mp (by simpa using hl)
    subst this; exact List.Perm.refl _
  | a :: fm, ks, hn, hs, hl => by
    rw [List.nodup_cons] at hn
    have ha := hs a (.head _)
    have p := List.perm_cons_erase ha
    refine p.trans (List.Perm.cons a (perm_of_len hn.2 (fun x hx => ?_) ?_))
    · have hne : x ≠ a := fun e => hn.1 (e ▸ hx)
      exact (List.mem_erase_of_ne hne).mpr (hs x (.tail _ hx))
    · have := p.length_eq
      simp at this hl
      omega
end Mine
namespace Mine
open PySem
/-- the slots of a set's table stand in rising order -/
noncomputable def Up (xs : Array Nat) : Prop := xs.toList.Pairwise (· < ·)
theorem Up.lt {xs : Array Nat} (h : Up xs) {i j : Nat} {a b : Nat} (hi : xs[i]? = some a) (hj : xs[j]? = some b) (hij : i < j) : a < b := by
  have hi' : xs.toList[i]? = some a := by simpa using hi
  have hj' : xs.toList[j]? = some b := by simpa using hj
  obtain ⟨h1, e1⟩ := List.getElem?_eq_some_iff.mp hi'
  obtain ⟨h2, e2⟩ := List.getElem?_eq_some_iff.mp hj'
  have := List.pairwise_iff_getElem.mp h i j h1 h2 hij
  rw [e1, e2] at this; exact this
theorem below_go {xs : Array Nat} (h : Up xs) (j : Nat) : ∀ (fuel lo hi : Nat), hi - lo ≤ fuel → lo ≤ hi → hi ≤ xs.size → (∀ i a, i < lo → xs[i]? = some a → a < j) → (∀ i a, hi ≤ i → xs[i]? = some a → j ≤ a) →
    lo ≤ SetTable.below.go xs j fuel lo hi ∧ SetTable.below.go xs j fuel lo hi ≤ hi ∧ (∀ i a, i < SetTable.below.go xs j fuel lo hi → xs[i]? = some a → a < j) ∧ (∀ i a, SetTable.below.go xs j fuel lo hi ≤ i → xs[i]? = some a → j ≤ a)
  | 0, lo, hi, h1, h2, h3, h4, h5 => by
    have : lo = hi := by (first | lia | omega)
    subst this
    rw [SetTable.below.go]
    exact ⟨Nat.le_refl _, Nat.le_refl _, h4, h5⟩
  | fuel + 1, lo, hi, h1, h2, h3, h4, h5 => by
    rw [SetTable.below.go]
    by_cases hlt : lo < hi
    · rw [if_pos hlt]
      have hm : lo ≤ (lo + hi) / 2 ∧ (lo + hi) / 2 < hi := by lia
      dsimp only
      generalize (lo + hi) / 2 = m at hm ⊢
      have hs : m < xs.size := Nat.lt_of_lt_of_le hm.2 h3
      have hg : xs[m]? = some xs[m] := Array.getElem?_eq_getElem hs
      have hgd : xs.getD m j = xs[m] := by simp [Array.getD, hs]
      rw [hgd]
      by_cases hc : xs[m] < j
      · rw [if_pos hc]
        have := below_go h j fuel (m + 1) hi (by lia) hm.2 h3 (fun i a hi' ha => by
          rcases Nat.lt_or_eq_of_le (Nat.le_of_lt_succ hi') with q | q
          · exact Nat.lt_trans (h.lt ha hg q) hc
          · subst q; rw [hg] at ha; cases ha; exact hc) h5
        exact ⟨Nat.le_trans (Nat.le_succ_of_le hm.1) this.1, this.2.1, this.2.2⟩
      · rw [if_neg hc]
        have := below_go h j fuel lo m (by lia) hm.1 (Nat.le_of_lt hs) h4 (fun i a hi' ha => by
          rcases Nat.lt_or_eq_of_le hi' with q | q
          · exact Nat.le_trans (Nat.le_of_not_lt hc) (Nat.le_of_lt (h.lt hg ha q))
          · subst q; rw [hg] at ha; cases ha; exact Nat.le_of_not_lt hc)
        exact ⟨this.1, Nat.le_trans this.2.1 (Nat.le_of_lt hm.2), this.2.2⟩
    · rw [if_neg hlt]
      have : lo = hi := Nat.le_antisymm h2 (Nat.le_of_not_lt hlt)
      subst this
      exact ⟨Nat.le_refl _, Nat.le_refl _, h4, h5⟩
theorem below_is {xs : Array Nat} (h : Up xs) (j : Nat) : SetTable.below xs j ≤ xs.size ∧ (∀ i a, i < SetTable.below xs j → xs[i]? = some a → a < j) ∧ (∀ i a, SetTable.below xs j ≤ i → xs[i]? = some a → j ≤ a) := by
  have := below_go h j xs.size 0 xs.size (by (first | lia | omega)) (by (first | lia | omega)) (Nat.le_refl _) (fun i a hi => by (first | lia | omega)) (fun i a hi ha => by
    have := (Array.getElem?_eq_some_iff.mp ha).1; (first | lia | omega))
  exact this.2
/-- the walk over the slots: from the start, and from behind the i-th -/
theorem below_zero {xs : Array Nat} (h : Up xs) : SetTable.below xs 0 = 0 := by
  obtain ⟨h1, h2, _⟩ := below_is h 0
  cases e : SetTable.below xs 0 with
  | zero => rfl
  | succ k =>
    have hk : 0 < xs.size := by (first | lia | omega)
    have := h2 0 xs[0] (by (first | lia | omega)) (by simp [hk])
    (first | lia | omega)
theorem below_next {xs : Array Nat} (h : Up xs) {i a : Nat} (hi : xs[i]? = some a) : SetTable.below xs (a + 1) = i + 1 := by
  obtain ⟨h1, h2, h3⟩ := below_is h (a + 1)
  have hlt := (Array.getElem?_eq_some_iff.mp hi).1
  by_cases q : SetTable.below xs (a + 1) ≤ i
  · have := h3 i a q hi; (first | lia | omega)
  · by_cases q2 : i + 1 < SetTable.below xs (a + 1)
    · have hs : i + 1 < xs.size := by (first | lia | omega)
      have h4 := h2 (i + 1) xs[i + 1] q2 (by simp [hs])
      have h5 := h.lt hi (show xs[i + 1]? = some xs[i + 1] by simp [hs]) (by (first | lia | omega))
      (first | lia | omega)
    · (first | lia | omega)
theorem up_insert {xs : Array Nat} (h : Up xs) {j : Nat} (hj : xs[SetTable.below xs j]? ≠ some j) : Up (SetTable.insertAt xs (SetTable.below xs j) j) := by
  obtain ⟨h1, h2, h3⟩ := below_is h j
  unfold Up SetTable.insertAt
  have e : ((xs.extract 0 (SetTable.below xs j)).push j ++ xs.extract (SetTable.below xs j) xs.size).toList = xs.toList.take (SetTable.below xs j) ++ j :: xs.toList.drop (SetTable.below xs j) := by
    simp [List.extract_eq_take_drop, List.take_of_length_le]
  rw [e, List.pairwise_append]
  have hd : ∀ b ∈ xs.toList.drop (SetTable.below xs j), j < b := by
    intro b hb
    obtain ⟨k, hk, rfl⟩ := List.mem_iff_getElem.mp hb
    have hk' : (xs.toList.drop (SetTable.below xs j))[k]? = some ((xs.toList.drop (SetTable.below xs j))[k]) := List.getElem?_eq_getElem hk
    generalize (xs.toList.drop (SetTable.below xs j))[k] = b at hk'
    rw [List.getElem?_drop] at hk'
    have hk2 : xs[SetTable.below xs j + k]? = some b := by simpa using hk'
    have := h3 _ _ (by (first | lia | omega)) hk2
    rcases Nat.lt_or_ge j b with q | q
    · exact q
    · have hbj : b = j := by (first | lia | omega)
      subst hbj
      cases k with
      | zero => exact absurd hk2 hj
      | succ k =>
        have hs : SetTable.below xs b < xs.size := by have := (Array.getElem?_eq_some_iff.mp hk2).1; (first | lia | omega)
        have hb0 : xs[SetTable.below xs b]? = some xs[SetTable.below xs b] := by simp [hs]
        have := h3 _ _ (Nat.le_refl _) hb0
        have := h.lt hb0 hk2 (by (first | lia | omega))
        (first | lia | omega)
  have ht : ∀ b ∈ xs.toList.take (SetTable.below xs j), b < j := by
    intro b hb
    obtain ⟨k, hk, rfl⟩ := List.mem_iff_getElem.mp hb
    have hk' : (xs.toList.take (SetTable.below xs j))[k]? = some ((xs.toList.take (SetTable.below xs j))[k]) := List.getElem?_eq_getElem hk
    generalize (xs.toList.take (SetTable.below xs j))[k] = b at hk'
    rw [List.getElem?_take] at hk'
    split at hk'
    · rename_i q
      exact h2 k b q (by simpa using hk')
    · cases hk'
  refine ⟨List.Pairwise.sublist (List.take_sublist _ _) h, List.pairwise_cons.mpr ⟨hd, List.Pairwise.sublist (List.drop_sublist _ _) h⟩, fun a ha b hb => ?_⟩
  have h6 := ht a ha
  rcases List.mem_cons.mp hb with rfl | hb
  · exact h6
  · exact Nat.lt_trans h6 (hd b hb)
/-- what a set's table keeps -/
structure TOk (led : Bool) (t : SetTable) : Prop where
  up : Up t.place
  nod : t.dummies = #[]
  led : t.led = led
theorem TOk.fresh {f mv : Nat} {led : Bool} : TOk led (SetTable.fresh f mv led) := ⟨List.Pairwise.nil, rfl, rfl⟩
theorem TOk.plain {led : Bool} {t : SetTable} (h : TOk led t) (b : Bool) : TOk led { t with plain := b } := ⟨h.up, h.nod, h.led⟩
theorem TOk.standIn {led : Bool} {t : SetTable} (h : TOk led t) (n : Nat) : TOk led (t.standIn n) := ⟨by
  unfold Up SetTable.standIn
  simp only [Array.toList_range]
  exact List.pairwise_lt_range, rfl, h.led⟩
theorem probe_go {t : SetTable} (hd : t.dummies = #[]) (hashAt : Nat → Int) (h : Int) : ∀ (fuel : Nat) (p : SetTable.Probe) (j : Nat) (d : Option Nat), p.dummy = none → SetTable.probe.go t hashAt h fuel p = some (.empty j d) → t.slot j = .empty ∧ d = none
  | 0, _, _, _, _, e => by rw [SetTable.probe.go] at e; cases e
  | fuel + 1, p, j, d, hp, e => by
    rw [SetTable.probe.go] at e
    have hnd : t.slot p.j ≠ .dummy := by
      unfold SetTable.slot
      simp only [hd]
      split
      · simp
      · simp [SetTable.has]
    cases hs : t.slot p.j with
    | empty =>
      rw [hs] at e
      simp only [Option.some.injEq, SetTable.Met.empty.injEq] at e
      obtain ⟨rfl, rfl⟩ := e
      exact ⟨hs, hp⟩
    | dummy => exact absurd hs hnd
    | live i =>
      rw [hs] at e
      dsimp only at e
      split at e
      · cases e
      · refine probe_go hd hashAt h fuel _ j d ?_ e
        unfold SetTable.advance
        split <;> exact hp
theorem TOk.put {led : Bool} {t : SetTable} (h : TOk led t) {j : Nat} (hs : t.slot j = .empty) : TOk led (t.put j).1 := by
  have hne : t.place[SetTable.below t.place j]? ≠ some j := by
    intro e
    unfold SetTable.slot at hs
    simp [e] at hs
  refine ⟨up_insert h.up hne, ?_, h.led⟩
  simp [SetTable.put, SetTable.has, h.nod]
theorem TOk.layNew {led : Bool} {t : SetTable} (h : TOk led t) (es : Array (Int × Value)) (x : Int) (v : Value) : TOk led (layNew t es x v).2.1 := by
  unfold PySem.layNew
  split
  · rename_i slot wd hf
    unfold SetTable.freeSlot at hf
    split at hf
    · rename_i j d hp
      obtain ⟨q1, rfl⟩ := probe_go h.nod _ _ _ _ _ _ rfl hp
      simp only [Option.some.injEq, Prod.mk.injEq, Option.getD_none] at hf
      obtain ⟨rfl, _⟩ := hf
      have hput := h.put q1
      unfold SetTable.orStandIn
      dsimp only
      split
      · exact hput
      · exact hput.standIn _
    · cases hf
  · exact h.standIn _
theorem up_filterMap (f : Nat → Option Nat) (n : Nat) : (((List.range n).filterMap fun j => (f j).map (j, ·)).map (·.1)).Pairwise (· < ·) := by
  rw [List.pairwise_map]
  refine List.Pairwise.filterMap _ ?_ List.pairwise_lt_range
  intro a a' hlt b hb b' hb'
  simp only [Option.map_eq_some_iff] at hb hb'
  obtain ⟨_, _, rfl⟩ := hb
  obtain ⟨_, _, rfl⟩ := hb'
  exact hlt
theorem TOk.relayAll {led : Bool} {t : SetTable} (h : TOk led t) (es : Array (Int × Value)) (wanted : Nat) : TOk led (relayAll t es wanted).2.1 := by
  unfold PySem.relayAll
  split
  · rename_i t' order hr
    dsimp only
    split
    · unfold SetTable.relaid SetTable.laid at hr
      simp only [Option.bind_eq_bind, Option.bind_eq_some_iff] at hr
      obtain ⟨owner, _, hr⟩ := hr
      simp only [Option.pure_def, Option.some.injEq, Prod.mk.injEq] at hr
      obtain ⟨rfl, _⟩ := hr
      exact ⟨up_filterMap _ _, rfl, h.led⟩
    · exact h.standIn _
  · exact h.standIn _
end Mine
namespace Mine
open PySem
theorem erase_perm {α : Type} : ∀ {l : List α} {i : Nat} (h : i < l.length), (l[i] :: l.eraseIdx i).Perm l
  | x :: l, 0, _ => by simp
  | x :: l, i + 1, h => by
    have ih := erase_perm (l := l) (i := i) (by simpa using h)
    simp only [List.getElem_cons_succ, List.eraseIdx_cons_succ]
    exact (List.Perm.swap _ _ _).trans (ih.cons x)
theorem pick_go {α : Type} (next : Nat → Nat) : ∀ (fuel k : Nat) (left : List α) (out : Array α), left.length = fuel → (pickOrder.go next fuel k left out).toList.Perm (out.toList ++ left)
  | 0, k, left, out, h => by
    have : left = [] := List.length_eq_zero_iff.mp h
    subst this
    rw [pickOrder.go]; simp
  | fuel + 1, k, left, out, h => by
    rw [pickOrder.go]
    have hlt : next k % left.length < left.length := Nat.mod_lt _ (by omega)
    rw [List.getElem?_eq_getElem hlt]
    dsimp only
    have ih := pick_go next fuel (k + 1) (left.eraseIdx (next k % left.length)) (out.push left[next k % left.length]) (by rw [List.length_eraseIdx]; simp [hlt]; omega)
    refine ih.trans ?_
    rw [Array.toList_push, List.append_assoc]
    refine List.Perm.append_left _ ?_
    rw [List.singleton_append]
    exact (erase_perm hlt)
theorem pick_perm {α : Type} (next : Nat → Nat) (xs : Array α) : (pickOrder next xs).toList.Perm xs.toList := by
  unfold pickOrder
  have := pick_go next xs.size 0 xs.toList #[] (by simp)
  simpa using this
end Mine
open PySem PySem.W PyProof.Rows
set_option Elab.async false
set_option maxRecDepth 100000
set_option maxHeartbeats 8000000
namespace Mine
/-- what is left of a goal, found by the proof itself -/
structure Hide (Q : Prop) : Prop where
  out : Q
structure Got (G : Prop) where
  Q : Prop
  k : Hide Q → G
noncomputable def hK : Params → Frag := fun P => (fun (a2 : Arguments) (b2 : List Stmt) (c2 : Scope) (a3 : Arguments) (b3 : List Stmt) (c3 : Scope) (a4 : Arguments) (b4 : List Stmt) (c4 : Scope) (a5 : Arguments) (b5 : List Stmt) (c5 : Scope) (a8 : Arguments) (b8 : List Stmt) (c8 : Scope) (a9 : Arguments) (b9 : List Stmt) (c9 : Scope) (a10 : Arguments) (b10 : List Stmt) (c10 : Scope) (a11 : Arguments) (b11 : List Stmt) (c11 : Scope) (a12 : Arguments) (b12 : List Stmt) (c12 : Scope) (a13 : Arguments) (b13 : List Stmt) (c13 : Scope) (a14 : Arguments) (b14 : List Stmt) (c14 : Scope) (a15 : Arguments) (b15 : List Stmt) (c15 : Scope) (_ : PySem.Challenge.pw_sx_zcanopy_6.main.body = [_, _, Stmt.FunctionDef _ a2 b2 _ _ _ c2 _ _ _, Stmt.FunctionDef _ a3 b3 _ _ _ c3 _ _ _, Stmt.FunctionDef _ a4 b4 _ _ _ c4 _ _ _, Stmt.FunctionDef _ a5 b5 _ _ _ c5 _ _ _, _, _, Stmt.FunctionDef _ a8 b8 _ _ _ c8 _ _ _, Stmt.FunctionDef _ a9 b9 _ _ _ c9 _ _ _, Stmt.FunctionDef _ a10 b10 _ _ _ c10 _ _ _, Stmt.FunctionDef _ a11 b11 _ _ _ c11 _ _ _, Stmt.FunctionDef _ a12 b12 _ _ _ c12 _ _ _, Stmt.FunctionDef _ a13 b13 _ _ _ c13 _ _ _, Stmt.FunctionDef _ a14 b14 _ _ _ c14 _ _ _, Stmt.FunctionDef _ a15 b15 _ _ _ c15 _ _ _]) =>
  ((nat_lit 2, ({ cls := Value.none, data := Data.dict #[{ hash := PyData.keyHash P (Str.ofString "type.__subclasses__.Exception.0"), key := Value.str (Str.ofString "type.__subclasses__.Exception.0") 205, val := Value.int 24 0 }, { hash := PyData.keyHash P (Str.ofString "type.__subclasses__.Exception.n"), key := Value.str (Str.ofString "type.__subclasses__.Exception.n") 206, val := Value.int 1 0 }] 2 } : Obj)) ::
  (nat_lit 3, ({ cls := Value.type "dict", data := Data.dict #[{ hash := PyData.keyHash P (Str.ofString "__name__"), key := Value.str (Str.ofString "__name__") 165, val := Value.str (Str.ofString "law_sx_zcanopy_6") 265 }, { hash := PyData.keyHash P (Str.ofString "__doc__"), key := Value.str (Str.ofString "__doc__") 166, val := Value.none }, { hash := PyData.keyHash P (Str.ofString "__package__"), key := Value.str (Str.ofString "__package__") 167, val := Value.none }, { hash := PyData.keyHash P (Str.ofString "__loader__"), key := Value.str (Str.ofString "__loader__") 168, val := Value.builtin "__main__.__loader__#opaque" }, { hash := PyData.keyHash P (Str.ofString "__spec__"), key := Value.str (Str.ofString "__spec__") 169, val := Value.none }, { hash := PyData.keyHash P (Str.ofString "__annotations__"), key := Value.str (Str.ofString "__annotations__") 170, val := Value.ref 6 }, { hash := PyData.keyHash P (Str.ofString "__builtins__"), key := Value.str (Str.ofString "__builtins__") 171, val := Value.ref 4 }, { hash := PyData.keyHash P (Str.ofString "__file__"), key := Value.str (Str.ofString "__file__") 173, val := Value.str (Str.ofString "/claim/cut.py") 172 }, { hash := PyData.keyHash P (Str.ofString "__cached__"), key := Value.str (Str.ofString "__cached__") 174, val := Value.none }, { hash := PyData.keyHash P (Str.ofString "DepthError"), key := Value.str (Str.ofString "DepthError") 208, val := Value.ref 24 }, { hash := PyData.keyHash P (Str.ofString "shape_ok"), key := Value.str (Str.ofString "shape_ok") 221, val := Value.ref 34 }, { hash := PyData.keyHash P (Str.ofString "keys_ok"), key := Value.str (Str.ofString "keys_ok") 236, val := Value.ref 41 }, { hash := PyData.keyHash P (Str.ofString "leaf_level"), key := Value.str (Str.ofString "leaf_level") 247, val := Value.ref 48 }, { hash := PyData.keyHash P (Str.ofString "range_pairs"), key := Value.str (Str.ofString "range_pairs") 264, val := Value.ref 55 }, { hash := PyData.keyHash P (Str.ofString "_law_FORMS"), key := Value.str (Str.ofString "_law_FORMS") 291, val := Value.ref 64 }, { hash := PyData.keyHash P (Str.ofString "_law_build"), key := Value.str (Str.ofString "_law_build") 312, val := Value.ref 71 }, { hash := PyData.keyHash P (Str.ofString "_law_hurt"), key := Value.str (Str.ofString "_law_hurt") 325, val := Value.ref 78 }, { hash := PyData.keyHash P (Str.ofString "_law_shape"), key := Value.str (Str.ofString "_law_shape") 336, val := Value.ref 85 }, { hash := PyData.keyHash P (Str.ofString "_law_order"), key := Value.str (Str.ofString "_law_order") 347, val := Value.ref 92 }, { hash := PyData.keyHash P (Str.ofString "_law_level"), key := Value.str (Str.ofString "_law_level") 356, val := Value.ref 99 }, { hash := PyData.keyHash P (Str.ofString "_law_range"), key := Value.str (Str.ofString "_law_range") 367, val := Value.ref 106 }, { hash := PyData.keyHash P (Str.ofString "_law_fits"), key := Value.str (Str.ofString "_law_fits") 377, val := Value.ref 113 }, { hash := PyData.keyHash P (Str.ofString "law"), key := Value.str (Str.ofString "law") 383, val := Value.ref 118 }] 23 } : Obj)) ::
  (nat_lit 6, ({ cls := Value.type "dict", data := Data.dict #[] } : Obj)) ::
  (nat_lit 15, ({ cls := Value.type "tuple", data := Data.seq #[Value.type "Exception"] } : Obj)) ::
  (nat_lit 22, ({ cls := Value.type "tuple", data := Data.seq #[] } : Obj)) ::
  (nat_lit 23, ({ cls := Value.type "dict", data := Data.dict #[{ hash := PyData.keyHash P (Str.ofString "__module__"), key := Value.str (Str.ofString "__module__") 196, val := Value.str (Str.ofString "canopy.btree") 187 }, { hash := PyData.keyHash P (Str.ofString "__firstlineno__"), key := Value.str (Str.ofString "__firstlineno__") 200, val := Value.int 2 199 }, { hash := PyData.keyHash P (Str.ofString "__static_attributes__"), key := Value.str (Str.ofString "__static_attributes__") 201, val := Value.ref 22 }, { hash := PyData.keyHash P (Str.ofString "__weakref__"), key := Value.str (Str.ofString "__weakref__") 203, val := Value.ref 25 }, { hash := PyData.keyHash P (Str.ofString "__doc__"), key := Value.str (Str.ofString "__doc__") 204, val := Value.none }] 3 } : Obj)) ::
  (nat_lit 24, ({ cls := Value.type "type", data := Data.cls { name := Str.ofString "DepthError", bases := [Value.type "Exception"], mro := [Value.ref 24, Value.type "Exception", Value.type "BaseException", Value.type "object"], ns := 23, qualname := Str.ofString "DepthError" }, slots := #[Option.some (Value.ref 15), Option.none, Option.some (Value.str (Str.ofString "DepthError") 189), Option.some (Value.str (Str.ofString "DepthError") 197), Option.some (Value.builtin "Exception.__new__"), Option.some (Value.bool Bool.true)] } : Obj)) ::
  (nat_lit 25, ({ cls := Value.type "getset_descriptor", data := Data.fields #[Value.str (Str.ofString "__weakref__") 202, Value.ref 24, Value.builtin "ExceptionGroup.__weakref__", Value.none] } : Obj)) ::
  (nat_lit 28, ({ cls := Value.type "tuple", data := Data.seq #[] } : Obj)) ::
  (nat_lit 30, ({ cls := Value.type "tuple", data := Data.seq #[Value.str (Str.ofString "node") 212, Value.str (Str.ofString "t") 213, Value.str (Str.ofString "is_root") 214, Value.str (Str.ofString "depth") 215, Value.str (Str.ofString "keys") 216, Value.str (Str.ofString "children") 217, Value.str (Str.ofString "child") 218] } : Obj)) ::
  (nat_lit 31, ({ cls := Value.type "tuple", data := Data.seq #[] } : Obj)) ::
  (nat_lit 33, ({ cls := Value.type "code", data := Data.fields #[Value.str (Str.ofString "shape_ok") 209, Value.str (Str.ofString "shape_ok") 210, Value.str (Str.ofString "/claim/cut.py") 211, Value.int 4 0, Value.int 4 0, Value.int 0 0, Value.int 0 0, Value.int 3 0, Value.ref 28, Value.bool Bool.true, Value.int 181 0, Value.ref 29, Value.none, Value.ref 30, Value.ref 31, Value.ref 32, Value.int 219 0, Value.int 4 0, Value.str (Str.ofString "/claim/cut.py") 220] } : Obj)) ::
  (nat_lit 34, ({ cls := Value.type "function", data := Data.func { name := Str.ofString "shape_ok", qualname := Str.ofString "shape_ok", params := a2, body := FuncBody.stmts b2, scope := c2, globals := 3, closure := [], defaults := Value.none, kwdefaults := Value.none, pyModule := Value.str (Str.ofString "canopy.btree") 187, code := Value.ref 33 } } : Obj)) ::
  (nat_lit 35, ({ cls := Value.type "tuple", data := Data.seq #[] } : Obj)) ::
  (nat_lit 37, ({ cls := Value.type "tuple", data := Data.seq #[Value.str (Str.ofString "node") 225, Value.str (Str.ofString "low") 226, Value.str (Str.ofString "high") 227, Value.str (Str.ofString "depth") 228, Value.str (Str.ofString "keys") 229, Value.str (Str.ofString "children") 230, Value.str (Str.ofString "i") 231, Value.str (Str.ofString "child_low") 232, Value.str (Str.ofString "child_high") 233] } : Obj)) ::
  (nat_lit 38, ({ cls := Value.type "tuple", data := Data.seq #[] } : Obj)) ::
  (nat_lit 40, ({ cls := Value.type "code", data := Data.fields #[Value.str (Str.ofString "keys_ok") 222, Value.str (Str.ofString "keys_ok") 223, Value.str (Str.ofString "/claim/cut.py") 224, Value.int 21 0, Value.int 4 0, Value.int 0 0, Value.int 0 0, Value.int 3 0, Value.ref 35, Value.bool Bool.true, Value.int 181 0, Value.ref 36, Value.none, Value.ref 37, Value.ref 38, Value.ref 39, Value.int 234 0, Value.int 21 0, Value.str (Str.ofString "/claim/cut.py") 235] } : Obj)) ::
  (nat_lit 41, ({ cls := Value.type "function", data := Data.func { name := Str.ofString "keys_ok", qualname := Str.ofString "keys_ok", params := a3, body := FuncBody.stmts b3, scope := c3, globals := 3, closure := [], defaults := Value.none, kwdefaults := Value.none, pyModule := Value.str (Str.ofString "canopy.btree") 187, code := Value.ref 40 } } : Obj)) ::
  (nat_lit 42, ({ cls := Value.type "tuple", data := Data.seq #[] } : Obj)) ::
  (nat_lit 44, ({ cls := Value.type "tuple", data := Data.seq #[Value.str (Str.ofString "node") 240, Value.str (Str.ofString "depth") 241, Value.str (Str.ofString "children") 242, Value.str (Str.ofString "first") 243, Value.str (Str.ofString "i") 244] } : Obj)) ::
  (nat_lit 45, ({ cls := Value.type "tuple", data := Data.seq #[] } : Obj)) ::
  (nat_lit 47, ({ cls := Value.type "code", data := Data.fields #[Value.str (Str.ofString "leaf_level") 237, Value.str (Str.ofString "leaf_level") 238, Value.str (Str.ofString "/claim/cut.py") 239, Value.int 43 0, Value.int 2 0, Value.int 0 0, Value.int 0 0, Value.int 3 0, Value.ref 42, Value.bool Bool.true, Value.int 181 0, Value.ref 43, Value.none, Value.ref 44, Value.ref 45, Value.ref 46, Value.int 245 0, Value.int 43 0, Value.str (Str.ofString "/claim/cut.py") 246] } : Obj)) ::
  (nat_lit 48, ({ cls := Value.type "function", data := Data.func { name := Str.ofString "leaf_level", qualname := Str.ofString "leaf_level", params := a4, body := FuncBody.stmts b4, scope := c4, globals := 3, closure := [], defaults := Value.none, kwdefaults := Value.none, pyModule := Value.str (Str.ofString "canopy.btree") 187, code := Value.ref 47 } } : Obj)) ::
  (nat_lit 49, ({ cls := Value.type "tuple", data := Data.seq #[] } : Obj)) ::
  (nat_lit 51, ({ cls := Value.type "tuple", data := Data.seq #[Value.str (Str.ofString "node") 251, Value.str (Str.ofString "low") 252, Value.str (Str.ofString "high") 253, Value.str (Str.ofString "depth") 254, Value.str (Str.ofString "keys") 255, Value.str (Str.ofString "values") 256, Value.str (Str.ofString "children") 257, Value.str (Str.ofString "out") 258, Value.str (Str.ofString "n") 259, Value.str (Str.ofString "i") 260, Value.str (Str.ofString "p") 261] } : Obj)) ::
  (nat_lit 52, ({ cls := Value.type "tuple", data := Data.seq #[] } : Obj)) ::
  (nat_lit 54, ({ cls := Value.type "code", data := Data.fields #[Value.str (Str.ofString "range_pairs") 248, Value.str (Str.ofString "range_pairs") 249, Value.str (Str.ofString "/claim/cut.py") 250, Value.int 56 0, Value.int 4 0, Value.int 0 0, Value.int 0 0, Value.int 3 0, Value.ref 49, Value.bool Bool.true, Value.int 181 0, Value.ref 50, Value.none, Value.ref 51, Value.ref 52, Value.ref 53, Value.int 262 0, Value.int 56 0, Value.str (Str.ofString "/claim/cut.py") 263] } : Obj)) ::
  (nat_lit 55, ({ cls := Value.type "function", data := Data.func { name := Str.ofString "range_pairs", qualname := Str.ofString "range_pairs", params := a5, body := FuncBody.stmts b5, scope := c5, globals := 3, closure := [], defaults := Value.none, kwdefaults := Value.none, pyModule := Value.str (Str.ofString "canopy.btree") 187, code := Value.ref 54 } } : Obj)) ::
  (nat_lit 56, ({ cls := Value.type "tuple", data := Data.seq #[Value.int 0 267, Value.int 0 268, Value.int 0 269] } : Obj)) ::
  (nat_lit 57, ({ cls := Value.type "tuple", data := Data.seq #[Value.int 1 270, Value.int 1 271, Value.int 1 272] } : Obj)) ::
  (nat_lit 58, ({ cls := Value.type "tuple", data := Data.seq #[Value.int 0 273, Value.int 0 274, Value.int 0 275] } : Obj)) ::
  (nat_lit 59, ({ cls := Value.type "tuple", data := Data.seq #[Value.int 1 276, Value.int 1 277, Value.int 1 278] } : Obj)) ::
  (nat_lit 60, ({ cls := Value.type "tuple", data := Data.seq #[Value.int 1 279, Value.int 0 280, Value.int 1 281] } : Obj)) ::
  (nat_lit 61, ({ cls := Value.type "tuple", data := Data.seq #[Value.int 0 282, Value.int 1 283, Value.int 0 284] } : Obj)) ::
  (nat_lit 62, ({ cls := Value.type "tuple", data := Data.seq #[Value.int 0 285, Value.int 0 286, Value.int 1 287] } : Obj)) ::
  (nat_lit 63, ({ cls := Value.type "tuple", data := Data.seq #[Value.int 1 288, Value.int 0 289, Value.int 0 290] } : Obj)) ::
  (nat_lit 64, ({ cls := Value.type "tuple", data := Data.seq #[Value.ref 56, Value.ref 57, Value.ref 58, Value.ref 59, Value.ref 60, Value.ref 61, Value.ref 62, Value.ref 63] } : Obj)) ::
  (nat_lit 65, ({ cls := Value.type "tuple", data := Data.seq #[] } : Obj)) ::
  (nat_lit 67, ({ cls := Value.type "tuple", data := Data.seq #[Value.str (Str.ofString "row") 295, Value.str (Str.ofString "vals") 296, Value.str (Str.ofString "plan") 297, Value.str (Str.ofString "at") 298, Value.str (Str.ofString "keys") 299, Value.str (Str.ofString "values") 300, Value.str (Str.ofString "kids") 301, Value.str (Str.ofString "nodes") 302, Value.str (Str.ofString "deep") 303, Value.str (Str.ofString "a") 304, Value.str (Str.ofString "b") 305, Value.str (Str.ofString "begin") 306, Value.str (Str.ofString "kid") 307, Value.str (Str.ofString "end") 308, Value.str (Str.ofString "last") 309] } : Obj)) ::
  (nat_lit 68, ({ cls := Value.type "tuple", data := Data.seq #[] } : Obj)) ::
  (nat_lit 70, ({ cls := Value.type "code", data := Data.fields #[Value.str (Str.ofString "_law_build") 292, Value.str (Str.ofString "_law_build") 293, Value.str (Str.ofString "/claim/cut.py") 294, Value.int 75 0, Value.int 3 0, Value.int 0 0, Value.int 0 0, Value.int 3 0, Value.ref 65, Value.bool Bool.true, Value.int 181 0, Value.ref 66, Value.none, Value.ref 67, Value.ref 68, Value.ref 69, Value.int 310 0, Value.int 75 0, Value.str (Str.ofString "/claim/cut.py") 311] } : Obj)) ::
  (nat_lit 71, ({ cls := Value.type "function", data := Data.func { name := Str.ofString "_law_build", qualname := Str.ofString "_law_build", params := a8, body := FuncBody.stmts b8, scope := c8, globals := 3, closure := [], defaults := Value.none, kwdefaults := Value.none, pyModule := Value.str (Str.ofString "law_sx_zcanopy_6") 265, code := Value.ref 70 } } : Obj)) ::
  (nat_lit 72, ({ cls := Value.type "tuple", data := Data.seq #[] } : Obj)) ::
  (nat_lit 74, ({ cls := Value.type "tuple", data := Data.seq #[Value.str (Str.ofString "nest") 316, Value.str (Str.ofString "mode") 317, Value.str (Str.ofString "place") 318, Value.str (Str.ofString "keys") 319, Value.str (Str.ofString "values") 320, Value.str (Str.ofString "kids") 321, Value.str (Str.ofString "kid") 322] } : Obj)) ::
  (nat_lit 75, ({ cls := Value.type "tuple", data := Data.seq #[] } : Obj)) ::
  (nat_lit 77, ({ cls := Value.type "code", data := Data.fields #[Value.str (Str.ofString "_law_hurt") 313, Value.str (Str.ofString "_law_hurt") 314, Value.str (Str.ofString "/claim/cut.py") 315, Value.int 98 0, Value.int 3 0, Value.int 0 0, Value.int 0 0, Value.int 3 0, Value.ref 72, Value.bool Bool.true, Value.int 181 0, Value.ref 73, Value.none, Value.ref 74, Value.ref 75, Value.ref 76, Value.int 323 0, Value.int 98 0, Value.str (Str.ofString "/claim/cut.py") 324] } : Obj)) ::
  (nat_lit 78, ({ cls := Value.type "function", data := Data.func { name := Str.ofString "_law_hurt", qualname := Str.ofString "_law_hurt", params := a9, body := FuncBody.stmts b9, scope := c9, globals := 3, closure := [], defaults := Value.none, kwdefaults := Value.none, pyModule := Value.str (Str.ofString "law_sx_zcanopy_6") 265, code := Value.ref 77 } } : Obj)) ::
  (nat_lit 79, ({ cls := Value.type "tuple", data := Data.seq #[] } : Obj)) ::
  (nat_lit 81, ({ cls := Value.type "tuple", data := Data.seq #[Value.str (Str.ofString "nest") 329, Value.str (Str.ofString "t") 330, Value.str (Str.ofString "top") 331, Value.str (Str.ofString "depth") 332, Value.str (Str.ofString "got") 333] } : Obj)) ::
  (nat_lit 82, ({ cls := Value.type "tuple", data := Data.seq #[] } : Obj)) ::
  (nat_lit 84, ({ cls := Value.type "code", data := Data.fields #[Value.str (Str.ofString "_law_shape") 326, Value.str (Str.ofString "_law_shape") 327, Value.str (Str.ofString "/claim/cut.py") 328, Value.int 110 0, Value.int 4 0, Value.int 0 0, Value.int 0 0, Value.int 3 0, Value.ref 79, Value.bool Bool.true, Value.int 181 0, Value.ref 80, Value.none, Value.ref 81, Value.ref 82, Value.ref 83, Value.int 334 0, Value.int 110 0, Value.str (Str.ofString "/claim/cut.py") 335] } : Obj)) ::
  (nat_lit 85, ({ cls := Value.type "function", data := Data.func { name := Str.ofString "_law_shape", qualname := Str.ofString "_law_shape", params := a10, body := FuncBody.stmts b10, scope := c10, globals := 3, closure := [], defaults := Value.none, kwdefaults := Value.none, pyModule := Value.str (Str.ofString "law_sx_zcanopy_6") 265, code := Value.ref 84 } } : Obj)) ::
  (nat_lit 86, ({ cls := Value.type "tuple", data := Data.seq #[] } : Obj)) ::
  (nat_lit 88, ({ cls := Value.type "tuple", data := Data.seq #[Value.str (Str.ofString "nest") 340, Value.str (Str.ofString "low") 341, Value.str (Str.ofString "high") 342, Value.str (Str.ofString "depth") 343, Value.str (Str.ofString "got") 344] } : Obj)) ::
  (nat_lit 89, ({ cls := Value.type "tuple", data := Data.seq #[] } : Obj)) ::
  (nat_lit 91, ({ cls := Value.type "code", data := Data.fields #[Value.str (Str.ofString "_law_order") 337, Value.str (Str.ofString "_law_order") 338, Value.str (Str.ofString "/claim/cut.py") 339, Value.int 116 0, Value.int 4 0, Value.int 0 0, Value.int 0 0, Value.int 3 0, Value.ref 86, Value.bool Bool.true, Value.int 181 0, Value.ref 87, Value.none, Value.ref 88, Value.ref 89, Value.ref 90, Value.int 345 0, Value.int 116 0, Value.str (Str.ofString "/claim/cut.py") 346] } : Obj)) ::
  (nat_lit 92, ({ cls := Value.type "function", data := Data.func { name := Str.ofString "_law_order", qualname := Str.ofString "_law_order", params := a11, body := FuncBody.stmts b11, scope := c11, globals := 3, closure := [], defaults := Value.none, kwdefaults := Value.none, pyModule := Value.str (Str.ofString "law_sx_zcanopy_6") 265, code := Value.ref 91 } } : Obj)) ::
  (nat_lit 93, ({ cls := Value.type "tuple", data := Data.seq #[] } : Obj)) ::
  (nat_lit 95, ({ cls := Value.type "tuple", data := Data.seq #[Value.str (Str.ofString "nest") 351, Value.str (Str.ofString "depth") 352, Value.str (Str.ofString "got") 353] } : Obj)) ::
  (nat_lit 96, ({ cls := Value.type "tuple", data := Data.seq #[] } : Obj)) ::
  (nat_lit 98, ({ cls := Value.type "code", data := Data.fields #[Value.str (Str.ofString "_law_level") 348, Value.str (Str.ofString "_law_level") 349, Value.str (Str.ofString "/claim/cut.py") 350, Value.int 122 0, Value.int 2 0, Value.int 0 0, Value.int 0 0, Value.int 3 0, Value.ref 93, Value.bool Bool.true, Value.int 181 0, Value.ref 94, Value.none, Value.ref 95, Value.ref 96, Value.ref 97, Value.int 354 0, Value.int 122 0, Value.str (Str.ofString "/claim/cut.py") 355] } : Obj)) ::
  (nat_lit 99, ({ cls := Value.type "function", data := Data.func { name := Str.ofString "_law_level", qualname := Str.ofString "_law_level", params := a12, body := FuncBody.stmts b12, scope := c12, globals := 3, closure := [], defaults := Value.none, kwdefaults := Value.none, pyModule := Value.str (Str.ofString "law_sx_zcanopy_6") 265, code := Value.ref 98 } } : Obj)) ::
  (nat_lit 100, ({ cls := Value.type "tuple", data := Data.seq #[] } : Obj)) ::
  (nat_lit 102, ({ cls := Value.type "tuple", data := Data.seq #[Value.str (Str.ofString "nest") 360, Value.str (Str.ofString "low") 361, Value.str (Str.ofString "high") 362, Value.str (Str.ofString "depth") 363, Value.str (Str.ofString "got") 364] } : Obj)) ::
  (nat_lit 103, ({ cls := Value.type "tuple", data := Data.seq #[] } : Obj)) ::
  (nat_lit 105, ({ cls := Value.type "code", data := Data.fields #[Value.str (Str.ofString "_law_range") 357, Value.str (Str.ofString "_law_range") 358, Value.str (Str.ofString "/claim/cut.py") 359, Value.int 128 0, Value.int 4 0, Value.int 0 0, Value.int 0 0, Value.int 3 0, Value.ref 100, Value.bool Bool.true, Value.int 181 0, Value.ref 101, Value.none, Value.ref 102, Value.ref 103, Value.ref 104, Value.int 365 0, Value.int 128 0, Value.str (Str.ofString "/claim/cut.py") 366] } : Obj)) ::
  (nat_lit 106, ({ cls := Value.type "function", data := Data.func { name := Str.ofString "_law_range", qualname := Str.ofString "_law_range", params := a13, body := FuncBody.stmts b13, scope := c13, globals := 3, closure := [], defaults := Value.none, kwdefaults := Value.none, pyModule := Value.str (Str.ofString "law_sx_zcanopy_6") 265, code := Value.ref 105 } } : Obj)) ::
  (nat_lit 107, ({ cls := Value.type "tuple", data := Data.seq #[] } : Obj)) ::
  (nat_lit 109, ({ cls := Value.type "tuple", data := Data.seq #[Value.str (Str.ofString "got") 371, Value.str (Str.ofString "want") 372, Value.str (Str.ofString "bad") 373, Value.str (Str.ofString "enough") 374] } : Obj)) ::
  (nat_lit 110, ({ cls := Value.type "tuple", data := Data.seq #[] } : Obj)) ::
  (nat_lit 112, ({ cls := Value.type "code", data := Data.fields #[Value.str (Str.ofString "_law_fits") 368, Value.str (Str.ofString "_law_fits") 369, Value.str (Str.ofString "/claim/cut.py") 370, Value.int 134 0, Value.int 4 0, Value.int 0 0, Value.int 0 0, Value.int 3 0, Value.ref 107, Value.bool Bool.true, Value.int 181 0, Value.ref 108, Value.none, Value.ref 109, Value.ref 110, Value.ref 111, Value.int 375 0, Value.int 134 0, Value.str (Str.ofString "/claim/cut.py") 376] } : Obj)) ::
  (nat_lit 113, ({ cls := Value.type "function", data := Data.func { name := Str.ofString "_law_fits", qualname := Str.ofString "_law_fits", params := a14, body := FuncBody.stmts b14, scope := c14, globals := 3, closure := [], defaults := Value.none, kwdefaults := Value.none, pyModule := Value.str (Str.ofString "law_sx_zcanopy_6") 265, code := Value.ref 112 } } : Obj)) ::
  (nat_lit 114, ({ cls := Value.type "tuple", data := Data.seq #[] } : Obj)) ::
  (nat_lit 117, ({ cls := Value.type "code", data := Data.fields #[Value.str (Str.ofString "law") 378, Value.str (Str.ofString "law") 379, Value.str (Str.ofString "/claim/cut.py") 380, Value.int 142 0, Value.int 1 0, Value.int 0 0, Value.int 0 0, Value.int 3 0, Value.ref 114, Value.bool Bool.true, Value.int 181 0, Value.ref 115, Value.none, Value.none, Value.none, Value.ref 116, Value.int 381 0, Value.int 142 0, Value.str (Str.ofString "/claim/cut.py") 382] } : Obj)) ::
  (nat_lit 118, ({ cls := Value.type "function", data := Data.func { name := Str.ofString "law", qualname := Str.ofString "law", params := a15, body := FuncBody.stmts b15, scope := c15, globals := 3, closure := [], defaults := Value.none, kwdefaults := Value.none, pyModule := Value.str (Str.ofString "law_sx_zcanopy_6") 265, code := Value.ref 117 } } : Obj)) :: [] : Frag)) _ _ _ _ _ _ _ _ _ _ _ _ _ _ _ _ _ _ _ _ _ _ _ _ _ _ _ _ _ _ _ _ _ _ _ _ rfl
noncomputable def hV : Program := (fun (s1 s2 s3 s4 s5 s7 s8 s9 s10 s11 s12 s13 s14 s15 : Stmt) (_ : PySem.Challenge.pw_sx_zcanopy_6.main.body = [_, s1, s2, s3, s4, s5, _, s7, s8, s9, s10, s11, s12, s13, s14, s15]) =>
  ({ PySem.Challenge.pw_sx_zcanopy_6 with main := { PySem.Challenge.pw_sx_zcanopy_6.main with body := [s1, s2, s3, s4, s5, s7, s8, s9, s10, s11, s12, s13, s14, s15] } } : Program)) _ _ _ _ _ _ _ _ _ _ _ _ _ _ rfl
noncomputable def hA : List Addr := [nat_lit 2, nat_lit 3, nat_lit 6, nat_lit 15, nat_lit 22, nat_lit 23, nat_lit 24, nat_lit 25, nat_lit 28, nat_lit 30, nat_lit 31, nat_lit 33, nat_lit 34, nat_lit 35, nat_lit 37, nat_lit 38, nat_lit 40, nat_lit 41, nat_lit 42, nat_lit 44, nat_lit 45, nat_lit 47, nat_lit 48, nat_lit 49, nat_lit 51, nat_lit 52, nat_lit 54, nat_lit 55, nat_lit 56, nat_lit 57, nat_lit 58, nat_lit 59, nat_lit 60, nat_lit 61, nat_lit 62, nat_lit 63, nat_lit 64, nat_lit 65, nat_lit 67, nat_lit 68, nat_lit 70, nat_lit 71, nat_lit 72, nat_lit 74, nat_lit 75, nat_lit 77, nat_lit 78, nat_lit 79, nat_lit 81, nat_lit 82, nat_lit 84, nat_lit 85, nat_lit 86, nat_lit 88, nat_lit 89, nat_lit 91, nat_lit 92, nat_lit 93, nat_lit 95, nat_lit 96, nat_lit 98, nat_lit 99, nat_lit 100, nat_lit 102, nat_lit 103, nat_lit 105, nat_lit 106, nat_lit 107, nat_lit 109, nat_lit 110, nat_lit 112, nat_lit 113, nat_lit 114, nat_lit 117, nat_lit 118]

theorem hKA : ∀ P, hA = (hK P).map (·.1) := fun _ => by kernel_rfl
theorem okL : PySem.Challenge.rw_sx_zcanopy_6.wellSaid = true := by kernel_rfl
theorem leftL : LeftO PySem.Challenge.rw_sx_zcanopy_6.row.prog hV [] (fun s => xlAt hV [] s && recOk (RowW.records PySem.Challenge.rw_sx_zcanopy_6.row.toRowW) s) (Hook.obs (kHook hK hA hKA)) (Hook.val (kHook hK hA hKA)) 1474 := by
  intro w
  kernel_rfl
noncomputable def hdG : Got PySem.Challenge.rw_sx_zcanopy_6.Holds := ⟨_, by
  intro hP
  refine holds_law okL fun said => ?_
  refine holds_open (q := hV) (loose := []) (Xt := fun s => xlAt hV [] s && recOk (RowW.records PySem.Challenge.rw_sx_zcanopy_6.row.toRowW) s) (XP := XL hV []) (Yf := Hook.obs (kHook hK hA hKA)) (Ya := Hook.val (kHook hK hA hKA)) (YP := Hook.says (kHook hK hA hKA)) (N := 1474) leftL (Hook.of (kHook hK hA hKA)) (Hook.keeps (kHook hK hA hKA)) (fun s e => xl_of s (Bool.and_eq_true_iff.mp e).1) XL.keeps (by rfl) (by rfl) (by rfl) (fun s e => recFacts_of (Bool.and_eq_true_iff.mp e).2) (by rfl) said (by decide +kernel) ⟨rfl, rfl, rfl, rfl, rfl, by decide +kernel⟩ ?hw ?hc
  case hw => w_witness2
  exact hP.out⟩
theorem hd (h : hdG.Q) : PySem.Challenge.rw_sx_zcanopy_6.Holds := hdG.k ⟨h⟩
end Mine
set_option maxRecDepth 100000
namespace Mine
open PySem PySem.W PySem.Calls PyProof.Rows PySem.Spec

noncomputable abbrev Keeps (h h' : Heap) : Prop := ∀ b o, h.get? b = some o → h'.get? b = some o

/-! a nest as data -/
mutual
noncomputable def encP : T → PyData
  | .node ks vs cs => .tuple [.list (ks.map .int), .list (vs.map .int), .list (encPs cs)]
noncomputable def encPs : List T → List PyData
  | [] => []
  | c :: cs => encP c :: encPs cs
end
theorem encPs_map : ∀ cs : List T, encPs cs = cs.map encP
  | [] => by rw [encPs]; rfl
  | c :: cs => by rw [encPs, encPs_map cs]; rfl

noncomputable def TAt (h : Heap) (v : Value) (x : T) : Prop := ∃ as, Reads h v (encP x) as
theorem TAt.keeps {h h' : Heap} {v : Value} {x : T} (H : TAt h v x) (k : Keeps h h') : TAt h' v x := let ⟨as, r⟩ := H; ⟨as, Reads.keeps k r⟩

theorem readsAll_ints {h : Heap} {vs : List Value} {ns : List Int} : ∀ {as : List Addr}, ReadsAll h vs (ns.map .int) as → IntsAre vs ns := by
  induction ns generalizing vs with
  | nil => intro as r; cases r; exact .nil
  | cons n ns ih =>
    intro as r
    cases r with
    | cons a b =>
      cases a
      exact .cons _ _ (ih b)
theorem readsAll_get {h : Heap} {vs : List Value} {ds : List PyData} : ∀ {as : List Addr}, ReadsAll h vs ds as → vs.length = ds.length ∧ ∀ (i : Nat) d, ds[i]? = some d → ∃ v as', vs[i]? = some v ∧ Reads h v d as' := by
  induction ds generalizing vs with
  | nil => intro as r; cases r; exact ⟨rfl, fun i d e => by simp at e⟩
  | cons x ds ih =>
    intro as r
    cases r with
    | cons a b =>
      obtain ⟨h1, h2⟩ := ih b
      refine ⟨by simp [h1], fun i d e => ?_⟩
      cases i with
      | zero => simp at e; subst e; exact ⟨_, _, rfl, a⟩
      | succ i => exact h2 i d (by simpa using e)

/-- the parts of a node -/
structure Parts (h : Heap) (a : Addr) (ks vs : List Int) (cs : List T) (ak av ac : Addr) (kvs vvs cvs : List Value) : Prop where
  tup : IsTup h a [Value.ref ak, Value.ref av, Value.ref ac].toArray
  kl : h.IsList ak kvs.toArray
  ki : IntsAre kvs ks
  vl : h.IsList av vvs.toArray
  vi : IntsAre vvs vs
  cl : h.IsList ac cvs.toArray
  clen : cvs.length = cs.length
  cget : ∀ (i : Nat) c, cs[i]? = some c → ∃ v, cvs[i]? = some v ∧ TAt h v c
  cr : ∃ as, Reads h (.ref ac) (.list (encPs cs)) as
theorem TAt.parts {h : Heap} {v : Value} {ks vs : List Int} {cs : List T} (H : TAt h v (.node ks vs cs)) : ∃ a ak av ac kvs vvs cvs, v = .ref a ∧ Parts h a ks vs cs ak av ac kvs vvs cvs := by
  obtain ⟨as, r⟩ := H
  rw [encP] at r
  cases r with
  | @tuple a o items n xs as ho hc hd ra =>
    have hitems : items = items.toList.toArray := rfl
    generalize hl : items.toList = l at ra hitems
    subst hitems
    cases ra with
    | @cons v1 _ _ _ as1 _ r1 ra =>
      cases ra with
      | @cons v2 _ _ _ as2 _ r2 ra =>
        cases ra with
        | @cons v3 _ _ _ as3 _ r3 ra =>
          cases ra
          have r3' := r3
          cases r1 with
          | @list ak o1 i1 n1 _ _ h1 c1 d1 q1 =>
            cases r2 with
            | @list av o2 i2 n2 _ _ h2 c2 d2 q2 =>
              cases r3 with
              | @list ac o3 i3 n3 _ _ h3 c3 d3 q3 =>
                obtain ⟨g1, g2⟩ := readsAll_get q3
                refine ⟨a, ak, av, ac, i1.toList, i2.toList, i3.toList, rfl, ⟨o, ho, hc, n, hd⟩, ⟨o1, h1, c1, n1, d1⟩, readsAll_ints q1, ⟨o2, h2, c2, n2, d2⟩, readsAll_ints q2, ⟨o3, h3, c3, n3, d3⟩, ?_, ?_, ⟨_, r3'⟩⟩
                · rw [g1, encPs_map]; simp
                · intro i c e
                  obtain ⟨v, as', e1, e2⟩ := g2 i (encP c) (by rw [encPs_map]; simp [e])
                  exact ⟨v, e1, as', e2⟩

/-- the lists of a nest are short -/
noncomputable def smD : Nat → T → Prop
  | 0, _ => True
  | d + 1, .node ks vs cs => ks.length ≤ 64 ∧ vs.length ≤ 64 ∧ cs.length ≤ 64 ∧ ∀ c ∈ cs, smD d c
theorem smD_mono : ∀ (d : Nat) (x : T), smD (d + 1) x → smD d x
  | 0, _, _ => trivial
  | d + 1, .node _ _ _, ⟨a, b, c, e⟩ => ⟨a, b, c, fun y hy => smD_mono d y (e y hy)⟩

/-! a def of the text is entered; its ground is the whole heap at the call -/
section
variable {prog : Program} {w : World} {A : Around} {s : Shared} {base : Heap} {outer : List Env} {K : Frag} {p : Program} {loose : List Str} {mean : ExcName → Option Value} {mg mb : Str → Option Value}
  {R : Result → Shared → Prop} {name qual : Str} {params : Arguments} {body : List Stmt} {scope : Scope} {dV kV doc pm cdv ct oc : Value} {an od : Option Addr} {osl : Array (Option Value)} {f : Addr} {args : Args} {binds : List (Str × Value)}
theorem enter (X : K.In s.heap) (T : Top p loose mean mg mb s.heap)
    (ho : K.lookup f = some ⟨oc, od, .func (fnOf name qual params body scope dV kV doc pm an cdv ct), osl⟩) (hcd : codeIn K cdv qual = true) (hroom : A.depth < recursionLimit)
    (hbind : BindsTo s (fnOf name qual params body scope dV kV doc pm an cdv ct) args binds) (hloc : ∀ y ∈ binds, scope.names.lookup y.1 = some .local)
    (h : ∀ h₁, Fr s.heap s.heap.objs.size h₁ (fun y => binds.reverse.lookup y) → News s.heap s.heap.objs.size h₁ [] →
      wpAny (model prog w) (A.deeper (envOf qual scope s.heap.objs.size f cdv)) (execs body (envOf qual scope s.heap.objs.size f cdv))
        (fun fl s' => R (.ok (.ret (match fl with | .ret v => v | _ => .none))) s')
        (fun e s' => wpAny (model prog w) (A.deeper (envOf qual scope s.heap.objs.size f cdv)) (leaving (envOf qual scope s.heap.objs.size f cdv) e) (fun _ s'' => R (.error e) s'') (fun e' s'' => R (.error e') s'') s')
        { s with heap := h₁, toks := s.toks + binds.length })
    (hco : scope.isCoroutine = false) (hgen : scope.isGenerator = false) (hk : scope.kind = .function)
    (hcell : ∀ x ∈ scope.names, x.2 ≠ .cell) : codeAny (model prog w) A (.call (.ref f) args) R s := by
  refine codeAny_call_def (fd := fnOf name qual params body scope dV kV doc pm an cdv ct) (body := body) (binds := binds) hroom (X _ _ ho) rfl T.nolimit (codeRec_of X hcd) rfl hbind hcell hloc (fun h₁ hns hk₁ => ?_) hco hgen hk
  exact h h₁ ⟨hns, hk₁, Nat.le_refl _⟩ News.nil
end
end Mine
set_option maxRecDepth 100000
namespace Mine
open PySem PySem.W PySem.Calls PyProof.Rows PySem.Spec

/-! loops: one rule for every walk whose iterator is one new object -/
noncomputable def TurnPost (h₀ : Heap) (L I : Addr) (oI : Obj) (J : (Str → Option Value) → List (Addr × Obj) → Prop) (s₁ : Shared) (Q : Flow → Shared → Prop) (f : Flow) (s₂ : Shared) : Prop := match f with
  | .ret v => Q (.ret v) s₂
  | .brk => Q .next s₂
  | _ => ∃ h' tk m' nx, s₂ = { s₁ with heap := h', toks := tk } ∧ Fr h₀ L h' m' ∧ News h₀ L h' ((I, oI) :: nx) ∧ (∀ p ∈ nx, p.1 ≠ I) ∧ J m' nx

section
variable {prog : Program} {w : World} {A : Around} {E : Value → Shared → Prop} {s : Shared} {env : Env} {h₀ : Heap} {x : Str} {target : Expr} {body : List Stmt} {Q : Flow → Shared → Prop}
  {I : Addr} {fp : List Addr} {n : Nat} {P : Nat → Value → Prop} {St : Nat → Heap → Prop} {m : Str → Option Value} {news : List (Addr × Obj)}

theorem step_of {J : Nat → (Str → Option Value) → List (Addr × Obj) → Prop} {i : Nat} {own news₁ : List (Addr × Obj)} {s₁ : Shared} {oI : Obj}
    (hfp : ∀ b ∈ fp, b = I ∨ (∃ o, h₀.get? b = some o) ∨ (∃ o, ∀ i m nx, J i m nx → (b, o) ∈ nx)) (hJ : J i m news₁)
    (hoI : s₁.heap.get? I = some oI) (hown : ∀ p ∈ own, p.1 ∈ fp) (hget : ∀ p ∈ own, s₁.heap.get? p.1 = some p.2) (N₁ : News h₀ env.locals s₁.heap (own ++ news₁))
    {s₂ : Shared} (hp : ∃ h' tk m' nx, s₂ = { s₁ with heap := h', toks := tk } ∧ Fr h₀ env.locals h' m' ∧ News h₀ env.locals h' ((I, oI) :: nx) ∧ (∀ p ∈ nx, p.1 ≠ I) ∧ J (i + 1) m' nx) :
    LoopStepU h₀ env.locals [I] own (J (i + 1)) s₁ .next s₂ := by
  obtain ⟨h', tk, m', nx, e, F', N', hn, hJ'⟩ := hp
  refine ⟨rfl, h', tk, m', nx, e, F', fun p hp => ?_, fun p hp hq => hn p hp (List.mem_singleton.mp hq), hJ'⟩
  rcases List.mem_append.mp hp with hp | hp
  · have N1 := N₁ p (List.mem_append_left _ hp)
    refine ⟨?_, N1.2⟩
    rcases hfp p.1 (hown p hp) with q | ⟨o, q⟩ | ⟨o, q⟩
    · have : p.2 = oI := by have := hget p hp; rw [q, hoI] at this; exact (Option.some.inj this).symm
      rw [q, this]
      exact (N' (I, oI) (.head _)).1
    · rw [N1.2.2] at q; cases q
    · have h1 := (N₁ _ (List.mem_append_right _ (q i m news₁ hJ))).1
      have h2 := (N' _ (.tail _ (q (i + 1) m' nx hJ'))).1
      dsimp only at h1 h2
      have : p.2 = o := by have := hget p hp; rw [h1] at this; exact (Option.some.inj this).symm
      rw [this]; exact h2
  · exact N' p (.tail _ hp)

theorem loopV (J : Nat → (Str → Option Value) → List (Addr × Obj) → Prop) (W : Walks prog w A I fp [I] n P St) (hLf : env.locals ∉ fp) (hI : h₀.get? I = none) (hob : ∀ i h, St i h → ∃ o, h.get? I = some o)
    (hfp : ∀ b ∈ fp, b = I ∨ (∃ o, h₀.get? b = some o) ∨ (∃ o, ∀ i m nx, J i m nx → (b, o) ∈ nx)) (hIf : I ∈ fp)
    (hst : St 0 s.heap) (F : Fr h₀ env.locals s.heap m) (N : News h₀ env.locals s.heap news) (hnI : ∀ p ∈ news, p.1 ≠ I) (hj : J 0 m news)
    (turn : ∀ i v m₁ nx h tk oI, i < n → P i v → J i m₁ nx → (∀ p ∈ nx, p.1 ≠ I) → Fr h₀ env.locals h (fun y => if y = x then some v else m₁ y) → News h₀ env.locals h ((I, oI) :: nx) →
      wpAny (model prog w) A (execs body env) (TurnPost h₀ env.locals I oI (J (i + 1)) { s with heap := h, toks := tk } Q) E { s with heap := h, toks := tk })
    (done : ∀ m₁ nx h tk, J n m₁ nx → Fr h₀ env.locals h m₁ → News h₀ env.locals h nx → Q .next { s with heap := h, toks := tk }) :
    LoopAtV prog w A h₀ env x body Q E (.ref I) s := by
  refine ⟨I, fp, [I], n, P, St, m, news, J, rfl, W, hLf, fun b hb => (List.mem_singleton.mp hb) ▸ hI, fun p hp hq => hnI p hp (List.mem_singleton.mp hq), hst, F, N, hj, ?_, fun h' tk m' nx F' N' _ hJ => done m' nx h' tk hJ F' N'⟩
  rintro i v m₁ news₁ s₁ own ⟨hh', tk', rfl⟩ hin hP hJ hoff hown hget hmem hst' F₁ N₁
  obtain ⟨oI, hoI⟩ := hob _ _ hst'
  have hIown := hmem I hIf hI oI hoI
  have hn1 : ∀ p ∈ news₁, p.1 ≠ I := fun p hp e => hoff p hp (List.mem_singleton.mpr e)
  have N₂ : News h₀ env.locals hh' ((I, oI) :: news₁) := fun p hp => by
    rcases List.mem_cons.mp hp with rfl | hp
    · exact N₁ _ (List.mem_append_left _ hIown)
    · exact N₁ _ (List.mem_append_right _ hp)
  refine wpAny_mono (turn i v m₁ news₁ hh' tk' oI hin hP hJ hn1 F₁ N₂) (fun f s₂ p => ?_) fun _ _ e => e
  cases f with
  | ret v => exact p
  | brk => exact p
  | next => exact step_of hfp hJ hoI hown hget N₁ p
  | cont => exact step_of hfp hJ hoI hown hget N₁ p

theorem loopT (J : Nat → (Str → Option Value) → List (Addr × Obj) → Prop) (W : Walks prog w A I fp [I] n P St) (hLf : env.locals ∉ fp) (hI : h₀.get? I = none) (hob : ∀ i h, St i h → ∃ o, h.get? I = some o)
    (hgo : ∀ i v (s : Shared) (Q : Unit → Shared → Prop) (E : Value → Shared → Prop), St i s.heap → Q () s → wpAny (model prog w) A (letOwnedTupleGo target (.ref I) v) Q E s)
    (hfp : ∀ b ∈ fp, b = I ∨ (∃ o, h₀.get? b = some o) ∨ (∃ o, ∀ i m nx, J i m nx → (b, o) ∈ nx)) (hIf : I ∈ fp)
    (hst : St 0 s.heap) (F : Fr h₀ env.locals s.heap m) (N : News h₀ env.locals s.heap news) (hnI : ∀ p ∈ news, p.1 ≠ I) (hj : J 0 m news)
    (turn : ∀ i v m₁ nx h tk oI, i < n → P i v → J i m₁ nx → (∀ p ∈ nx, p.1 ≠ I) → Fr h₀ env.locals h m₁ → News h₀ env.locals h ((I, oI) :: nx) →
      wpAny (model prog w) A (assign target env v) (fun _ s₃ => wpAny (model prog w) A (execs body env) (TurnPost h₀ env.locals I oI (J (i + 1)) { s with heap := h, toks := tk } Q) E s₃) E { s with heap := h, toks := tk })
    (done : ∀ m₁ nx h tk, J n m₁ nx → Fr h₀ env.locals h m₁ → News h₀ env.locals h nx → Q .next { s with heap := h, toks := tk }) :
    TurnsAt prog w A h₀ env target body Q E (.ref I) s := by
  refine ⟨I, fp, [I], n, _, _, St, m, news, J, rfl, KTurns.ofWalks W hgo, hLf, fun b hb => (List.mem_singleton.mp hb) ▸ hI, fun p hp hq => hnI p hp (List.mem_singleton.mp hq), hst, F, N, hj, ?_, fun h' tk m' nx F' N' _ hJ => done m' nx h' tk hJ F' N'⟩
  rintro i v m₁ news₁ hh' tk' own hin hP hJ hoff hown hget hmem hst' F₁ N₁
  obtain ⟨oI, hoI⟩ := hob _ _ hst'
  have hIown := hmem I hIf hI oI hoI
  have hn1 : ∀ p ∈ news₁, p.1 ≠ I := fun p hp e => hoff p hp (List.mem_singleton.mpr e)
  have N₂ : News h₀ env.locals hh' ((I, oI) :: news₁) := fun p hp => by
    rcases List.mem_cons.mp hp with rfl | hp
    · exact N₁ _ (List.mem_append_left _ hIown)
    · exact N₁ _ (List.mem_append_right _ hp)
  refine wpAny_mono (turn i v m₁ news₁ hh' tk' oI hin hP hJ hn1 F₁ N₂) (fun _ s₃ q => wpAny_mono q (fun f s₂ p => ?_) fun _ _ e => e) fun _ _ e => e
  cases f with
  | ret v => exact p
  | brk => exact p
  | next => exact step_of (s₁ := { s with heap := hh', toks := tk' }) hfp hJ hoI hown hget N₁ p
  | cont => exact step_of (s₁ := { s with heap := hh', toks := tk' }) hfp hJ hoI hown hget N₁ p

/-- where a list lies that a loop goes over -/
noncomputable def LiesAt (h₀ : Heap) (l : Addr) (ol : Obj) (J : Nat → (Str → Option Value) → List (Addr × Obj) → Prop) : Prop := h₀.get? l = some ol ∨ ∀ i m nx, J i m nx → (l, ol) ∈ nx

variable {l : Addr} {vs : List Value} {ol : Obj} {k : Nat}
theorem iterV (J : Nat → (Str → Option Value) → List (Addr × Obj) → Prop) (hh : A.handled = none) (hl : s.heap.get? l = some ol) (hc : ol.cls = .type "list") (hd : ol.data = .seq vs.toArray k) (hlie : LiesAt h₀ l ol J) (hlL : l ≠ env.locals)
    (F : Fr h₀ env.locals s.heap m) (N : News h₀ env.locals s.heap news) (hj : J 0 m news)
    (turn : ∀ (i : Nat) v m₁ nx h tk I oI, vs[i]? = some v → J i m₁ nx → (∀ p ∈ nx, p.1 ≠ I) → Fr h₀ env.locals h (fun y => if y = x then some v else m₁ y) → News h₀ env.locals h ((I, oI) :: nx) →
      wpAny (model prog w) A (execs body env) (TurnPost h₀ env.locals I oI (J (i + 1)) { s with heap := h, toks := tk } Q) E { s with heap := h, toks := tk })
    (done : ∀ m₁ nx h tk, J vs.length m₁ nx → Fr h₀ env.locals h m₁ → News h₀ env.locals h nx → Q .next { s with heap := h, toks := tk }) :
    wpAny (model prog w) A (pyIter (.ref l)) (fun it s₂ => LoopAtV prog w A h₀ env x body Q E it s₂) E s := by
  have hls : s.heap.IsList l vs.toArray := ⟨ol, hl, hc, k, hd⟩
  have hne : l ≠ s.heap.objs.size := Nat.ne_of_lt (Heap.lt_size hl)
  refine wpAny_pyIter_list hls ?_
  have W := Walks.list (prog := prog) (w := w) hh s.heap.objs.size l hne vs.toArray
  have hlen : vs.toArray.size = vs.length := by simp
  rw [hlen] at W
  refine loopV (s := { s with heap := s.heap.push _ }) J W ?_ (next_is_new F) ?_ ?_ (.head _) ⟨⟨_, Heap.get?_push_size _ rfl, rfl, rfl⟩, hls.push _⟩ (F.push _) (fun p hp => ⟨Heap.get?_push_of_some _ (N p hp).1, (N p hp).2⟩) ?_ hj ?_ done
  · intro hm
    rcases List.mem_cons.mp hm with e | hm
    · exact absurd F.ns.lt (e ▸ Nat.lt_irrefl _)
    · exact hlL (List.mem_singleton.mp hm).symm
  · rintro i h ⟨⟨o, ho, _⟩, _⟩
    exact ⟨o, ho⟩
  · intro b hb
    rcases List.mem_cons.mp hb with e | hb
    · exact .inl e
    · rw [List.mem_singleton.mp hb]
      rcases hlie with q | q
      · exact .inr (.inl ⟨_, q⟩)
      · exact .inr (.inr ⟨_, q⟩)
  · intro p hp hI
    exact absurd (Heap.lt_size (N p hp).1) (hI ▸ Nat.lt_irrefl _)
  · intro i v m₁ nx h tk oI _ hP hJ hn F₁ N₁
    exact turn i v m₁ nx h tk _ oI (by simpa using hP) hJ hn F₁ N₁

theorem iterT (J : Nat → (Str → Option Value) → List (Addr × Obj) → Prop) (hh : A.handled = none) (hl : s.heap.get? l = some ol) (hc : ol.cls = .type "list") (hd : ol.data = .seq vs.toArray k) (hlie : LiesAt h₀ l ol J) (hlL : l ≠ env.locals)
    (F : Fr h₀ env.locals s.heap m) (N : News h₀ env.locals s.heap news) (hj : J 0 m news)
    (turn : ∀ (i : Nat) v m₁ nx h tk I oI, vs[i]? = some v → J i m₁ nx → (∀ p ∈ nx, p.1 ≠ I) → Fr h₀ env.locals h m₁ → News h₀ env.locals h ((I, oI) :: nx) →
      wpAny (model prog w) A (assign target env v) (fun _ s₃ => wpAny (model prog w) A (execs body env) (TurnPost h₀ env.locals I oI (J (i + 1)) { s with heap := h, toks := tk } Q) E s₃) E { s with heap := h, toks := tk })
    (done : ∀ m₁ nx h tk, J vs.length m₁ nx → Fr h₀ env.locals h m₁ → News h₀ env.locals h nx → Q .next { s with heap := h, toks := tk }) :
    wpAny (model prog w) A (pyIter (.ref l)) (fun it s₂ => TurnsAt prog w A h₀ env target body Q E it s₂) E s := by
  have hls : s.heap.IsList l vs.toArray := ⟨ol, hl, hc, k, hd⟩
  have hne : l ≠ s.heap.objs.size := Nat.ne_of_lt (Heap.lt_size hl)
  refine wpAny_pyIter_list hls ?_
  have W := Walks.list (prog := prog) (w := w) hh s.heap.objs.size l hne vs.toArray
  have hlen : vs.toArray.size = vs.length := by simp
  rw [hlen] at W
  refine loopT (s := { s with heap := s.heap.push _ }) J W ?_ (next_is_new F) ?_ (fun i v s Q E st hQ => letGo_listiter st.1 hQ) ?_ (.head _) ⟨⟨_, Heap.get?_push_size _ rfl, rfl, rfl⟩, hls.push _⟩ (F.push _) (fun p hp => ⟨Heap.get?_push_of_some _ (N p hp).1, (N p hp).2⟩) ?_ hj ?_ done
  · intro hm
    rcases List.mem_cons.mp hm with e | hm
    · exact absurd F.ns.lt (e ▸ Nat.lt_irrefl _)
    · exact hlL (List.mem_singleton.mp hm).symm
  · rintro i h ⟨⟨o, ho, _⟩, _⟩
    exact ⟨o, ho⟩
  · intro b hb
    rcases List.mem_cons.mp hb with e | hb
    · exact .inl e
    · rw [List.mem_singleton.mp hb]
      rcases hlie with q | q
      · exact .inr (.inl ⟨_, q⟩)
      · exact .inr (.inr ⟨_, q⟩)
  · intro p hp hI
    exact absurd (Heap.lt_size (N p hp).1) (hI ▸ Nat.lt_irrefl _)
  · intro i v m₁ nx h tk oI _ hP hJ hn F₁ N₁
    exact turn i v m₁ nx h tk _ oI (by simpa using hP) hJ hn F₁ N₁

/-- over a range a₀ .. b₀ by ones -/
theorem iterR (J : Nat → (Str → Option Value) → List (Addr × Obj) → Prop) {r : Addr} {a₀ b₀ : Int} {t₀ u₀ v₀ : Tok} {n : Nat} (hh : A.handled = none) (hr : IsRange s.heap r a₀ b₀ 1 t₀ u₀ v₀) (hsmall : Builtin.Range.small a₀ b₀ 1 = true) (hsz : Builtin.Range.rangeSize a₀ b₀ 1 = (n : Int))
    (F : Fr h₀ env.locals s.heap m) (N : News h₀ env.locals s.heap news) (hj : J 0 m news)
    (turn : ∀ (i : Nat) t m₁ nx h tk I oI, i < n → J i m₁ nx → (∀ p ∈ nx, p.1 ≠ I) → Fr h₀ env.locals h (fun y => if y = x then some (.int (a₀ + (i : Int)) t) else m₁ y) → News h₀ env.locals h ((I, oI) :: nx) →
      wpAny (model prog w) A (execs body env) (TurnPost h₀ env.locals I oI (J (i + 1)) { s with heap := h, toks := tk } Q) E { s with heap := h, toks := tk })
    (done : ∀ m₁ nx h tk, J n m₁ nx → Fr h₀ env.locals h m₁ → News h₀ env.locals h nx → Q .next { s with heap := h, toks := tk }) :
    wpAny (model prog w) A (pyIter (.ref r)) (fun it s₂ => LoopAtV prog w A h₀ env x body Q E it s₂) E s := by
  refine wpAny_pyIter_range hr hsmall ?_
  have W := Walks.range (prog := prog) (w := w) hh s.heap.objs.size a₀ 1 n
  refine loopV (s := { s with heap := s.heap.push _ }) J W ?_ (next_is_new F) (fun i h st => ⟨_, st⟩) (fun b hb => .inl (List.mem_singleton.mp hb)) (.head _) ?_ (F.push _) (fun p hp => ⟨Heap.get?_push_of_some _ (N p hp).1, (N p hp).2⟩) ?_ hj ?_ done
  · intro hm
    exact absurd F.ns.lt ((List.mem_singleton.mp hm) ▸ Nat.lt_irrefl _)
  · show IsRangeIter _ _ _ _ _
    rw [hsz]
    simpa using Heap.get?_push_size _ rfl
  · intro p hp hI
    exact absurd (Heap.lt_size (N p hp).1) (hI ▸ Nat.lt_irrefl _)
  · rintro i v m₁ nx h tk oI hi ⟨t, rfl⟩ hJ hn F₁ N₁
    have e : a₀ + (i : Int) * 1 = a₀ + (i : Int) := by omega
    rw [e] at F₁
    exact turn i t m₁ nx h tk _ oI hi hJ hn F₁ N₁
end
end Mine
set_option maxRecDepth 100000
namespace Mine
open PySem PySem.W PySem.Calls PyProof.Rows PySem.Spec

mutual
theorem canLay_enc : ∀ x : T, (encP x).canLay0 = true
  | .node ks vs cs => by
    rw [encP]
    simp only [PyData.canLay0, PyData.canLayAll0, ke_canLayAll0, canLay_encs cs, Bool.and_self]
theorem canLay_encs : ∀ cs : List T, PyData.canLayAll0 (encPs cs) = true
  | [] => by rw [encPs]; rfl
  | c :: cs => by rw [encPs]; simp only [PyData.canLayAll0, canLay_enc c, canLay_encs cs, Bool.and_self]
end
mutual
theorem eqv_enc : ∀ x : T, PyData.eqv (encP x) (encP x) = true
  | .node ks vs cs => by
    rw [encP]
    simp only [PyData.eqv, PyData.eqvAll, eqv_ints, eqv_encs cs, Bool.and_self]
where eqv_ints : ∀ ns : List Int, PyData.eqvAll (ns.map PyData.int) (ns.map PyData.int) = true
  | [] => rfl
  | n :: ns => by simp [PyData.eqvAll, PyData.eqv, eqv_ints ns]
theorem eqv_encs : ∀ cs : List T, PyData.eqvAll (encPs cs) (encPs cs) = true
  | [] => by rw [encPs]; rfl
  | c :: cs => by rw [encPs]; simp only [PyData.eqvAll, eqv_enc c, eqv_encs cs, Bool.and_self]
end
theorem eqv_nil (cs : List T) : PyData.eqv (.list (encPs cs)) (.list []) = cs.isEmpty := by
  cases cs with
  | nil => rw [encPs]; rfl
  | cons c cs => rw [encPs]; rfl

section
variable {prog : Program} {w : World} {A : Around} {E : Value → Shared → Prop} {s : Shared} {a b : Addr} {cs : List T} {Q : Value → Shared → Prop}
theorem room_nil {ds : List PyData} (hu : A.units + 64 < cLine) : A.units + min (PyData.list ds).depth (PyData.list []).depth < cLine := by
  have : min (PyData.list ds).depth (PyData.list []).depth ≤ (PyData.list []).depth := Nat.min_le_right _ _
  have h1 : (PyData.list []).depth ≤ 1 := by simp [PyData.depth, PyData.depthAll]
  omega
theorem ne_nil (ha : ∃ as, Reads s.heap (.ref a) (.list (encPs cs)) as) (hb : s.heap.IsList b #[]) (hu : A.units + 64 < cLine) (h : Q (.bool (!cs.isEmpty)) s) :
    wpAny (model prog w) A (compareOp .NotEq (.ref a) (.ref b)) Q E s := by
  obtain ⟨as, ra⟩ := ha
  obtain ⟨o, ho, hc, n, hd⟩ := hb
  refine SeqAt.compareNe_reads ra (reads_list_at ho hc hd ReadsAll.nil) (by simp [PyData.canLay0, canLay_encs]) (by simp [PyData.canLay0, PyData.canLayAll0]) (room_nil hu) ?_
  rw [eqv_nil]; exact h
theorem eq_nil (ha : ∃ as, Reads s.heap (.ref a) (.list (encPs cs)) as) (hb : s.heap.IsList b #[]) (hu : A.units + 64 < cLine) (h : Q (.bool cs.isEmpty) s) :
    wpAny (model prog w) A (compareOp .Eq (.ref a) (.ref b)) Q E s := by
  obtain ⟨as, ra⟩ := ha
  obtain ⟨o, ho, hc, n, hd⟩ := hb
  refine SeqAt.compareEq_reads ra (reads_list_at ho hc hd ReadsAll.nil) (by simp [PyData.canLay0, canLay_encs]) (by simp [PyData.canLay0, PyData.canLayAll0]) (room_nil hu) ?_
  rw [eqv_nil]; exact h
end
end Mine
set_option maxRecDepth 100000
namespace Mine
open PySem PySem.W PySem.Calls PyProof.Rows PySem.Spec

/-- a nest is well formed down to a depth -/
noncomputable def wf0 : Nat → T → Prop
  | 0, _ => True
  | d + 1, .node ks vs cs => vs.length = ks.length ∧ (cs = [] ∨ cs.length = ks.length + 1) ∧ ∀ c ∈ cs, wf0 d c
theorem wf0_of : ∀ (d : Nat) (x : T), wfD d x → wf0 d x
  | 0, _, _ => trivial
  | d + 1, .node _ _ _, ⟨a, b, c⟩ => ⟨a, b, fun y hy => wf0_of d y (c y hy)⟩
theorem wf0_down : ∀ (d : Nat) (x : T), wf0 (d + 1) x → wf0 d x
  | 0, _, _ => trivial
  | d + 1, .node _ _ _, ⟨a, b, c⟩ => ⟨a, b, fun y hy => wf0_down d y (c y hy)⟩
/-- an open or a written bound, as a value -/
noncomputable def bndV : Option Int → Tok → Value
  | none, _ => .none
  | some l, t => .int l t
/-- a DepthError is in the air -/
noncomputable def Flies (base G : Heap) (outer : List Env) (e : Addr) (h' : Heap) : Prop := ∃ t vs, RaisedS base G outer e (.ref 24) t vs [] h' ∧ G.UpToSlots h'
theorem News.kept {h₀ h h' : Heap} {L : Addr} {news : List (Addr × Obj)} (N : News h₀ L h news) (k : Keeps h h') : News h₀ L h' news := fun p hp => ⟨k _ _ (N p hp).1, (N p hp).2⟩

/-- the frame's names as they stood, but for the loop's name and those that the body stores -/
noncomputable def Like (x : Str) (S : List Str) (m m₁ : Str → Option Value) : Prop := ∀ z, z ≠ x → S.contains z = false → m₁ z = m z
noncomputable def StJ (x : Str) (S : List Str) (m : Str → Option Value) (news : List (Addr × Obj)) (P : Nat → Prop) (i : Nat) (m₁ : Str → Option Value) (nx : List (Addr × Obj)) : Prop := nx = news ∧ Like x S m m₁ ∧ P i

theorem Like.fr {h₀ h : Heap} {L : Addr} {x : Str} {S : List Str} {v : Value} {m₁ m : Str → Option Value} (hm : Like x S m m₁) (F : Fr h₀ L h (fun y => if y = x then some v else m₁ y)) :
    Fr h₀ L h (fun y => if y = x then some v else if S.contains y then m₁ y else m y) := by
  have e : (fun y => if y = x then some v else m₁ y) = fun y => if y = x then some v else if S.contains y then m₁ y else m y := by
    funext y
    by_cases q : y = x
    · simp only [if_pos q]
    · simp only [if_neg q]
      cases hc : S.contains y with
      | true => simp
      | false => simpa using hm y q hc
  rw [e] at F
  exact F
theorem Like.frOut {h₀ h : Heap} {L : Addr} {x : Str} {S : List Str} {m₁ m : Str → Option Value} (hm : Like x S m m₁) (F : Fr h₀ L h m₁) :
    Fr h₀ L h (fun y => if y = x then m₁ y else if S.contains y then m₁ y else m y) := by
  have e : m₁ = fun y => if y = x then m₁ y else if S.contains y then m₁ y else m y := by
    funext y
    by_cases q : y = x
    · simp only [if_pos q]
    · simp only [if_neg q]
      cases hc : S.contains y with
      | true => simp
      | false => simpa using hm y q hc
  rw [e] at F
  exact F

section
variable {prog : Program} {w : World} {A : Around} {E : Value → Shared → Prop} {s : Shared} {env : Env} {h₀ : Heap} {x : Str} {target : Expr} {body : List Stmt} {Q : Flow → Shared → Prop}
  {n : Nat} {m : Str → Option Value} {news : List (Addr × Obj)}
theorem turnEnd {S : List Str} {P : Nat → Prop} {i : Nat} {I : Addr} {oI : Obj} {s₁ : Shared} {h' : Heap} {tk : Nat} {m' : Str → Option Value} {news' : List (Addr × Obj)} (hn : ∀ p ∈ news, p.1 ≠ I) (F : Fr h₀ env.locals h' m') (N : News h₀ env.locals h' news')
    (hs : ∀ p ∈ (I, oI) :: news, p ∈ news') (hm : Like x S m m') (hP : P (i + 1)) : TurnPost h₀ env.locals I oI (StJ x S m news P (i + 1)) s₁ Q .next { s₁ with heap := h', toks := tk } :=
  ⟨h', tk, m', news, rfl, F, fun p hp => N p (hs p hp), hn, rfl, hm, hP⟩

variable {l : Addr} {vs : List Value} {ol : Obj} {k : Nat}
theorem iterVS (S : List Str) (P : Nat → Prop) (hh : A.handled = none) (hl : h₀.IsList l vs.toArray) (F : Fr h₀ env.locals s.heap m) (N : News h₀ env.locals s.heap news) (hp : P 0)
    (turn : ∀ (i : Nat) v (u : Str → Option Value) h tk I oI, vs[i]? = some v → P i → (∀ p ∈ news, p.1 ≠ I) → Fr h₀ env.locals h (fun y => if y = x then some v else if S.contains y then u y else m y) → News h₀ env.locals h ((I, oI) :: news) →
      wpAny (model prog w) A (execs body env) (TurnPost h₀ env.locals I oI (StJ x S m news P (i + 1)) { s with heap := h, toks := tk } Q) E { s with heap := h, toks := tk })
    (done : ∀ (u : Str → Option Value) h tk, P vs.length → Fr h₀ env.locals h (fun y => if y = x then u y else if S.contains y then u y else m y) → News h₀ env.locals h news → Q .next { s with heap := h, toks := tk }) :
    wpAny (model prog w) A (pyIter (.ref l)) (fun it s₂ => LoopAtV prog w A h₀ env x body Q E it s₂) E s := by
  obtain ⟨ol, hol, hoc, k, hod⟩ := hl
  refine iterV (StJ x S m news P) hh (F.keep _ _ hol) hoc hod (.inl hol) (fun e => ?_) F N ⟨rfl, fun _ _ _ => rfl, hp⟩ ?_ ?_
  · exact absurd (Nat.lt_of_lt_of_le (Heap.lt_size hol) F.above) (by rw [e]; exact Nat.lt_irrefl _)
  · rintro i v m₁ nx h tk I oI hv ⟨rfl, hm, hP⟩ hn F₁ N₁
    exact turn i v m₁ h tk I oI hv hP hn (hm.fr F₁) N₁
  · rintro m₁ nx h tk ⟨rfl, hm, hP⟩ F₁ N₁
    exact done m₁ h tk hP (hm.frOut F₁) N₁
theorem iterRS (S : List Str) (P : Nat → Prop) {r : Addr} {a₀ b₀ : Int} {t₀ u₀ v₀ : Tok} {n : Nat} (hh : A.handled = none) (hr : IsRange s.heap r a₀ b₀ 1 t₀ u₀ v₀) (hsmall : Builtin.Range.small a₀ b₀ 1 = true) (hsz : Builtin.Range.rangeSize a₀ b₀ 1 = (n : Int))
    (F : Fr h₀ env.locals s.heap m) (N : News h₀ env.locals s.heap news) (hp : P 0)
    (turn : ∀ (i : Nat) t (u : Str → Option Value) h tk I oI, i < n → P i → (∀ p ∈ news, p.1 ≠ I) → Fr h₀ env.locals h (fun y => if y = x then some (.int (a₀ + (i : Int)) t) else if S.contains y then u y else m y) → News h₀ env.locals h ((I, oI) :: news) →
      wpAny (model prog w) A (execs body env) (TurnPost h₀ env.locals I oI (StJ x S m news P (i + 1)) { s with heap := h, toks := tk } Q) E { s with heap := h, toks := tk })
    (done : ∀ (u : Str → Option Value) h tk, P n → Fr h₀ env.locals h (fun y => if y = x then u y else if S.contains y then u y else m y) → News h₀ env.locals h news → Q .next { s with heap := h, toks := tk }) :
    wpAny (model prog w) A (pyIter (.ref r)) (fun it s₂ => LoopAtV prog w A h₀ env x body Q E it s₂) E s := by
  refine iterR (StJ x S m news P) hh hr hsmall hsz F N ⟨rfl, fun _ _ _ => rfl, hp⟩ ?_ ?_
  · rintro i t m₁ nx h tk I oI hi ⟨rfl, hm, hP⟩ hn F₁ N₁
    exact turn i t m₁ h tk I oI hi hP hn (hm.fr F₁) N₁
  · rintro m₁ nx h tk ⟨rfl, hm, hP⟩ F₁ N₁
    exact done m₁ h tk hP (hm.frOut F₁) N₁
end
theorem range_size {n : Nat} (_h : n ≤ 1000) : Builtin.Range.rangeSize 0 (n : Int) 1 = (n : Int) := by
  unfold Builtin.Range.rangeSize
  simp
  omega
theorem range_size1 {n : Nat} (h : 1 ≤ n) : Builtin.Range.rangeSize 1 (n : Int) 1 = ((n - 1 : Nat) : Int) := by
  unfold Builtin.Range.rangeSize
  simp
  omega
theorem range_small1 {n : Nat} (h : n ≤ 1000) (h1 : 1 ≤ n) : Builtin.Range.small 1 (n : Int) 1 = true := by
  unfold Builtin.Range.small
  rw [range_size1 h1]
  simp [Builtin.Range.rangeFitsLong]
  omega
theorem range_small {n : Nat} (h : n ≤ 1000) : Builtin.Range.small 0 (n : Int) 1 = true := by
  unfold Builtin.Range.small
  rw [range_size h]
  simp [Builtin.Range.rangeFitsLong]
  omega
end Mine
set_option maxRecDepth 100000
namespace Mine
open PySem PySem.W PySem.Calls PyProof.Rows PySem.Spec

/-! loops that turn the ledger -/
noncomputable def LdJ (x : Str) (S : List Str) (m : Str → Option Value) (J : Nat → List (Addr × Obj) → Prop) (i : Nat) (m₁ : Str → Option Value) (nx : List (Addr × Obj)) : Prop := Like x S m m₁ ∧ J i nx
section
variable {prog : Program} {w : World} {A : Around} {E : Value → Shared → Prop} {s : Shared} {env : Env} {h₀ : Heap} {x : Str} {target : Expr} {body : List Stmt} {Q : Flow → Shared → Prop}
  {n : Nat} {m : Str → Option Value} {news : List (Addr × Obj)}
theorem turnEndL {S : List Str} {J : Nat → List (Addr × Obj) → Prop} {i : Nat} {I : Addr} {oI : Obj} {s₁ : Shared} {h' : Heap} {tk : Nat} {m' : Str → Option Value} {news' nx : List (Addr × Obj)} (F : Fr h₀ env.locals h' m') (N : News h₀ env.locals h' news')
    (hs : ∀ p ∈ (I, oI) :: nx, p ∈ news') (hn : ∀ p ∈ nx, p.1 ≠ I) (hm : Like x S m m') (hJ : J (i + 1) nx) : TurnPost h₀ env.locals I oI (LdJ x S m J (i + 1)) s₁ Q .next { s₁ with heap := h', toks := tk } :=
  ⟨h', tk, m', nx, rfl, F, fun p hp => N p (hs p hp), hn, hm, hJ⟩

variable {l : Addr} {vs : List Value} {ol : Obj} {k : Nat}
theorem iterVL (S : List Str) (J : Nat → List (Addr × Obj) → Prop) (hh : A.handled = none) (hl : (l, ol) ∈ news) (hc : ol.cls = .type "list") (hd : ol.data = .seq vs.toArray k) (hlie : ∀ i nx, J i nx → (l, ol) ∈ nx)
    (F : Fr h₀ env.locals s.heap m) (N : News h₀ env.locals s.heap news) (hj : J 0 news)
    (turn : ∀ (i : Nat) v (u : Str → Option Value) nx h tk I oI, vs[i]? = some v → J i nx → (∀ p ∈ nx, p.1 ≠ I) → Fr h₀ env.locals h (fun y => if y = x then some v else if S.contains y then u y else m y) → News h₀ env.locals h ((I, oI) :: nx) →
      wpAny (model prog w) A (execs body env) (TurnPost h₀ env.locals I oI (LdJ x S m J (i + 1)) { s with heap := h, toks := tk } Q) E { s with heap := h, toks := tk })
    (done : ∀ (u : Str → Option Value) nx h tk, J vs.length nx → Fr h₀ env.locals h (fun y => if y = x then u y else if S.contains y then u y else m y) → News h₀ env.locals h nx → Q .next { s with heap := h, toks := tk }) :
    wpAny (model prog w) A (pyIter (.ref l)) (fun it s₂ => LoopAtV prog w A h₀ env x body Q E it s₂) E s := by
  refine iterV (LdJ x S m J) hh (N _ hl).1 hc hd (.inr fun i m nx q => hlie i nx q.2) (N _ hl).2.1 F N ⟨fun _ _ _ => rfl, hj⟩ ?_ ?_
  · rintro i v m₁ nx h tk I oI hv ⟨hm, hP⟩ hn F₁ N₁
    exact turn i v m₁ nx h tk I oI hv hP hn (hm.fr F₁) N₁
  · rintro m₁ nx h tk ⟨hm, hP⟩ F₁ N₁
    exact done m₁ nx h tk hP (hm.frOut F₁) N₁
theorem iterRL (S : List Str) (J : Nat → List (Addr × Obj) → Prop) {r : Addr} {a₀ b₀ : Int} {t₀ u₀ v₀ : Tok} {n : Nat} (hh : A.handled = none) (hr : IsRange s.heap r a₀ b₀ 1 t₀ u₀ v₀) (hsmall : Builtin.Range.small a₀ b₀ 1 = true) (hsz : Builtin.Range.rangeSize a₀ b₀ 1 = (n : Int))
    (F : Fr h₀ env.locals s.heap m) (N : News h₀ env.locals s.heap news) (hj : J 0 news)
    (turn : ∀ (i : Nat) t (u : Str → Option Value) nx h tk I oI, i < n → J i nx → (∀ p ∈ nx, p.1 ≠ I) → Fr h₀ env.locals h (fun y => if y = x then some (.int (a₀ + (i : Int)) t) else if S.contains y then u y else m y) → News h₀ env.locals h ((I, oI) :: nx) →
      wpAny (model prog w) A (execs body env) (TurnPost h₀ env.locals I oI (LdJ x S m J (i + 1)) { s with heap := h, toks := tk } Q) E { s with heap := h, toks := tk })
    (done : ∀ (u : Str → Option Value) nx h tk, J n nx → Fr h₀ env.locals h (fun y => if y = x then u y else if S.contains y then u y else m y) → News h₀ env.locals h nx → Q .next { s with heap := h, toks := tk }) :
    wpAny (model prog w) A (pyIter (.ref r)) (fun it s₂ => LoopAtV prog w A h₀ env x body Q E it s₂) E s := by
  refine iterR (LdJ x S m J) hh hr hsmall hsz F N ⟨fun _ _ _ => rfl, hj⟩ ?_ ?_
  · rintro i t m₁ nx h tk I oI hi ⟨hm, hP⟩ hn F₁ N₁
    exact turn i t m₁ nx h tk I oI hi hP hn (hm.fr F₁) N₁
  · rintro m₁ nx h tk ⟨hm, hP⟩ F₁ N₁
    exact done m₁ nx h tk hP (hm.frOut F₁) N₁
/-- over a list, the target a tuple of names -/
theorem iterTL (S : List Str) (J : Nat → List (Addr × Obj) → Prop) (hh : A.handled = none) (hl : s.heap.get? l = some ol) (hlL : l ≠ env.locals) (hc : ol.cls = .type "list") (hd : ol.data = .seq vs.toArray k) (hlie : h₀.get? l = some ol ∨ ∀ i nx, J i nx → (l, ol) ∈ nx)
    (F : Fr h₀ env.locals s.heap m) (N : News h₀ env.locals s.heap news) (hj : J 0 news)
    (turn : ∀ (i : Nat) v (u : Str → Option Value) nx h tk I oI, vs[i]? = some v → J i nx → (∀ p ∈ nx, p.1 ≠ I) → Fr h₀ env.locals h (fun y => if S.contains y then u y else m y) → News h₀ env.locals h ((I, oI) :: nx) →
      wpAny (model prog w) A (assign target env v) (fun _ s₃ => wpAny (model prog w) A (execs body env) (TurnPost h₀ env.locals I oI (fun m₁ nx => (∀ z, S.contains z = false → m₁ z = m z) ∧ J (i + 1) nx) { s with heap := h, toks := tk } Q) E s₃) E { s with heap := h, toks := tk })
    (done : ∀ (u : Str → Option Value) nx h tk, J vs.length nx → Fr h₀ env.locals h (fun y => if S.contains y then u y else m y) → News h₀ env.locals h nx → Q .next { s with heap := h, toks := tk }) :
    wpAny (model prog w) A (pyIter (.ref l)) (fun it s₂ => TurnsAt prog w A h₀ env target body Q E it s₂) E s := by
  have fr : ∀ {h : Heap} {m₁ : Str → Option Value}, (∀ z, S.contains z = false → m₁ z = m z) → Fr h₀ env.locals h m₁ → Fr h₀ env.locals h (fun y => if S.contains y then m₁ y else m y) := by
    intro h m₁ hm F
    have e : m₁ = fun y => if S.contains y then m₁ y else m y := by
      funext y
      cases hc : S.contains y with
      | true => simp
      | false => simpa using hm y hc
    rw [e] at F; exact F
  refine iterT (fun i m₁ nx => (∀ z, S.contains z = false → m₁ z = m z) ∧ J i nx) hh hl hc hd (hlie.imp id fun q i m nx z => q i nx z.2) hlL F N ⟨fun _ _ => rfl, hj⟩ ?_ ?_
  · rintro i v m₁ nx h tk I oI hv ⟨hm, hP⟩ hn F₁ N₁
    exact turn i v m₁ nx h tk I oI hv hP hn (fr hm F₁) N₁
  · rintro m₁ nx h tk ⟨hm, hP⟩ F₁ N₁
    exact done m₁ nx h tk hP (fr hm F₁) N₁
theorem turnEndT {S : List Str} {J : List (Addr × Obj) → Prop} {I : Addr} {oI : Obj} {s₁ : Shared} {h' : Heap} {tk : Nat} {m' : Str → Option Value} {news' nx : List (Addr × Obj)} (F : Fr h₀ env.locals h' m') (N : News h₀ env.locals h' news')
    (hs : ∀ p ∈ (I, oI) :: nx, p ∈ news') (hn : ∀ p ∈ nx, p.1 ≠ I) (hm : ∀ z, S.contains z = false → m' z = m z) (hJ : J nx) : TurnPost h₀ env.locals I oI (fun m₁ nx => (∀ z, S.contains z = false → m₁ z = m z) ∧ J nx) s₁ Q .next { s₁ with heap := h', toks := tk } :=
  ⟨h', tk, m', nx, rfl, F, fun p hp => N p (hs p hp), hn, hm, hJ⟩
end

/-! lists of pairs -/
noncomputable abbrev pairO (a b : Int) (ta tb : Tok) (n : Nat) : Obj := { cls := .type "tuple", data := .seq [Value.int a ta, Value.int b tb].toArray n }
inductive PairsIn (tl : List (Addr × Obj)) : List Value → List (Int × Int) → Prop
  | nil : PairsIn tl [] []
  | cons {t : Addr} {a b : Int} {ta tb : Tok} {n : Nat} {vs : List Value} {l : List (Int × Int)} : (t, pairO a b ta tb n) ∈ tl → PairsIn tl vs l → PairsIn tl (.ref t :: vs) ((a, b) :: l)
theorem PairsIn.mono {tl tl' : List (Addr × Obj)} {vs : List Value} {l : List (Int × Int)} (h : PairsIn tl vs l) (hs : ∀ p ∈ tl, p ∈ tl') : PairsIn tl' vs l := by
  induction h with
  | nil => exact .nil
  | cons h _ ih => exact .cons (hs _ h) ih
theorem PairsIn.append {tl : List (Addr × Obj)} {vs vs' : List Value} {l l' : List (Int × Int)} (h : PairsIn tl vs l) (h' : PairsIn tl vs' l') : PairsIn tl (vs ++ vs') (l ++ l') := by
  induction h with
  | nil => exact h'
  | cons h _ ih => exact .cons h ih
theorem PairsIn.length {tl : List (Addr × Obj)} {vs : List Value} {l : List (Int × Int)} (h : PairsIn tl vs l) : vs.length = l.length := by
  induction h with
  | nil => rfl
  | cons _ _ ih => simp [ih]
theorem PairsIn.take {tl : List (Addr × Obj)} {vs : List Value} {l : List (Int × Int)} (h : PairsIn tl vs l) : ∀ k, PairsIn tl (vs.take k) (l.take k) := by
  induction h with
  | nil => intro k; simp; exact .nil
  | cons h _ ih =>
    intro k
    cases k with
    | zero => exact .nil
    | succ k => exact .cons h (ih k)

/-! how many pairs -/
noncomputable def bnd : Nat → Nat
  | 0 => 0
  | d + 1 => 65 * (bnd d + 1)
theorem len_flat {α β : Type} {f : α → List β} {c : Nat} : ∀ {is : List α}, (∀ i ∈ is, (f i).length ≤ c) → (is.flatMap f).length ≤ is.length * c
  | [], _ => by simp
  | i :: is, h => by
    have h1 := h i (.head _)
    have h2 := len_flat (f := f) (c := c) fun j hj => h j (.tail _ hj)
    rw [List.flatMap_cons, List.length_append, List.length_cons, Nat.add_mul]
    omega
theorem own_len (ks vs : List Int) (lo hi : Int) (i : Nat) : (ownPair ks vs lo hi i).length ≤ 1 := by
  unfold ownPair; split <;> simp
theorem range_len : ∀ (d : Nat) (x : T) (lo hi : Int) (l : List (Int × Int)), smD d x → wf0 d x → rangePairs d x lo hi = some l → l.length ≤ bnd d
  | 0, _, _, _, _, _, _, h => by simp [rangePairs] at h
  | d + 1, .node ks vs cs, lo, hi, l, ⟨s1, s2, s3, s4⟩, ⟨w1, w2, w3⟩, h => by
    rw [rangePairs] at h
    split at h
    · cases h; simp
    · obtain ⟨hn, hl⟩ := rngM_some h
      rw [hl, List.nil_append]
      have hb : ∀ i ∈ List.range (ks.length + 1), ((if meets ks cs lo hi i then rangePairs d (cs.getD i T.nil) lo hi else some []).getD [] ++ ownPair ks vs lo hi i).length ≤ bnd d + 1 := by
        intro i hi'
        rw [List.length_append]
        have h2 := own_len ks vs lo hi i
        have h1 : ((if meets ks cs lo hi i then rangePairs d (cs.getD i T.nil) lo hi else some []).getD []).length ≤ bnd d := by
          by_cases hm : meets ks cs lo hi i = true
          · rw [if_pos hm]
            have hlt : i < cs.length := by
              rcases w2 with q | q
              · subst q; simp [meets] at hm
              · have := List.mem_range.mp hi'; omega
            have hn' := hn i hi'
            rw [if_pos hm] at hn'
            cases hr : rangePairs d (cs.getD i T.nil) lo hi with
            | none => exact absurd hr hn'
            | some l' => exact range_len d _ lo hi l' (s4 _ (getD_mem hlt)) (w3 _ (getD_mem hlt)) hr
          · rw [if_neg hm]; simp
        omega
      have := len_flat hb
      rw [List.length_range] at this
      rw [bnd]
      have h65 : (ks.length + 1) * (bnd d + 1) ≤ 65 * (bnd d + 1) := Nat.mul_le_mul_right _ (by omega)
      omega
theorem bnd_le {d : Nat} (h : d ≤ 2) : bnd d ≤ 4290 := by
  have : d = 0 ∨ d = 1 ∨ d = 2 := by omega
  rcases this with rfl | rfl | rfl <;> simp [bnd]
theorem rng_turn {g : Nat → Option (List (Int × Int))} {own : Nat → List (Int × Int)} {N i : Nat} (h : i < N) (acc : List (Int × Int)) :
    rngM g own ((List.range N).drop i) acc = match g i with | none => none | some l => rngM g own ((List.range N).drop (i + 1)) (acc ++ l ++ own i) := by
  have e : (List.range N).drop i = i :: (List.range N).drop (i + 1) := by
    rw [List.drop_eq_getElem_cons (by simpa using h)]; simp
  rw [e, rngM]
  try (cases g i <;> rfl)
end Mine
namespace Mine
open PySem PySem.W PySem.Calls PyProof.Rows PySem.Spec
/-! cuts -/
/-- a step that the walk leaves to the hand -/
noncomputable def Hold (P : Prop) : Prop := P
theorem of_hold {P : Prop} (h : Hold P) : P := h
theorem tok_any {α : Type} {M : Model} {A : Around} {t : Sem α} {Q : α → Shared → Prop} {E : Value → Shared → Prop} {h : Heap} {g : Array GenState} {d : Drawn} {n : Nat} {os : OsState}
    (H : ∀ tk : Nat, wpAny M A t Q E ⟨h, g, d, tk, os⟩) : wpAny M A t Q E ⟨h, g, d, n + 1 + 1 + 1, os⟩ := H _
noncomputable def Same (h₀ : Heap) (L : Addr) (m : Str → Option Value) (news : List (Addr × Obj)) (s s' : Shared) : Prop := ∃ h tk, s' = { s with heap := h, toks := tk } ∧ Fr h₀ L h m ∧ News h₀ L h news
noncomputable def Turned (h₀ : Heap) (L : Addr) (S : List Str) (m : Str → Option Value) (R : List (Addr × Obj) → Prop) (s : Shared) (f : Flow) (s' : Shared) : Prop := f = .next ∧ ∃ h tk, ∃ u : Str → Option Value, ∃ nx, s' = { s with heap := h, toks := tk } ∧ Fr h₀ L h (fun y => if S.contains y then u y else m y) ∧ News h₀ L h nx ∧ R nx
section
variable {M : Model} {A : Around} {E : Value → Shared → Prop} {s : Shared} {env : Env} {h₀ : Heap} {Q : Flow → Shared → Prop} {m : Str → Option Value} {news : List (Addr × Obj)}
theorem Same.intro {L : Addr} {h : Heap} {tk : Nat} {nx : List (Addr × Obj)} (F : Fr h₀ L h m) (N : News h₀ L h nx) (hs : ∀ p ∈ news, p ∈ nx) : Same h₀ L m news s { s with heap := h, toks := tk } := ⟨h, tk, rfl, F, fun p hp => N p (hs p hp)⟩
theorem cutIf (b : Bool) {test : Expr} {body orelse : List Stmt} {pos : Pos} (_F : Fr h₀ env.locals s.heap m) (_N : News h₀ env.locals s.heap news)
    (ht : wpAny M A (isTrue test env (eval test env)) (fun b' s' => b' = b ∧ Same h₀ env.locals m news s s') E s)
    (hb : ∀ h tk, Fr h₀ env.locals h m → News h₀ env.locals h news → if b then wpAny M A (execs body env) Q E { s with heap := h, toks := tk } else wpAny M A (execs orelse env) Q E { s with heap := h, toks := tk }) :
    wpAny M A (exec (.If test body orelse pos) env) Q E s := by
  refine wpAny_If (wpAny_mono ht (fun b' s' h => ?_) fun _ _ h => h)
  obtain ⟨rfl, h', tk, rfl, F', N'⟩ := h
  exact hb h' tk F' N'
theorem cutSeq (S : List Str) (R : List (Addr × Obj) → Prop) {st : Stmt} {rest : List Stmt} (_F : Fr h₀ env.locals s.heap m) (h1 : wpAny M A (exec st env) (Turned h₀ env.locals S m R s) E s)
    (h2 : ∀ h tk (u : Str → Option Value) nx, Fr h₀ env.locals h (fun y => if S.contains y then u y else m y) → News h₀ env.locals h nx → R nx → wpAny M A (execs rest env) Q E { s with heap := h, toks := tk }) : wpAny M A (execs (st :: rest) env) Q E s := by
  refine wpAny_execs_cons (wpAny_mono h1 (fun f s' h => ?_) fun _ _ h => h)
  obtain ⟨rfl, h', tk, u, nx, rfl, F', N', r⟩ := h
  exact h2 h' tk u nx F' N' r
theorem Turned.intro {L : Addr} {S : List Str} {R : List (Addr × Obj) → Prop} {h : Heap} {tk : Nat} {m' : Str → Option Value} {nx : List (Addr × Obj)} (F : Fr h₀ L h m') (hm : ∀ z, S.contains z = false → m' z = m z) (N : News h₀ L h nx) (r : R nx) : Turned h₀ L S m R s .next { s with heap := h, toks := tk } := by
  refine ⟨rfl, h, tk, m', nx, rfl, ?_, N, r⟩
  have e : m' = fun y => if S.contains y then m' y else m y := by
    funext y
    cases hc : S.contains y with
    | true => simp
    | false => simpa using hm y hc
  rw [e] at F; exact F
end
end Mine
namespace Mine
open PySem PySem.W PySem.Calls PyProof.Rows PySem.Spec
theorem at_head {h₀ h : Heap} {L a : Addr} {o : Obj} {r : List (Addr × Obj)} {P : Prop} (_N : News h₀ L h ((a, o) :: r)) (k : ∀ x, x = a → P) : P := k a rfl
theorem at_head2 {h₀ h : Heap} {L a : Addr} {o : Obj} {r : List (Addr × Obj)} {P : Prop} (_N : News h₀ L h ((a, o) :: r)) (k : ∀ x y, x = a → y = o → P) : P := k a o rfl rfl
theorem meets_iff {ks : List Int} {cs : List T} {lo hi : Int} {i : Nat} (he : cs.isEmpty = false) : meets ks cs lo hi i = true ↔ (i = 0 ∨ ks.getD (i - 1) 0 < hi) ∧ (i = ks.length ∨ ks.getD i 0 > lo) := by
  simp [meets, he]
theorem meets_nil {ks : List Int} {cs : List T} {lo hi : Int} {i : Nat} (he : cs.isEmpty = true) : meets ks cs lo hi i = false := by
  simp [meets, he]
end Mine
namespace Mine
open PySem PySem.W PySem.Calls PyProof.Rows PySem.Spec
theorem News.join {h₀ h h' : Heap} {L : Addr} {m : Str → Option Value} {news nl : List (Addr × Obj)} (F : Fr h₀ L h m) (N : News h₀ L h news) (k : Keeps h h') (fresh : ∀ p ∈ nl, h'.get? p.1 = some p.2 ∧ h.get? p.1 = none) : News h₀ L h' (news ++ nl) := by
  intro p hp
  rcases List.mem_append.mp hp with hp | hp
  · exact ⟨k _ _ (N p hp).1, (N p hp).2⟩
  · obtain ⟨h1, h2⟩ := fresh p hp
    refine ⟨h1, fun e => ?_, ?_⟩
    · obtain ⟨o, _, _, ho, _⟩ := F.ns
      rw [e, ho] at h2; cases h2
    · cases q : h₀.get? p.1 with
      | none => rfl
      | some o => rw [F.keep _ _ q] at h2; cases h2
theorem fresh_ne {h h' : Heap} {a : Addr} {o : Obj} {nl : List (Addr × Obj)} (ha : h.get? a = some o) (fresh : ∀ p ∈ nl, h'.get? p.1 = some p.2 ∧ h.get? p.1 = none) : ∀ p ∈ nl, p.1 ≠ a := fun p hp e => by
  have := (fresh p hp).2; rw [e, ha] at this; cases this
theorem own_yes {ks vs : List Int} {lo hi : Int} {i : Nat} (h : i < ks.length ∧ lo ≤ ks.getD i 0 ∧ ks.getD i 0 ≤ hi) : ownPair ks vs lo hi i = [(ks.getD i 0, vs.getD i 0)] := by unfold ownPair; rw [if_pos h]
theorem own_no {ks vs : List Int} {lo hi : Int} {i : Nat} (h : ¬ (i < ks.length ∧ lo ≤ ks.getD i 0 ∧ ks.getD i 0 ≤ hi)) : ownPair ks vs lo hi i = [] := by unfold ownPair; rw [if_neg h]
end Mine
set_option maxRecDepth 100000
namespace Mine
open PySem PySem.W PySem.Calls PyProof.Rows PySem.Spec

/-! nests on a ledger -/
noncomputable abbrev tupO (vs : List Value) (n : Nat) : Obj := { cls := .type "tuple", data := .seq vs.toArray n }
inductive TIn (nl : List (Addr × Obj)) : Value → T → Prop
  | mk {a ak av ac : Addr} {na nk nv nc : Nat} {kvs vvs cvs : List Value} {ks vs : List Int} {cs : List T} : (a, tupO [.ref ak, .ref av, .ref ac] na) ∈ nl → (ak, W.listOf kvs.toArray nk) ∈ nl → IntsAre kvs ks → (av, W.listOf vvs.toArray nv) ∈ nl → IntsAre vvs vs →
      (ac, W.listOf cvs.toArray nc) ∈ nl → cvs.length = cs.length → (∀ (i : Nat) v c, cvs[i]? = some v → cs[i]? = some c → TIn nl v c) → TIn nl (.ref a) (.node ks vs cs)
theorem TIn.mono {nl nl' : List (Addr × Obj)} {v : Value} {x : T} (h : TIn nl v x) (hs : ∀ p ∈ nl, p ∈ nl') : TIn nl' v x := by
  induction h with
  | mk h1 h2 h3 h4 h5 h6 h7 _ ih => exact .mk (hs _ h1) (hs _ h2) h3 (hs _ h4) h5 (hs _ h6) h7 ih

theorem reads_ints {h : Heap} {vs : List Value} {ns : List Int} (hi : IntsAre vs ns) : ∃ as, ReadsAll h vs (ns.map .int) as := by
  induction hi with
  | nil => exact ⟨_, .nil⟩
  | cons n t _ ih => obtain ⟨as, r⟩ := ih; exact ⟨_, .cons (.int n t) r⟩
theorem reads_kids {h : Heap} : ∀ {cvs : List Value} {cs : List T}, cvs.length = cs.length → (∀ (i : Nat) v c, cvs[i]? = some v → cs[i]? = some c → TAt h v c) → ∃ as, ReadsAll h cvs (encPs cs) as
  | [], [], _, _ => ⟨_, by rw [encPs]; exact .nil⟩
  | [], _ :: _, e, _ => by simp at e
  | _ :: _, [], e, _ => by simp at e
  | v :: cvs, c :: cs, e, hk => by
    obtain ⟨as, r⟩ := hk 0 v c rfl rfl
    obtain ⟨bs, q⟩ := reads_kids (cvs := cvs) (cs := cs) (by simpa using e) (fun i v c h1 h2 => hk (i + 1) v c (by simpa using h1) (by simpa using h2))
    exact ⟨_, by rw [encPs]; exact .cons r q⟩
theorem TIn.at {h : Heap} {nl : List (Addr × Obj)} (hg : ∀ p ∈ nl, h.get? p.1 = some p.2) {v : Value} {x : T} (H : TIn nl v x) : TAt h v x := by
  induction H with
  | mk h1 h2 h3 h4 h5 h6 h7 _ ih =>
    obtain ⟨as, ra⟩ := reads_ints (h := h) h3
    obtain ⟨bs, rb⟩ := reads_ints (h := h) h5
    obtain ⟨cs', rc⟩ := reads_kids h7 ih
    unfold TAt
    rw [encP]
    exact ⟨_, .tuple (hg _ h1) rfl rfl (.cons (.list (hg _ h2) rfl rfl (by simpa using ra)) (.cons (.list (hg _ h4) rfl rfl (by simpa using rb)) (.cons (.list (hg _ h6) rfl rfl (by simpa using rc)) .nil)))⟩

/-- the plan, as the call finds it -/
noncomputable def PlanAt (h : Heap) (pvs : List Value) (gs : List G) : Prop := pvs.length = gs.length ∧ ∀ (i : Nat) g, gs[i]? = some g → ∃ t td ta tb, pvs[i]? = some (.ref t) ∧ IsTup h t [Value.int (if g.dp then 1 else 0) td, Value.int (g.a : Int) ta, Value.int (g.b : Int) tb].toArray

/-- the rows of nodes -/
noncomputable def NdIn (nl : List (Addr × Obj)) (v : Value) (x : Nd) : Prop := ∃ t n t1 t2 t3 t4, v = .ref t ∧ (t, tupO [Value.int (x.lev : Int) t1, Value.int (x.left : Int) t2, Value.int (x.right : Int) t3, Value.int (x.n : Int) t4] n) ∈ nl
inductive NdsIn (nl : List (Addr × Obj)) : List Value → List Nd → Prop
  | nil : NdsIn nl [] []
  | cons {v : Value} {x : Nd} {vs : List Value} {xs : List Nd} : NdIn nl v x → NdsIn nl vs xs → NdsIn nl (v :: vs) (x :: xs)
theorem NdsIn.mono {nl nl' : List (Addr × Obj)} {vs : List Value} {xs : List Nd} (h : NdsIn nl vs xs) (hs : ∀ p ∈ nl, p ∈ nl') : NdsIn nl' vs xs := by
  induction h with
  | nil => exact .nil
  | cons h _ ih => obtain ⟨t, n, t1, t2, t3, t4, e, m⟩ := h; exact .cons ⟨t, n, t1, t2, t3, t4, e, hs _ m⟩ ih
theorem NdsIn.append {nl : List (Addr × Obj)} {vs vs' : List Value} {xs xs' : List Nd} (h : NdsIn nl vs xs) (h' : NdsIn nl vs' xs') : NdsIn nl (vs ++ vs') (xs ++ xs') := by
  induction h with
  | nil => exact h'
  | cons h _ ih => exact .cons h ih
theorem NdsIn.length {nl : List (Addr × Obj)} {vs : List Value} {xs : List Nd} (h : NdsIn nl vs xs) : vs.length = xs.length := by
  induction h with
  | nil => rfl
  | cons _ _ ih => simp [ih]
inductive TsIn (nl : List (Addr × Obj)) : List Value → List T → Prop
  | nil : TsIn nl [] []
  | cons {v : Value} {x : T} {vs : List Value} {xs : List T} : TIn nl v x → TsIn nl vs xs → TsIn nl (v :: vs) (x :: xs)
theorem TsIn.mono {nl nl' : List (Addr × Obj)} {vs : List Value} {xs : List T} (h : TsIn nl vs xs) (hs : ∀ p ∈ nl, p ∈ nl') : TsIn nl' vs xs := by
  induction h with
  | nil => exact .nil
  | cons h _ ih => exact .cons (h.mono hs) ih
theorem TsIn.append {nl : List (Addr × Obj)} {vs vs' : List Value} {xs xs' : List T} (h : TsIn nl vs xs) (h' : TsIn nl vs' xs') : TsIn nl (vs ++ vs') (xs ++ xs') := by
  induction h with
  | nil => exact h'
  | cons h _ ih => exact .cons h ih
theorem TsIn.length {nl : List (Addr × Obj)} {vs : List Value} {xs : List T} (h : TsIn nl vs xs) : vs.length = xs.length := by
  induction h with
  | nil => rfl
  | cons _ _ ih => simp [ih]
theorem TsIn.get {nl : List (Addr × Obj)} {vs : List Value} {xs : List T} (h : TsIn nl vs xs) : ∀ (i : Nat) v c, vs[i]? = some v → xs[i]? = some c → TIn nl v c := by
  induction h with
  | nil => intro i v c h; simp at h
  | cons h _ ih =>
    intro i v c h1 h2
    cases i with
    | zero => simp at h1 h2; subst h1 h2; exact h
    | succ i => exact ih i v c (by simpa using h1) (by simpa using h2)
theorem TsIn.of {nl : List (Addr × Obj)} : ∀ {vs : List Value} {xs : List T}, vs.length = xs.length → (∀ (i : Nat) v c, vs[i]? = some v → xs[i]? = some c → TIn nl v c) → TsIn nl vs xs
  | [], [], _, _ => .nil
  | [], _ :: _, e, _ => by simp at e
  | _ :: _, [], e, _ => by simp at e
  | v :: vs, c :: cs, e, hk => .cons (hk 0 v c rfl rfl) (TsIn.of (by simpa using e) fun i v c h1 h2 => hk (i + 1) v c (by simpa using h1) (by simpa using h2))
theorem IntsAre.append {vs vs' : List Value} {ns ns' : List Int} (h : IntsAre vs ns) (h' : IntsAre vs' ns') : IntsAre (vs ++ vs') (ns ++ ns') := by
  induction h with
  | nil => exact h'
  | cons n t _ ih => exact .cons n t ih
end Mine
namespace Mine
open PySem PySem.W PySem.Calls PyProof.Rows PySem.Spec
/-! a loop that counts in one name -/
noncomputable def AtJ (S : List Str) (y0 : Str) (pos : Nat → Int) (m : Str → Option Value) (J : Nat → List (Addr × Obj) → Prop) (i : Nat) (m₁ : Str → Option Value) (nx : List (Addr × Obj)) : Prop :=
  (∀ z, S.contains z = false → z ≠ y0 → m₁ z = m z) ∧ (∃ tk, m₁ y0 = some (.int (pos i) tk)) ∧ J i nx
section
variable {prog : Program} {w : World} {A : Around} {E : Value → Shared → Prop} {s : Shared} {env : Env} {h₀ : Heap} {target : Expr} {body : List Stmt} {Q : Flow → Shared → Prop}
  {m : Str → Option Value} {news : List (Addr × Obj)} {l : Addr} {vs : List Value}
theorem atFr {S : List Str} {y0 : Str} {L : Addr} {h : Heap} {m₁ : Str → Option Value} {v : Value} (hm : ∀ z, S.contains z = false → z ≠ y0 → m₁ z = m z) (hy : m₁ y0 = some v) (F : Fr h₀ L h m₁) : Fr h₀ L h (fun y => if y = y0 then some v else if S.contains y then m₁ y else m y) := by
  have e : m₁ = fun y => if y = y0 then some v else if S.contains y then m₁ y else m y := by
    funext y
    by_cases q : y = y0
    · simp only [if_pos q]; rw [q]; exact hy
    · simp only [if_neg q]
      cases hc : S.contains y with
      | true => simp
      | false => simpa using hm y hc q
  rw [e] at F; exact F
theorem iterTA (S : List Str) (y0 : Str) (pos : Nat → Int) (J : Nat → List (Addr × Obj) → Prop) (hh : A.handled = none) (hl : h₀.IsList l vs.toArray) (F : Fr h₀ env.locals s.heap m) (N : News h₀ env.locals s.heap news) (hy : ∃ tk, m y0 = some (.int (pos 0) tk)) (hj : J 0 news)
    (turn : ∀ (i : Nat) v (u : Str → Option Value) tkp nx h tk I oI, vs[i]? = some v → J i nx → (∀ p ∈ nx, p.1 ≠ I) → Fr h₀ env.locals h (fun y => if y = y0 then some (.int (pos i) tkp) else if S.contains y then u y else m y) → News h₀ env.locals h ((I, oI) :: nx) →
      wpAny (model prog w) A (assign target env v) (fun _ s₃ => wpAny (model prog w) A (execs body env) (TurnPost h₀ env.locals I oI (AtJ S y0 pos m J (i + 1)) { s with heap := h, toks := tk } Q) E s₃) E { s with heap := h, toks := tk })
    (done : ∀ (u : Str → Option Value) tkp nx h tk, J vs.length nx → Fr h₀ env.locals h (fun y => if y = y0 then some (.int (pos vs.length) tkp) else if S.contains y then u y else m y) → News h₀ env.locals h nx → Q .next { s with heap := h, toks := tk }) :
    wpAny (model prog w) A (pyIter (.ref l)) (fun it s₂ => TurnsAt prog w A h₀ env target body Q E it s₂) E s := by
  obtain ⟨ol, hol, hoc, k, hod⟩ := hl
  refine iterT (AtJ S y0 pos m J) hh (F.keep _ _ hol) hoc hod (.inl hol) (fun e => ?_) F N ⟨fun _ _ _ => rfl, hy, hj⟩ ?_ ?_
  · exact absurd (Nat.lt_of_lt_of_le (Heap.lt_size hol) F.above) (by rw [e]; exact Nat.lt_irrefl _)
  · rintro i v m₁ nx h tk I oI hv ⟨hm, ⟨tkp, hp⟩, hP⟩ hn F₁ N₁
    exact turn i v m₁ tkp nx h tk I oI hv hP hn (atFr hm hp F₁) N₁
  · rintro m₁ nx h tk ⟨hm, ⟨tkp, hp⟩, hP⟩ F₁ N₁
    exact done m₁ tkp nx h tk hP (atFr hm hp F₁) N₁
theorem turnEndA {S : List Str} {y0 : Str} {pos : Nat → Int} {J : Nat → List (Addr × Obj) → Prop} {i : Nat} {I : Addr} {oI : Obj} {s₁ : Shared} {h' : Heap} {tk tkp : Nat} {m' : Str → Option Value} {news' nx : List (Addr × Obj)} (F : Fr h₀ env.locals h' m') (N : News h₀ env.locals h' news')
    (hs : ∀ p ∈ (I, oI) :: nx, p ∈ news') (hn : ∀ p ∈ nx, p.1 ≠ I) (hm : ∀ z, S.contains z = false → z ≠ y0 → m' z = m z) (hy : m' y0 = some (.int (pos (i + 1)) tkp)) (hJ : J (i + 1) nx) : TurnPost h₀ env.locals I oI (AtJ S y0 pos m J (i + 1)) s₁ Q .next { s₁ with heap := h', toks := tk } :=
  ⟨h', tk, m', nx, rfl, F, fun p hp => N p (hs p hp), hn, hm, ⟨tkp, hy⟩, hJ⟩
end
end Mine
namespace Mine
open PySem PySem.W PySem.Calls PyProof.Rows PySem.Spec
theorem at_four {h₀ h : Heap} {L a b c d : Addr} {o1 o2 o3 o4 : Obj} {r : List (Addr × Obj)} {P : Prop} (_N : News h₀ L h ((a, o1) :: (b, o2) :: (c, o3) :: (d, o4) :: r)) (k : ∀ x y z u, x = a → y = b → z = c → u = d → P) : P := k a b c d rfl rfl rfl rfl
theorem kidsL_app (row vals : List Int) : ∀ (xs ys : List G) (s : Nat), kidsL row vals (xs ++ ys) s = kidsL row vals xs s ++ kidsL row vals ys (endL xs s)
  | [], _, _ => rfl
  | g :: xs, ys, s => by simp [kidsL, endL, kidsL_app row vals xs ys]
theorem keysL_app (row : List Int) : ∀ (xs ys : List G) (s : Nat), keysL row (xs ++ ys) s = keysL row xs s ++ keysL row ys (endL xs s)
  | [], _, _ => rfl
  | g :: xs, ys, s => by simp [keysL, endL, keysL_app row xs ys]
theorem nodesL_app : ∀ (xs ys : List G) (s : Nat), nodesL (xs ++ ys) s = nodesL xs s ++ nodesL ys (endL xs s)
  | [], _, _ => rfl
  | g :: xs, ys, s => by simp [nodesL, endL, nodesL_app xs ys]
theorem endL_app : ∀ (xs ys : List G) (s : Nat), endL (xs ++ ys) s = endL ys (endL xs s)
  | [], _, _ => rfl
  | g :: xs, ys, s => by simp [endL, endL_app xs ys]
theorem nodesL_len : ∀ (gs : List G) (s : Nat), (nodesL gs s).length ≤ 3 * gs.length
  | [], _ => by simp [nodesL]
  | g :: gs, s => by
    have := nodesL_len gs (s + g.len + 1)
    simp only [nodesL, List.length_append, List.length_cons, nodesG]
    split <;> simp <;> omega
theorem endL_take {gs : List G} {i : Nat} (h : i < gs.length) : endL (gs.take (i + 1)) 0 = endL (gs.take i) 0 + gs[i].len + 1 := by
  rw [List.take_add_one, List.getElem?_eq_getElem h, endL_app]; rfl
theorem endL_mono : ∀ (gs : List G) (s i : Nat), endL (gs.take i) s ≤ endL gs s
  | [], s, i => by simp
  | g :: gs, s, 0 => endL_ge _ _
  | g :: gs, s, i + 1 => by simpa [endL] using endL_mono gs (s + g.len + 1) i
theorem take_next {α : Type} {l : List α} {i : Nat} (h : i < l.length) : l.take (i + 1) = l.take i ++ [l[i]] := by
  rw [List.take_add_one, List.getElem?_eq_getElem h]; rfl
end Mine
namespace Mine
open PySem PySem.W PySem.Calls PyProof.Rows PySem.Spec
/-! slices of ints, both ends known -/
section
variable {prog : Program} {w : World} {A : Around} {E : Value → Shared → Prop} {s : Shared} {h₀ : Heap} {L l : Addr} {m : Str → Option Value} {news : List (Addr × Obj)} {value slice : PySem.Expr} {vs : List Value} {ns : List Int} {x y : Int} {tx ty : Tok} {Q : Value → Shared → Prop}
theorem slice_run (lo hi : Nat) (F : Fr h₀ L s.heap m) (N : News h₀ L s.heap news) (hl : s.heap.IsList l vs.toArray) (hi' : IntsAre vs ns) (ex : x = (lo : Int)) (ey : y = (hi : Int)) (hle : hi ≤ ns.length) (hz : ns.length ≤ 1000)
    (h : ∀ D ws h', Fr h₀ L h' m → News h₀ L h' ((D, W.listOf (List.toArray ws) 0) :: news) → (∀ p ∈ news, p.1 < D) → IntsAre ws (slc ns lo hi) → Q (.ref D) { s with heap := h' })
    (hs : subscripted slice false (.ref l) (.ref s.heap.objs.size) = operate [.ref s.heap.objs.size, .ref l] (getItem (.ref l) (.ref s.heap.objs.size)) := by with_unfolding_all rfl) (ht : ∀ r, letTemporaryGo value (.ref l) r = pure () := by intro _; with_unfolding_all rfl) :
    wpAny (model prog w) A (subscriptTail value slice (.ref l) (.ref s.heap.objs.size)) Q E { s with heap := s.heap.push { cls := .type "slice", data := .fields #[.int x tx, .int y ty, .none] } } := by
  have hr := kmk_run (x := x) (y := y) hi' (by omega) (by omega)
  have e : (ns.drop x.toNat).take (min y.toNat ns.length - x.toNat) = slc ns lo hi := by
    subst ex ey
    unfold slc
    simp only [Int.toNat_natCast]
    rw [Nat.min_eq_left hle]
  rw [e] at hr
  refine kmk_slice_ints F N hl (IsPart.int _ _) (IsPart.int _ _) hi' hr rfl (fun D ws h' F' N' l1 i1 _ _ => h D ws h' F' N' l1 i1) hs ht ?_
  rw [List.size_toArray, hi'.length, sizeLine_eq]; omega
theorem slice_upto (hi : Nat) (F : Fr h₀ L s.heap m) (N : News h₀ L s.heap news) (hl : s.heap.IsList l vs.toArray) (hi' : IntsAre vs ns) (ey : y = (hi : Int)) (hz : ns.length ≤ 1000)
    (h : ∀ D ws h', Fr h₀ L h' m → News h₀ L h' ((D, W.listOf (List.toArray ws) 0) :: news) → (∀ p ∈ news, p.1 < D) → IntsAre ws (ns.take hi) → Q (.ref D) { s with heap := h' })
    (hs : subscripted slice false (.ref l) (.ref s.heap.objs.size) = operate [.ref s.heap.objs.size, .ref l] (getItem (.ref l) (.ref s.heap.objs.size)) := by with_unfolding_all rfl) (ht : ∀ r, letTemporaryGo value (.ref l) r = pure () := by intro _; with_unfolding_all rfl) :
    wpAny (model prog w) A (subscriptTail value slice (.ref l) (.ref s.heap.objs.size)) Q E { s with heap := s.heap.push { cls := .type "slice", data := .fields #[.none, .int y ty, .none] } } := by
  have hr := kmk_upto (y := y) hi' (by omega)
  have e : y.toNat = hi := by omega
  rw [e] at hr
  refine kmk_slice_ints F N hl IsPart.none (IsPart.int _ _) hi' hr rfl (fun D ws h' F' N' l1 i1 _ _ => h D ws h' F' N' l1 i1) hs ht ?_
  rw [List.size_toArray, hi'.length, sizeLine_eq]; omega
theorem slice_from (lo : Nat) (F : Fr h₀ L s.heap m) (N : News h₀ L s.heap news) (hl : s.heap.IsList l vs.toArray) (hi' : IntsAre vs ns) (ex : x = (lo : Int)) (hz : ns.length ≤ 1000)
    (h : ∀ D ws h', Fr h₀ L h' m → News h₀ L h' ((D, W.listOf (List.toArray ws) 0) :: news) → (∀ p ∈ news, p.1 < D) → IntsAre ws (ns.drop lo) → Q (.ref D) { s with heap := h' })
    (hs : subscripted slice false (.ref l) (.ref s.heap.objs.size) = operate [.ref s.heap.objs.size, .ref l] (getItem (.ref l) (.ref s.heap.objs.size)) := by with_unfolding_all rfl) (ht : ∀ r, letTemporaryGo value (.ref l) r = pure () := by intro _; with_unfolding_all rfl) :
    wpAny (model prog w) A (subscriptTail value slice (.ref l) (.ref s.heap.objs.size)) Q E { s with heap := s.heap.push { cls := .type "slice", data := .fields #[.int x tx, .none, .none] } } := by
  have hr := kmk_from (x := x) hi' (by omega)
  have e : x.toNat = lo := by omega
  rw [e] at hr
  refine kmk_slice_ints F N hl (IsPart.int _ _) IsPart.none hi' hr rfl (fun D ws h' F' N' l1 i1 _ _ => h D ws h' F' N' l1 i1) hs ht ?_
  rw [List.size_toArray, hi'.length, sizeLine_eq]; omega
end
end Mine
namespace Mine
open PySem PySem.W PySem.Calls PyProof.Rows PySem.Spec
theorem NdIn.of {nl : List (Addr × Obj)} {x : Nd} {t : Addr} {n : Nat} {a b c d : Int} {t1 t2 t3 t4 : Tok} (hm : (t, tupO [Value.int a t1, Value.int b t2, Value.int c t3, Value.int d t4] n) ∈ nl) (ea : a = (x.lev : Int)) (eb : b = (x.left : Int)) (ec : c = (x.right : Int)) (ed : d = (x.n : Int)) : NdIn nl (.ref t) x := by
  subst ea eb ec ed
  exact ⟨t, n, t1, t2, t3, t4, rfl, hm⟩
theorem snoc {vs : List Value} {ns : List Int} {x n : Int} {t : Tok} (h : IntsAre vs ns) (e : x = n) : IntsAre (vs ++ [.int x t]) (ns ++ [n]) := by
  subst e; exact IntsAre.append h (.cons _ _ .nil)
section
variable {h₀ h : Heap} {L : Addr} {a b c d e f g2 i n1 n2 n3 n4 x1 x2 x3 x4 x5 : Addr × Obj} {rest : List (Addr × Obj)}
theorem sink (pre five : List (Addr × Obj)) (N : News h₀ L h (pre ++ (five ++ rest))) : News h₀ L h (five ++ (pre ++ rest)) := fun p hp => N p (by
  rcases List.mem_append.mp hp with q | q
  · exact List.mem_append_right _ (List.mem_append_left _ q)
  · rcases List.mem_append.mp q with q | q
    · exact List.mem_append_left _ q
    · exact List.mem_append_right _ (List.mem_append_right _ q))
theorem sink5 (N : News h₀ L h (a :: b :: c :: d :: e :: i :: n1 :: n2 :: n3 :: n4 :: rest)) : News h₀ L h (i :: n1 :: n2 :: n3 :: n4 :: a :: b :: c :: d :: e :: rest) := sink [a, b, c, d, e] [i, n1, n2, n3, n4] N
end
theorem leaf_in {nl : List (Addr × Obj)} {a ak av ac : Addr} {na nk nv nc : Nat} {kvs vvs : List Value} {row vals : List Int} {lo hi : Nat} (h1 : (a, tupO [.ref ak, .ref av, .ref ac] na) ∈ nl) (h2 : (ak, W.listOf kvs.toArray nk) ∈ nl) (h3 : IntsAre kvs (slc row lo hi)) (h4 : (av, W.listOf vvs.toArray nv) ∈ nl) (h5 : IntsAre vvs (slc vals lo hi))
    (h6 : (ac, W.listOf [].toArray nc) ∈ nl) : TIn nl (.ref a) (leafT row vals lo hi) := .mk h1 h2 h3 h4 h5 h6 rfl fun i v c q => by simp at q
end Mine
namespace Mine
open PySem PySem.W PySem.Calls PyProof.Rows PySem.Spec
theorem sink15 {h₀ h : Heap} {L : Addr} {a0 a1 a2 a3 a4 a5 a6 a7 a8 a9 a10 a11 a12 a13 a14 i n1 n2 n3 n4 : Addr × Obj} {rest : List (Addr × Obj)} (N : News h₀ L h (a0 :: a1 :: a2 :: a3 :: a4 :: a5 :: a6 :: a7 :: a8 :: a9 :: a10 :: a11 :: a12 :: a13 :: a14 :: i :: n1 :: n2 :: n3 :: n4 :: rest)) : News h₀ L h (i :: n1 :: n2 :: n3 :: n4 :: a0 :: a1 :: a2 :: a3 :: a4 :: a5 :: a6 :: a7 :: a8 :: a9 :: a10 :: a11 :: a12 :: a13 :: a14 :: rest) := sink [a0, a1, a2, a3, a4, a5, a6, a7, a8, a9, a10, a11, a12, a13, a14] [i, n1, n2, n3, n4] N
theorem deep_in {nl : List (Addr × Obj)} {a ak av ac : Addr} {na nk nv nc : Nat} {r v : Int} {tr tv : Tok} {v1 v2 : Value} {x1 x2 : T} (h1 : (a, tupO [.ref ak, .ref av, .ref ac] na) ∈ nl) (h2 : (ak, W.listOf [Value.int r tr].toArray nk) ∈ nl) (h4 : (av, W.listOf [Value.int v tv].toArray nv) ∈ nl)
    (h6 : (ac, W.listOf [v1, v2].toArray nc) ∈ nl) (h7 : TIn nl v1 x1) (h8 : TIn nl v2 x2) : TIn nl (.ref a) (.node [r] [v] [x1, x2]) := .mk h1 h2 (.cons _ _ .nil) h4 (.cons _ _ .nil) h6 rfl (TsIn.get (.cons h7 (.cons h8 .nil)))
end Mine
namespace Mine
open PySem PySem.W PySem.Calls PyProof.Rows PySem.Spec
/-- what _law_build hands back, as it lies on a ledger -/
noncomputable def Built (nl : List (Addr × Obj)) (row vals : List Int) (gs : List G) (R : Addr) : Prop := ∃ nv nda ndv c tu nr, (R, tupO [nv, .ref nda, .int ((usedN gs : Nat) : Int) tu] nr) ∈ nl ∧ TIn nl nv (nestT row vals gs) ∧ (nda, W.listOf (List.toArray ndv) c) ∈ nl ∧ NdsIn nl ndv (nodesL gs 0)
theorem endL_pos {gs : List G} (h : gs ≠ []) : 1 ≤ endL gs 0 := by
  cases gs with
  | nil => exact absurd rfl h
  | cons g gs => rw [endL]; have := endL_ge gs (0 + g.len + 1); omega
end Mine
namespace Mine
open PySem PySem.W PySem.Calls PyProof.Rows PySem.Spec
section
variable {prog : Program} {w : World} {A : Around} {E : Value → Shared → Prop} {s : Shared} {h₀ : Heap} {L l b : Addr} {m : Str → Option Value} {news : List (Addr × Obj)} {value slice : PySem.Expr} {vs ws : List Value} {x y : Int} {tx ty : Tok} {Q : Value → Shared → Prop}
theorem pick_upto {hi : Nat} : slicePick vs.toArray none (some (hi : Int)) none = (vs.take hi).toArray := by
  have e : sliceBounds none (some (hi : Int)) none vs.toArray.size = (((0 : Nat) : Int), ((min hi vs.toArray.size : Nat) : Int), 1) := by
    simp only [sliceBounds, Option.getD_none, show (1 : Int) > 0 by decide, if_true, if_neg (show ¬ ((hi : Int) < 0) by omega)]
    congr 1
    congr 1
    omega
  rw [kmk_pick_nat _ e, List.drop_zero, Nat.sub_zero, List.size_toArray, kmk_take_min]
theorem pick_from {lo : Nat} : slicePick vs.toArray (some (lo : Int)) none none = (vs.drop lo).toArray := by
  have e : sliceBounds (some (lo : Int)) none none vs.toArray.size = (((min lo vs.toArray.size : Nat) : Int), ((vs.toArray.size : Nat) : Int), 1) := by
    simp only [sliceBounds, Option.getD_none, show (1 : Int) > 0 by decide, if_true, if_neg (show ¬ ((lo : Int) < 0) by omega)]
    congr 1
    omega
  rw [kmk_pick_nat _ e, List.size_toArray, kmk_drop_min, List.take_of_length_le (by rw [List.length_drop]; omega)]
theorem sliceV_upto (hi : Nat) (F : Fr h₀ L s.heap m) (N : News h₀ L s.heap news) (hl : s.heap.IsList l vs.toArray) (ey : y = (hi : Int)) (hz : vs.length ≤ 1000)
    (h : ∀ D h', Fr h₀ L h' m → News h₀ L h' ((D, W.listOf (vs.take hi).toArray 0) :: news) → (∀ p ∈ news, p.1 < D) → Q (.ref D) { s with heap := h' })
    (hs : subscripted slice false (.ref l) (.ref s.heap.objs.size) = operate [.ref s.heap.objs.size, .ref l] (getItem (.ref l) (.ref s.heap.objs.size)) := by with_unfolding_all rfl) (ht : ∀ r, letTemporaryGo value (.ref l) r = pure () := by intro _; with_unfolding_all rfl) :
    wpAny (model prog w) A (subscriptTail value slice (.ref l) (.ref s.heap.objs.size)) Q E { s with heap := s.heap.push { cls := .type "slice", data := .fields #[.none, .int y ty, .none] } } := by
  subst ey
  refine kmk_slice_lit F N hl IsPart.none (IsPart.int _ _) (by rw [pick_upto]) h hs ht ?_
  rw [List.size_toArray, sizeLine_eq]; omega
theorem sliceV_from (lo : Nat) (F : Fr h₀ L s.heap m) (N : News h₀ L s.heap news) (hl : s.heap.IsList l vs.toArray) (ex : x = (lo : Int)) (hz : vs.length ≤ 1000)
    (h : ∀ D h', Fr h₀ L h' m → News h₀ L h' ((D, W.listOf (vs.drop lo).toArray 0) :: news) → (∀ p ∈ news, p.1 < D) → Q (.ref D) { s with heap := h' })
    (hs : subscripted slice false (.ref l) (.ref s.heap.objs.size) = operate [.ref s.heap.objs.size, .ref l] (getItem (.ref l) (.ref s.heap.objs.size)) := by with_unfolding_all rfl) (ht : ∀ r, letTemporaryGo value (.ref l) r = pure () := by intro _; with_unfolding_all rfl) :
    wpAny (model prog w) A (subscriptTail value slice (.ref l) (.ref s.heap.objs.size)) Q E { s with heap := s.heap.push { cls := .type "slice", data := .fields #[.int x tx, .none, .none] } } := by
  subst ex
  refine kmk_slice_lit F N hl (IsPart.int _ _) IsPart.none (by rw [pick_from]) h hs ht ?_
  rw [List.size_toArray, sizeLine_eq]; omega
theorem cat_lists (F : Fr h₀ L s.heap m) (N : News h₀ L s.heap news) (hl : s.heap.IsList l vs.toArray) (hb : s.heap.IsList b ws.toArray) (hz : vs.length + ws.length ≤ 1000)
    (h : ∀ D h', Fr h₀ L h' m → News h₀ L h' ((D, W.listOf (vs ++ ws).toArray 0) :: news) → (∀ p ∈ news, p.1 < D) → Q (.ref D) { s with heap := h' }) : wpAny (model prog w) A (binaryOp .Add (.ref l) (.ref b)) Q E s :=
  add_lists (hsz := by rw [sizeLine_eq]; omega) F N hl hb fun h' F' N' => h _ h' F' N' fun p hp => Heap.lt_size (N p hp).1
end
end Mine
namespace Mine
open PySem PySem.W PySem.Calls PyProof.Rows PySem.Spec
theorem TsIn.take {nl : List (Addr × Obj)} {vs : List Value} {xs : List T} (h : TsIn nl vs xs) : ∀ k, TsIn nl (vs.take k) (xs.take k) := by
  induction h with
  | nil => intro k; simp; exact .nil
  | cons h _ ih =>
    intro k
    cases k with
    | zero => exact .nil
    | succ k => exact .cons h (ih k)
theorem TsIn.drop {nl : List (Addr × Obj)} {vs : List Value} {xs : List T} (h : TsIn nl vs xs) : ∀ k, TsIn nl (vs.drop k) (xs.drop k) := by
  induction h with
  | nil => intro k; simp; exact .nil
  | cons h r ih =>
    intro k
    cases k with
    | zero => exact .cons h r
    | succ k => exact ih k
theorem TIn.of {nl : List (Addr × Obj)} {a ak av ac : Addr} {na nk nv nc : Nat} {kvs vvs cvs : List Value} {ks vs : List Int} {cs : List T} (h1 : (a, tupO [.ref ak, .ref av, .ref ac] na) ∈ nl) (h2 : (ak, W.listOf kvs.toArray nk) ∈ nl) (h3 : IntsAre kvs ks) (h4 : (av, W.listOf vvs.toArray nv) ∈ nl) (h5 : IntsAre vvs vs)
    (h6 : (ac, W.listOf cvs.toArray nc) ∈ nl) (h7 : TsIn nl cvs cs) : TIn nl (.ref a) (.node ks vs cs) := .mk h1 h2 h3 h4 h5 h6 h7.length h7.get
theorem hurt0 {ks vs k v : List Int} {cs c : List T} {place : Nat} (h : cs[place]? = some (.node k v c)) : hurtT (.node ks vs cs) 0 place = .node ks vs (cs.take place ++ [.node k (v ++ [0]) c] ++ cs.drop (place + 1)) := by
  simp [hurtT, h]
theorem hurt1 {ks vs : List Int} {cs : List T} {place : Nat} : hurtT (.node ks vs cs) 1 place = .node ks (vs.drop 1) cs := by simp [hurtT]
theorem hurt2 {ks vs : List Int} {cs : List T} {place : Nat} : hurtT (.node ks vs cs) 2 place = .node ks vs (cs.take place ++ cs.drop (place + 1)) := by simp [hurtT]
theorem hurt3 {ks vs : List Int} {cs : List T} {x : T} {place : Nat} (h : cs[place]? = some x) : hurtT (.node ks vs cs) 3 place = .node ks vs (cs.take place ++ [x] ++ cs.drop place) := by simp [hurtT, h]
end Mine
set_option linter.unusedVariables false
namespace Mine
theorem cj1 {p1 q : Prop} (h : p1 ∧ q) : p1 := h.1
theorem cj2 {p1 p2 q : Prop} (h : p1 ∧ p2 ∧ q) : p2 := h.2.1
theorem cj3 {p1 p2 p3 q : Prop} (h : p1 ∧ p2 ∧ p3 ∧ q) : p3 := h.2.2.1
theorem cj4 {p1 p2 p3 p4 q : Prop} (h : p1 ∧ p2 ∧ p3 ∧ p4 ∧ q) : p4 := h.2.2.2.1
theorem cj5 {p1 p2 p3 p4 p5 q : Prop} (h : p1 ∧ p2 ∧ p3 ∧ p4 ∧ p5 ∧ q) : p5 := h.2.2.2.2.1
theorem cj6 {p1 p2 p3 p4 p5 p6 q : Prop} (h : p1 ∧ p2 ∧ p3 ∧ p4 ∧ p5 ∧ p6 ∧ q) : p6 := h.2.2.2.2.2.1
theorem cj7 {p1 p2 p3 p4 p5 p6 p7 q : Prop} (h : p1 ∧ p2 ∧ p3 ∧ p4 ∧ p5 ∧ p6 ∧ p7 ∧ q) : p7 := h.2.2.2.2.2.2.1
theorem cj8 {p1 p2 p3 p4 p5 p6 p7 p8 q : Prop} (h : p1 ∧ p2 ∧ p3 ∧ p4 ∧ p5 ∧ p6 ∧ p7 ∧ p8 ∧ q) : p8 := h.2.2.2.2.2.2.2.1
theorem cj9 {p1 p2 p3 p4 p5 p6 p7 p8 p9 q : Prop} (h : p1 ∧ p2 ∧ p3 ∧ p4 ∧ p5 ∧ p6 ∧ p7 ∧ p8 ∧ p9 ∧ q) : p9 := h.2.2.2.2.2.2.2.2.1
theorem cj10 {p1 p2 p3 p4 p5 p6 p7 p8 p9 p10 q : Prop} (h : p1 ∧ p2 ∧ p3 ∧ p4 ∧ p5 ∧ p6 ∧ p7 ∧ p8 ∧ p9 ∧ p10 ∧ q) : p10 := h.2.2.2.2.2.2.2.2.2.1
theorem cj11 {p1 p2 p3 p4 p5 p6 p7 p8 p9 p10 p11 q : Prop} (h : p1 ∧ p2 ∧ p3 ∧ p4 ∧ p5 ∧ p6 ∧ p7 ∧ p8 ∧ p9 ∧ p10 ∧ p11 ∧ q) : p11 := h.2.2.2.2.2.2.2.2.2.2.1
theorem cj12 {p1 p2 p3 p4 p5 p6 p7 p8 p9 p10 p11 p12 q : Prop} (h : p1 ∧ p2 ∧ p3 ∧ p4 ∧ p5 ∧ p6 ∧ p7 ∧ p8 ∧ p9 ∧ p10 ∧ p11 ∧ p12 ∧ q) : p12 := h.2.2.2.2.2.2.2.2.2.2.2.1
end Mine
set_option linter.unusedVariables false
namespace Mine



noncomputable def pk2 {A0 A1 : Type} {R : A0 → A1 → Prop} (P : Prop) (e : P = ∀ a0 a1, R a0 a1) (ne : Nonempty (A0 × A1)) : A0 × A1 := @Classical.epsilon _ ne fun x => ¬ R x.1 x.2
noncomputable def ap2 {A0 A1 : Type} {R : A0 → A1 → Prop} (P : Prop) (e : P = ∀ a0 a1, R a0 a1) (a0 : A0) (a1 : A1) : Prop := R a0 a1
theorem bk2 {A0 A1 : Type} {R : A0 → A1 → Prop} {P : Prop} (e : P = ∀ a0 a1, R a0 a1) (ne : Nonempty (A0 × A1)) (h : ap2 P e ((pk2 P e ne).1) ((pk2 P e ne).2)) : P := by
  subst e
  intro a0 a1
  exact Classical.byContradiction fun hx => @Classical.epsilon_spec _ (fun x : A0 × A1 => ¬ R x.1 x.2) ⟨(a0, a1), hx⟩ h
noncomputable def pk3 {A0 A1 A2 : Type} {R : A0 → A1 → A2 → Prop} (P : Prop) (e : P = ∀ a0 a1 a2, R a0 a1 a2) (ne : Nonempty (A0 × A1 × A2)) : A0 × A1 × A2 := @Classical.epsilon _ ne fun x => ¬ R x.1 x.2.1 x.2.2
noncomputable def ap3 {A0 A1 A2 : Type} {R : A0 → A1 → A2 → Prop} (P : Prop) (e : P = ∀ a0 a1 a2, R a0 a1 a2) (a0 : A0) (a1 : A1) (a2 : A2) : Prop := R a0 a1 a2
theorem bk3 {A0 A1 A2 : Type} {R : A0 → A1 → A2 → Prop} {P : Prop} (e : P = ∀ a0 a1 a2, R a0 a1 a2) (ne : Nonempty (A0 × A1 × A2)) (h : ap3 P e ((pk3 P e ne).1) ((pk3 P e ne).2.1) ((pk3 P e ne).2.2)) : P := by
  subst e
  intro a0 a1 a2
  exact Classical.byContradiction fun hx => @Classical.epsilon_spec _ (fun x : A0 × A1 × A2 => ¬ R x.1 x.2.1 x.2.2) ⟨(a0, a1, a2), hx⟩ h
noncomputable def pk4 {A0 A1 A2 A3 : Type} {R : A0 → A1 → A2 → A3 → Prop} (P : Prop) (e : P = ∀ a0 a1 a2 a3, R a0 a1 a2 a3) (ne : Nonempty (A0 × A1 × A2 × A3)) : A0 × A1 × A2 × A3 := @Classical.epsilon _ ne fun x => ¬ R x.1 x.2.1 x.2.2.1 x.2.2.2
noncomputable def ap4 {A0 A1 A2 A3 : Type} {R : A0 → A1 → A2 → A3 → Prop} (P : Prop) (e : P = ∀ a0 a1 a2 a3, R a0 a1 a2 a3) (a0 : A0) (a1 : A1) (a2 : A2) (a3 : A3) : Prop := R a0 a1 a2 a3
theorem bk4 {A0 A1 A2 A3 : Type} {R : A0 → A1 → A2 → A3 → Prop} {P : Prop} (e : P = ∀ a0 a1 a2 a3, R a0 a1 a2 a3) (ne : Nonempty (A0 × A1 × A2 × A3)) (h : ap4 P e ((pk4 P e ne).1) ((pk4 P e ne).2.1) ((pk4 P e ne).2.2.1) ((pk4 P e ne).2.2.2)) : P := by
  subst e
  intro a0 a1 a2 a3
  exact Classical.byContradiction fun hx => @Classical.epsilon_spec _ (fun x : A0 × A1 × A2 × A3 => ¬ R x.1 x.2.1 x.2.2.1 x.2.2.2) ⟨(a0, a1, a2, a3), hx⟩ h
noncomputable def pk5 {A0 A1 A2 A3 A4 : Type} {R : A0 → A1 → A2 → A3 → A4 → Prop} (P : Prop) (e : P = ∀ a0 a1 a2 a3 a4, R a0 a1 a2 a3 a4) (ne : Nonempty (A0 × A1 × A2 × A3 × A4)) : A0 × A1 × A2 × A3 × A4 := @Classical.epsilon _ ne fun x => ¬ R x.1 x.2.1 x.2.2.1 x.2.2.2.1 x.2.2.2.2
noncomputable def ap5 {A0 A1 A2 A3 A4 : Type} {R : A0 → A1 → A2 → A3 → A4 → Prop} (P : Prop) (e : P = ∀ a0 a1 a2 a3 a4, R a0 a1 a2 a3 a4) (a0 : A0) (a1 : A1) (a2 : A2) (a3 : A3) (a4 : A4) : Prop := R a0 a1 a2 a3 a4
theorem bk5 {A0 A1 A2 A3 A4 : Type} {R : A0 → A1 → A2 → A3 → A4 → Prop} {P : Prop} (e : P = ∀ a0 a1 a2 a3 a4, R a0 a1 a2 a3 a4) (ne : Nonempty (A0 × A1 × A2 × A3 × A4)) (h : ap5 P e ((pk5 P e ne).1) ((pk5 P e ne).2.1) ((pk5 P e ne).2.2.1) ((pk5 P e ne).2.2.2.1) ((pk5 P e ne).2.2.2.2)) : P := by
  subst e
  intro a0 a1 a2 a3 a4
  exact Classical.byContradiction fun hx => @Classical.epsilon_spec _ (fun x : A0 × A1 × A2 × A3 × A4 => ¬ R x.1 x.2.1 x.2.2.1 x.2.2.2.1 x.2.2.2.2) ⟨(a0, a1, a2, a3, a4), hx⟩ h
noncomputable def pk6 {A0 A1 A2 A3 A4 A5 : Type} {R : A0 → A1 → A2 → A3 → A4 → A5 → Prop} (P : Prop) (e : P = ∀ a0 a1 a2 a3 a4 a5, R a0 a1 a2 a3 a4 a5) (ne : Nonempty (A0 × A1 × A2 × A3 × A4 × A5)) : A0 × A1 × A2 × A3 × A4 × A5 := @Classical.epsilon _ ne fun x => ¬ R x.1 x.2.1 x.2.2.1 x.2.2.2.1 x.2.2.2.2.1 x.2.2.2.2.2
noncomputable def ap6 {A0 A1 A2 A3 A4 A5 : Type} {R : A0 → A1 → A2 → A3 → A4 → A5 → Prop} (P : Prop) (e : P = ∀ a0 a1 a2 a3 a4 a5, R a0 a1 a2 a3 a4 a5) (a0 : A0) (a1 : A1) (a2 : A2) (a3 : A3) (a4 : A4) (a5 : A5) : Prop := R a0 a1 a2 a3 a4 a5
theorem bk6 {A0 A1 A2 A3 A4 A5 : Type} {R : A0 → A1 → A2 → A3 → A4 → A5 → Prop} {P : Prop} (e : P = ∀ a0 a1 a2 a3 a4 a5, R a0 a1 a2 a3 a4 a5) (ne : Nonempty (A0 × A1 × A2 × A3 × A4 × A5)) (h : ap6 P e ((pk6 P e ne).1) ((pk6 P e ne).2.1) ((pk6 P e ne).2.2.1) ((pk6 P e ne).2.2.2.1) ((pk6 P e ne).2.2.2.2.1) ((pk6 P e ne).2.2.2.2.2)) : P := by
  subst e
  intro a0 a1 a2 a3 a4 a5
  exact Classical.byContradiction fun hx => @Classical.epsilon_spec _ (fun x : A0 × A1 × A2 × A3 × A4 × A5 => ¬ R x.1 x.2.1 x.2.2.1 x.2.2.2.1 x.2.2.2.2.1 x.2.2.2.2.2) ⟨(a0, a1, a2, a3, a4, a5), hx⟩ h
noncomputable def pk7 {A0 A1 A2 A3 A4 A5 A6 : Type} {R : A0 → A1 → A2 → A3 → A4 → A5 → A6 → Prop} (P : Prop) (e : P = ∀ a0 a1 a2 a3 a4 a5 a6, R a0 a1 a2 a3 a4 a5 a6) (ne : Nonempty (A0 × A1 × A2 × A3 × A4 × A5 × A6)) : A0 × A1 × A2 × A3 × A4 × A5 × A6 := @Classical.epsilon _ ne fun x => ¬ R x.1 x.2.1 x.2.2.1 x.2.2.2.1 x.2.2.2.2.1 x.2.2.2.2.2.1 x.2.2.2.2.2.2
noncomputable def ap7 {A0 A1 A2 A3 A4 A5 A6 : Type} {R : A0 → A1 → A2 → A3 → A4 → A5 → A6 → Prop} (P : Prop) (e : P = ∀ a0 a1 a2 a3 a4 a5 a6, R a0 a1 a2 a3 a4 a5 a6) (a0 : A0) (a1 : A1) (a2 : A2) (a3 : A3) (a4 : A4) (a5 : A5) (a6 : A6) : Prop := R a0 a1 a2 a3 a4 a5 a6
theorem bk7 {A0 A1 A2 A3 A4 A5 A6 : Type} {R : A0 → A1 → A2 → A3 → A4 → A5 → A6 → Prop} {P : Prop} (e : P = ∀ a0 a1 a2 a3 a4 a5 a6, R a0 a1 a2 a3 a4 a5 a6) (ne : Nonempty (A0 × A1 × A2 × A3 × A4 × A5 × A6)) (h : ap7 P e ((pk7 P e ne).1) ((pk7 P e ne).2.1) ((pk7 P e ne).2.2.1) ((pk7 P e ne).2.2.2.1) ((pk7 P e ne).2.2.2.2.1) ((pk7 P e ne).2.2.2.2.2.1) ((pk7 P e ne).2.2.2.2.2.2)) : P := by
  subst e
  intro a0 a1 a2 a3 a4 a5 a6
  exact Classical.byContradiction fun hx => @Classical.epsilon_spec _ (fun x : A0 × A1 × A2 × A3 × A4 × A5 × A6 => ¬ R x.1 x.2.1 x.2.2.1 x.2.2.2.1 x.2.2.2.2.1 x.2.2.2.2.2.1 x.2.2.2.2.2.2) ⟨(a0, a1, a2, a3, a4, a5, a6), hx⟩ h
noncomputable def pk8 {A0 A1 A2 A3 A4 A5 A6 A7 : Type} {R : A0 → A1 → A2 → A3 → A4 → A5 → A6 → A7 → Prop} (P : Prop) (e : P = ∀ a0 a1 a2 a3 a4 a5 a6 a7, R a0 a1 a2 a3 a4 a5 a6 a7) (ne : Nonempty (A0 × A1 × A2 × A3 × A4 × A5 × A6 × A7)) : A0 × A1 × A2 × A3 × A4 × A5 × A6 × A7 := @Classical.epsilon _ ne fun x => ¬ R x.1 x.2.1 x.2.2.1 x.2.2.2.1 x.2.2.2.2.1 x.2.2.2.2.2.1 x.2.2.2.2.2.2.1 x.2.2.2.2.2.2.2
noncomputable def ap8 {A0 A1 A2 A3 A4 A5 A6 A7 : Type} {R : A0 → A1 → A2 → A3 → A4 → A5 → A6 → A7 → Prop} (P : Prop) (e : P = ∀ a0 a1 a2 a3 a4 a5 a6 a7, R a0 a1 a2 a3 a4 a5 a6 a7) (a0 : A0) (a1 : A1) (a2 : A2) (a3 : A3) (a4 : A4) (a5 : A5) (a6 : A6) (a7 : A7) : Prop := R a0 a1 a2 a3 a4 a5 a6 a7
theorem bk8 {A0 A1 A2 A3 A4 A5 A6 A7 : Type} {R : A0 → A1 → A2 → A3 → A4 → A5 → A6 → A7 → Prop} {P : Prop} (e : P = ∀ a0 a1 a2 a3 a4 a5 a6 a7, R a0 a1 a2 a3 a4 a5 a6 a7) (ne : Nonempty (A0 × A1 × A2 × A3 × A4 × A5 × A6 × A7)) (h : ap8 P e ((pk8 P e ne).1) ((pk8 P e ne).2.1) ((pk8 P e ne).2.2.1) ((pk8 P e ne).2.2.2.1) ((pk8 P e ne).2.2.2.2.1) ((pk8 P e ne).2.2.2.2.2.1) ((pk8 P e ne).2.2.2.2.2.2.1) ((pk8 P e ne).2.2.2.2.2.2.2)) : P := by
  subst e
  intro a0 a1 a2 a3 a4 a5 a6 a7
  exact Classical.byContradiction fun hx => @Classical.epsilon_spec _ (fun x : A0 × A1 × A2 × A3 × A4 × A5 × A6 × A7 => ¬ R x.1 x.2.1 x.2.2.1 x.2.2.2.1 x.2.2.2.2.1 x.2.2.2.2.2.1 x.2.2.2.2.2.2.1 x.2.2.2.2.2.2.2) ⟨(a0, a1, a2, a3, a4, a5, a6, a7), hx⟩ h
noncomputable def pk9 {A0 A1 A2 A3 A4 A5 A6 A7 A8 : Type} {R : A0 → A1 → A2 → A3 → A4 → A5 → A6 → A7 → A8 → Prop} (P : Prop) (e : P = ∀ a0 a1 a2 a3 a4 a5 a6 a7 a8, R a0 a1 a2 a3 a4 a5 a6 a7 a8) (ne : Nonempty (A0 × A1 × A2 × A3 × A4 × A5 × A6 × A7 × A8)) : A0 × A1 × A2 × A3 × A4 × A5 × A6 × A7 × A8 := @Classical.epsilon _ ne fun x => ¬ R x.1 x.2.1 x.2.2.1 x.2.2.2.1 x.2.2.2.2.1 x.2.2.2.2.2.1 x.2.2.2.2.2.2.1 x.2.2.2.2.2.2.2.1 x.2.2.2.2.2.2.2.2
noncomputable def ap9 {A0 A1 A2 A3 A4 A5 A6 A7 A8 : Type} {R : A0 → A1 → A2 → A3 → A4 → A5 → A6 → A7 → A8 → Prop} (P : Prop) (e : P = ∀ a0 a1 a2 a3 a4 a5 a6 a7 a8, R a0 a1 a2 a3 a4 a5 a6 a7 a8) (a0 : A0) (a1 : A1) (a2 : A2) (a3 : A3) (a4 : A4) (a5 : A5) (a6 : A6) (a7 : A7) (a8 : A8) : Prop := R a0 a1 a2 a3 a4 a5 a6 a7 a8
theorem bk9 {A0 A1 A2 A3 A4 A5 A6 A7 A8 : Type} {R : A0 → A1 → A2 → A3 → A4 → A5 → A6 → A7 → A8 → Prop} {P : Prop} (e : P = ∀ a0 a1 a2 a3 a4 a5 a6 a7 a8, R a0 a1 a2 a3 a4 a5 a6 a7 a8) (ne : Nonempty (A0 × A1 × A2 × A3 × A4 × A5 × A6 × A7 × A8)) (h : ap9 P e ((pk9 P e ne).1) ((pk9 P e ne).2.1) ((pk9 P e ne).2.2.1) ((pk9 P e ne).2.2.2.1) ((pk9 P e ne).2.2.2.2.1) ((pk9 P e ne).2.2.2.2.2.1) ((pk9 P e ne).2.2.2.2.2.2.1) ((pk9 P e ne).2.2.2.2.2.2.2.1) ((pk9 P e ne).2.2.2.2.2.2.2.2)) : P := by
  subst e
  intro a0 a1 a2 a3 a4 a5 a6 a7 a8
  exact Classical.byContradiction fun hx => @Classical.epsilon_spec _ (fun x : A0 × A1 × A2 × A3 × A4 × A5 × A6 × A7 × A8 => ¬ R x.1 x.2.1 x.2.2.1 x.2.2.2.1 x.2.2.2.2.1 x.2.2.2.2.2.1 x.2.2.2.2.2.2.1 x.2.2.2.2.2.2.2.1 x.2.2.2.2.2.2.2.2) ⟨(a0, a1, a2, a3, a4, a5, a6, a7, a8), hx⟩ h
noncomputable def pk10 {A0 A1 A2 A3 A4 A5 A6 A7 A8 A9 : Type} {R : A0 → A1 → A2 → A3 → A4 → A5 → A6 → A7 → A8 → A9 → Prop} (P : Prop) (e : P = ∀ a0 a1 a2 a3 a4 a5 a6 a7 a8 a9, R a0 a1 a2 a3 a4 a5 a6 a7 a8 a9) (ne : Nonempty (A0 × A1 × A2 × A3 × A4 × A5 × A6 × A7 × A8 × A9)) : A0 × A1 × A2 × A3 × A4 × A5 × A6 × A7 × A8 × A9 := @Classical.epsilon _ ne fun x => ¬ R x.1 x.2.1 x.2.2.1 x.2.2.2.1 x.2.2.2.2.1 x.2.2.2.2.2.1 x.2.2.2.2.2.2.1 x.2.2.2.2.2.2.2.1 x.2.2.2.2.2.2.2.2.1 x.2.2.2.2.2.2.2.2.2
noncomputable def ap10 {A0 A1 A2 A3 A4 A5 A6 A7 A8 A9 : Type} {R : A0 → A1 → A2 → A3 → A4 → A5 → A6 → A7 → A8 → A9 → Prop} (P : Prop) (e : P = ∀ a0 a1 a2 a3 a4 a5 a6 a7 a8 a9, R a0 a1 a2 a3 a4 a5 a6 a7 a8 a9) (a0 : A0) (a1 : A1) (a2 : A2) (a3 : A3) (a4 : A4) (a5 : A5) (a6 : A6) (a7 : A7) (a8 : A8) (a9 : A9) : Prop := R a0 a1 a2 a3 a4 a5 a6 a7 a8 a9
theorem bk10 {A0 A1 A2 A3 A4 A5 A6 A7 A8 A9 : Type} {R : A0 → A1 → A2 → A3 → A4 → A5 → A6 → A7 → A8 → A9 → Prop} {P : Prop} (e : P = ∀ a0 a1 a2 a3 a4 a5 a6 a7 a8 a9, R a0 a1 a2 a3 a4 a5 a6 a7 a8 a9) (ne : Nonempty (A0 × A1 × A2 × A3 × A4 × A5 × A6 × A7 × A8 × A9)) (h : ap10 P e ((pk10 P e ne).1) ((pk10 P e ne).2.1) ((pk10 P e ne).2.2.1) ((pk10 P e ne).2.2.2.1) ((pk10 P e ne).2.2.2.2.1) ((pk10 P e ne).2.2.2.2.2.1) ((pk10 P e ne).2.2.2.2.2.2.1) ((pk10 P e ne).2.2.2.2.2.2.2.1) ((pk10 P e ne).2.2.2.2.2.2.2.2.1) ((pk10 P e ne).2.2.2.2.2.2.2.2.2)) : P := by
  subst e
  intro a0 a1 a2 a3 a4 a5 a6 a7 a8 a9
  exact Classical.byContradiction fun hx => @Classical.epsilon_spec _ (fun x : A0 × A1 × A2 × A3 × A4 × A5 × A6 × A7 × A8 × A9 => ¬ R x.1 x.2.1 x.2.2.1 x.2.2.2.1 x.2.2.2.2.1 x.2.2.2.2.2.1 x.2.2.2.2.2.2.1 x.2.2.2.2.2.2.2.1 x.2.2.2.2.2.2.2.2.1 x.2.2.2.2.2.2.2.2.2) ⟨(a0, a1, a2, a3, a4, a5, a6, a7, a8, a9), hx⟩ h
noncomputable def pk13 {A0 A1 A2 A3 A4 A5 A6 A7 A8 A9 A10 A11 A12 : Type} {R : A0 → A1 → A2 → A3 → A4 → A5 → A6 → A7 → A8 → A9 → A10 → A11 → A12 → Prop} (P : Prop) (e : P = ∀ a0 a1 a2 a3 a4 a5 a6 a7 a8 a9 a10 a11 a12, R a0 a1 a2 a3 a4 a5 a6 a7 a8 a9 a10 a11 a12) (ne : Nonempty (A0 × A1 × A2 × A3 × A4 × A5 × A6 × A7 × A8 × A9 × A10 × A11 × A12)) : A0 × A1 × A2 × A3 × A4 × A5 × A6 × A7 × A8 × A9 × A10 × A11 × A12 := @Classical.epsilon _ ne fun x => ¬ R x.1 x.2.1 x.2.2.1 x.2.2.2.1 x.2.2.2.2.1 x.2.2.2.2.2.1 x.2.2.2.2.2.2.1 x.2.2.2.2.2.2.2.1 x.2.2.2.2.2.2.2.2.1 x.2.2.2.2.2.2.2.2.2.1 x.2.2.2.2.2.2.2.2.2.2.1 x.2.2.2.2.2.2.2.2.2.2.2.1 x.2.2.2.2.2.2.2.2.2.2.2.2
noncomputable def ap13 {A0 A1 A2 A3 A4 A5 A6 A7 A8 A9 A10 A11 A12 : Type} {R : A0 → A1 → A2 → A3 → A4 → A5 → A6 → A7 → A8 → A9 → A10 → A11 → A12 → Prop} (P : Prop) (e : P = ∀ a0 a1 a2 a3 a4 a5 a6 a7 a8 a9 a10 a11 a12, R a0 a1 a2 a3 a4 a5 a6 a7 a8 a9 a10 a11 a12) (a0 : A0) (a1 : A1) (a2 : A2) (a3 : A3) (a4 : A4) (a5 : A5) (a6 : A6) (a7 : A7) (a8 : A8) (a9 : A9) (a10 : A10) (a11 : A11) (a12 : A12) : Prop := R a0 a1 a2 a3 a4 a5 a6 a7 a8 a9 a10 a11 a12
theorem bk13 {A0 A1 A2 A3 A4 A5 A6 A7 A8 A9 A10 A11 A12 : Type} {R : A0 → A1 → A2 → A3 → A4 → A5 → A6 → A7 → A8 → A9 → A10 → A11 → A12 → Prop} {P : Prop} (e : P = ∀ a0 a1 a2 a3 a4 a5 a6 a7 a8 a9 a10 a11 a12, R a0 a1 a2 a3 a4 a5 a6 a7 a8 a9 a10 a11 a12) (ne : Nonempty (A0 × A1 × A2 × A3 × A4 × A5 × A6 × A7 × A8 × A9 × A10 × A11 × A12)) (h : ap13 P e ((pk13 P e ne).1) ((pk13 P e ne).2.1) ((pk13 P e ne).2.2.1) ((pk13 P e ne).2.2.2.1) ((pk13 P e ne).2.2.2.2.1) ((pk13 P e ne).2.2.2.2.2.1) ((pk13 P e ne).2.2.2.2.2.2.1) ((pk13 P e ne).2.2.2.2.2.2.2.1) ((pk13 P e ne).2.2.2.2.2.2.2.2.1) ((pk13 P e ne).2.2.2.2.2.2.2.2.2.1) ((pk13 P e ne).2.2.2.2.2.2.2.2.2.2.1) ((pk13 P e ne).2.2.2.2.2.2.2.2.2.2.2.1) ((pk13 P e ne).2.2.2.2.2.2.2.2.2.2.2.2)) : P := by
  subst e
  intro a0 a1 a2 a3 a4 a5 a6 a7 a8 a9 a10 a11 a12
  exact Classical.byContradiction fun hx => @Classical.epsilon_spec _ (fun x : A0 × A1 × A2 × A3 × A4 × A5 × A6 × A7 × A8 × A9 × A10 × A11 × A12 => ¬ R x.1 x.2.1 x.2.2.1 x.2.2.2.1 x.2.2.2.2.1 x.2.2.2.2.2.1 x.2.2.2.2.2.2.1 x.2.2.2.2.2.2.2.1 x.2.2.2.2.2.2.2.2.1 x.2.2.2.2.2.2.2.2.2.1 x.2.2.2.2.2.2.2.2.2.2.1 x.2.2.2.2.2.2.2.2.2.2.2.1 x.2.2.2.2.2.2.2.2.2.2.2.2) ⟨(a0, a1, a2, a3, a4, a5, a6, a7, a8, a9, a10, a11, a12), hx⟩ h
noncomputable def pk14 {A0 A1 A2 A3 A4 A5 A6 A7 A8 A9 A10 A11 A12 A13 : Type} {R : A0 → A1 → A2 → A3 → A4 → A5 → A6 → A7 → A8 → A9 → A10 → A11 → A12 → A13 → Prop} (P : Prop) (e : P = ∀ a0 a1 a2 a3 a4 a5 a6 a7 a8 a9 a10 a11 a12 a13, R a0 a1 a2 a3 a4 a5 a6 a7 a8 a9 a10 a11 a12 a13) (ne : Nonempty (A0 × A1 × A2 × A3 × A4 × A5 × A6 × A7 × A8 × A9 × A10 × A11 × A12 × A13)) : A0 × A1 × A2 × A3 × A4 × A5 × A6 × A7 × A8 × A9 × A10 × A11 × A12 × A13 := @Classical.epsilon _ ne fun x => ¬ R x.1 x.2.1 x.2.2.1 x.2.2.2.1 x.2.2.2.2.1 x.2.2.2.2.2.1 x.2.2.2.2.2.2.1 x.2.2.2.2.2.2.2.1 x.2.2.2.2.2.2.2.2.1 x.2.2.2.2.2.2.2.2.2.1 x.2.2.2.2.2.2.2.2.2.2.1 x.2.2.2.2.2.2.2.2.2.2.2.1 x.2.2.2.2.2.2.2.2.2.2.2.2.1 x.2.2.2.2.2.2.2.2.2.2.2.2.2
noncomputable def ap14 {A0 A1 A2 A3 A4 A5 A6 A7 A8 A9 A10 A11 A12 A13 : Type} {R : A0 → A1 → A2 → A3 → A4 → A5 → A6 → A7 → A8 → A9 → A10 → A11 → A12 → A13 → Prop} (P : Prop) (e : P = ∀ a0 a1 a2 a3 a4 a5 a6 a7 a8 a9 a10 a11 a12 a13, R a0 a1 a2 a3 a4 a5 a6 a7 a8 a9 a10 a11 a12 a13) (a0 : A0) (a1 : A1) (a2 : A2) (a3 : A3) (a4 : A4) (a5 : A5) (a6 : A6) (a7 : A7) (a8 : A8) (a9 : A9) (a10 : A10) (a11 : A11) (a12 : A12) (a13 : A13) : Prop := R a0 a1 a2 a3 a4 a5 a6 a7 a8 a9 a10 a11 a12 a13
theorem bk14 {A0 A1 A2 A3 A4 A5 A6 A7 A8 A9 A10 A11 A12 A13 : Type} {R : A0 → A1 → A2 → A3 → A4 → A5 → A6 → A7 → A8 → A9 → A10 → A11 → A12 → A13 → Prop} {P : Prop} (e : P = ∀ a0 a1 a2 a3 a4 a5 a6 a7 a8 a9 a10 a11 a12 a13, R a0 a1 a2 a3 a4 a5 a6 a7 a8 a9 a10 a11 a12 a13) (ne : Nonempty (A0 × A1 × A2 × A3 × A4 × A5 × A6 × A7 × A8 × A9 × A10 × A11 × A12 × A13)) (h : ap14 P e ((pk14 P e ne).1) ((pk14 P e ne).2.1) ((pk14 P e ne).2.2.1) ((pk14 P e ne).2.2.2.1) ((pk14 P e ne).2.2.2.2.1) ((pk14 P e ne).2.2.2.2.2.1) ((pk14 P e ne).2.2.2.2.2.2.1) ((pk14 P e ne).2.2.2.2.2.2.2.1) ((pk14 P e ne).2.2.2.2.2.2.2.2.1) ((pk14 P e ne).2.2.2.2.2.2.2.2.2.1) ((pk14 P e ne).2.2.2.2.2.2.2.2.2.2.1) ((pk14 P e ne).2.2.2.2.2.2.2.2.2.2.2.1) ((pk14 P e ne).2.2.2.2.2.2.2.2.2.2.2.2.1) ((pk14 P e ne).2.2.2.2.2.2.2.2.2.2.2.2.2)) : P := by
  subst e
  intro a0 a1 a2 a3 a4 a5 a6 a7 a8 a9 a10 a11 a12 a13
  exact Classical.byContradiction fun hx => @Classical.epsilon_spec _ (fun x : A0 × A1 × A2 × A3 × A4 × A5 × A6 × A7 × A8 × A9 × A10 × A11 × A12 × A13 => ¬ R x.1 x.2.1 x.2.2.1 x.2.2.2.1 x.2.2.2.2.1 x.2.2.2.2.2.1 x.2.2.2.2.2.2.1 x.2.2.2.2.2.2.2.1 x.2.2.2.2.2.2.2.2.1 x.2.2.2.2.2.2.2.2.2.1 x.2.2.2.2.2.2.2.2.2.2.1 x.2.2.2.2.2.2.2.2.2.2.2.1 x.2.2.2.2.2.2.2.2.2.2.2.2.1 x.2.2.2.2.2.2.2.2.2.2.2.2.2) ⟨(a0, a1, a2, a3, a4, a5, a6, a7, a8, a9, a10, a11, a12, a13), hx⟩ h
noncomputable def pk15 {A0 A1 A2 A3 A4 A5 A6 A7 A8 A9 A10 A11 A12 A13 A14 : Type} {R : A0 → A1 → A2 → A3 → A4 → A5 → A6 → A7 → A8 → A9 → A10 → A11 → A12 → A13 → A14 → Prop} (P : Prop) (e : P = ∀ a0 a1 a2 a3 a4 a5 a6 a7 a8 a9 a10 a11 a12 a13 a14, R a0 a1 a2 a3 a4 a5 a6 a7 a8 a9 a10 a11 a12 a13 a14) (ne : Nonempty (A0 × A1 × A2 × A3 × A4 × A5 × A6 × A7 × A8 × A9 × A10 × A11 × A12 × A13 × A14)) : A0 × A1 × A2 × A3 × A4 × A5 × A6 × A7 × A8 × A9 × A10 × A11 × A12 × A13 × A14 := @Classical.epsilon _ ne fun x => ¬ R x.1 x.2.1 x.2.2.1 x.2.2.2.1 x.2.2.2.2.1 x.2.2.2.2.2.1 x.2.2.2.2.2.2.1 x.2.2.2.2.2.2.2.1 x.2.2.2.2.2.2.2.2.1 x.2.2.2.2.2.2.2.2.2.1 x.2.2.2.2.2.2.2.2.2.2.1 x.2.2.2.2.2.2.2.2.2.2.2.1 x.2.2.2.2.2.2.2.2.2.2.2.2.1 x.2.2.2.2.2.2.2.2.2.2.2.2.2.1 x.2.2.2.2.2.2.2.2.2.2.2.2.2.2
noncomputable def ap15 {A0 A1 A2 A3 A4 A5 A6 A7 A8 A9 A10 A11 A12 A13 A14 : Type} {R : A0 → A1 → A2 → A3 → A4 → A5 → A6 → A7 → A8 → A9 → A10 → A11 → A12 → A13 → A14 → Prop} (P : Prop) (e : P = ∀ a0 a1 a2 a3 a4 a5 a6 a7 a8 a9 a10 a11 a12 a13 a14, R a0 a1 a2 a3 a4 a5 a6 a7 a8 a9 a10 a11 a12 a13 a14) (a0 : A0) (a1 : A1) (a2 : A2) (a3 : A3) (a4 : A4) (a5 : A5) (a6 : A6) (a7 : A7) (a8 : A8) (a9 : A9) (a10 : A10) (a11 : A11) (a12 : A12) (a13 : A13) (a14 : A14) : Prop := R a0 a1 a2 a3 a4 a5 a6 a7 a8 a9 a10 a11 a12 a13 a14
theorem bk15 {A0 A1 A2 A3 A4 A5 A6 A7 A8 A9 A10 A11 A12 A13 A14 : Type} {R : A0 → A1 → A2 → A3 → A4 → A5 → A6 → A7 → A8 → A9 → A10 → A11 → A12 → A13 → A14 → Prop} {P : Prop} (e : P = ∀ a0 a1 a2 a3 a4 a5 a6 a7 a8 a9 a10 a11 a12 a13 a14, R a0 a1 a2 a3 a4 a5 a6 a7 a8 a9 a10 a11 a12 a13 a14) (ne : Nonempty (A0 × A1 × A2 × A3 × A4 × A5 × A6 × A7 × A8 × A9 × A10 × A11 × A12 × A13 × A14)) (h : ap15 P e ((pk15 P e ne).1) ((pk15 P e ne).2.1) ((pk15 P e ne).2.2.1) ((pk15 P e ne).2.2.2.1) ((pk15 P e ne).2.2.2.2.1) ((pk15 P e ne).2.2.2.2.2.1) ((pk15 P e ne).2.2.2.2.2.2.1) ((pk15 P e ne).2.2.2.2.2.2.2.1) ((pk15 P e ne).2.2.2.2.2.2.2.2.1) ((pk15 P e ne).2.2.2.2.2.2.2.2.2.1) ((pk15 P e ne).2.2.2.2.2.2.2.2.2.2.1) ((pk15 P e ne).2.2.2.2.2.2.2.2.2.2.2.1) ((pk15 P e ne).2.2.2.2.2.2.2.2.2.2.2.2.1) ((pk15 P e ne).2.2.2.2.2.2.2.2.2.2.2.2.2.1) ((pk15 P e ne).2.2.2.2.2.2.2.2.2.2.2.2.2.2)) : P := by
  subst e
  intro a0 a1 a2 a3 a4 a5 a6 a7 a8 a9 a10 a11 a12 a13 a14
  exact Classical.byContradiction fun hx => @Classical.epsilon_spec _ (fun x : A0 × A1 × A2 × A3 × A4 × A5 × A6 × A7 × A8 × A9 × A10 × A11 × A12 × A13 × A14 => ¬ R x.1 x.2.1 x.2.2.1 x.2.2.2.1 x.2.2.2.2.1 x.2.2.2.2.2.1 x.2.2.2.2.2.2.1 x.2.2.2.2.2.2.2.1 x.2.2.2.2.2.2.2.2.1 x.2.2.2.2.2.2.2.2.2.1 x.2.2.2.2.2.2.2.2.2.2.1 x.2.2.2.2.2.2.2.2.2.2.2.1 x.2.2.2.2.2.2.2.2.2.2.2.2.1 x.2.2.2.2.2.2.2.2.2.2.2.2.2.1 x.2.2.2.2.2.2.2.2.2.2.2.2.2.2) ⟨(a0, a1, a2, a3, a4, a5, a6, a7, a8, a9, a10, a11, a12, a13, a14), hx⟩ h
noncomputable def pk16 {A0 A1 A2 A3 A4 A5 A6 A7 A8 A9 A10 A11 A12 A13 A14 A15 : Type} {R : A0 → A1 → A2 → A3 → A4 → A5 → A6 → A7 → A8 → A9 → A10 → A11 → A12 → A13 → A14 → A15 → Prop} (P : Prop) (e : P = ∀ a0 a1 a2 a3 a4 a5 a6 a7 a8 a9 a10 a11 a12 a13 a14 a15, R a0 a1 a2 a3 a4 a5 a6 a7 a8 a9 a10 a11 a12 a13 a14 a15) (ne : Nonempty (A0 × A1 × A2 × A3 × A4 × A5 × A6 × A7 × A8 × A9 × A10 × A11 × A12 × A13 × A14 × A15)) : A0 × A1 × A2 × A3 × A4 × A5 × A6 × A7 × A8 × A9 × A10 × A11 × A12 × A13 × A14 × A15 := @Classical.epsilon _ ne fun x => ¬ R x.1 x.2.1 x.2.2.1 x.2.2.2.1 x.2.2.2.2.1 x.2.2.2.2.2.1 x.2.2.2.2.2.2.1 x.2.2.2.2.2.2.2.1 x.2.2.2.2.2.2.2.2.1 x.2.2.2.2.2.2.2.2.2.1 x.2.2.2.2.2.2.2.2.2.2.1 x.2.2.2.2.2.2.2.2.2.2.2.1 x.2.2.2.2.2.2.2.2.2.2.2.2.1 x.2.2.2.2.2.2.2.2.2.2.2.2.2.1 x.2.2.2.2.2.2.2.2.2.2.2.2.2.2.1 x.2.2.2.2.2.2.2.2.2.2.2.2.2.2.2
noncomputable def ap16 {A0 A1 A2 A3 A4 A5 A6 A7 A8 A9 A10 A11 A12 A13 A14 A15 : Type} {R : A0 → A1 → A2 → A3 → A4 → A5 → A6 → A7 → A8 → A9 → A10 → A11 → A12 → A13 → A14 → A15 → Prop} (P : Prop) (e : P = ∀ a0 a1 a2 a3 a4 a5 a6 a7 a8 a9 a10 a11 a12 a13 a14 a15, R a0 a1 a2 a3 a4 a5 a6 a7 a8 a9 a10 a11 a12 a13 a14 a15) (a0 : A0) (a1 : A1) (a2 : A2) (a3 : A3) (a4 : A4) (a5 : A5) (a6 : A6) (a7 : A7) (a8 : A8) (a9 : A9) (a10 : A10) (a11 : A11) (a12 : A12) (a13 : A13) (a14 : A14) (a15 : A15) : Prop := R a0 a1 a2 a3 a4 a5 a6 a7 a8 a9 a10 a11 a12 a13 a14 a15
theorem bk16 {A0 A1 A2 A3 A4 A5 A6 A7 A8 A9 A10 A11 A12 A13 A14 A15 : Type} {R : A0 → A1 → A2 → A3 → A4 → A5 → A6 → A7 → A8 → A9 → A10 → A11 → A12 → A13 → A14 → A15 → Prop} {P : Prop} (e : P = ∀ a0 a1 a2 a3 a4 a5 a6 a7 a8 a9 a10 a11 a12 a13 a14 a15, R a0 a1 a2 a3 a4 a5 a6 a7 a8 a9 a10 a11 a12 a13 a14 a15) (ne : Nonempty (A0 × A1 × A2 × A3 × A4 × A5 × A6 × A7 × A8 × A9 × A10 × A11 × A12 × A13 × A14 × A15)) (h : ap16 P e ((pk16 P e ne).1) ((pk16 P e ne).2.1) ((pk16 P e ne).2.2.1) ((pk16 P e ne).2.2.2.1) ((pk16 P e ne).2.2.2.2.1) ((pk16 P e ne).2.2.2.2.2.1) ((pk16 P e ne).2.2.2.2.2.2.1) ((pk16 P e ne).2.2.2.2.2.2.2.1) ((pk16 P e ne).2.2.2.2.2.2.2.2.1) ((pk16 P e ne).2.2.2.2.2.2.2.2.2.1) ((pk16 P e ne).2.2.2.2.2.2.2.2.2.2.1) ((pk16 P e ne).2.2.2.2.2.2.2.2.2.2.2.1) ((pk16 P e ne).2.2.2.2.2.2.2.2.2.2.2.2.1) ((pk16 P e ne).2.2.2.2.2.2.2.2.2.2.2.2.2.1) ((pk16 P e ne).2.2.2.2.2.2.2.2.2.2.2.2.2.2.1) ((pk16 P e ne).2.2.2.2.2.2.2.2.2.2.2.2.2.2.2)) : P := by
  subst e
  intro a0 a1 a2 a3 a4 a5 a6 a7 a8 a9 a10 a11 a12 a13 a14 a15
  exact Classical.byContradiction fun hx => @Classical.epsilon_spec _ (fun x : A0 × A1 × A2 × A3 × A4 × A5 × A6 × A7 × A8 × A9 × A10 × A11 × A12 × A13 × A14 × A15 => ¬ R x.1 x.2.1 x.2.2.1 x.2.2.2.1 x.2.2.2.2.1 x.2.2.2.2.2.1 x.2.2.2.2.2.2.1 x.2.2.2.2.2.2.2.1 x.2.2.2.2.2.2.2.2.1 x.2.2.2.2.2.2.2.2.2.1 x.2.2.2.2.2.2.2.2.2.2.1 x.2.2.2.2.2.2.2.2.2.2.2.1 x.2.2.2.2.2.2.2.2.2.2.2.2.1 x.2.2.2.2.2.2.2.2.2.2.2.2.2.1 x.2.2.2.2.2.2.2.2.2.2.2.2.2.2.1 x.2.2.2.2.2.2.2.2.2.2.2.2.2.2.2) ⟨(a0, a1, a2, a3, a4, a5, a6, a7, a8, a9, a10, a11, a12, a13, a14, a15), hx⟩ h
noncomputable def pk17 {A0 A1 A2 A3 A4 A5 A6 A7 A8 A9 A10 A11 A12 A13 A14 A15 A16 : Type} {R : A0 → A1 → A2 → A3 → A4 → A5 → A6 → A7 → A8 → A9 → A10 → A11 → A12 → A13 → A14 → A15 → A16 → Prop} (P : Prop) (e : P = ∀ a0 a1 a2 a3 a4 a5 a6 a7 a8 a9 a10 a11 a12 a13 a14 a15 a16, R a0 a1 a2 a3 a4 a5 a6 a7 a8 a9 a10 a11 a12 a13 a14 a15 a16) (ne : Nonempty (A0 × A1 × A2 × A3 × A4 × A5 × A6 × A7 × A8 × A9 × A10 × A11 × A12 × A13 × A14 × A15 × A16)) : A0 × A1 × A2 × A3 × A4 × A5 × A6 × A7 × A8 × A9 × A10 × A11 × A12 × A13 × A14 × A15 × A16 := @Classical.epsilon _ ne fun x => ¬ R x.1 x.2.1 x.2.2.1 x.2.2.2.1 x.2.2.2.2.1 x.2.2.2.2.2.1 x.2.2.2.2.2.2.1 x.2.2.2.2.2.2.2.1 x.2.2.2.2.2.2.2.2.1 x.2.2.2.2.2.2.2.2.2.1 x.2.2.2.2.2.2.2.2.2.2.1 x.2.2.2.2.2.2.2.2.2.2.2.1 x.2.2.2.2.2.2.2.2.2.2.2.2.1 x.2.2.2.2.2.2.2.2.2.2.2.2.2.1 x.2.2.2.2.2.2.2.2.2.2.2.2.2.2.1 x.2.2.2.2.2.2.2.2.2.2.2.2.2.2.2.1 x.2.2.2.2.2.2.2.2.2.2.2.2.2.2.2.2
noncomputable def ap17 {A0 A1 A2 A3 A4 A5 A6 A7 A8 A9 A10 A11 A12 A13 A14 A15 A16 : Type} {R : A0 → A1 → A2 → A3 → A4 → A5 → A6 → A7 → A8 → A9 → A10 → A11 → A12 → A13 → A14 → A15 → A16 → Prop} (P : Prop) (e : P = ∀ a0 a1 a2 a3 a4 a5 a6 a7 a8 a9 a10 a11 a12 a13 a14 a15 a16, R a0 a1 a2 a3 a4 a5 a6 a7 a8 a9 a10 a11 a12 a13 a14 a15 a16) (a0 : A0) (a1 : A1) (a2 : A2) (a3 : A3) (a4 : A4) (a5 : A5) (a6 : A6) (a7 : A7) (a8 : A8) (a9 : A9) (a10 : A10) (a11 : A11) (a12 : A12) (a13 : A13) (a14 : A14) (a15 : A15) (a16 : A16) : Prop := R a0 a1 a2 a3 a4 a5 a6 a7 a8 a9 a10 a11 a12 a13 a14 a15 a16
theorem bk17 {A0 A1 A2 A3 A4 A5 A6 A7 A8 A9 A10 A11 A12 A13 A14 A15 A16 : Type} {R : A0 → A1 → A2 → A3 → A4 → A5 → A6 → A7 → A8 → A9 → A10 → A11 → A12 → A13 → A14 → A15 → A16 → Prop} {P : Prop} (e : P = ∀ a0 a1 a2 a3 a4 a5 a6 a7 a8 a9 a10 a11 a12 a13 a14 a15 a16, R a0 a1 a2 a3 a4 a5 a6 a7 a8 a9 a10 a11 a12 a13 a14 a15 a16) (ne : Nonempty (A0 × A1 × A2 × A3 × A4 × A5 × A6 × A7 × A8 × A9 × A10 × A11 × A12 × A13 × A14 × A15 × A16)) (h : ap17 P e ((pk17 P e ne).1) ((pk17 P e ne).2.1) ((pk17 P e ne).2.2.1) ((pk17 P e ne).2.2.2.1) ((pk17 P e ne).2.2.2.2.1) ((pk17 P e ne).2.2.2.2.2.1) ((pk17 P e ne).2.2.2.2.2.2.1) ((pk17 P e ne).2.2.2.2.2.2.2.1) ((pk17 P e ne).2.2.2.2.2.2.2.2.1) ((pk17 P e ne).2.2.2.2.2.2.2.2.2.1) ((pk17 P e ne).2.2.2.2.2.2.2.2.2.2.1) ((pk17 P e ne).2.2.2.2.2.2.2.2.2.2.2.1) ((pk17 P e ne).2.2.2.2.2.2.2.2.2.2.2.2.1) ((pk17 P e ne).2.2.2.2.2.2.2.2.2.2.2.2.2.1) ((pk17 P e ne).2.2.2.2.2.2.2.2.2.2.2.2.2.2.1) ((pk17 P e ne).2.2.2.2.2.2.2.2.2.2.2.2.2.2.2.1) ((pk17 P e ne).2.2.2.2.2.2.2.2.2.2.2.2.2.2.2.2)) : P := by
  subst e
  intro a0 a1 a2 a3 a4 a5 a6 a7 a8 a9 a10 a11 a12 a13 a14 a15 a16
  exact Classical.byContradiction fun hx => @Classical.epsilon_spec _ (fun x : A0 × A1 × A2 × A3 × A4 × A5 × A6 × A7 × A8 × A9 × A10 × A11 × A12 × A13 × A14 × A15 × A16 => ¬ R x.1 x.2.1 x.2.2.1 x.2.2.2.1 x.2.2.2.2.1 x.2.2.2.2.2.1 x.2.2.2.2.2.2.1 x.2.2.2.2.2.2.2.1 x.2.2.2.2.2.2.2.2.1 x.2.2.2.2.2.2.2.2.2.1 x.2.2.2.2.2.2.2.2.2.2.1 x.2.2.2.2.2.2.2.2.2.2.2.1 x.2.2.2.2.2.2.2.2.2.2.2.2.1 x.2.2.2.2.2.2.2.2.2.2.2.2.2.1 x.2.2.2.2.2.2.2.2.2.2.2.2.2.2.1 x.2.2.2.2.2.2.2.2.2.2.2.2.2.2.2.1 x.2.2.2.2.2.2.2.2.2.2.2.2.2.2.2.2) ⟨(a0, a1, a2, a3, a4, a5, a6, a7, a8, a9, a10, a11, a12, a13, a14, a15, a16), hx⟩ h
noncomputable def pk19 {A0 A1 A2 A3 A4 A5 A6 A7 A8 A9 A10 A11 A12 A13 A14 A15 A16 A17 A18 : Type} {R : A0 → A1 → A2 → A3 → A4 → A5 → A6 → A7 → A8 → A9 → A10 → A11 → A12 → A13 → A14 → A15 → A16 → A17 → A18 → Prop} (P : Prop) (e : P = ∀ a0 a1 a2 a3 a4 a5 a6 a7 a8 a9 a10 a11 a12 a13 a14 a15 a16 a17 a18, R a0 a1 a2 a3 a4 a5 a6 a7 a8 a9 a10 a11 a12 a13 a14 a15 a16 a17 a18) (ne : Nonempty (A0 × A1 × A2 × A3 × A4 × A5 × A6 × A7 × A8 × A9 × A10 × A11 × A12 × A13 × A14 × A15 × A16 × A17 × A18)) : A0 × A1 × A2 × A3 × A4 × A5 × A6 × A7 × A8 × A9 × A10 × A11 × A12 × A13 × A14 × A15 × A16 × A17 × A18 := @Classical.epsilon _ ne fun x => ¬ R x.1 x.2.1 x.2.2.1 x.2.2.2.1 x.2.2.2.2.1 x.2.2.2.2.2.1 x.2.2.2.2.2.2.1 x.2.2.2.2.2.2.2.1 x.2.2.2.2.2.2.2.2.1 x.2.2.2.2.2.2.2.2.2.1 x.2.2.2.2.2.2.2.2.2.2.1 x.2.2.2.2.2.2.2.2.2.2.2.1 x.2.2.2.2.2.2.2.2.2.2.2.2.1 x.2.2.2.2.2.2.2.2.2.2.2.2.2.1 x.2.2.2.2.2.2.2.2.2.2.2.2.2.2.1 x.2.2.2.2.2.2.2.2.2.2.2.2.2.2.2.1 x.2.2.2.2.2.2.2.2.2.2.2.2.2.2.2.2.1 x.2.2.2.2.2.2.2.2.2.2.2.2.2.2.2.2.2.1 x.2.2.2.2.2.2.2.2.2.2.2.2.2.2.2.2.2.2
noncomputable def ap19 {A0 A1 A2 A3 A4 A5 A6 A7 A8 A9 A10 A11 A12 A13 A14 A15 A16 A17 A18 : Type} {R : A0 → A1 → A2 → A3 → A4 → A5 → A6 → A7 → A8 → A9 → A10 → A11 → A12 → A13 → A14 → A15 → A16 → A17 → A18 → Prop} (P : Prop) (e : P = ∀ a0 a1 a2 a3 a4 a5 a6 a7 a8 a9 a10 a11 a12 a13 a14 a15 a16 a17 a18, R a0 a1 a2 a3 a4 a5 a6 a7 a8 a9 a10 a11 a12 a13 a14 a15 a16 a17 a18) (a0 : A0) (a1 : A1) (a2 : A2) (a3 : A3) (a4 : A4) (a5 : A5) (a6 : A6) (a7 : A7) (a8 : A8) (a9 : A9) (a10 : A10) (a11 : A11) (a12 : A12) (a13 : A13) (a14 : A14) (a15 : A15) (a16 : A16) (a17 : A17) (a18 : A18) : Prop := R a0 a1 a2 a3 a4 a5 a6 a7 a8 a9 a10 a11 a12 a13 a14 a15 a16 a17 a18
theorem bk19 {A0 A1 A2 A3 A4 A5 A6 A7 A8 A9 A10 A11 A12 A13 A14 A15 A16 A17 A18 : Type} {R : A0 → A1 → A2 → A3 → A4 → A5 → A6 → A7 → A8 → A9 → A10 → A11 → A12 → A13 → A14 → A15 → A16 → A17 → A18 → Prop} {P : Prop} (e : P = ∀ a0 a1 a2 a3 a4 a5 a6 a7 a8 a9 a10 a11 a12 a13 a14 a15 a16 a17 a18, R a0 a1 a2 a3 a4 a5 a6 a7 a8 a9 a10 a11 a12 a13 a14 a15 a16 a17 a18) (ne : Nonempty (A0 × A1 × A2 × A3 × A4 × A5 × A6 × A7 × A8 × A9 × A10 × A11 × A12 × A13 × A14 × A15 × A16 × A17 × A18)) (h : ap19 P e ((pk19 P e ne).1) ((pk19 P e ne).2.1) ((pk19 P e ne).2.2.1) ((pk19 P e ne).2.2.2.1) ((pk19 P e ne).2.2.2.2.1) ((pk19 P e ne).2.2.2.2.2.1) ((pk19 P e ne).2.2.2.2.2.2.1) ((pk19 P e ne).2.2.2.2.2.2.2.1) ((pk19 P e ne).2.2.2.2.2.2.2.2.1) ((pk19 P e ne).2.2.2.2.2.2.2.2.2.1) ((pk19 P e ne).2.2.2.2.2.2.2.2.2.2.1) ((pk19 P e ne).2.2.2.2.2.2.2.2.2.2.2.1) ((pk19 P e ne).2.2.2.2.2.2.2.2.2.2.2.2.1) ((pk19 P e ne).2.2.2.2.2.2.2.2.2.2.2.2.2.1) ((pk19 P e ne).2.2.2.2.2.2.2.2.2.2.2.2.2.2.1) ((pk19 P e ne).2.2.2.2.2.2.2.2.2.2.2.2.2.2.2.1) ((pk19 P e ne).2.2.2.2.2.2.2.2.2.2.2.2.2.2.2.2.1) ((pk19 P e ne).2.2.2.2.2.2.2.2.2.2.2.2.2.2.2.2.2.1) ((pk19 P e ne).2.2.2.2.2.2.2.2.2.2.2.2.2.2.2.2.2.2)) : P := by
  subst e
  intro a0 a1 a2 a3 a4 a5 a6 a7 a8 a9 a10 a11 a12 a13 a14 a15 a16 a17 a18
  exact Classical.byContradiction fun hx => @Classical.epsilon_spec _ (fun x : A0 × A1 × A2 × A3 × A4 × A5 × A6 × A7 × A8 × A9 × A10 × A11 × A12 × A13 × A14 × A15 × A16 × A17 × A18 => ¬ R x.1 x.2.1 x.2.2.1 x.2.2.2.1 x.2.2.2.2.1 x.2.2.2.2.2.1 x.2.2.2.2.2.2.1 x.2.2.2.2.2.2.2.1 x.2.2.2.2.2.2.2.2.1 x.2.2.2.2.2.2.2.2.2.1 x.2.2.2.2.2.2.2.2.2.2.1 x.2.2.2.2.2.2.2.2.2.2.2.1 x.2.2.2.2.2.2.2.2.2.2.2.2.1 x.2.2.2.2.2.2.2.2.2.2.2.2.2.1 x.2.2.2.2.2.2.2.2.2.2.2.2.2.2.1 x.2.2.2.2.2.2.2.2.2.2.2.2.2.2.2.1 x.2.2.2.2.2.2.2.2.2.2.2.2.2.2.2.2.1 x.2.2.2.2.2.2.2.2.2.2.2.2.2.2.2.2.2.1 x.2.2.2.2.2.2.2.2.2.2.2.2.2.2.2.2.2.2) ⟨(a0, a1, a2, a3, a4, a5, a6, a7, a8, a9, a10, a11, a12, a13, a14, a15, a16, a17, a18), hx⟩ h
noncomputable def pk20 {A0 A1 A2 A3 A4 A5 A6 A7 A8 A9 A10 A11 A12 A13 A14 A15 A16 A17 A18 A19 : Type} {R : A0 → A1 → A2 → A3 → A4 → A5 → A6 → A7 → A8 → A9 → A10 → A11 → A12 → A13 → A14 → A15 → A16 → A17 → A18 → A19 → Prop} (P : Prop) (e : P = ∀ a0 a1 a2 a3 a4 a5 a6 a7 a8 a9 a10 a11 a12 a13 a14 a15 a16 a17 a18 a19, R a0 a1 a2 a3 a4 a5 a6 a7 a8 a9 a10 a11 a12 a13 a14 a15 a16 a17 a18 a19) (ne : Nonempty (A0 × A1 × A2 × A3 × A4 × A5 × A6 × A7 × A8 × A9 × A10 × A11 × A12 × A13 × A14 × A15 × A16 × A17 × A18 × A19)) : A0 × A1 × A2 × A3 × A4 × A5 × A6 × A7 × A8 × A9 × A10 × A11 × A12 × A13 × A14 × A15 × A16 × A17 × A18 × A19 := @Classical.epsilon _ ne fun x => ¬ R x.1 x.2.1 x.2.2.1 x.2.2.2.1 x.2.2.2.2.1 x.2.2.2.2.2.1 x.2.2.2.2.2.2.1 x.2.2.2.2.2.2.2.1 x.2.2.2.2.2.2.2.2.1 x.2.2.2.2.2.2.2.2.2.1 x.2.2.2.2.2.2.2.2.2.2.1 x.2.2.2.2.2.2.2.2.2.2.2.1 x.2.2.2.2.2.2.2.2.2.2.2.2.1 x.2.2.2.2.2.2.2.2.2.2.2.2.2.1 x.2.2.2.2.2.2.2.2.2.2.2.2.2.2.1 x.2.2.2.2.2.2.2.2.2.2.2.2.2.2.2.1 x.2.2.2.2.2.2.2.2.2.2.2.2.2.2.2.2.1 x.2.2.2.2.2.2.2.2.2.2.2.2.2.2.2.2.2.1 x.2.2.2.2.2.2.2.2.2.2.2.2.2.2.2.2.2.2.1 x.2.2.2.2.2.2.2.2.2.2.2.2.2.2.2.2.2.2.2
noncomputable def ap20 {A0 A1 A2 A3 A4 A5 A6 A7 A8 A9 A10 A11 A12 A13 A14 A15 A16 A17 A18 A19 : Type} {R : A0 → A1 → A2 → A3 → A4 → A5 → A6 → A7 → A8 → A9 → A10 → A11 → A12 → A13 → A14 → A15 → A16 → A17 → A18 → A19 → Prop} (P : Prop) (e : P = ∀ a0 a1 a2 a3 a4 a5 a6 a7 a8 a9 a10 a11 a12 a13 a14 a15 a16 a17 a18 a19, R a0 a1 a2 a3 a4 a5 a6 a7 a8 a9 a10 a11 a12 a13 a14 a15 a16 a17 a18 a19) (a0 : A0) (a1 : A1) (a2 : A2) (a3 : A3) (a4 : A4) (a5 : A5) (a6 : A6) (a7 : A7) (a8 : A8) (a9 : A9) (a10 : A10) (a11 : A11) (a12 : A12) (a13 : A13) (a14 : A14) (a15 : A15) (a16 : A16) (a17 : A17) (a18 : A18) (a19 : A19) : Prop := R a0 a1 a2 a3 a4 a5 a6 a7 a8 a9 a10 a11 a12 a13 a14 a15 a16 a17 a18 a19
theorem bk20 {A0 A1 A2 A3 A4 A5 A6 A7 A8 A9 A10 A11 A12 A13 A14 A15 A16 A17 A18 A19 : Type} {R : A0 → A1 → A2 → A3 → A4 → A5 → A6 → A7 → A8 → A9 → A10 → A11 → A12 → A13 → A14 → A15 → A16 → A17 → A18 → A19 → Prop} {P : Prop} (e : P = ∀ a0 a1 a2 a3 a4 a5 a6 a7 a8 a9 a10 a11 a12 a13 a14 a15 a16 a17 a18 a19, R a0 a1 a2 a3 a4 a5 a6 a7 a8 a9 a10 a11 a12 a13 a14 a15 a16 a17 a18 a19) (ne : Nonempty (A0 × A1 × A2 × A3 × A4 × A5 × A6 × A7 × A8 × A9 × A10 × A11 × A12 × A13 × A14 × A15 × A16 × A17 × A18 × A19)) (h : ap20 P e ((pk20 P e ne).1) ((pk20 P e ne).2.1) ((pk20 P e ne).2.2.1) ((pk20 P e ne).2.2.2.1) ((pk20 P e ne).2.2.2.2.1) ((pk20 P e ne).2.2.2.2.2.1) ((pk20 P e ne).2.2.2.2.2.2.1) ((pk20 P e ne).2.2.2.2.2.2.2.1) ((pk20 P e ne).2.2.2.2.2.2.2.2.1) ((pk20 P e ne).2.2.2.2.2.2.2.2.2.1) ((pk20 P e ne).2.2.2.2.2.2.2.2.2.2.1) ((pk20 P e ne).2.2.2.2.2.2.2.2.2.2.2.1) ((pk20 P e ne).2.2.2.2.2.2.2.2.2.2.2.2.1) ((pk20 P e ne).2.2.2.2.2.2.2.2.2.2.2.2.2.1) ((pk20 P e ne).2.2.2.2.2.2.2.2.2.2.2.2.2.2.1) ((pk20 P e ne).2.2.2.2.2.2.2.2.2.2.2.2.2.2.2.1) ((pk20 P e ne).2.2.2.2.2.2.2.2.2.2.2.2.2.2.2.2.1) ((pk20 P e ne).2.2.2.2.2.2.2.2.2.2.2.2.2.2.2.2.2.1) ((pk20 P e ne).2.2.2.2.2.2.2.2.2.2.2.2.2.2.2.2.2.2.1) ((pk20 P e ne).2.2.2.2.2.2.2.2.2.2.2.2.2.2.2.2.2.2.2)) : P := by
  subst e
  intro a0 a1 a2 a3 a4 a5 a6 a7 a8 a9 a10 a11 a12 a13 a14 a15 a16 a17 a18 a19
  exact Classical.byContradiction fun hx => @Classical.epsilon_spec _ (fun x : A0 × A1 × A2 × A3 × A4 × A5 × A6 × A7 × A8 × A9 × A10 × A11 × A12 × A13 × A14 × A15 × A16 × A17 × A18 × A19 => ¬ R x.1 x.2.1 x.2.2.1 x.2.2.2.1 x.2.2.2.2.1 x.2.2.2.2.2.1 x.2.2.2.2.2.2.1 x.2.2.2.2.2.2.2.1 x.2.2.2.2.2.2.2.2.1 x.2.2.2.2.2.2.2.2.2.1 x.2.2.2.2.2.2.2.2.2.2.1 x.2.2.2.2.2.2.2.2.2.2.2.1 x.2.2.2.2.2.2.2.2.2.2.2.2.1 x.2.2.2.2.2.2.2.2.2.2.2.2.2.1 x.2.2.2.2.2.2.2.2.2.2.2.2.2.2.1 x.2.2.2.2.2.2.2.2.2.2.2.2.2.2.2.1 x.2.2.2.2.2.2.2.2.2.2.2.2.2.2.2.2.1 x.2.2.2.2.2.2.2.2.2.2.2.2.2.2.2.2.2.1 x.2.2.2.2.2.2.2.2.2.2.2.2.2.2.2.2.2.2.1 x.2.2.2.2.2.2.2.2.2.2.2.2.2.2.2.2.2.2.2) ⟨(a0, a1, a2, a3, a4, a5, a6, a7, a8, a9, a10, a11, a12, a13, a14, a15, a16, a17, a18, a19), hx⟩ h
noncomputable def pk21 {A0 A1 A2 A3 A4 A5 A6 A7 A8 A9 A10 A11 A12 A13 A14 A15 A16 A17 A18 A19 A20 : Type} {R : A0 → A1 → A2 → A3 → A4 → A5 → A6 → A7 → A8 → A9 → A10 → A11 → A12 → A13 → A14 → A15 → A16 → A17 → A18 → A19 → A20 → Prop} (P : Prop) (e : P = ∀ a0 a1 a2 a3 a4 a5 a6 a7 a8 a9 a10 a11 a12 a13 a14 a15 a16 a17 a18 a19 a20, R a0 a1 a2 a3 a4 a5 a6 a7 a8 a9 a10 a11 a12 a13 a14 a15 a16 a17 a18 a19 a20) (ne : Nonempty (A0 × A1 × A2 × A3 × A4 × A5 × A6 × A7 × A8 × A9 × A10 × A11 × A12 × A13 × A14 × A15 × A16 × A17 × A18 × A19 × A20)) : A0 × A1 × A2 × A3 × A4 × A5 × A6 × A7 × A8 × A9 × A10 × A11 × A12 × A13 × A14 × A15 × A16 × A17 × A18 × A19 × A20 := @Classical.epsilon _ ne fun x => ¬ R x.1 x.2.1 x.2.2.1 x.2.2.2.1 x.2.2.2.2.1 x.2.2.2.2.2.1 x.2.2.2.2.2.2.1 x.2.2.2.2.2.2.2.1 x.2.2.2.2.2.2.2.2.1 x.2.2.2.2.2.2.2.2.2.1 x.2.2.2.2.2.2.2.2.2.2.1 x.2.2.2.2.2.2.2.2.2.2.2.1 x.2.2.2.2.2.2.2.2.2.2.2.2.1 x.2.2.2.2.2.2.2.2.2.2.2.2.2.1 x.2.2.2.2.2.2.2.2.2.2.2.2.2.2.1 x.2.2.2.2.2.2.2.2.2.2.2.2.2.2.2.1 x.2.2.2.2.2.2.2.2.2.2.2.2.2.2.2.2.1 x.2.2.2.2.2.2.2.2.2.2.2.2.2.2.2.2.2.1 x.2.2.2.2.2.2.2.2.2.2.2.2.2.2.2.2.2.2.1 x.2.2.2.2.2.2.2.2.2.2.2.2.2.2.2.2.2.2.2.1 x.2.2.2.2.2.2.2.2.2.2.2.2.2.2.2.2.2.2.2.2
noncomputable def ap21 {A0 A1 A2 A3 A4 A5 A6 A7 A8 A9 A10 A11 A12 A13 A14 A15 A16 A17 A18 A19 A20 : Type} {R : A0 → A1 → A2 → A3 → A4 → A5 → A6 → A7 → A8 → A9 → A10 → A11 → A12 → A13 → A14 → A15 → A16 → A17 → A18 → A19 → A20 → Prop} (P : Prop) (e : P = ∀ a0 a1 a2 a3 a4 a5 a6 a7 a8 a9 a10 a11 a12 a13 a14 a15 a16 a17 a18 a19 a20, R a0 a1 a2 a3 a4 a5 a6 a7 a8 a9 a10 a11 a12 a13 a14 a15 a16 a17 a18 a19 a20) (a0 : A0) (a1 : A1) (a2 : A2) (a3 : A3) (a4 : A4) (a5 : A5) (a6 : A6) (a7 : A7) (a8 : A8) (a9 : A9) (a10 : A10) (a11 : A11) (a12 : A12) (a13 : A13) (a14 : A14) (a15 : A15) (a16 : A16) (a17 : A17) (a18 : A18) (a19 : A19) (a20 : A20) : Prop := R a0 a1 a2 a3 a4 a5 a6 a7 a8 a9 a10 a11 a12 a13 a14 a15 a16 a17 a18 a19 a20
theorem bk21 {A0 A1 A2 A3 A4 A5 A6 A7 A8 A9 A10 A11 A12 A13 A14 A15 A16 A17 A18 A19 A20 : Type} {R : A0 → A1 → A2 → A3 → A4 → A5 → A6 → A7 → A8 → A9 → A10 → A11 → A12 → A13 → A14 → A15 → A16 → A17 → A18 → A19 → A20 → Prop} {P : Prop} (e : P = ∀ a0 a1 a2 a3 a4 a5 a6 a7 a8 a9 a10 a11 a12 a13 a14 a15 a16 a17 a18 a19 a20, R a0 a1 a2 a3 a4 a5 a6 a7 a8 a9 a10 a11 a12 a13 a14 a15 a16 a17 a18 a19 a20) (ne : Nonempty (A0 × A1 × A2 × A3 × A4 × A5 × A6 × A7 × A8 × A9 × A10 × A11 × A12 × A13 × A14 × A15 × A16 × A17 × A18 × A19 × A20)) (h : ap21 P e ((pk21 P e ne).1) ((pk21 P e ne).2.1) ((pk21 P e ne).2.2.1) ((pk21 P e ne).2.2.2.1) ((pk21 P e ne).2.2.2.2.1) ((pk21 P e ne).2.2.2.2.2.1) ((pk21 P e ne).2.2.2.2.2.2.1) ((pk21 P e ne).2.2.2.2.2.2.2.1) ((pk21 P e ne).2.2.2.2.2.2.2.2.1) ((pk21 P e ne).2.2.2.2.2.2.2.2.2.1) ((pk21 P e ne).2.2.2.2.2.2.2.2.2.2.1) ((pk21 P e ne).2.2.2.2.2.2.2.2.2.2.2.1) ((pk21 P e ne).2.2.2.2.2.2.2.2.2.2.2.2.1) ((pk21 P e ne).2.2.2.2.2.2.2.2.2.2.2.2.2.1) ((pk21 P e ne).2.2.2.2.2.2.2.2.2.2.2.2.2.2.1) ((pk21 P e ne).2.2.2.2.2.2.2.2.2.2.2.2.2.2.2.1) ((pk21 P e ne).2.2.2.2.2.2.2.2.2.2.2.2.2.2.2.2.1) ((pk21 P e ne).2.2.2.2.2.2.2.2.2.2.2.2.2.2.2.2.2.1) ((pk21 P e ne).2.2.2.2.2.2.2.2.2.2.2.2.2.2.2.2.2.2.1) ((pk21 P e ne).2.2.2.2.2.2.2.2.2.2.2.2.2.2.2.2.2.2.2.1) ((pk21 P e ne).2.2.2.2.2.2.2.2.2.2.2.2.2.2.2.2.2.2.2.2)) : P := by
  subst e
  intro a0 a1 a2 a3 a4 a5 a6 a7 a8 a9 a10 a11 a12 a13 a14 a15 a16 a17 a18 a19 a20
  exact Classical.byContradiction fun hx => @Classical.epsilon_spec _ (fun x : A0 × A1 × A2 × A3 × A4 × A5 × A6 × A7 × A8 × A9 × A10 × A11 × A12 × A13 × A14 × A15 × A16 × A17 × A18 × A19 × A20 => ¬ R x.1 x.2.1 x.2.2.1 x.2.2.2.1 x.2.2.2.2.1 x.2.2.2.2.2.1 x.2.2.2.2.2.2.1 x.2.2.2.2.2.2.2.1 x.2.2.2.2.2.2.2.2.1 x.2.2.2.2.2.2.2.2.2.1 x.2.2.2.2.2.2.2.2.2.2.1 x.2.2.2.2.2.2.2.2.2.2.2.1 x.2.2.2.2.2.2.2.2.2.2.2.2.1 x.2.2.2.2.2.2.2.2.2.2.2.2.2.1 x.2.2.2.2.2.2.2.2.2.2.2.2.2.2.1 x.2.2.2.2.2.2.2.2.2.2.2.2.2.2.2.1 x.2.2.2.2.2.2.2.2.2.2.2.2.2.2.2.2.1 x.2.2.2.2.2.2.2.2.2.2.2.2.2.2.2.2.2.1 x.2.2.2.2.2.2.2.2.2.2.2.2.2.2.2.2.2.2.1 x.2.2.2.2.2.2.2.2.2.2.2.2.2.2.2.2.2.2.2.1 x.2.2.2.2.2.2.2.2.2.2.2.2.2.2.2.2.2.2.2.2) ⟨(a0, a1, a2, a3, a4, a5, a6, a7, a8, a9, a10, a11, a12, a13, a14, a15, a16, a17, a18, a19, a20), hx⟩ h
noncomputable def pk22 {A0 A1 A2 A3 A4 A5 A6 A7 A8 A9 A10 A11 A12 A13 A14 A15 A16 A17 A18 A19 A20 A21 : Type} {R : A0 → A1 → A2 → A3 → A4 → A5 → A6 → A7 → A8 → A9 → A10 → A11 → A12 → A13 → A14 → A15 → A16 → A17 → A18 → A19 → A20 → A21 → Prop} (P : Prop) (e : P = ∀ a0 a1 a2 a3 a4 a5 a6 a7 a8 a9 a10 a11 a12 a13 a14 a15 a16 a17 a18 a19 a20 a21, R a0 a1 a2 a3 a4 a5 a6 a7 a8 a9 a10 a11 a12 a13 a14 a15 a16 a17 a18 a19 a20 a21) (ne : Nonempty (A0 × A1 × A2 × A3 × A4 × A5 × A6 × A7 × A8 × A9 × A10 × A11 × A12 × A13 × A14 × A15 × A16 × A17 × A18 × A19 × A20 × A21)) : A0 × A1 × A2 × A3 × A4 × A5 × A6 × A7 × A8 × A9 × A10 × A11 × A12 × A13 × A14 × A15 × A16 × A17 × A18 × A19 × A20 × A21 := @Classical.epsilon _ ne fun x => ¬ R x.1 x.2.1 x.2.2.1 x.2.2.2.1 x.2.2.2.2.1 x.2.2.2.2.2.1 x.2.2.2.2.2.2.1 x.2.2.2.2.2.2.2.1 x.2.2.2.2.2.2.2.2.1 x.2.2.2.2.2.2.2.2.2.1 x.2.2.2.2.2.2.2.2.2.2.1 x.2.2.2.2.2.2.2.2.2.2.2.1 x.2.2.2.2.2.2.2.2.2.2.2.2.1 x.2.2.2.2.2.2.2.2.2.2.2.2.2.1 x.2.2.2.2.2.2.2.2.2.2.2.2.2.2.1 x.2.2.2.2.2.2.2.2.2.2.2.2.2.2.2.1 x.2.2.2.2.2.2.2.2.2.2.2.2.2.2.2.2.1 x.2.2.2.2.2.2.2.2.2.2.2.2.2.2.2.2.2.1 x.2.2.2.2.2.2.2.2.2.2.2.2.2.2.2.2.2.2.1 x.2.2.2.2.2.2.2.2.2.2.2.2.2.2.2.2.2.2.2.1 x.2.2.2.2.2.2.2.2.2.2.2.2.2.2.2.2.2.2.2.2.1 x.2.2.2.2.2.2.2.2.2.2.2.2.2.2.2.2.2.2.2.2.2
noncomputable def ap22 {A0 A1 A2 A3 A4 A5 A6 A7 A8 A9 A10 A11 A12 A13 A14 A15 A16 A17 A18 A19 A20 A21 : Type} {R : A0 → A1 → A2 → A3 → A4 → A5 → A6 → A7 → A8 → A9 → A10 → A11 → A12 → A13 → A14 → A15 → A16 → A17 → A18 → A19 → A20 → A21 → Prop} (P : Prop) (e : P = ∀ a0 a1 a2 a3 a4 a5 a6 a7 a8 a9 a10 a11 a12 a13 a14 a15 a16 a17 a18 a19 a20 a21, R a0 a1 a2 a3 a4 a5 a6 a7 a8 a9 a10 a11 a12 a13 a14 a15 a16 a17 a18 a19 a20 a21) (a0 : A0) (a1 : A1) (a2 : A2) (a3 : A3) (a4 : A4) (a5 : A5) (a6 : A6) (a7 : A7) (a8 : A8) (a9 : A9) (a10 : A10) (a11 : A11) (a12 : A12) (a13 : A13) (a14 : A14) (a15 : A15) (a16 : A16) (a17 : A17) (a18 : A18) (a19 : A19) (a20 : A20) (a21 : A21) : Prop := R a0 a1 a2 a3 a4 a5 a6 a7 a8 a9 a10 a11 a12 a13 a14 a15 a16 a17 a18 a19 a20 a21
theorem bk22 {A0 A1 A2 A3 A4 A5 A6 A7 A8 A9 A10 A11 A12 A13 A14 A15 A16 A17 A18 A19 A20 A21 : Type} {R : A0 → A1 → A2 → A3 → A4 → A5 → A6 → A7 → A8 → A9 → A10 → A11 → A12 → A13 → A14 → A15 → A16 → A17 → A18 → A19 → A20 → A21 → Prop} {P : Prop} (e : P = ∀ a0 a1 a2 a3 a4 a5 a6 a7 a8 a9 a10 a11 a12 a13 a14 a15 a16 a17 a18 a19 a20 a21, R a0 a1 a2 a3 a4 a5 a6 a7 a8 a9 a10 a11 a12 a13 a14 a15 a16 a17 a18 a19 a20 a21) (ne : Nonempty (A0 × A1 × A2 × A3 × A4 × A5 × A6 × A7 × A8 × A9 × A10 × A11 × A12 × A13 × A14 × A15 × A16 × A17 × A18 × A19 × A20 × A21)) (h : ap22 P e ((pk22 P e ne).1) ((pk22 P e ne).2.1) ((pk22 P e ne).2.2.1) ((pk22 P e ne).2.2.2.1) ((pk22 P e ne).2.2.2.2.1) ((pk22 P e ne).2.2.2.2.2.1) ((pk22 P e ne).2.2.2.2.2.2.1) ((pk22 P e ne).2.2.2.2.2.2.2.1) ((pk22 P e ne).2.2.2.2.2.2.2.2.1) ((pk22 P e ne).2.2.2.2.2.2.2.2.2.1) ((pk22 P e ne).2.2.2.2.2.2.2.2.2.2.1) ((pk22 P e ne).2.2.2.2.2.2.2.2.2.2.2.1) ((pk22 P e ne).2.2.2.2.2.2.2.2.2.2.2.2.1) ((pk22 P e ne).2.2.2.2.2.2.2.2.2.2.2.2.2.1) ((pk22 P e ne).2.2.2.2.2.2.2.2.2.2.2.2.2.2.1) ((pk22 P e ne).2.2.2.2.2.2.2.2.2.2.2.2.2.2.2.1) ((pk22 P e ne).2.2.2.2.2.2.2.2.2.2.2.2.2.2.2.2.1) ((pk22 P e ne).2.2.2.2.2.2.2.2.2.2.2.2.2.2.2.2.2.1) ((pk22 P e ne).2.2.2.2.2.2.2.2.2.2.2.2.2.2.2.2.2.2.1) ((pk22 P e ne).2.2.2.2.2.2.2.2.2.2.2.2.2.2.2.2.2.2.2.1) ((pk22 P e ne).2.2.2.2.2.2.2.2.2.2.2.2.2.2.2.2.2.2.2.2.1) ((pk22 P e ne).2.2.2.2.2.2.2.2.2.2.2.2.2.2.2.2.2.2.2.2.2)) : P := by
  subst e
  intro a0 a1 a2 a3 a4 a5 a6 a7 a8 a9 a10 a11 a12 a13 a14 a15 a16 a17 a18 a19 a20 a21
  exact Classical.byContradiction fun hx => @Classical.epsilon_spec _ (fun x : A0 × A1 × A2 × A3 × A4 × A5 × A6 × A7 × A8 × A9 × A10 × A11 × A12 × A13 × A14 × A15 × A16 × A17 × A18 × A19 × A20 × A21 => ¬ R x.1 x.2.1 x.2.2.1 x.2.2.2.1 x.2.2.2.2.1 x.2.2.2.2.2.1 x.2.2.2.2.2.2.1 x.2.2.2.2.2.2.2.1 x.2.2.2.2.2.2.2.2.1 x.2.2.2.2.2.2.2.2.2.1 x.2.2.2.2.2.2.2.2.2.2.1 x.2.2.2.2.2.2.2.2.2.2.2.1 x.2.2.2.2.2.2.2.2.2.2.2.2.1 x.2.2.2.2.2.2.2.2.2.2.2.2.2.1 x.2.2.2.2.2.2.2.2.2.2.2.2.2.2.1 x.2.2.2.2.2.2.2.2.2.2.2.2.2.2.2.1 x.2.2.2.2.2.2.2.2.2.2.2.2.2.2.2.2.1 x.2.2.2.2.2.2.2.2.2.2.2.2.2.2.2.2.2.1 x.2.2.2.2.2.2.2.2.2.2.2.2.2.2.2.2.2.2.1 x.2.2.2.2.2.2.2.2.2.2.2.2.2.2.2.2.2.2.2.1 x.2.2.2.2.2.2.2.2.2.2.2.2.2.2.2.2.2.2.2.2.1 x.2.2.2.2.2.2.2.2.2.2.2.2.2.2.2.2.2.2.2.2.2) ⟨(a0, a1, a2, a3, a4, a5, a6, a7, a8, a9, a10, a11, a12, a13, a14, a15, a16, a17, a18, a19, a20, a21), hx⟩ h
noncomputable def pk23 {A0 A1 A2 A3 A4 A5 A6 A7 A8 A9 A10 A11 A12 A13 A14 A15 A16 A17 A18 A19 A20 A21 A22 : Type} {R : A0 → A1 → A2 → A3 → A4 → A5 → A6 → A7 → A8 → A9 → A10 → A11 → A12 → A13 → A14 → A15 → A16 → A17 → A18 → A19 → A20 → A21 → A22 → Prop} (P : Prop) (e : P = ∀ a0 a1 a2 a3 a4 a5 a6 a7 a8 a9 a10 a11 a12 a13 a14 a15 a16 a17 a18 a19 a20 a21 a22, R a0 a1 a2 a3 a4 a5 a6 a7 a8 a9 a10 a11 a12 a13 a14 a15 a16 a17 a18 a19 a20 a21 a22) (ne : Nonempty (A0 × A1 × A2 × A3 × A4 × A5 × A6 × A7 × A8 × A9 × A10 × A11 × A12 × A13 × A14 × A15 × A16 × A17 × A18 × A19 × A20 × A21 × A22)) : A0 × A1 × A2 × A3 × A4 × A5 × A6 × A7 × A8 × A9 × A10 × A11 × A12 × A13 × A14 × A15 × A16 × A17 × A18 × A19 × A20 × A21 × A22 := @Classical.epsilon _ ne fun x => ¬ R x.1 x.2.1 x.2.2.1 x.2.2.2.1 x.2.2.2.2.1 x.2.2.2.2.2.1 x.2.2.2.2.2.2.1 x.2.2.2.2.2.2.2.1 x.2.2.2.2.2.2.2.2.1 x.2.2.2.2.2.2.2.2.2.1 x.2.2.2.2.2.2.2.2.2.2.1 x.2.2.2.2.2.2.2.2.2.2.2.1 x.2.2.2.2.2.2.2.2.2.2.2.2.1 x.2.2.2.2.2.2.2.2.2.2.2.2.2.1 x.2.2.2.2.2.2.2.2.2.2.2.2.2.2.1 x.2.2.2.2.2.2.2.2.2.2.2.2.2.2.2.1 x.2.2.2.2.2.2.2.2.2.2.2.2.2.2.2.2.1 x.2.2.2.2.2.2.2.2.2.2.2.2.2.2.2.2.2.1 x.2.2.2.2.2.2.2.2.2.2.2.2.2.2.2.2.2.2.1 x.2.2.2.2.2.2.2.2.2.2.2.2.2.2.2.2.2.2.2.1 x.2.2.2.2.2.2.2.2.2.2.2.2.2.2.2.2.2.2.2.2.1 x.2.2.2.2.2.2.2.2.2.2.2.2.2.2.2.2.2.2.2.2.2.1 x.2.2.2.2.2.2.2.2.2.2.2.2.2.2.2.2.2.2.2.2.2.2
noncomputable def ap23 {A0 A1 A2 A3 A4 A5 A6 A7 A8 A9 A10 A11 A12 A13 A14 A15 A16 A17 A18 A19 A20 A21 A22 : Type} {R : A0 → A1 → A2 → A3 → A4 → A5 → A6 → A7 → A8 → A9 → A10 → A11 → A12 → A13 → A14 → A15 → A16 → A17 → A18 → A19 → A20 → A21 → A22 → Prop} (P : Prop) (e : P = ∀ a0 a1 a2 a3 a4 a5 a6 a7 a8 a9 a10 a11 a12 a13 a14 a15 a16 a17 a18 a19 a20 a21 a22, R a0 a1 a2 a3 a4 a5 a6 a7 a8 a9 a10 a11 a12 a13 a14 a15 a16 a17 a18 a19 a20 a21 a22) (a0 : A0) (a1 : A1) (a2 : A2) (a3 : A3) (a4 : A4) (a5 : A5) (a6 : A6) (a7 : A7) (a8 : A8) (a9 : A9) (a10 : A10) (a11 : A11) (a12 : A12) (a13 : A13) (a14 : A14) (a15 : A15) (a16 : A16) (a17 : A17) (a18 : A18) (a19 : A19) (a20 : A20) (a21 : A21) (a22 : A22) : Prop := R a0 a1 a2 a3 a4 a5 a6 a7 a8 a9 a10 a11 a12 a13 a14 a15 a16 a17 a18 a19 a20 a21 a22
theorem bk23 {A0 A1 A2 A3 A4 A5 A6 A7 A8 A9 A10 A11 A12 A13 A14 A15 A16 A17 A18 A19 A20 A21 A22 : Type} {R : A0 → A1 → A2 → A3 → A4 → A5 → A6 → A7 → A8 → A9 → A10 → A11 → A12 → A13 → A14 → A15 → A16 → A17 → A18 → A19 → A20 → A21 → A22 → Prop} {P : Prop} (e : P = ∀ a0 a1 a2 a3 a4 a5 a6 a7 a8 a9 a10 a11 a12 a13 a14 a15 a16 a17 a18 a19 a20 a21 a22, R a0 a1 a2 a3 a4 a5 a6 a7 a8 a9 a10 a11 a12 a13 a14 a15 a16 a17 a18 a19 a20 a21 a22) (ne : Nonempty (A0 × A1 × A2 × A3 × A4 × A5 × A6 × A7 × A8 × A9 × A10 × A11 × A12 × A13 × A14 × A15 × A16 × A17 × A18 × A19 × A20 × A21 × A22)) (h : ap23 P e ((pk23 P e ne).1) ((pk23 P e ne).2.1) ((pk23 P e ne).2.2.1) ((pk23 P e ne).2.2.2.1) ((pk23 P e ne).2.2.2.2.1) ((pk23 P e ne).2.2.2.2.2.1) ((pk23 P e ne).2.2.2.2.2.2.1) ((pk23 P e ne).2.2.2.2.2.2.2.1) ((pk23 P e ne).2.2.2.2.2.2.2.2.1) ((pk23 P e ne).2.2.2.2.2.2.2.2.2.1) ((pk23 P e ne).2.2.2.2.2.2.2.2.2.2.1) ((pk23 P e ne).2.2.2.2.2.2.2.2.2.2.2.1) ((pk23 P e ne).2.2.2.2.2.2.2.2.2.2.2.2.1) ((pk23 P e ne).2.2.2.2.2.2.2.2.2.2.2.2.2.1) ((pk23 P e ne).2.2.2.2.2.2.2.2.2.2.2.2.2.2.1) ((pk23 P e ne).2.2.2.2.2.2.2.2.2.2.2.2.2.2.2.1) ((pk23 P e ne).2.2.2.2.2.2.2.2.2.2.2.2.2.2.2.2.1) ((pk23 P e ne).2.2.2.2.2.2.2.2.2.2.2.2.2.2.2.2.2.1) ((pk23 P e ne).2.2.2.2.2.2.2.2.2.2.2.2.2.2.2.2.2.2.1) ((pk23 P e ne).2.2.2.2.2.2.2.2.2.2.2.2.2.2.2.2.2.2.2.1) ((pk23 P e ne).2.2.2.2.2.2.2.2.2.2.2.2.2.2.2.2.2.2.2.2.1) ((pk23 P e ne).2.2.2.2.2.2.2.2.2.2.2.2.2.2.2.2.2.2.2.2.2.1) ((pk23 P e ne).2.2.2.2.2.2.2.2.2.2.2.2.2.2.2.2.2.2.2.2.2.2)) : P := by
  subst e
  intro a0 a1 a2 a3 a4 a5 a6 a7 a8 a9 a10 a11 a12 a13 a14 a15 a16 a17 a18 a19 a20 a21 a22
  exact Classical.byContradiction fun hx => @Classical.epsilon_spec _ (fun x : A0 × A1 × A2 × A3 × A4 × A5 × A6 × A7 × A8 × A9 × A10 × A11 × A12 × A13 × A14 × A15 × A16 × A17 × A18 × A19 × A20 × A21 × A22 => ¬ R x.1 x.2.1 x.2.2.1 x.2.2.2.1 x.2.2.2.2.1 x.2.2.2.2.2.1 x.2.2.2.2.2.2.1 x.2.2.2.2.2.2.2.1 x.2.2.2.2.2.2.2.2.1 x.2.2.2.2.2.2.2.2.2.1 x.2.2.2.2.2.2.2.2.2.2.1 x.2.2.2.2.2.2.2.2.2.2.2.1 x.2.2.2.2.2.2.2.2.2.2.2.2.1 x.2.2.2.2.2.2.2.2.2.2.2.2.2.1 x.2.2.2.2.2.2.2.2.2.2.2.2.2.2.1 x.2.2.2.2.2.2.2.2.2.2.2.2.2.2.2.1 x.2.2.2.2.2.2.2.2.2.2.2.2.2.2.2.2.1 x.2.2.2.2.2.2.2.2.2.2.2.2.2.2.2.2.2.1 x.2.2.2.2.2.2.2.2.2.2.2.2.2.2.2.2.2.2.1 x.2.2.2.2.2.2.2.2.2.2.2.2.2.2.2.2.2.2.2.1 x.2.2.2.2.2.2.2.2.2.2.2.2.2.2.2.2.2.2.2.2.1 x.2.2.2.2.2.2.2.2.2.2.2.2.2.2.2.2.2.2.2.2.2.1 x.2.2.2.2.2.2.2.2.2.2.2.2.2.2.2.2.2.2.2.2.2.2) ⟨(a0, a1, a2, a3, a4, a5, a6, a7, a8, a9, a10, a11, a12, a13, a14, a15, a16, a17, a18, a19, a20, a21, a22), hx⟩ h
noncomputable def pk26 {A0 A1 A2 A3 A4 A5 A6 A7 A8 A9 A10 A11 A12 A13 A14 A15 A16 A17 A18 A19 A20 A21 A22 A23 A24 A25 : Type} {R : A0 → A1 → A2 → A3 → A4 → A5 → A6 → A7 → A8 → A9 → A10 → A11 → A12 → A13 → A14 → A15 → A16 → A17 → A18 → A19 → A20 → A21 → A22 → A23 → A24 → A25 → Prop} (P : Prop) (e : P = ∀ a0 a1 a2 a3 a4 a5 a6 a7 a8 a9 a10 a11 a12 a13 a14 a15 a16 a17 a18 a19 a20 a21 a22 a23 a24 a25, R a0 a1 a2 a3 a4 a5 a6 a7 a8 a9 a10 a11 a12 a13 a14 a15 a16 a17 a18 a19 a20 a21 a22 a23 a24 a25) (ne : Nonempty (A0 × A1 × A2 × A3 × A4 × A5 × A6 × A7 × A8 × A9 × A10 × A11 × A12 × A13 × A14 × A15 × A16 × A17 × A18 × A19 × A20 × A21 × A22 × A23 × A24 × A25)) : A0 × A1 × A2 × A3 × A4 × A5 × A6 × A7 × A8 × A9 × A10 × A11 × A12 × A13 × A14 × A15 × A16 × A17 × A18 × A19 × A20 × A21 × A22 × A23 × A24 × A25 := @Classical.epsilon _ ne fun x => ¬ R x.1 x.2.1 x.2.2.1 x.2.2.2.1 x.2.2.2.2.1 x.2.2.2.2.2.1 x.2.2.2.2.2.2.1 x.2.2.2.2.2.2.2.1 x.2.2.2.2.2.2.2.2.1 x.2.2.2.2.2.2.2.2.2.1 x.2.2.2.2.2.2.2.2.2.2.1 x.2.2.2.2.2.2.2.2.2.2.2.1 x.2.2.2.2.2.2.2.2.2.2.2.2.1 x.2.2.2.2.2.2.2.2.2.2.2.2.2.1 x.2.2.2.2.2.2.2.2.2.2.2.2.2.2.1 x.2.2.2.2.2.2.2.2.2.2.2.2.2.2.2.1 x.2.2.2.2.2.2.2.2.2.2.2.2.2.2.2.2.1 x.2.2.2.2.2.2.2.2.2.2.2.2.2.2.2.2.2.1 x.2.2.2.2.2.2.2.2.2.2.2.2.2.2.2.2.2.2.1 x.2.2.2.2.2.2.2.2.2.2.2.2.2.2.2.2.2.2.2.1 x.2.2.2.2.2.2.2.2.2.2.2.2.2.2.2.2.2.2.2.2.1 x.2.2.2.2.2.2.2.2.2.2.2.2.2.2.2.2.2.2.2.2.2.1 x.2.2.2.2.2.2.2.2.2.2.2.2.2.2.2.2.2.2.2.2.2.2.1 x.2.2.2.2.2.2.2.2.2.2.2.2.2.2.2.2.2.2.2.2.2.2.2.1 x.2.2.2.2.2.2.2.2.2.2.2.2.2.2.2.2.2.2.2.2.2.2.2.2.1 x.2.2.2.2.2.2.2.2.2.2.2.2.2.2.2.2.2.2.2.2.2.2.2.2.2
noncomputable def ap26 {A0 A1 A2 A3 A4 A5 A6 A7 A8 A9 A10 A11 A12 A13 A14 A15 A16 A17 A18 A19 A20 A21 A22 A23 A24 A25 : Type} {R : A0 → A1 → A2 → A3 → A4 → A5 → A6 → A7 → A8 → A9 → A10 → A11 → A12 → A13 → A14 → A15 → A16 → A17 → A18 → A19 → A20 → A21 → A22 → A23 → A24 → A25 → Prop} (P : Prop) (e : P = ∀ a0 a1 a2 a3 a4 a5 a6 a7 a8 a9 a10 a11 a12 a13 a14 a15 a16 a17 a18 a19 a20 a21 a22 a23 a24 a25, R a0 a1 a2 a3 a4 a5 a6 a7 a8 a9 a10 a11 a12 a13 a14 a15 a16 a17 a18 a19 a20 a21 a22 a23 a24 a25) (a0 : A0) (a1 : A1) (a2 : A2) (a3 : A3) (a4 : A4) (a5 : A5) (a6 : A6) (a7 : A7) (a8 : A8) (a9 : A9) (a10 : A10) (a11 : A11) (a12 : A12) (a13 : A13) (a14 : A14) (a15 : A15) (a16 : A16) (a17 : A17) (a18 : A18) (a19 : A19) (a20 : A20) (a21 : A21) (a22 : A22) (a23 : A23) (a24 : A24) (a25 : A25) : Prop := R a0 a1 a2 a3 a4 a5 a6 a7 a8 a9 a10 a11 a12 a13 a14 a15 a16 a17 a18 a19 a20 a21 a22 a23 a24 a25
theorem bk26 {A0 A1 A2 A3 A4 A5 A6 A7 A8 A9 A10 A11 A12 A13 A14 A15 A16 A17 A18 A19 A20 A21 A22 A23 A24 A25 : Type} {R : A0 → A1 → A2 → A3 → A4 → A5 → A6 → A7 → A8 → A9 → A10 → A11 → A12 → A13 → A14 → A15 → A16 → A17 → A18 → A19 → A20 → A21 → A22 → A23 → A24 → A25 → Prop} {P : Prop} (e : P = ∀ a0 a1 a2 a3 a4 a5 a6 a7 a8 a9 a10 a11 a12 a13 a14 a15 a16 a17 a18 a19 a20 a21 a22 a23 a24 a25, R a0 a1 a2 a3 a4 a5 a6 a7 a8 a9 a10 a11 a12 a13 a14 a15 a16 a17 a18 a19 a20 a21 a22 a23 a24 a25) (ne : Nonempty (A0 × A1 × A2 × A3 × A4 × A5 × A6 × A7 × A8 × A9 × A10 × A11 × A12 × A13 × A14 × A15 × A16 × A17 × A18 × A19 × A20 × A21 × A22 × A23 × A24 × A25)) (h : ap26 P e ((pk26 P e ne).1) ((pk26 P e ne).2.1) ((pk26 P e ne).2.2.1) ((pk26 P e ne).2.2.2.1) ((pk26 P e ne).2.2.2.2.1) ((pk26 P e ne).2.2.2.2.2.1) ((pk26 P e ne).2.2.2.2.2.2.1) ((pk26 P e ne).2.2.2.2.2.2.2.1) ((pk26 P e ne).2.2.2.2.2.2.2.2.1) ((pk26 P e ne).2.2.2.2.2.2.2.2.2.1) ((pk26 P e ne).2.2.2.2.2.2.2.2.2.2.1) ((pk26 P e ne).2.2.2.2.2.2.2.2.2.2.2.1) ((pk26 P e ne).2.2.2.2.2.2.2.2.2.2.2.2.1) ((pk26 P e ne).2.2.2.2.2.2.2.2.2.2.2.2.2.1) ((pk26 P e ne).2.2.2.2.2.2.2.2.2.2.2.2.2.2.1) ((pk26 P e ne).2.2.2.2.2.2.2.2.2.2.2.2.2.2.2.1) ((pk26 P e ne).2.2.2.2.2.2.2.2.2.2.2.2.2.2.2.2.1) ((pk26 P e ne).2.2.2.2.2.2.2.2.2.2.2.2.2.2.2.2.2.1) ((pk26 P e ne).2.2.2.2.2.2.2.2.2.2.2.2.2.2.2.2.2.2.1) ((pk26 P e ne).2.2.2.2.2.2.2.2.2.2.2.2.2.2.2.2.2.2.2.1) ((pk26 P e ne).2.2.2.2.2.2.2.2.2.2.2.2.2.2.2.2.2.2.2.2.1) ((pk26 P e ne).2.2.2.2.2.2.2.2.2.2.2.2.2.2.2.2.2.2.2.2.2.1) ((pk26 P e ne).2.2.2.2.2.2.2.2.2.2.2.2.2.2.2.2.2.2.2.2.2.2.1) ((pk26 P e ne).2.2.2.2.2.2.2.2.2.2.2.2.2.2.2.2.2.2.2.2.2.2.2.1) ((pk26 P e ne).2.2.2.2.2.2.2.2.2.2.2.2.2.2.2.2.2.2.2.2.2.2.2.2.1) ((pk26 P e ne).2.2.2.2.2.2.2.2.2.2.2.2.2.2.2.2.2.2.2.2.2.2.2.2.2)) : P := by
  subst e
  intro a0 a1 a2 a3 a4 a5 a6 a7 a8 a9 a10 a11 a12 a13 a14 a15 a16 a17 a18 a19 a20 a21 a22 a23 a24 a25
  exact Classical.byContradiction fun hx => @Classical.epsilon_spec _ (fun x : A0 × A1 × A2 × A3 × A4 × A5 × A6 × A7 × A8 × A9 × A10 × A11 × A12 × A13 × A14 × A15 × A16 × A17 × A18 × A19 × A20 × A21 × A22 × A23 × A24 × A25 => ¬ R x.1 x.2.1 x.2.2.1 x.2.2.2.1 x.2.2.2.2.1 x.2.2.2.2.2.1 x.2.2.2.2.2.2.1 x.2.2.2.2.2.2.2.1 x.2.2.2.2.2.2.2.2.1 x.2.2.2.2.2.2.2.2.2.1 x.2.2.2.2.2.2.2.2.2.2.1 x.2.2.2.2.2.2.2.2.2.2.2.1 x.2.2.2.2.2.2.2.2.2.2.2.2.1 x.2.2.2.2.2.2.2.2.2.2.2.2.2.1 x.2.2.2.2.2.2.2.2.2.2.2.2.2.2.1 x.2.2.2.2.2.2.2.2.2.2.2.2.2.2.2.1 x.2.2.2.2.2.2.2.2.2.2.2.2.2.2.2.2.1 x.2.2.2.2.2.2.2.2.2.2.2.2.2.2.2.2.2.1 x.2.2.2.2.2.2.2.2.2.2.2.2.2.2.2.2.2.2.1 x.2.2.2.2.2.2.2.2.2.2.2.2.2.2.2.2.2.2.2.1 x.2.2.2.2.2.2.2.2.2.2.2.2.2.2.2.2.2.2.2.2.1 x.2.2.2.2.2.2.2.2.2.2.2.2.2.2.2.2.2.2.2.2.2.1 x.2.2.2.2.2.2.2.2.2.2.2.2.2.2.2.2.2.2.2.2.2.2.1 x.2.2.2.2.2.2.2.2.2.2.2.2.2.2.2.2.2.2.2.2.2.2.2.1 x.2.2.2.2.2.2.2.2.2.2.2.2.2.2.2.2.2.2.2.2.2.2.2.2.1 x.2.2.2.2.2.2.2.2.2.2.2.2.2.2.2.2.2.2.2.2.2.2.2.2.2) ⟨(a0, a1, a2, a3, a4, a5, a6, a7, a8, a9, a10, a11, a12, a13, a14, a15, a16, a17, a18, a19, a20, a21, a22, a23, a24, a25), hx⟩ h
noncomputable def pk28 {A0 A1 A2 A3 A4 A5 A6 A7 A8 A9 A10 A11 A12 A13 A14 A15 A16 A17 A18 A19 A20 A21 A22 A23 A24 A25 A26 A27 : Type} {R : A0 → A1 → A2 → A3 → A4 → A5 → A6 → A7 → A8 → A9 → A10 → A11 → A12 → A13 → A14 → A15 → A16 → A17 → A18 → A19 → A20 → A21 → A22 → A23 → A24 → A25 → A26 → A27 → Prop} (P : Prop) (e : P = ∀ a0 a1 a2 a3 a4 a5 a6 a7 a8 a9 a10 a11 a12 a13 a14 a15 a16 a17 a18 a19 a20 a21 a22 a23 a24 a25 a26 a27, R a0 a1 a2 a3 a4 a5 a6 a7 a8 a9 a10 a11 a12 a13 a14 a15 a16 a17 a18 a19 a20 a21 a22 a23 a24 a25 a26 a27) (ne : Nonempty (A0 × A1 × A2 × A3 × A4 × A5 × A6 × A7 × A8 × A9 × A10 × A11 × A12 × A13 × A14 × A15 × A16 × A17 × A18 × A19 × A20 × A21 × A22 × A23 × A24 × A25 × A26 × A27)) : A0 × A1 × A2 × A3 × A4 × A5 × A6 × A7 × A8 × A9 × A10 × A11 × A12 × A13 × A14 × A15 × A16 × A17 × A18 × A19 × A20 × A21 × A22 × A23 × A24 × A25 × A26 × A27 := @Classical.epsilon _ ne fun x => ¬ R x.1 x.2.1 x.2.2.1 x.2.2.2.1 x.2.2.2.2.1 x.2.2.2.2.2.1 x.2.2.2.2.2.2.1 x.2.2.2.2.2.2.2.1 x.2.2.2.2.2.2.2.2.1 x.2.2.2.2.2.2.2.2.2.1 x.2.2.2.2.2.2.2.2.2.2.1 x.2.2.2.2.2.2.2.2.2.2.2.1 x.2.2.2.2.2.2.2.2.2.2.2.2.1 x.2.2.2.2.2.2.2.2.2.2.2.2.2.1 x.2.2.2.2.2.2.2.2.2.2.2.2.2.2.1 x.2.2.2.2.2.2.2.2.2.2.2.2.2.2.2.1 x.2.2.2.2.2.2.2.2.2.2.2.2.2.2.2.2.1 x.2.2.2.2.2.2.2.2.2.2.2.2.2.2.2.2.2.1 x.2.2.2.2.2.2.2.2.2.2.2.2.2.2.2.2.2.2.1 x.2.2.2.2.2.2.2.2.2.2.2.2.2.2.2.2.2.2.2.1 x.2.2.2.2.2.2.2.2.2.2.2.2.2.2.2.2.2.2.2.2.1 x.2.2.2.2.2.2.2.2.2.2.2.2.2.2.2.2.2.2.2.2.2.1 x.2.2.2.2.2.2.2.2.2.2.2.2.2.2.2.2.2.2.2.2.2.2.1 x.2.2.2.2.2.2.2.2.2.2.2.2.2.2.2.2.2.2.2.2.2.2.2.1 x.2.2.2.2.2.2.2.2.2.2.2.2.2.2.2.2.2.2.2.2.2.2.2.2.1 x.2.2.2.2.2.2.2.2.2.2.2.2.2.2.2.2.2.2.2.2.2.2.2.2.2.1 x.2.2.2.2.2.2.2.2.2.2.2.2.2.2.2.2.2.2.2.2.2.2.2.2.2.2.1 x.2.2.2.2.2.2.2.2.2.2.2.2.2.2.2.2.2.2.2.2.2.2.2.2.2.2.2
noncomputable def ap28 {A0 A1 A2 A3 A4 A5 A6 A7 A8 A9 A10 A11 A12 A13 A14 A15 A16 A17 A18 A19 A20 A21 A22 A23 A24 A25 A26 A27 : Type} {R : A0 → A1 → A2 → A3 → A4 → A5 → A6 → A7 → A8 → A9 → A10 → A11 → A12 → A13 → A14 → A15 → A16 → A17 → A18 → A19 → A20 → A21 → A22 → A23 → A24 → A25 → A26 → A27 → Prop} (P : Prop) (e : P = ∀ a0 a1 a2 a3 a4 a5 a6 a7 a8 a9 a10 a11 a12 a13 a14 a15 a16 a17 a18 a19 a20 a21 a22 a23 a24 a25 a26 a27, R a0 a1 a2 a3 a4 a5 a6 a7 a8 a9 a10 a11 a12 a13 a14 a15 a16 a17 a18 a19 a20 a21 a22 a23 a24 a25 a26 a27) (a0 : A0) (a1 : A1) (a2 : A2) (a3 : A3) (a4 : A4) (a5 : A5) (a6 : A6) (a7 : A7) (a8 : A8) (a9 : A9) (a10 : A10) (a11 : A11) (a12 : A12) (a13 : A13) (a14 : A14) (a15 : A15) (a16 : A16) (a17 : A17) (a18 : A18) (a19 : A19) (a20 : A20) (a21 : A21) (a22 : A22) (a23 : A23) (a24 : A24) (a25 : A25) (a26 : A26) (a27 : A27) : Prop := R a0 a1 a2 a3 a4 a5 a6 a7 a8 a9 a10 a11 a12 a13 a14 a15 a16 a17 a18 a19 a20 a21 a22 a23 a24 a25 a26 a27
theorem bk28 {A0 A1 A2 A3 A4 A5 A6 A7 A8 A9 A10 A11 A12 A13 A14 A15 A16 A17 A18 A19 A20 A21 A22 A23 A24 A25 A26 A27 : Type} {R : A0 → A1 → A2 → A3 → A4 → A5 → A6 → A7 → A8 → A9 → A10 → A11 → A12 → A13 → A14 → A15 → A16 → A17 → A18 → A19 → A20 → A21 → A22 → A23 → A24 → A25 → A26 → A27 → Prop} {P : Prop} (e : P = ∀ a0 a1 a2 a3 a4 a5 a6 a7 a8 a9 a10 a11 a12 a13 a14 a15 a16 a17 a18 a19 a20 a21 a22 a23 a24 a25 a26 a27, R a0 a1 a2 a3 a4 a5 a6 a7 a8 a9 a10 a11 a12 a13 a14 a15 a16 a17 a18 a19 a20 a21 a22 a23 a24 a25 a26 a27) (ne : Nonempty (A0 × A1 × A2 × A3 × A4 × A5 × A6 × A7 × A8 × A9 × A10 × A11 × A12 × A13 × A14 × A15 × A16 × A17 × A18 × A19 × A20 × A21 × A22 × A23 × A24 × A25 × A26 × A27)) (h : ap28 P e ((pk28 P e ne).1) ((pk28 P e ne).2.1) ((pk28 P e ne).2.2.1) ((pk28 P e ne).2.2.2.1) ((pk28 P e ne).2.2.2.2.1) ((pk28 P e ne).2.2.2.2.2.1) ((pk28 P e ne).2.2.2.2.2.2.1) ((pk28 P e ne).2.2.2.2.2.2.2.1) ((pk28 P e ne).2.2.2.2.2.2.2.2.1) ((pk28 P e ne).2.2.2.2.2.2.2.2.2.1) ((pk28 P e ne).2.2.2.2.2.2.2.2.2.2.1) ((pk28 P e ne).2.2.2.2.2.2.2.2.2.2.2.1) ((pk28 P e ne).2.2.2.2.2.2.2.2.2.2.2.2.1) ((pk28 P e ne).2.2.2.2.2.2.2.2.2.2.2.2.2.1) ((pk28 P e ne).2.2.2.2.2.2.2.2.2.2.2.2.2.2.1) ((pk28 P e ne).2.2.2.2.2.2.2.2.2.2.2.2.2.2.2.1) ((pk28 P e ne).2.2.2.2.2.2.2.2.2.2.2.2.2.2.2.2.1) ((pk28 P e ne).2.2.2.2.2.2.2.2.2.2.2.2.2.2.2.2.2.1) ((pk28 P e ne).2.2.2.2.2.2.2.2.2.2.2.2.2.2.2.2.2.2.1) ((pk28 P e ne).2.2.2.2.2.2.2.2.2.2.2.2.2.2.2.2.2.2.2.1) ((pk28 P e ne).2.2.2.2.2.2.2.2.2.2.2.2.2.2.2.2.2.2.2.2.1) ((pk28 P e ne).2.2.2.2.2.2.2.2.2.2.2.2.2.2.2.2.2.2.2.2.2.1) ((pk28 P e ne).2.2.2.2.2.2.2.2.2.2.2.2.2.2.2.2.2.2.2.2.2.2.1) ((pk28 P e ne).2.2.2.2.2.2.2.2.2.2.2.2.2.2.2.2.2.2.2.2.2.2.2.1) ((pk28 P e ne).2.2.2.2.2.2.2.2.2.2.2.2.2.2.2.2.2.2.2.2.2.2.2.2.1) ((pk28 P e ne).2.2.2.2.2.2.2.2.2.2.2.2.2.2.2.2.2.2.2.2.2.2.2.2.2.1) ((pk28 P e ne).2.2.2.2.2.2.2.2.2.2.2.2.2.2.2.2.2.2.2.2.2.2.2.2.2.2.1) ((pk28 P e ne).2.2.2.2.2.2.2.2.2.2.2.2.2.2.2.2.2.2.2.2.2.2.2.2.2.2.2)) : P := by
  subst e
  intro a0 a1 a2 a3 a4 a5 a6 a7 a8 a9 a10 a11 a12 a13 a14 a15 a16 a17 a18 a19 a20 a21 a22 a23 a24 a25 a26 a27
  exact Classical.byContradiction fun hx => @Classical.epsilon_spec _ (fun x : A0 × A1 × A2 × A3 × A4 × A5 × A6 × A7 × A8 × A9 × A10 × A11 × A12 × A13 × A14 × A15 × A16 × A17 × A18 × A19 × A20 × A21 × A22 × A23 × A24 × A25 × A26 × A27 => ¬ R x.1 x.2.1 x.2.2.1 x.2.2.2.1 x.2.2.2.2.1 x.2.2.2.2.2.1 x.2.2.2.2.2.2.1 x.2.2.2.2.2.2.2.1 x.2.2.2.2.2.2.2.2.1 x.2.2.2.2.2.2.2.2.2.1 x.2.2.2.2.2.2.2.2.2.2.1 x.2.2.2.2.2.2.2.2.2.2.2.1 x.2.2.2.2.2.2.2.2.2.2.2.2.1 x.2.2.2.2.2.2.2.2.2.2.2.2.2.1 x.2.2.2.2.2.2.2.2.2.2.2.2.2.2.1 x.2.2.2.2.2.2.2.2.2.2.2.2.2.2.2.1 x.2.2.2.2.2.2.2.2.2.2.2.2.2.2.2.2.1 x.2.2.2.2.2.2.2.2.2.2.2.2.2.2.2.2.2.1 x.2.2.2.2.2.2.2.2.2.2.2.2.2.2.2.2.2.2.1 x.2.2.2.2.2.2.2.2.2.2.2.2.2.2.2.2.2.2.2.1 x.2.2.2.2.2.2.2.2.2.2.2.2.2.2.2.2.2.2.2.2.1 x.2.2.2.2.2.2.2.2.2.2.2.2.2.2.2.2.2.2.2.2.2.1 x.2.2.2.2.2.2.2.2.2.2.2.2.2.2.2.2.2.2.2.2.2.2.1 x.2.2.2.2.2.2.2.2.2.2.2.2.2.2.2.2.2.2.2.2.2.2.2.1 x.2.2.2.2.2.2.2.2.2.2.2.2.2.2.2.2.2.2.2.2.2.2.2.2.1 x.2.2.2.2.2.2.2.2.2.2.2.2.2.2.2.2.2.2.2.2.2.2.2.2.2.1 x.2.2.2.2.2.2.2.2.2.2.2.2.2.2.2.2.2.2.2.2.2.2.2.2.2.2.1 x.2.2.2.2.2.2.2.2.2.2.2.2.2.2.2.2.2.2.2.2.2.2.2.2.2.2.2) ⟨(a0, a1, a2, a3, a4, a5, a6, a7, a8, a9, a10, a11, a12, a13, a14, a15, a16, a17, a18, a19, a20, a21, a22, a23, a24, a25, a26, a27), hx⟩ h
noncomputable def pk29 {A0 A1 A2 A3 A4 A5 A6 A7 A8 A9 A10 A11 A12 A13 A14 A15 A16 A17 A18 A19 A20 A21 A22 A23 A24 A25 A26 A27 A28 : Type} {R : A0 → A1 → A2 → A3 → A4 → A5 → A6 → A7 → A8 → A9 → A10 → A11 → A12 → A13 → A14 → A15 → A16 → A17 → A18 → A19 → A20 → A21 → A22 → A23 → A24 → A25 → A26 → A27 → A28 → Prop} (P : Prop) (e : P = ∀ a0 a1 a2 a3 a4 a5 a6 a7 a8 a9 a10 a11 a12 a13 a14 a15 a16 a17 a18 a19 a20 a21 a22 a23 a24 a25 a26 a27 a28, R a0 a1 a2 a3 a4 a5 a6 a7 a8 a9 a10 a11 a12 a13 a14 a15 a16 a17 a18 a19 a20 a21 a22 a23 a24 a25 a26 a27 a28) (ne : Nonempty (A0 × A1 × A2 × A3 × A4 × A5 × A6 × A7 × A8 × A9 × A10 × A11 × A12 × A13 × A14 × A15 × A16 × A17 × A18 × A19 × A20 × A21 × A22 × A23 × A24 × A25 × A26 × A27 × A28)) : A0 × A1 × A2 × A3 × A4 × A5 × A6 × A7 × A8 × A9 × A10 × A11 × A12 × A13 × A14 × A15 × A16 × A17 × A18 × A19 × A20 × A21 × A22 × A23 × A24 × A25 × A26 × A27 × A28 := @Classical.epsilon _ ne fun x => ¬ R x.1 x.2.1 x.2.2.1 x.2.2.2.1 x.2.2.2.2.1 x.2.2.2.2.2.1 x.2.2.2.2.2.2.1 x.2.2.2.2.2.2.2.1 x.2.2.2.2.2.2.2.2.1 x.2.2.2.2.2.2.2.2.2.1 x.2.2.2.2.2.2.2.2.2.2.1 x.2.2.2.2.2.2.2.2.2.2.2.1 x.2.2.2.2.2.2.2.2.2.2.2.2.1 x.2.2.2.2.2.2.2.2.2.2.2.2.2.1 x.2.2.2.2.2.2.2.2.2.2.2.2.2.2.1 x.2.2.2.2.2.2.2.2.2.2.2.2.2.2.2.1 x.2.2.2.2.2.2.2.2.2.2.2.2.2.2.2.2.1 x.2.2.2.2.2.2.2.2.2.2.2.2.2.2.2.2.2.1 x.2.2.2.2.2.2.2.2.2.2.2.2.2.2.2.2.2.2.1 x.2.2.2.2.2.2.2.2.2.2.2.2.2.2.2.2.2.2.2.1 x.2.2.2.2.2.2.2.2.2.2.2.2.2.2.2.2.2.2.2.2.1 x.2.2.2.2.2.2.2.2.2.2.2.2.2.2.2.2.2.2.2.2.2.1 x.2.2.2.2.2.2.2.2.2.2.2.2.2.2.2.2.2.2.2.2.2.2.1 x.2.2.2.2.2.2.2.2.2.2.2.2.2.2.2.2.2.2.2.2.2.2.2.1 x.2.2.2.2.2.2.2.2.2.2.2.2.2.2.2.2.2.2.2.2.2.2.2.2.1 x.2.2.2.2.2.2.2.2.2.2.2.2.2.2.2.2.2.2.2.2.2.2.2.2.2.1 x.2.2.2.2.2.2.2.2.2.2.2.2.2.2.2.2.2.2.2.2.2.2.2.2.2.2.1 x.2.2.2.2.2.2.2.2.2.2.2.2.2.2.2.2.2.2.2.2.2.2.2.2.2.2.2.1 x.2.2.2.2.2.2.2.2.2.2.2.2.2.2.2.2.2.2.2.2.2.2.2.2.2.2.2.2
noncomputable def ap29 {A0 A1 A2 A3 A4 A5 A6 A7 A8 A9 A10 A11 A12 A13 A14 A15 A16 A17 A18 A19 A20 A21 A22 A23 A24 A25 A26 A27 A28 : Type} {R : A0 → A1 → A2 → A3 → A4 → A5 → A6 → A7 → A8 → A9 → A10 → A11 → A12 → A13 → A14 → A15 → A16 → A17 → A18 → A19 → A20 → A21 → A22 → A23 → A24 → A25 → A26 → A27 → A28 → Prop} (P : Prop) (e : P = ∀ a0 a1 a2 a3 a4 a5 a6 a7 a8 a9 a10 a11 a12 a13 a14 a15 a16 a17 a18 a19 a20 a21 a22 a23 a24 a25 a26 a27 a28, R a0 a1 a2 a3 a4 a5 a6 a7 a8 a9 a10 a11 a12 a13 a14 a15 a16 a17 a18 a19 a20 a21 a22 a23 a24 a25 a26 a27 a28) (a0 : A0) (a1 : A1) (a2 : A2) (a3 : A3) (a4 : A4) (a5 : A5) (a6 : A6) (a7 : A7) (a8 : A8) (a9 : A9) (a10 : A10) (a11 : A11) (a12 : A12) (a13 : A13) (a14 : A14) (a15 : A15) (a16 : A16) (a17 : A17) (a18 : A18) (a19 : A19) (a20 : A20) (a21 : A21) (a22 : A22) (a23 : A23) (a24 : A24) (a25 : A25) (a26 : A26) (a27 : A27) (a28 : A28) : Prop := R a0 a1 a2 a3 a4 a5 a6 a7 a8 a9 a10 a11 a12 a13 a14 a15 a16 a17 a18 a19 a20 a21 a22 a23 a24 a25 a26 a27 a28
theorem bk29 {A0 A1 A2 A3 A4 A5 A6 A7 A8 A9 A10 A11 A12 A13 A14 A15 A16 A17 A18 A19 A20 A21 A22 A23 A24 A25 A26 A27 A28 : Type} {R : A0 → A1 → A2 → A3 → A4 → A5 → A6 → A7 → A8 → A9 → A10 → A11 → A12 → A13 → A14 → A15 → A16 → A17 → A18 → A19 → A20 → A21 → A22 → A23 → A24 → A25 → A26 → A27 → A28 → Prop} {P : Prop} (e : P = ∀ a0 a1 a2 a3 a4 a5 a6 a7 a8 a9 a10 a11 a12 a13 a14 a15 a16 a17 a18 a19 a20 a21 a22 a23 a24 a25 a26 a27 a28, R a0 a1 a2 a3 a4 a5 a6 a7 a8 a9 a10 a11 a12 a13 a14 a15 a16 a17 a18 a19 a20 a21 a22 a23 a24 a25 a26 a27 a28) (ne : Nonempty (A0 × A1 × A2 × A3 × A4 × A5 × A6 × A7 × A8 × A9 × A10 × A11 × A12 × A13 × A14 × A15 × A16 × A17 × A18 × A19 × A20 × A21 × A22 × A23 × A24 × A25 × A26 × A27 × A28)) (h : ap29 P e ((pk29 P e ne).1) ((pk29 P e ne).2.1) ((pk29 P e ne).2.2.1) ((pk29 P e ne).2.2.2.1) ((pk29 P e ne).2.2.2.2.1) ((pk29 P e ne).2.2.2.2.2.1) ((pk29 P e ne).2.2.2.2.2.2.1) ((pk29 P e ne).2.2.2.2.2.2.2.1) ((pk29 P e ne).2.2.2.2.2.2.2.2.1) ((pk29 P e ne).2.2.2.2.2.2.2.2.2.1) ((pk29 P e ne).2.2.2.2.2.2.2.2.2.2.1) ((pk29 P e ne).2.2.2.2.2.2.2.2.2.2.2.1) ((pk29 P e ne).2.2.2.2.2.2.2.2.2.2.2.2.1) ((pk29 P e ne).2.2.2.2.2.2.2.2.2.2.2.2.2.1) ((pk29 P e ne).2.2.2.2.2.2.2.2.2.2.2.2.2.2.1) ((pk29 P e ne).2.2.2.2.2.2.2.2.2.2.2.2.2.2.2.1) ((pk29 P e ne).2.2.2.2.2.2.2.2.2.2.2.2.2.2.2.2.1) ((pk29 P e ne).2.2.2.2.2.2.2.2.2.2.2.2.2.2.2.2.2.1) ((pk29 P e ne).2.2.2.2.2.2.2.2.2.2.2.2.2.2.2.2.2.2.1) ((pk29 P e ne).2.2.2.2.2.2.2.2.2.2.2.2.2.2.2.2.2.2.2.1) ((pk29 P e ne).2.2.2.2.2.2.2.2.2.2.2.2.2.2.2.2.2.2.2.2.1) ((pk29 P e ne).2.2.2.2.2.2.2.2.2.2.2.2.2.2.2.2.2.2.2.2.2.1) ((pk29 P e ne).2.2.2.2.2.2.2.2.2.2.2.2.2.2.2.2.2.2.2.2.2.2.1) ((pk29 P e ne).2.2.2.2.2.2.2.2.2.2.2.2.2.2.2.2.2.2.2.2.2.2.2.1) ((pk29 P e ne).2.2.2.2.2.2.2.2.2.2.2.2.2.2.2.2.2.2.2.2.2.2.2.2.1) ((pk29 P e ne).2.2.2.2.2.2.2.2.2.2.2.2.2.2.2.2.2.2.2.2.2.2.2.2.2.1) ((pk29 P e ne).2.2.2.2.2.2.2.2.2.2.2.2.2.2.2.2.2.2.2.2.2.2.2.2.2.2.1) ((pk29 P e ne).2.2.2.2.2.2.2.2.2.2.2.2.2.2.2.2.2.2.2.2.2.2.2.2.2.2.2.1) ((pk29 P e ne).2.2.2.2.2.2.2.2.2.2.2.2.2.2.2.2.2.2.2.2.2.2.2.2.2.2.2.2)) : P := by
  subst e
  intro a0 a1 a2 a3 a4 a5 a6 a7 a8 a9 a10 a11 a12 a13 a14 a15 a16 a17 a18 a19 a20 a21 a22 a23 a24 a25 a26 a27 a28
  exact Classical.byContradiction fun hx => @Classical.epsilon_spec _ (fun x : A0 × A1 × A2 × A3 × A4 × A5 × A6 × A7 × A8 × A9 × A10 × A11 × A12 × A13 × A14 × A15 × A16 × A17 × A18 × A19 × A20 × A21 × A22 × A23 × A24 × A25 × A26 × A27 × A28 => ¬ R x.1 x.2.1 x.2.2.1 x.2.2.2.1 x.2.2.2.2.1 x.2.2.2.2.2.1 x.2.2.2.2.2.2.1 x.2.2.2.2.2.2.2.1 x.2.2.2.2.2.2.2.2.1 x.2.2.2.2.2.2.2.2.2.1 x.2.2.2.2.2.2.2.2.2.2.1 x.2.2.2.2.2.2.2.2.2.2.2.1 x.2.2.2.2.2.2.2.2.2.2.2.2.1 x.2.2.2.2.2.2.2.2.2.2.2.2.2.1 x.2.2.2.2.2.2.2.2.2.2.2.2.2.2.1 x.2.2.2.2.2.2.2.2.2.2.2.2.2.2.2.1 x.2.2.2.2.2.2.2.2.2.2.2.2.2.2.2.2.1 x.2.2.2.2.2.2.2.2.2.2.2.2.2.2.2.2.2.1 x.2.2.2.2.2.2.2.2.2.2.2.2.2.2.2.2.2.2.1 x.2.2.2.2.2.2.2.2.2.2.2.2.2.2.2.2.2.2.2.1 x.2.2.2.2.2.2.2.2.2.2.2.2.2.2.2.2.2.2.2.2.1 x.2.2.2.2.2.2.2.2.2.2.2.2.2.2.2.2.2.2.2.2.2.1 x.2.2.2.2.2.2.2.2.2.2.2.2.2.2.2.2.2.2.2.2.2.2.1 x.2.2.2.2.2.2.2.2.2.2.2.2.2.2.2.2.2.2.2.2.2.2.2.1 x.2.2.2.2.2.2.2.2.2.2.2.2.2.2.2.2.2.2.2.2.2.2.2.2.1 x.2.2.2.2.2.2.2.2.2.2.2.2.2.2.2.2.2.2.2.2.2.2.2.2.2.1 x.2.2.2.2.2.2.2.2.2.2.2.2.2.2.2.2.2.2.2.2.2.2.2.2.2.2.1 x.2.2.2.2.2.2.2.2.2.2.2.2.2.2.2.2.2.2.2.2.2.2.2.2.2.2.2.1 x.2.2.2.2.2.2.2.2.2.2.2.2.2.2.2.2.2.2.2.2.2.2.2.2.2.2.2.2) ⟨(a0, a1, a2, a3, a4, a5, a6, a7, a8, a9, a10, a11, a12, a13, a14, a15, a16, a17, a18, a19, a20, a21, a22, a23, a24, a25, a26, a27, a28), hx⟩ h
noncomputable def pk35 {A0 A1 A2 A3 A4 A5 A6 A7 A8 A9 A10 A11 A12 A13 A14 A15 A16 A17 A18 A19 A20 A21 A22 A23 A24 A25 A26 A27 A28 A29 A30 A31 A32 A33 A34 : Type} {R : A0 → A1 → A2 → A3 → A4 → A5 → A6 → A7 → A8 → A9 → A10 → A11 → A12 → A13 → A14 → A15 → A16 → A17 → A18 → A19 → A20 → A21 → A22 → A23 → A24 → A25 → A26 → A27 → A28 → A29 → A30 → A31 → A32 → A33 → A34 → Prop} (P : Prop) (e : P = ∀ a0 a1 a2 a3 a4 a5 a6 a7 a8 a9 a10 a11 a12 a13 a14 a15 a16 a17 a18 a19 a20 a21 a22 a23 a24 a25 a26 a27 a28 a29 a30 a31 a32 a33 a34, R a0 a1 a2 a3 a4 a5 a6 a7 a8 a9 a10 a11 a12 a13 a14 a15 a16 a17 a18 a19 a20 a21 a22 a23 a24 a25 a26 a27 a28 a29 a30 a31 a32 a33 a34) (ne : Nonempty (A0 × A1 × A2 × A3 × A4 × A5 × A6 × A7 × A8 × A9 × A10 × A11 × A12 × A13 × A14 × A15 × A16 × A17 × A18 × A19 × A20 × A21 × A22 × A23 × A24 × A25 × A26 × A27 × A28 × A29 × A30 × A31 × A32 × A33 × A34)) : A0 × A1 × A2 × A3 × A4 × A5 × A6 × A7 × A8 × A9 × A10 × A11 × A12 × A13 × A14 × A15 × A16 × A17 × A18 × A19 × A20 × A21 × A22 × A23 × A24 × A25 × A26 × A27 × A28 × A29 × A30 × A31 × A32 × A33 × A34 := @Classical.epsilon _ ne fun x => ¬ R x.1 x.2.1 x.2.2.1 x.2.2.2.1 x.2.2.2.2.1 x.2.2.2.2.2.1 x.2.2.2.2.2.2.1 x.2.2.2.2.2.2.2.1 x.2.2.2.2.2.2.2.2.1 x.2.2.2.2.2.2.2.2.2.1 x.2.2.2.2.2.2.2.2.2.2.1 x.2.2.2.2.2.2.2.2.2.2.2.1 x.2.2.2.2.2.2.2.2.2.2.2.2.1 x.2.2.2.2.2.2.2.2.2.2.2.2.2.1 x.2.2.2.2.2.2.2.2.2.2.2.2.2.2.1 x.2.2.2.2.2.2.2.2.2.2.2.2.2.2.2.1 x.2.2.2.2.2.2.2.2.2.2.2.2.2.2.2.2.1 x.2.2.2.2.2.2.2.2.2.2.2.2.2.2.2.2.2.1 x.2.2.2.2.2.2.2.2.2.2.2.2.2.2.2.2.2.2.1 x.2.2.2.2.2.2.2.2.2.2.2.2.2.2.2.2.2.2.2.1 x.2.2.2.2.2.2.2.2.2.2.2.2.2.2.2.2.2.2.2.2.1 x.2.2.2.2.2.2.2.2.2.2.2.2.2.2.2.2.2.2.2.2.2.1 x.2.2.2.2.2.2.2.2.2.2.2.2.2.2.2.2.2.2.2.2.2.2.1 x.2.2.2.2.2.2.2.2.2.2.2.2.2.2.2.2.2.2.2.2.2.2.2.1 x.2.2.2.2.2.2.2.2.2.2.2.2.2.2.2.2.2.2.2.2.2.2.2.2.1 x.2.2.2.2.2.2.2.2.2.2.2.2.2.2.2.2.2.2.2.2.2.2.2.2.2.1 x.2.2.2.2.2.2.2.2.2.2.2.2.2.2.2.2.2.2.2.2.2.2.2.2.2.2.1 x.2.2.2.2.2.2.2.2.2.2.2.2.2.2.2.2.2.2.2.2.2.2.2.2.2.2.2.1 x.2.2.2.2.2.2.2.2.2.2.2.2.2.2.2.2.2.2.2.2.2.2.2.2.2.2.2.2.1 x.2.2.2.2.2.2.2.2.2.2.2.2.2.2.2.2.2.2.2.2.2.2.2.2.2.2.2.2.2.1 x.2.2.2.2.2.2.2.2.2.2.2.2.2.2.2.2.2.2.2.2.2.2.2.2.2.2.2.2.2.2.1 x.2.2.2.2.2.2.2.2.2.2.2.2.2.2.2.2.2.2.2.2.2.2.2.2.2.2.2.2.2.2.2.1 x.2.2.2.2.2.2.2.2.2.2.2.2.2.2.2.2.2.2.2.2.2.2.2.2.2.2.2.2.2.2.2.2.1 x.2.2.2.2.2.2.2.2.2.2.2.2.2.2.2.2.2.2.2.2.2.2.2.2.2.2.2.2.2.2.2.2.2.1 x.2.2.2.2.2.2.2.2.2.2.2.2.2.2.2.2.2.2.2.2.2.2.2.2.2.2.2.2.2.2.2.2.2.2
noncomputable def ap35 {A0 A1 A2 A3 A4 A5 A6 A7 A8 A9 A10 A11 A12 A13 A14 A15 A16 A17 A18 A19 A20 A21 A22 A23 A24 A25 A26 A27 A28 A29 A30 A31 A32 A33 A34 : Type} {R : A0 → A1 → A2 → A3 → A4 → A5 → A6 → A7 → A8 → A9 → A10 → A11 → A12 → A13 → A14 → A15 → A16 → A17 → A18 → A19 → A20 → A21 → A22 → A23 → A24 → A25 → A26 → A27 → A28 → A29 → A30 → A31 → A32 → A33 → A34 → Prop} (P : Prop) (e : P = ∀ a0 a1 a2 a3 a4 a5 a6 a7 a8 a9 a10 a11 a12 a13 a14 a15 a16 a17 a18 a19 a20 a21 a22 a23 a24 a25 a26 a27 a28 a29 a30 a31 a32 a33 a34, R a0 a1 a2 a3 a4 a5 a6 a7 a8 a9 a10 a11 a12 a13 a14 a15 a16 a17 a18 a19 a20 a21 a22 a23 a24 a25 a26 a27 a28 a29 a30 a31 a32 a33 a34) (a0 : A0) (a1 : A1) (a2 : A2) (a3 : A3) (a4 : A4) (a5 : A5) (a6 : A6) (a7 : A7) (a8 : A8) (a9 : A9) (a10 : A10) (a11 : A11) (a12 : A12) (a13 : A13) (a14 : A14) (a15 : A15) (a16 : A16) (a17 : A17) (a18 : A18) (a19 : A19) (a20 : A20) (a21 : A21) (a22 : A22) (a23 : A23) (a24 : A24) (a25 : A25) (a26 : A26) (a27 : A27) (a28 : A28) (a29 : A29) (a30 : A30) (a31 : A31) (a32 : A32) (a33 : A33) (a34 : A34) : Prop := R a0 a1 a2 a3 a4 a5 a6 a7 a8 a9 a10 a11 a12 a13 a14 a15 a16 a17 a18 a19 a20 a21 a22 a23 a24 a25 a26 a27 a28 a29 a30 a31 a32 a33 a34
theorem bk35 {A0 A1 A2 A3 A4 A5 A6 A7 A8 A9 A10 A11 A12 A13 A14 A15 A16 A17 A18 A19 A20 A21 A22 A23 A24 A25 A26 A27 A28 A29 A30 A31 A32 A33 A34 : Type} {R : A0 → A1 → A2 → A3 → A4 → A5 → A6 → A7 → A8 → A9 → A10 → A11 → A12 → A13 → A14 → A15 → A16 → A17 → A18 → A19 → A20 → A21 → A22 → A23 → A24 → A25 → A26 → A27 → A28 → A29 → A30 → A31 → A32 → A33 → A34 → Prop} {P : Prop} (e : P = ∀ a0 a1 a2 a3 a4 a5 a6 a7 a8 a9 a10 a11 a12 a13 a14 a15 a16 a17 a18 a19 a20 a21 a22 a23 a24 a25 a26 a27 a28 a29 a30 a31 a32 a33 a34, R a0 a1 a2 a3 a4 a5 a6 a7 a8 a9 a10 a11 a12 a13 a14 a15 a16 a17 a18 a19 a20 a21 a22 a23 a24 a25 a26 a27 a28 a29 a30 a31 a32 a33 a34) (ne : Nonempty (A0 × A1 × A2 × A3 × A4 × A5 × A6 × A7 × A8 × A9 × A10 × A11 × A12 × A13 × A14 × A15 × A16 × A17 × A18 × A19 × A20 × A21 × A22 × A23 × A24 × A25 × A26 × A27 × A28 × A29 × A30 × A31 × A32 × A33 × A34)) (h : ap35 P e ((pk35 P e ne).1) ((pk35 P e ne).2.1) ((pk35 P e ne).2.2.1) ((pk35 P e ne).2.2.2.1) ((pk35 P e ne).2.2.2.2.1) ((pk35 P e ne).2.2.2.2.2.1) ((pk35 P e ne).2.2.2.2.2.2.1) ((pk35 P e ne).2.2.2.2.2.2.2.1) ((pk35 P e ne).2.2.2.2.2.2.2.2.1) ((pk35 P e ne).2.2.2.2.2.2.2.2.2.1) ((pk35 P e ne).2.2.2.2.2.2.2.2.2.2.1) ((pk35 P e ne).2.2.2.2.2.2.2.2.2.2.2.1) ((pk35 P e ne).2.2.2.2.2.2.2.2.2.2.2.2.1) ((pk35 P e ne).2.2.2.2.2.2.2.2.2.2.2.2.2.1) ((pk35 P e ne).2.2.2.2.2.2.2.2.2.2.2.2.2.2.1) ((pk35 P e ne).2.2.2.2.2.2.2.2.2.2.2.2.2.2.2.1) ((pk35 P e ne).2.2.2.2.2.2.2.2.2.2.2.2.2.2.2.2.1) ((pk35 P e ne).2.2.2.2.2.2.2.2.2.2.2.2.2.2.2.2.2.1) ((pk35 P e ne).2.2.2.2.2.2.2.2.2.2.2.2.2.2.2.2.2.2.1) ((pk35 P e ne).2.2.2.2.2.2.2.2.2.2.2.2.2.2.2.2.2.2.2.1) ((pk35 P e ne).2.2.2.2.2.2.2.2.2.2.2.2.2.2.2.2.2.2.2.2.1) ((pk35 P e ne).2.2.2.2.2.2.2.2.2.2.2.2.2.2.2.2.2.2.2.2.2.1) ((pk35 P e ne).2.2.2.2.2.2.2.2.2.2.2.2.2.2.2.2.2.2.2.2.2.2.1) ((pk35 P e ne).2.2.2.2.2.2.2.2.2.2.2.2.2.2.2.2.2.2.2.2.2.2.2.1) ((pk35 P e ne).2.2.2.2.2.2.2.2.2.2.2.2.2.2.2.2.2.2.2.2.2.2.2.2.1) ((pk35 P e ne).2.2.2.2.2.2.2.2.2.2.2.2.2.2.2.2.2.2.2.2.2.2.2.2.2.1) ((pk35 P e ne).2.2.2.2.2.2.2.2.2.2.2.2.2.2.2.2.2.2.2.2.2.2.2.2.2.2.1) ((pk35 P e ne).2.2.2.2.2.2.2.2.2.2.2.2.2.2.2.2.2.2.2.2.2.2.2.2.2.2.2.1) ((pk35 P e ne).2.2.2.2.2.2.2.2.2.2.2.2.2.2.2.2.2.2.2.2.2.2.2.2.2.2.2.2.1) ((pk35 P e ne).2.2.2.2.2.2.2.2.2.2.2.2.2.2.2.2.2.2.2.2.2.2.2.2.2.2.2.2.2.1) ((pk35 P e ne).2.2.2.2.2.2.2.2.2.2.2.2.2.2.2.2.2.2.2.2.2.2.2.2.2.2.2.2.2.2.1) ((pk35 P e ne).2.2.2.2.2.2.2.2.2.2.2.2.2.2.2.2.2.2.2.2.2.2.2.2.2.2.2.2.2.2.2.1) ((pk35 P e ne).2.2.2.2.2.2.2.2.2.2.2.2.2.2.2.2.2.2.2.2.2.2.2.2.2.2.2.2.2.2.2.2.1) ((pk35 P e ne).2.2.2.2.2.2.2.2.2.2.2.2.2.2.2.2.2.2.2.2.2.2.2.2.2.2.2.2.2.2.2.2.2.1) ((pk35 P e ne).2.2.2.2.2.2.2.2.2.2.2.2.2.2.2.2.2.2.2.2.2.2.2.2.2.2.2.2.2.2.2.2.2.2)) : P := by
  subst e
  intro a0 a1 a2 a3 a4 a5 a6 a7 a8 a9 a10 a11 a12 a13 a14 a15 a16 a17 a18 a19 a20 a21 a22 a23 a24 a25 a26 a27 a28 a29 a30 a31 a32 a33 a34
  exact Classical.byContradiction fun hx => @Classical.epsilon_spec _ (fun x : A0 × A1 × A2 × A3 × A4 × A5 × A6 × A7 × A8 × A9 × A10 × A11 × A12 × A13 × A14 × A15 × A16 × A17 × A18 × A19 × A20 × A21 × A22 × A23 × A24 × A25 × A26 × A27 × A28 × A29 × A30 × A31 × A32 × A33 × A34 => ¬ R x.1 x.2.1 x.2.2.1 x.2.2.2.1 x.2.2.2.2.1 x.2.2.2.2.2.1 x.2.2.2.2.2.2.1 x.2.2.2.2.2.2.2.1 x.2.2.2.2.2.2.2.2.1 x.2.2.2.2.2.2.2.2.2.1 x.2.2.2.2.2.2.2.2.2.2.1 x.2.2.2.2.2.2.2.2.2.2.2.1 x.2.2.2.2.2.2.2.2.2.2.2.2.1 x.2.2.2.2.2.2.2.2.2.2.2.2.2.1 x.2.2.2.2.2.2.2.2.2.2.2.2.2.2.1 x.2.2.2.2.2.2.2.2.2.2.2.2.2.2.2.1 x.2.2.2.2.2.2.2.2.2.2.2.2.2.2.2.2.1 x.2.2.2.2.2.2.2.2.2.2.2.2.2.2.2.2.2.1 x.2.2.2.2.2.2.2.2.2.2.2.2.2.2.2.2.2.2.1 x.2.2.2.2.2.2.2.2.2.2.2.2.2.2.2.2.2.2.2.1 x.2.2.2.2.2.2.2.2.2.2.2.2.2.2.2.2.2.2.2.2.1 x.2.2.2.2.2.2.2.2.2.2.2.2.2.2.2.2.2.2.2.2.2.1 x.2.2.2.2.2.2.2.2.2.2.2.2.2.2.2.2.2.2.2.2.2.2.1 x.2.2.2.2.2.2.2.2.2.2.2.2.2.2.2.2.2.2.2.2.2.2.2.1 x.2.2.2.2.2.2.2.2.2.2.2.2.2.2.2.2.2.2.2.2.2.2.2.2.1 x.2.2.2.2.2.2.2.2.2.2.2.2.2.2.2.2.2.2.2.2.2.2.2.2.2.1 x.2.2.2.2.2.2.2.2.2.2.2.2.2.2.2.2.2.2.2.2.2.2.2.2.2.2.1 x.2.2.2.2.2.2.2.2.2.2.2.2.2.2.2.2.2.2.2.2.2.2.2.2.2.2.2.1 x.2.2.2.2.2.2.2.2.2.2.2.2.2.2.2.2.2.2.2.2.2.2.2.2.2.2.2.2.1 x.2.2.2.2.2.2.2.2.2.2.2.2.2.2.2.2.2.2.2.2.2.2.2.2.2.2.2.2.2.1 x.2.2.2.2.2.2.2.2.2.2.2.2.2.2.2.2.2.2.2.2.2.2.2.2.2.2.2.2.2.2.1 x.2.2.2.2.2.2.2.2.2.2.2.2.2.2.2.2.2.2.2.2.2.2.2.2.2.2.2.2.2.2.2.1 x.2.2.2.2.2.2.2.2.2.2.2.2.2.2.2.2.2.2.2.2.2.2.2.2.2.2.2.2.2.2.2.2.1 x.2.2.2.2.2.2.2.2.2.2.2.2.2.2.2.2.2.2.2.2.2.2.2.2.2.2.2.2.2.2.2.2.2.1 x.2.2.2.2.2.2.2.2.2.2.2.2.2.2.2.2.2.2.2.2.2.2.2.2.2.2.2.2.2.2.2.2.2.2) ⟨(a0, a1, a2, a3, a4, a5, a6, a7, a8, a9, a10, a11, a12, a13, a14, a15, a16, a17, a18, a19, a20, a21, a22, a23, a24, a25, a26, a27, a28, a29, a30, a31, a32, a33, a34), hx⟩ h
end Mine
namespace Mine
open PySem PySem.W PyProof.Rows
structure Got1 (G : Prop) where
  Q1 : Prop
  k : Hide Q1 → G
structure Got2 (G : Prop) where
  Q1 : Prop
  Q2 : Prop
  k : Hide Q1 → Hide Q2 → G
structure Got3 (G : Prop) where
  Q1 : Prop
  Q2 : Prop
  Q3 : Prop
  k : Hide Q1 → Hide Q2 → Hide Q3 → G
theorem w_ne : Nonempty World := ⟨aWorld 0⟩
theorem s_ne : Nonempty Shared := ⟨{}⟩
theorem a_ne : Nonempty Around := ⟨{}⟩
theorem dr_ne : Nonempty Drawn := ⟨{}⟩
theorem g_ne : Nonempty G := ⟨⟨false, 0, 0⟩⟩
theorem t_ne : Nonempty T := ⟨T.nil⟩
theorem p_ne : Nonempty Program := ⟨PySem.Challenge.pw_sx_zcanopy_6⟩
theorem nodes_pos {gs : List G} (h : gs ≠ []) : 0 < (nodesL gs 0).length := by
  cases gs with
  | nil => exact absurd rfl h
  | cons g gs => simp [nodesL, nodesG]; omega
end Mine
section
set_option maxRecDepth 100000
set_option maxHeartbeats 8000000
open PySem PySem.W PySem.Calls PyProof.Rows PySem.Spec Mine
local macro_rules | `(tactic| k_lt $h) => `(tactic| (replace $h := allLt_of $h; dsimp only [AllLt] at $h:ident))
local macro_rules | `(tactic| k_ne) => `(tactic| (refine neN ?_; (try dsimp only); first | with_reducible assumption | exact Nat.ne_of_lt (by with_reducible first | assumption | exact cj1 (by assumption) | exact cj2 (by assumption) | exact cj3 (by assumption) | exact cj4 (by assumption) | exact cj5 (by assumption) | exact cj6 (by assumption) | exact cj7 (by assumption) | exact cj8 (by assumption) | exact cj9 (by assumption) | exact cj10 (by assumption) | exact cj11 (by assumption) | exact cj12 (by assumption)) | exact Nat.ne_of_gt (by with_reducible first | assumption | exact cj1 (by assumption) | exact cj2 (by assumption) | exact cj3 (by assumption) | exact cj4 (by assumption) | exact cj5 (by assumption) | exact cj6 (by assumption) | exact cj7 (by assumption) | exact cj8 (by assumption) | exact cj9 (by assumption) | exact cj10 (by assumption) | exact cj11 (by assumption) | exact cj12 (by assumption)) | omega))
local macro_rules | `(tactic| walk_at "leaving ref") => `(tactic| ((refine' leave_raiseS ?k1 ?k0 ?k2 ?k3 ?_; (case k0 => first | assumption | exact Heap.MadeExc.of (by assumption)); (case k2 => assumption); (case k1 => assumption); (case k3 => k_asm); intro h' t' S' R' U'; (try dsimp only at S' R' U' ⊢))))
local macro_rules | `(tactic| k_all) => `(tactic| first | assumption | (refine' List.forall_mem_cons.mpr ⟨?a, ?b⟩; (case a => k_ne); (case b => k_all)))
local macro_rules | `(tactic| walk_at "execs cons") => `(tactic| (with_reducible refine tok_any ?_; intro tk))
local macro_rules | `(tactic| walk_at "ite") => `(tactic| first | (k_closed; k_dflt (first | refine ite_pos (by decide) ?_ | refine ite_neg (by decide) ?_)) | with_reducible refine ite_tt ?_ | with_reducible refine ite_ff ?_ | (with_reducible refine split_ine ?_ ?_ <;> intro _) | (with_reducible refine split_ieq ?_ ?_ <;> intro _) | with_reducible refine split_not ?_ | (refine split_dec ?_ ?_ <;> intro _) | (refine split_bool ?_ ?_ <;> intro _))
local macro_rules | `(tactic| walk_at "subscriptTail Name Constant ref int") => `(tactic| k_dflt (refine item_tupleL (by with_reducible first | assumption | exact Fr.tup (by assumption) (by assumption)) (by decide) (by decide) (by first | rfl | decide) (by first | rfl | simp) ?_))
local macro_rules | `(tactic| walk_at "subscriptTail Call") => `(tactic| k_dflt (refine kba_turn (value' := PySem.Expr.Name (PySem.Str.ofString "_") ⟨0, 0, 0, 0⟩) (fun _ => rfl) ?_))
section
local macro_rules | `(tactic| walk_at "pyIter ref") => `(tactic| refine of_hold ?_)
local macro_rules | `(tactic| walk_at "call ref cons nil") => `(tactic| refine of_hold ?_)
local macro_rules | `(tactic| walk_at "subscriptTail Name Name ref int") => `(tactic| (plain_pass; refine of_hold ?_))
local macro_rules | `(tactic| walk_at "subscriptTail Name BinOp ref int") => `(tactic| (plain_pass; refine of_hold ?_))
local macro_rules | `(tactic| walk_at "compareOp Eq ref ref") => `(tactic| refine of_hold ?_)
local macro_rules | `(tactic| walk_at "compareOp NotEq ref ref") => `(tactic| refine of_hold ?_)
local macro_rules | `(tactic| walk_at "call builtin:len") => `(tactic| (plain_pass; refine of_hold ?_))
local macro_rules | `(tactic| walk_at "subscriptTail Name Constant ref int") => `(tactic| (plain_pass; refine of_hold ?_))
local macro_rules | `(tactic| walk_at "exec For Name Name cons nil") => `(tactic| ((rename Fr _ _ _ _ => lF'); (with_unfolding_all refine' For_invVF lF' ?k1 ?k2 ?_; (case k1 => exact rfl); (case k2 => exact rfl); k_whole)))
set_option maxRecDepth 100000
set_option maxHeartbeats 8000000
set_option Elab.async false
namespace Mine
open PySem PySem.W PySem.Calls PyProof.Rows PySem.Spec

namespace ShapeU
noncomputable def ShapeP (w : World) (p : Program) (loose : List Str) (mean : ExcName → Option Value) (mg mb : Str → Option Value) (d : Nat) : Prop := ∀ (x : T) (t : Int) (r : Bool) (v : Value) (tk1 tk2 : Tok) (A : Around) (base : Heap) (outer : List Env) (s : Shared) (Q E : Value → Shared → Prop),
    Below A base outer s.heap → (hK w.params).In s.heap → Top p loose mean mg mb s.heap → A.handled = none → A.depth + d + 1 < recursionLimit → A.units + 8 * d + 200 < cLine → TAt s.heap v x → smD d x →
    (∀ b h' tk, shapeOk d x t r = some b → Keeps s.heap h' → Q (.bool b) { s with heap := h', toks := tk }) → (∀ e h' tk, shapeOk d x t r = none → Flies base s.heap outer e h' → E (.ref e) { s with heap := h', toks := tk }) →
    wpAny (model PySem.Challenge.rw_sx_zcanopy_6.row.prog w) A (call (.ref 34) [v, .int t tk1, .bool r, .int d tk2]) Q E s
theorem zero (w : World) (p : Program) (loose : List Str) (mean : ExcName → Option Value) (mg mb : Str → Option Value) : ShapeP w p loose mean mg mb 0 := by
  w_top off
  unfold ShapeP
  k_fill
  intro x t r v tk1 tk2 A base outer s Q E B X TP hh hd hu hT hS hQ hE
  refine wpAny_call ?_
  refine' enter X TP ?k6 ?k7 ?k8 ?k9 ?kB ?_ ?c2 ?c3 ?c4 ?c5
  case k6 => k_is
  case k7 => k_is
  case k8 => (first | lia | omega)
  case k9 => exact BindsTo.of_eq rfl
  case kB => exact locs rfl
  case c2 => exact rfl
  case c3 => exact rfl
  case c4 => exact rfl
  case c5 => decide
  intro h₁ F N
  dsimp only
  k_fold
  k_steps
  exact hE _ _ _ rfl ⟨_, _, by assumption, by assumption⟩
noncomputable def StepS : Prop := ∀ (w : World) (p : Program) (loose : List Str) (mean : ExcName → Option Value) (mg mb : Str → Option Value) (d : Nat), ShapeP w p loose mean mg mb d → ∀ (x : T) (t : Int) (r : Bool) (v : Value) (tk1 tk2 : Tok) (A : Around) (base : Heap) (outer : List Env) (s : Shared) (Q E : Value → Shared → Prop),
    Below A base outer s.heap → (hK w.params).In s.heap → Top p loose mean mg mb s.heap → A.handled = none → A.depth + (d + 1) + 1 < recursionLimit → A.units + 8 * (d + 1) + 200 < cLine → TAt s.heap v x → smD (d + 1) x →
    (∀ b h' tk, shapeOk (d + 1) x t r = some b → Keeps s.heap h' → Q (.bool b) { s with heap := h', toks := tk }) → (∀ e h' tk, shapeOk (d + 1) x t r = none → Flies base s.heap outer e h' → E (.ref e) { s with heap := h', toks := tk }) →
    wpAny (model PySem.Challenge.rw_sx_zcanopy_6.row.prog w) A (call (.ref 34) [v, .int t tk1, .bool r, .int ((d + 1 : Nat) : Int) tk2]) Q E s
noncomputable def QQ : Prop := StepS
theorem back (h : QQ) : StepS := h
noncomputable def cutS1 : Got1 QQ := ⟨_, by
  intro hCut1
  w_top off
  intro w p loose mean mg mb d ih x t r v tk1 tk2 A base outer s Q E B X TP hh hd hu hT hS hQ hE
  revert X
  k_fill
  intro X
  obtain ⟨ks, vs, cs⟩ := x
  obtain ⟨a, ak, av, ac, kvs, vvs, cvs, rfl, P⟩ := hT.parts
  obtain ⟨tup, kl, ki, vl, vi, cl, clen, cget, cr⟩ := P
  obtain ⟨s1, s2, s3, s4⟩ := hS
  rw [shapeOk] at hQ hE
  refine wpAny_call ?_
  refine' enter X TP ?k6 ?k7 ?k8 ?k9 ?kB ?_ ?c2 ?c3 ?c4 ?c5
  case k6 => k_is
  case k7 => k_is
  case k8 => (first | lia | omega)
  case k9 => exact BindsTo.of_eq rfl
  case kB => exact locs rfl
  case c2 => exact rfl
  case c3 => exact rfl
  case c4 => exact rfl
  case c5 => decide
  intro h₁ F N
  dsimp only
  k_fold
  have F1 : Fr s.heap s.heap.objs.size h₁ (fun y => List.lookup y [(Str.ofString "depth", Value.int ((d : Int) + 1) tk2), (Str.ofString "is_root", Value.bool r), (Str.ofString "t", Value.int t tk1), (Str.ofString "node", Value.ref a)]) := F
  clear F
  iterate 3 ((try unfold qk); (try unfold ek); (try clear qk); (try clear ek))
  revert ih B TP hh hd hu X hQ hE hT tup kl ki vl vi cl clen cget cr s1 s2 s3 s4 N F1
  revert w p loose mean mg mb d t r tk1 tk2 A base outer s Q E ks vs cs a ak av ac kvs vvs cvs h₁
  exact hCut1.out⟩
namespace S11
@[irreducible] noncomputable def tupl := pk28 cutS1.Q1 rfl (by have := w_ne; have := s_ne; have := a_ne; have := g_ne; have := dr_ne; have := t_ne; have := p_ne; infer_instance)
@[irreducible] noncomputable def w := tupl.1
@[irreducible] noncomputable def p := tupl.2.1
@[irreducible] noncomputable def loose := tupl.2.2.1
@[irreducible] noncomputable def mean := tupl.2.2.2.1
@[irreducible] noncomputable def mg := tupl.2.2.2.2.1
@[irreducible] noncomputable def mb := tupl.2.2.2.2.2.1
@[irreducible] noncomputable def d := tupl.2.2.2.2.2.2.1
@[irreducible] noncomputable def t := tupl.2.2.2.2.2.2.2.1
@[irreducible] noncomputable def r := tupl.2.2.2.2.2.2.2.2.1
@[irreducible] noncomputable def tk1 := tupl.2.2.2.2.2.2.2.2.2.1
@[irreducible] noncomputable def tk2 := tupl.2.2.2.2.2.2.2.2.2.2.1
@[irreducible] noncomputable def A := tupl.2.2.2.2.2.2.2.2.2.2.2.1
@[irreducible] noncomputable def base := tupl.2.2.2.2.2.2.2.2.2.2.2.2.1
@[irreducible] noncomputable def outer := tupl.2.2.2.2.2.2.2.2.2.2.2.2.2.1
@[irreducible] noncomputable def s := tupl.2.2.2.2.2.2.2.2.2.2.2.2.2.2.1
@[irreducible] noncomputable def Q := tupl.2.2.2.2.2.2.2.2.2.2.2.2.2.2.2.1
@[irreducible] noncomputable def E := tupl.2.2.2.2.2.2.2.2.2.2.2.2.2.2.2.2.1
@[irreducible] noncomputable def ks := tupl.2.2.2.2.2.2.2.2.2.2.2.2.2.2.2.2.2.1
@[irreducible] noncomputable def vs := tupl.2.2.2.2.2.2.2.2.2.2.2.2.2.2.2.2.2.2.1
@[irreducible] noncomputable def cs := tupl.2.2.2.2.2.2.2.2.2.2.2.2.2.2.2.2.2.2.2.1
@[irreducible] noncomputable def a := tupl.2.2.2.2.2.2.2.2.2.2.2.2.2.2.2.2.2.2.2.2.1
@[irreducible] noncomputable def ak := tupl.2.2.2.2.2.2.2.2.2.2.2.2.2.2.2.2.2.2.2.2.2.1
@[irreducible] noncomputable def av := tupl.2.2.2.2.2.2.2.2.2.2.2.2.2.2.2.2.2.2.2.2.2.2.1
@[irreducible] noncomputable def ac := tupl.2.2.2.2.2.2.2.2.2.2.2.2.2.2.2.2.2.2.2.2.2.2.2.1
@[irreducible] noncomputable def kvs := tupl.2.2.2.2.2.2.2.2.2.2.2.2.2.2.2.2.2.2.2.2.2.2.2.2.1
@[irreducible] noncomputable def vvs := tupl.2.2.2.2.2.2.2.2.2.2.2.2.2.2.2.2.2.2.2.2.2.2.2.2.2.1
@[irreducible] noncomputable def cvs := tupl.2.2.2.2.2.2.2.2.2.2.2.2.2.2.2.2.2.2.2.2.2.2.2.2.2.2.1
@[irreducible] noncomputable def h₁ := tupl.2.2.2.2.2.2.2.2.2.2.2.2.2.2.2.2.2.2.2.2.2.2.2.2.2.2.2
noncomputable def QQ : Prop := ap28 cutS1.Q1 rfl w p loose mean mg mb d t r tk1 tk2 A base outer s Q E ks vs cs a ak av ac kvs vvs cvs h₁
theorem back (h : QQ) : cutS1.Q1 := bk28 rfl (by have := w_ne; have := s_ne; have := a_ne; have := g_ne; have := dr_ne; have := t_ne; have := p_ne; infer_instance) (by with_unfolding_all exact h)
theorem finL : QQ := by
  w_top off
  intro ih B TP hh hd hu X hQ hE hT tup kl ki vl vi cl clen cget cr s1 s2 s3 s4 N F1
  revert X
  k_fill
  intro X
  (try k_fold)
  k_steps
  · refine hQ _ _ _ ?_ (Fr.keep (by assumption))
    rw [if_pos (by (first | lia | omega))]
  · (rename Fr _ _ _ _ => F')
    (rename News _ _ _ _ => N')
    have heq : vs.length = ks.length := by (first | lia | omega)
    rw [if_neg (by (first | lia | omega))] at hQ hE
    refine ne_nil (by obtain ⟨as, q⟩ := cr; exact ⟨as, Reads.keeps F'.keep q⟩) (News.isList N' (.head _)) (by show A.units + 3 + 64 < cLine; (first | lia | omega)) ?_
    cases he : cs.isEmpty with
    | true =>
      rw [if_neg (by simp [he])] at hQ hE
      k_steps
      · exact hQ _ _ _ (by rw [if_pos (by (first | lia | omega))]) (Fr.keep (by assumption))
      · (rename r = true => hr)
        rw [if_neg (by (first | lia | omega)), if_neg (by simp [hr])] at hQ hE
        (rename Fr _ _ _ _ => F')
        (rename News _ _ _ _ => N')
        refine iterVS [] (fun i => ∀ (j : Nat) c, j < i → cs[j]? = some c → shapeOk d c t false = some true) (by exact hh) cl F' N' (fun j c hj => absurd hj (by (first | lia | omega))) ?_ ?_
        · intro i v u h tk I oI hv hP hn F₁ N₁
          k_fold
          have hi : i < cs.length := by rw [← clen]; exact (List.getElem?_eq_some_iff.mp hv).1
          obtain ⟨v', hv', hTc⟩ := cget i cs[i] (List.getElem?_eq_getElem hi)
          obtain rfl : v = v' := Option.some.inj (hv.symm.trans hv')
          clear F' N'
          k_steps
          have e1 : ((d : Int) + 1 - 1) = (d : Int) := by (first | lia | omega)
          rw [e1]
          refine ih cs[i] t false v _ _ _ base _ _ _ _ (B.push F₁ rfl) (X.keeps F₁.keep) (TP.keeps F₁.keep) hh (by show A.depth + 1 + d + 1 < recursionLimit; (first | lia | omega)) (by show A.units + 3 + 8 * d + 200 < cLine; (first | lia | omega)) (hTc.keeps F₁.keep) (s4 _ (List.getElem_mem hi)) ?_ ?_
          · intro b h' tk' hb hk
            have F₂ := F₁.keeps hk
            have N₂ : News s.heap s.heap.objs.size h' _ := News.kept N₁ hk
            cases b with
            | true =>
              k_steps
              refine turnEnd hn F₂ N₂ (fun p hp => hp) (fun z h1 h2 => by simp [h1]) ?_
              intro j c hj e
              by_cases hji : j < i
              · exact hP j c hji e
              · obtain rfl : j = i := by (first | lia | omega)
                rw [List.getElem?_eq_getElem hi] at e
                cases e; exact hb
            | false =>
              k_steps
              refine hQ _ _ _ ?_ F₂.keep
              rw [allM_stop hP (List.getElem?_eq_getElem hi) (by rw [hb]; simp)]; exact hb
          · intro e h' tk' hb hfl
            obtain ⟨t', vs', R', U'⟩ := hfl
            refine leave_onS B F₁ R' U' ?_
            intro h'' R'' _ U''
            exact hE _ _ _ (by rw [allM_stop hP (List.getElem?_eq_getElem hi) (by rw [hb]; simp)]; exact hb) ⟨_, _, R'', U''⟩
        · intro u h tk hP F₁ N₁
          k_steps
          refine hQ _ _ _ (allM_full fun j c hj e => hP j c (by rw [clen]; exact hj) e) F₁.keep
      · (rename r = false => hr)
        exact hQ _ _ _ (by rw [if_neg (by (first | lia | omega)), if_pos ⟨hr, by (first | lia | omega)⟩]) (Fr.keep (by assumption))
      · rw [if_neg (by (first | lia | omega)), if_neg (by (first | lia | omega))] at hQ hE
        (rename Fr _ _ _ _ => F')
        (rename News _ _ _ _ => N')
        refine iterVS [] (fun i => ∀ (j : Nat) c, j < i → cs[j]? = some c → shapeOk d c t false = some true) (by exact hh) cl F' N' (fun j c hj => absurd hj (by (first | lia | omega))) ?_ ?_
        · intro i v u h tk I oI hv hP hn F₁ N₁
          k_fold
          have hi : i < cs.length := by rw [← clen]; exact (List.getElem?_eq_some_iff.mp hv).1
          obtain ⟨v', hv', hTc⟩ := cget i cs[i] (List.getElem?_eq_getElem hi)
          obtain rfl : v = v' := Option.some.inj (hv.symm.trans hv')
          clear F' N'
          k_steps
          have e1 : ((d : Int) + 1 - 1) = (d : Int) := by (first | lia | omega)
          rw [e1]
          refine ih cs[i] t false v _ _ _ base _ _ _ _ (B.push F₁ rfl) (X.keeps F₁.keep) (TP.keeps F₁.keep) hh (by show A.depth + 1 + d + 1 < recursionLimit; (first | lia | omega)) (by show A.units + 3 + 8 * d + 200 < cLine; (first | lia | omega)) (hTc.keeps F₁.keep) (s4 _ (List.getElem_mem hi)) ?_ ?_
          · intro b h' tk' hb hk
            have F₂ := F₁.keeps hk
            have N₂ : News s.heap s.heap.objs.size h' _ := News.kept N₁ hk
            cases b with
            | true =>
              k_steps
              refine turnEnd hn F₂ N₂ (fun p hp => hp) (fun z h1 h2 => by simp [h1]) ?_
              intro j c hj e
              by_cases hji : j < i
              · exact hP j c hji e
              · obtain rfl : j = i := by (first | lia | omega)
                rw [List.getElem?_eq_getElem hi] at e
                cases e; exact hb
            | false =>
              k_steps
              refine hQ _ _ _ ?_ F₂.keep
              rw [allM_stop hP (List.getElem?_eq_getElem hi) (by rw [hb]; simp)]; exact hb
          · intro e h' tk' hb hfl
            obtain ⟨t', vs', R', U'⟩ := hfl
            refine leave_onS B F₁ R' U' ?_
            intro h'' R'' _ U''
            exact hE _ _ _ (by rw [allM_stop hP (List.getElem?_eq_getElem hi) (by rw [hb]; simp)]; exact hb) ⟨_, _, R'', U''⟩
        · intro u h tk hP F₁ N₁
          k_steps
          refine hQ _ _ _ (allM_full fun j c hj e => hP j c (by rw [clen]; exact hj) e) F₁.keep
    | false =>
      k_steps
      refine len_list (Fr.lst (by assumption) cl) (by simp; (first | lia | omega)) ?_
      have hsz : cvs.toArray.size = cs.length := by simp [clen]
      rw [hsz]
      k_steps
      · exact hQ _ _ _ (by rw [if_pos ⟨he, by (first | lia | omega)⟩]) (Fr.keep (by assumption))
      · exact hQ _ _ _ (by rw [if_neg (by (first | lia | omega)), if_pos (by (first | lia | omega))]) (Fr.keep (by assumption))
      · (rename r = true => hr)
        rw [if_neg (by (first | lia | omega)), if_neg (by (first | lia | omega)), if_neg (by simp [hr])] at hQ hE
        (rename Fr _ _ _ _ => F')
        (rename News _ _ _ _ => N')
        refine iterVS [] (fun i => ∀ (j : Nat) c, j < i → cs[j]? = some c → shapeOk d c t false = some true) (by exact hh) cl F' N' (fun j c hj => absurd hj (by (first | lia | omega))) ?_ ?_
        · intro i v u h tk I oI hv hP hn F₁ N₁
          k_fold
          have hi : i < cs.length := by rw [← clen]; exact (List.getElem?_eq_some_iff.mp hv).1
          obtain ⟨v', hv', hTc⟩ := cget i cs[i] (List.getElem?_eq_getElem hi)
          obtain rfl : v = v' := Option.some.inj (hv.symm.trans hv')
          clear F' N'
          k_steps
          have e1 : ((d : Int) + 1 - 1) = (d : Int) := by (first | lia | omega)
          rw [e1]
          refine ih cs[i] t false v _ _ _ base _ _ _ _ (B.push F₁ rfl) (X.keeps F₁.keep) (TP.keeps F₁.keep) hh (by show A.depth + 1 + d + 1 < recursionLimit; (first | lia | omega)) (by show A.units + 3 + 8 * d + 200 < cLine; (first | lia | omega)) (hTc.keeps F₁.keep) (s4 _ (List.getElem_mem hi)) ?_ ?_
          · intro b h' tk' hb hk
            have F₂ := F₁.keeps hk
            have N₂ : News s.heap s.heap.objs.size h' _ := News.kept N₁ hk
            cases b with
            | true =>
              k_steps
              refine turnEnd hn F₂ N₂ (fun p hp => hp) (fun z h1 h2 => by simp [h1]) ?_
              intro j c hj e
              by_cases hji : j < i
              · exact hP j c hji e
              · obtain rfl : j = i := by (first | lia | omega)
                rw [List.getElem?_eq_getElem hi] at e
                cases e; exact hb
            | false =>
              k_steps
              refine hQ _ _ _ ?_ F₂.keep
              rw [allM_stop hP (List.getElem?_eq_getElem hi) (by rw [hb]; simp)]; exact hb
          · intro e h' tk' hb hfl
            obtain ⟨t', vs', R', U'⟩ := hfl
            refine leave_onS B F₁ R' U' ?_
            intro h'' R'' _ U''
            exact hE _ _ _ (by rw [allM_stop hP (List.getElem?_eq_getElem hi) (by rw [hb]; simp)]; exact hb) ⟨_, _, R'', U''⟩
        · intro u h tk hP F₁ N₁
          k_steps
          refine hQ _ _ _ (allM_full fun j c hj e => hP j c (by rw [clen]; exact hj) e) F₁.keep
      · (rename r = false => hr)
        exact hQ _ _ _ (by rw [if_neg (by (first | lia | omega)), if_neg (by (first | lia | omega)), if_pos ⟨hr, by (first | lia | omega)⟩]) (Fr.keep (by assumption))
      · rw [if_neg (by (first | lia | omega)), if_neg (by (first | lia | omega)), if_neg (by (first | lia | omega))] at hQ hE
        (rename Fr _ _ _ _ => F')
        (rename News _ _ _ _ => N')
        refine iterVS [] (fun i => ∀ (j : Nat) c, j < i → cs[j]? = some c → shapeOk d c t false = some true) (by exact hh) cl F' N' (fun j c hj => absurd hj (by (first | lia | omega))) ?_ ?_
        · intro i v u h tk I oI hv hP hn F₁ N₁
          k_fold
          have hi : i < cs.length := by rw [← clen]; exact (List.getElem?_eq_some_iff.mp hv).1
          obtain ⟨v', hv', hTc⟩ := cget i cs[i] (List.getElem?_eq_getElem hi)
          obtain rfl : v = v' := Option.some.inj (hv.symm.trans hv')
          clear F' N'
          k_steps
          have e1 : ((d : Int) + 1 - 1) = (d : Int) := by (first | lia | omega)
          rw [e1]
          refine ih cs[i] t false v _ _ _ base _ _ _ _ (B.push F₁ rfl) (X.keeps F₁.keep) (TP.keeps F₁.keep) hh (by show A.depth + 1 + d + 1 < recursionLimit; (first | lia | omega)) (by show A.units + 3 + 8 * d + 200 < cLine; (first | lia | omega)) (hTc.keeps F₁.keep) (s4 _ (List.getElem_mem hi)) ?_ ?_
          · intro b h' tk' hb hk
            have F₂ := F₁.keeps hk
            have N₂ : News s.heap s.heap.objs.size h' _ := News.kept N₁ hk
            cases b with
            | true =>
              k_steps
              refine turnEnd hn F₂ N₂ (fun p hp => hp) (fun z h1 h2 => by simp [h1]) ?_
              intro j c hj e
              by_cases hji : j < i
              · exact hP j c hji e
              · obtain rfl : j = i := by (first | lia | omega)
                rw [List.getElem?_eq_getElem hi] at e
                cases e; exact hb
            | false =>
              k_steps
              refine hQ _ _ _ ?_ F₂.keep
              rw [allM_stop hP (List.getElem?_eq_getElem hi) (by rw [hb]; simp)]; exact hb
          · intro e h' tk' hb hfl
            obtain ⟨t', vs', R', U'⟩ := hfl
            refine leave_onS B F₁ R' U' ?_
            intro h'' R'' _ U''
            exact hE _ _ _ (by rw [allM_stop hP (List.getElem?_eq_getElem hi) (by rw [hb]; simp)]; exact hb) ⟨_, _, R'', U''⟩
        · intro u h tk hP F₁ N₁
          k_steps
          refine hQ _ _ _ (allM_full fun j c hj e => hP j c (by rw [clen]; exact hj) e) F₁.keep
end S11
theorem all : StepS := back (cutS1.k ⟨S11.back (S11.finL)⟩)
end ShapeU
theorem shape_spec {w : World} {p : Program} {loose : List Str} {mean : ExcName → Option Value} {mg mb : Str → Option Value} : ∀ (d : Nat) (x : T) (t : Int) (r : Bool) (v : Value) (tk1 tk2 : Tok) (A : Around) (base : Heap) (outer : List Env) (s : Shared) (Q E : Value → Shared → Prop),
    Below A base outer s.heap → (hK w.params).In s.heap → Top p loose mean mg mb s.heap → A.handled = none → A.depth + d + 1 < recursionLimit → A.units + 8 * d + 200 < cLine → TAt s.heap v x → smD d x →
    (∀ b h' tk, shapeOk d x t r = some b → Keeps s.heap h' → Q (.bool b) { s with heap := h', toks := tk }) → (∀ e h' tk, shapeOk d x t r = none → Flies base s.heap outer e h' → E (.ref e) { s with heap := h', toks := tk }) →
    wpAny (model PySem.Challenge.rw_sx_zcanopy_6.row.prog w) A (call (.ref 34) [v, .int t tk1, .bool r, .int d tk2]) Q E s := fun d => by
  induction d with
  | zero => exact ShapeU.zero w p loose mean mg mb
  | succ d ih => exact ShapeU.all w p loose mean mg mb d ih
end Mine
set_option maxRecDepth 100000
set_option maxHeartbeats 8000000
set_option Elab.async false
namespace Mine
open PySem PySem.W PySem.Calls PyProof.Rows PySem.Spec

namespace Lv
noncomputable def LevP (w : World) (p : Program) (loose : List Str) (mean : ExcName → Option Value) (mg mb : Str → Option Value) (d : Nat) : Prop := ∀ (x : T) (v : Value) (tk2 : Tok) (A : Around) (base : Heap) (outer : List Env) (s : Shared) (Q E : Value → Shared → Prop),
    Below A base outer s.heap → (hK w.params).In s.heap → Top p loose mean mg mb s.heap → A.handled = none → A.depth + d + 1 < recursionLimit → A.units + 8 * d + 200 < cLine → TAt s.heap v x → smD d x →
    (∀ y ty h' tk, leafLevel d x = some y → Keeps s.heap h' → Q (.int y ty) { s with heap := h', toks := tk }) → (∀ e h' tk, leafLevel d x = none → Flies base s.heap outer e h' → E (.ref e) { s with heap := h', toks := tk }) →
    wpAny (model PySem.Challenge.rw_sx_zcanopy_6.row.prog w) A (call (.ref 48) [v, .int d tk2]) Q E s
theorem zero (w : World) (p : Program) (loose : List Str) (mean : ExcName → Option Value) (mg mb : Str → Option Value) : LevP w p loose mean mg mb 0 := by
  w_top off
  unfold LevP
  k_fill
  intro x v tk2 A base outer s Q E B X TP hh hd hu hT hS hQ hE
  refine wpAny_call ?_
  refine' enter X TP ?k6 ?k7 ?k8 ?k9 ?kB ?_ ?c2 ?c3 ?c4 ?c5
  case k6 => k_is
  case k7 => k_is
  case k8 => (first | lia | omega)
  case k9 => exact BindsTo.of_eq rfl
  case kB => exact locs rfl
  case c2 => exact rfl
  case c3 => exact rfl
  case c4 => exact rfl
  case c5 => decide
  intro h₁ F N
  dsimp only
  k_fold
  k_steps
  exact hE _ _ _ rfl ⟨_, _, by assumption, by assumption⟩
noncomputable def StepS : Prop := ∀ (w : World) (p : Program) (loose : List Str) (mean : ExcName → Option Value) (mg mb : Str → Option Value) (d : Nat), LevP w p loose mean mg mb d → ∀ (x : T) (v : Value) (tk2 : Tok) (A : Around) (base : Heap) (outer : List Env) (s : Shared) (Q E : Value → Shared → Prop),
    Below A base outer s.heap → (hK w.params).In s.heap → Top p loose mean mg mb s.heap → A.handled = none → A.depth + (d + 1) + 1 < recursionLimit → A.units + 8 * (d + 1) + 200 < cLine → TAt s.heap v x → smD (d + 1) x →
    (∀ y ty h' tk, leafLevel (d + 1) x = some y → Keeps s.heap h' → Q (.int y ty) { s with heap := h', toks := tk }) → (∀ e h' tk, leafLevel (d + 1) x = none → Flies base s.heap outer e h' → E (.ref e) { s with heap := h', toks := tk }) →
    wpAny (model PySem.Challenge.rw_sx_zcanopy_6.row.prog w) A (call (.ref 48) [v, .int ((d + 1 : Nat) : Int) tk2]) Q E s
noncomputable def QQ : Prop := StepS
theorem back (h : QQ) : StepS := h
noncomputable def cutS1 : Got1 QQ := ⟨_, by
  intro hCut1
  w_top off
  intro w p loose mean mg mb d ih x v tk2 A base outer s Q E B X TP hh hd hu hT hS hQ hE
  revert X
  k_fill
  intro X
  obtain ⟨ks, vs, cs⟩ := x
  obtain ⟨a, ak, av, ac, kvs, vvs, cvs, rfl, P⟩ := hT.parts
  obtain ⟨tup, kl, ki, vl, vi, cl, clen, cget, cr⟩ := P
  obtain ⟨s1, s2, s3, s4⟩ := hS
  clear kl ki vl vi s1 s2
  rw [leafLevel] at hQ hE
  refine wpAny_call ?_
  refine' enter X TP ?k6 ?k7 ?k8 ?k9 ?kB ?_ ?c2 ?c3 ?c4 ?c5
  case k6 => k_is
  case k7 => k_is
  case k8 => (first | lia | omega)
  case k9 => exact BindsTo.of_eq rfl
  case kB => exact locs rfl
  case c2 => exact rfl
  case c3 => exact rfl
  case c4 => exact rfl
  case c5 => decide
  intro h₁ F N
  dsimp only
  k_fold
  have F1 : Fr s.heap s.heap.objs.size h₁ (fun y => List.lookup y [(Str.ofString "depth", Value.int ((d : Int) + 1) tk2), (Str.ofString "node", Value.ref a)]) := F
  clear F
  iterate 3 ((try unfold qk); (try unfold ek); (try clear qk); (try clear ek))
  clear kvs vvs
  revert ih B TP hh hd hu X hQ hE hT tup cl clen cget cr s3 s4 N F1
  revert w p loose mean mg mb d tk2 A base outer s Q E ks vs cs a ak av ac cvs h₁
  exact hCut1.out⟩
namespace S11
@[irreducible] noncomputable def tupl := pk23 cutS1.Q1 rfl (by have := w_ne; have := s_ne; have := a_ne; have := g_ne; have := dr_ne; have := t_ne; have := p_ne; infer_instance)
@[irreducible] noncomputable def w := tupl.1
@[irreducible] noncomputable def p := tupl.2.1
@[irreducible] noncomputable def loose := tupl.2.2.1
@[irreducible] noncomputable def mean := tupl.2.2.2.1
@[irreducible] noncomputable def mg := tupl.2.2.2.2.1
@[irreducible] noncomputable def mb := tupl.2.2.2.2.2.1
@[irreducible] noncomputable def d := tupl.2.2.2.2.2.2.1
@[irreducible] noncomputable def tk2 := tupl.2.2.2.2.2.2.2.1
@[irreducible] noncomputable def A := tupl.2.2.2.2.2.2.2.2.1
@[irreducible] noncomputable def base := tupl.2.2.2.2.2.2.2.2.2.1
@[irreducible] noncomputable def outer := tupl.2.2.2.2.2.2.2.2.2.2.1
@[irreducible] noncomputable def s := tupl.2.2.2.2.2.2.2.2.2.2.2.1
@[irreducible] noncomputable def Q := tupl.2.2.2.2.2.2.2.2.2.2.2.2.1
@[irreducible] noncomputable def E := tupl.2.2.2.2.2.2.2.2.2.2.2.2.2.1
@[irreducible] noncomputable def ks := tupl.2.2.2.2.2.2.2.2.2.2.2.2.2.2.1
@[irreducible] noncomputable def vs := tupl.2.2.2.2.2.2.2.2.2.2.2.2.2.2.2.1
@[irreducible] noncomputable def cs := tupl.2.2.2.2.2.2.2.2.2.2.2.2.2.2.2.2.1
@[irreducible] noncomputable def a := tupl.2.2.2.2.2.2.2.2.2.2.2.2.2.2.2.2.2.1
@[irreducible] noncomputable def ak := tupl.2.2.2.2.2.2.2.2.2.2.2.2.2.2.2.2.2.2.1
@[irreducible] noncomputable def av := tupl.2.2.2.2.2.2.2.2.2.2.2.2.2.2.2.2.2.2.2.1
@[irreducible] noncomputable def ac := tupl.2.2.2.2.2.2.2.2.2.2.2.2.2.2.2.2.2.2.2.2.1
@[irreducible] noncomputable def cvs := tupl.2.2.2.2.2.2.2.2.2.2.2.2.2.2.2.2.2.2.2.2.2.1
@[irreducible] noncomputable def h₁ := tupl.2.2.2.2.2.2.2.2.2.2.2.2.2.2.2.2.2.2.2.2.2.2
noncomputable def QQ : Prop := ap23 cutS1.Q1 rfl w p loose mean mg mb d tk2 A base outer s Q E ks vs cs a ak av ac cvs h₁
theorem back (h : QQ) : cutS1.Q1 := bk23 rfl (by have := w_ne; have := s_ne; have := a_ne; have := g_ne; have := dr_ne; have := t_ne; have := p_ne; infer_instance) (by with_unfolding_all exact h)
theorem finL : QQ := by
  w_top off
  intro ih B TP hh hd hu X hQ hE hT tup cl clen cget cr s3 s4 N F1
  revert X
  k_fill
  intro X
  (try k_fold)
  k_steps
  · (rename Fr _ _ _ _ => F')
    (rename News _ _ _ _ => N')
    refine eq_nil (by obtain ⟨as, q⟩ := cr; exact ⟨as, Reads.keeps F'.keep q⟩) (News.isList N' (.head _)) (by show A.units + 3 + 64 < cLine; (first | lia | omega)) ?_
    cases he : cs.isEmpty with
    | true =>
      rw [if_pos he] at hQ hE
      k_steps
      exact hQ _ _ _ _ rfl (Fr.keep (by assumption))
    | false =>
      rw [if_neg (by simp [he])] at hQ hE
      have h0 : 0 < cs.length := List.length_pos_iff.mpr fun e => by rw [e] at he; cases he
      obtain ⟨v0, hv0, hT0⟩ := cget 0 (cs.getD 0 T.nil) (by simp [h0])
      k_steps
      refine item_listL (Fr.lst (by assumption) cl) (by decide) (by decide) hv0 ?_
      k_steps
      (rename Fr _ _ _ _ => F₁)
      (rename News _ _ _ _ => N₁)
      have e1 : ((d : Int) + 1 - 1) = (d : Int) := by (first | lia | omega)
      rw [e1]
      refine ih (cs.getD 0 T.nil) v0 _ _ base _ _ _ _ (B.push F₁ rfl) (X.keeps F₁.keep) (TP.keeps F₁.keep) hh (by show A.depth + 1 + d + 1 < recursionLimit; (first | lia | omega)) (by show A.units + 3 + 8 * d + 200 < cLine; (first | lia | omega)) (hT0.keeps F₁.keep) (s4 _ (getD_mem h0)) ?_ ?_
      · intro y ty h' tk' hb hk
        have F₂ := F₁.keeps hk
        have N₂ : News s.heap s.heap.objs.size h' _ := News.kept N₁ hk
        clear F₁ N₁
        rw [hb] at hQ hE
        dsimp only at hQ hE
        k_steps
        · exact hQ _ _ _ _ (by rw [if_pos (by assumption)]) (Fr.keep (by assumption))
        · rw [if_neg (by assumption)] at hQ hE
          refine len_list (Fr.lst (by assumption) cl) (by simp; (first | lia | omega)) ?_
          have hsz : cvs.toArray.size = cs.length := by simp [clen]
          rw [hsz]
          k_steps
          (rename Fr _ _ _ _ => F')
          (rename News _ _ _ _ => N')
          refine iterRS [] (fun i => ∀ (j : Nat) c, j < i → (cs.drop 1)[j]? = some c → leafLevel d c = some y) (by exact hh) (by assumption) (range_small1 (by (first | lia | omega)) h0) (range_size1 h0) F' N' (fun j c hj => absurd hj (by (first | lia | omega))) ?_ ?_
          · intro i t u h tk I oI hi hP hn F₁ N₁
            k_fold
            have hi' : i + 1 < cs.length := by (first | lia | omega)
            obtain ⟨v, hv, hTc⟩ := cget (i + 1) cs[i + 1] (List.getElem?_eq_getElem hi')
            have hdr : (cs.drop 1)[i]? = some cs[i + 1] := by rw [List.getElem?_drop, Nat.add_comm, List.getElem?_eq_getElem hi']
            clear F' N'
            k_steps
            refine item_listL (Fr.lst F₁ cl) (by (first | lia | omega)) (by (first | lia | omega)) (by rw [show ((1 : Int) + (i : Int)).toNat = i + 1 by (first | lia | omega)]; exact hv) ?_
            k_steps
            rw [e1]
            refine ih cs[i + 1] v _ _ base _ _ _ _ (B.push F₁ rfl) (X.keeps F₁.keep) (TP.keeps F₁.keep) hh (by show A.depth + 1 + d + 1 < recursionLimit; (first | lia | omega)) (by show A.units + 3 + 8 * d + 200 < cLine; (first | lia | omega)) (hTc.keeps F₁.keep) (s4 _ (List.getElem_mem hi')) ?_ ?_
            · intro y' ty' h' tk' hb' hk'
              have F₂ := F₁.keeps hk'
              have N₂ : News s.heap s.heap.objs.size h' _ := News.kept N₁ hk'
              clear F₁ N₁
              k_steps
              · (rename y' ≠ y => hyy)
                refine hQ _ _ _ _ ?_ F₂.keep
                rw [levM_stop hP hdr (by rw [hb']; simpa using hyy), hb']
              · (rename y' = y => hyy)
                refine turnEnd hn F₂ N₂ (fun p hp => hp) (fun z h1 h2 => by simp [h1]) ?_
                intro j c hj e
                by_cases hji : j < i
                · exact hP j c hji e
                · obtain rfl : j = i := by (first | lia | omega)
                  rw [hdr] at e
                  cases e; rw [hb', hyy]
            · intro e h' tk' hb' hfl
              obtain ⟨t', vs', R', U'⟩ := hfl
              refine leave_onS B F₁ R' U' ?_
              intro h'' R'' _ U''
              exact hE _ _ _ (by rw [levM_stop hP hdr (by rw [hb']; simp), hb']) ⟨_, _, R'', U''⟩
          · intro u h tk hP F₁ N₁
            k_steps
            refine hQ _ _ _ _ (levM_full fun j c hj e => hP j c (by simpa using hj) e) F₁.keep
      · intro e h' tk' hb hfl
        obtain ⟨t', vs', R', U'⟩ := hfl
        refine leave_onS B F₁ R' U' ?_
        intro h'' R'' _ U''
        exact hE _ _ _ (by rw [hb]) ⟨_, _, R'', U''⟩
end S11
theorem all : StepS := back (cutS1.k ⟨S11.back (S11.finL)⟩)
end Lv
theorem level_spec {w : World} {p : Program} {loose : List Str} {mean : ExcName → Option Value} {mg mb : Str → Option Value} : ∀ (d : Nat) (x : T) (v : Value) (tk2 : Tok) (A : Around) (base : Heap) (outer : List Env) (s : Shared) (Q E : Value → Shared → Prop),
    Below A base outer s.heap → (hK w.params).In s.heap → Top p loose mean mg mb s.heap → A.handled = none → A.depth + d + 1 < recursionLimit → A.units + 8 * d + 200 < cLine → TAt s.heap v x → smD d x →
    (∀ y ty h' tk, leafLevel d x = some y → Keeps s.heap h' → Q (.int y ty) { s with heap := h', toks := tk }) → (∀ e h' tk, leafLevel d x = none → Flies base s.heap outer e h' → E (.ref e) { s with heap := h', toks := tk }) →
    wpAny (model PySem.Challenge.rw_sx_zcanopy_6.row.prog w) A (call (.ref 48) [v, .int d tk2]) Q E s := fun d => by
  induction d with
  | zero => exact Lv.zero w p loose mean mg mb
  | succ d ih => exact Lv.all w p loose mean mg mb d ih
end Mine
set_option maxRecDepth 100000
set_option maxHeartbeats 8000000
set_option Elab.async false
namespace Mine
open PySem PySem.W PySem.Calls PyProof.Rows PySem.Spec

namespace KeysU
noncomputable def KeysP (w : World) (p : Program) (loose : List Str) (mean : ExcName → Option Value) (mg mb : Str → Option Value) (d : Nat) : Prop := ∀ (x : T) (lo hi : Option Int) (v : Value) (tl th tk2 : Tok) (A : Around) (base : Heap) (outer : List Env) (s : Shared) (Q E : Value → Shared → Prop),
    Below A base outer s.heap → (hK w.params).In s.heap → Top p loose mean mg mb s.heap → A.handled = none → A.depth + d + 1 < recursionLimit → A.units + 8 * d + 200 < cLine → TAt s.heap v x → smD d x → wf0 d x →
    (∀ b h' tk, keysOk d x lo hi = some b → Keeps s.heap h' → Q (.bool b) { s with heap := h', toks := tk }) → (∀ e h' tk, keysOk d x lo hi = none → Flies base s.heap outer e h' → E (.ref e) { s with heap := h', toks := tk }) →
    wpAny (model PySem.Challenge.rw_sx_zcanopy_6.row.prog w) A (call (.ref 41) [v, bndV lo tl, bndV hi th, .int d tk2]) Q E s
theorem zero (w : World) (p : Program) (loose : List Str) (mean : ExcName → Option Value) (mg mb : Str → Option Value) : KeysP w p loose mean mg mb 0 := by
  w_top off
  unfold KeysP
  k_fill
  intro x lo hi v tl th tk2 A base outer s Q E B X TP hh hd hu hT hS hW hQ hE
  refine wpAny_call ?_
  refine' enter X TP ?k6 ?k7 ?k8 ?k9 ?kB ?_ ?c2 ?c3 ?c4 ?c5
  case k6 => k_is
  case k7 => k_is
  case k8 => (first | lia | omega)
  case k9 => exact BindsTo.of_eq rfl
  case kB => exact locs rfl
  case c2 => exact rfl
  case c3 => exact rfl
  case c4 => exact rfl
  case c5 => decide
  intro h₁ F N
  dsimp only
  k_fold
  k_steps
  exact hE _ _ _ rfl ⟨_, _, by assumption, by assumption⟩
noncomputable def StepS : Prop := ∀ (w : World) (p : Program) (loose : List Str) (mean : ExcName → Option Value) (mg mb : Str → Option Value) (d : Nat), KeysP w p loose mean mg mb d → ∀ (x : T) (lo hi : Option Int) (v : Value) (tl th tk2 : Tok) (A : Around) (base : Heap) (outer : List Env) (s : Shared) (Q E : Value → Shared → Prop),
    Below A base outer s.heap → (hK w.params).In s.heap → Top p loose mean mg mb s.heap → A.handled = none → A.depth + (d + 1) + 1 < recursionLimit → A.units + 8 * (d + 1) + 200 < cLine → TAt s.heap v x → smD (d + 1) x → wf0 (d + 1) x →
    (∀ b h' tk, keysOk (d + 1) x lo hi = some b → Keeps s.heap h' → Q (.bool b) { s with heap := h', toks := tk }) → (∀ e h' tk, keysOk (d + 1) x lo hi = none → Flies base s.heap outer e h' → E (.ref e) { s with heap := h', toks := tk }) →
    wpAny (model PySem.Challenge.rw_sx_zcanopy_6.row.prog w) A (call (.ref 41) [v, bndV lo tl, bndV hi th, .int ((d + 1 : Nat) : Int) tk2]) Q E s
noncomputable def QQ : Prop := StepS
theorem back (h : QQ) : StepS := h
noncomputable def cutS1 : Got1 QQ := ⟨_, by
  intro hCut1
  w_top off
  intro w p loose mean mg mb d ih x lo hi v tl th tk2 A base outer s Q E B X TP hh hd hu hT hS hW hQ hE
  revert X
  k_fill
  intro X
  obtain ⟨ks, vs, cs⟩ := x
  obtain ⟨a, ak, av, ac, kvs, vvs, cvs, rfl, P⟩ := hT.parts
  obtain ⟨tup, kl, ki, vl, vi, cl, clen, cget, cr⟩ := P
  obtain ⟨s1, s2, s3, s4⟩ := hS
  obtain ⟨w1, w2, w3⟩ := hW
  clear vl vi s2 w1 cr
  rw [keysOk] at hQ hE
  refine wpAny_call ?_
  refine' enter X TP ?k6 ?k7 ?k8 ?k9 ?kB ?_ ?c2 ?c3 ?c4 ?c5
  case k6 => k_is
  case k7 => k_is
  case k8 => (first | lia | omega)
  case k9 => exact BindsTo.of_eq rfl
  case kB => exact locs rfl
  case c2 => exact rfl
  case c3 => exact rfl
  case c4 => exact rfl
  case c5 => decide
  intro h₁ F N
  dsimp only
  k_fold
  have F1 : Fr s.heap s.heap.objs.size h₁ (fun y => List.lookup y [(Str.ofString "depth", Value.int ((d : Int) + 1) tk2), (Str.ofString "high", bndV hi th), (Str.ofString "low", bndV lo tl), (Str.ofString "node", Value.ref a)]) := F
  clear F
  iterate 3 ((try unfold qk); (try unfold ek); (try clear qk); (try clear ek))
  clear vvs
  revert ih lo hi B TP hh hd hu X hQ hE hT tup kl ki cl clen cget s1 s3 s4 w2 w3 N F1
  revert w p loose mean mg mb d tl th tk2 A base outer s Q E ks vs cs a ak av ac kvs cvs h₁
  exact hCut1.out⟩
namespace S11
@[irreducible] noncomputable def tupl := pk26 cutS1.Q1 rfl (by have := w_ne; have := s_ne; have := a_ne; have := g_ne; have := dr_ne; have := t_ne; have := p_ne; infer_instance)
@[irreducible] noncomputable def w := tupl.1
@[irreducible] noncomputable def p := tupl.2.1
@[irreducible] noncomputable def loose := tupl.2.2.1
@[irreducible] noncomputable def mean := tupl.2.2.2.1
@[irreducible] noncomputable def mg := tupl.2.2.2.2.1
@[irreducible] noncomputable def mb := tupl.2.2.2.2.2.1
@[irreducible] noncomputable def d := tupl.2.2.2.2.2.2.1
@[irreducible] noncomputable def tl := tupl.2.2.2.2.2.2.2.1
@[irreducible] noncomputable def th := tupl.2.2.2.2.2.2.2.2.1
@[irreducible] noncomputable def tk2 := tupl.2.2.2.2.2.2.2.2.2.1
@[irreducible] noncomputable def A := tupl.2.2.2.2.2.2.2.2.2.2.1
@[irreducible] noncomputable def base := tupl.2.2.2.2.2.2.2.2.2.2.2.1
@[irreducible] noncomputable def outer := tupl.2.2.2.2.2.2.2.2.2.2.2.2.1
@[irreducible] noncomputable def s := tupl.2.2.2.2.2.2.2.2.2.2.2.2.2.1
@[irreducible] noncomputable def Q := tupl.2.2.2.2.2.2.2.2.2.2.2.2.2.2.1
@[irreducible] noncomputable def E := tupl.2.2.2.2.2.2.2.2.2.2.2.2.2.2.2.1
@[irreducible] noncomputable def ks := tupl.2.2.2.2.2.2.2.2.2.2.2.2.2.2.2.2.1
@[irreducible] noncomputable def vs := tupl.2.2.2.2.2.2.2.2.2.2.2.2.2.2.2.2.2.1
@[irreducible] noncomputable def cs := tupl.2.2.2.2.2.2.2.2.2.2.2.2.2.2.2.2.2.2.1
@[irreducible] noncomputable def a := tupl.2.2.2.2.2.2.2.2.2.2.2.2.2.2.2.2.2.2.2.1
@[irreducible] noncomputable def ak := tupl.2.2.2.2.2.2.2.2.2.2.2.2.2.2.2.2.2.2.2.2.1
@[irreducible] noncomputable def av := tupl.2.2.2.2.2.2.2.2.2.2.2.2.2.2.2.2.2.2.2.2.2.1
@[irreducible] noncomputable def ac := tupl.2.2.2.2.2.2.2.2.2.2.2.2.2.2.2.2.2.2.2.2.2.2.1
@[irreducible] noncomputable def kvs := tupl.2.2.2.2.2.2.2.2.2.2.2.2.2.2.2.2.2.2.2.2.2.2.2.1
@[irreducible] noncomputable def cvs := tupl.2.2.2.2.2.2.2.2.2.2.2.2.2.2.2.2.2.2.2.2.2.2.2.2.1
@[irreducible] noncomputable def h₁ := tupl.2.2.2.2.2.2.2.2.2.2.2.2.2.2.2.2.2.2.2.2.2.2.2.2.2
noncomputable def QQ : Prop := ap26 cutS1.Q1 rfl w p loose mean mg mb d tl th tk2 A base outer s Q E ks vs cs a ak av ac kvs cvs h₁
theorem back (h : QQ) : cutS1.Q1 := bk26 rfl (by have := w_ne; have := s_ne; have := a_ne; have := g_ne; have := dr_ne; have := t_ne; have := p_ne; infer_instance) (by with_unfolding_all exact h)
noncomputable def cutL : Got2 QQ := ⟨_, _, by
  intro hCut1 hCut2
  w_top off
  intro ih lo hi B TP hh hd hu X hQ hE hT tup kl ki cl clen cget s1 s3 s4 w2 w3 N F1
  revert X
  k_fill
  intro X
  (try k_fold)
  k_steps
  · (rename Fr _ _ _ _ => F')
    (rename News _ _ _ _ => N')
    refine iterRS [] (fun i => ∀ (j : Nat), j < i → keyGood lo hi ks j = true) (by exact hh) (by assumption) (range_small (by (first | lia | omega))) (range_size (by (first | lia | omega))) F' N' (fun j hj => absurd hj (by (first | lia | omega))) ?_ ?_
    · intro i t u h tk I oI hi' hP hn F₁ N₁
      k_fold
      clear F' N'
      have hbad : keyGood lo hi ks i = false → rowOk lo hi ks = false := fun q => rowOk_bad hi' q
      have g2 : ks.getD (0 + (i : Int)).toNat 0 = ks.getD i 0 := by rw [show (0 + (i : Int)).toNat = i by (first | lia | omega)]
      have g3 : ks.getD (0 + (i : Int) - 1).toNat 0 = ks.getD (i - 1) 0 := by rw [show (0 + (i : Int) - 1).toNat = i - 1 by (first | lia | omega)]
      iterate 3 ((try unfold qk); (try unfold ek); (try clear qk); (try clear ek))
      rename_i zL1x0 zL1x1 zL1x2 zL1x3 zL1x4 zL1x5 zL1x6 zL1x7 zL1x8 zL1x9 zL1x10 zL1x11 zL1x12
      clear zL1x0 zL1x1 zL1x12
      revert ih lo hi B TP hh hd hu hQ hE hT tup kl ki cl clen cget s1 s3 s4 w2 w3 X zL1x3 zL1x4 zL1x11 hi' hP hn F₁ N₁ hbad g2 g3
      revert zL1x2 zL1x5 zL1x6 zL1x7 zL1x8 zL1x9 zL1x10 i t u h tk I oI
      exact hCut1.out
    · intro u h tk hP F₁ N₁
      rw [if_pos (rowOk_good hP)] at hQ hE
      clear F' N' hP
      k_steps
      refine len_list (Fr.lst (by assumption) cl) (by simp; (first | lia | omega)) ?_
      have hsz : cvs.toArray.size = cs.length := by simp [clen]
      rw [hsz]
      k_steps
      (rename Fr _ _ _ _ => F')
      (rename News _ _ _ _ => N')
      have e1 : ((d : Int) + 1 - 1) = (d : Int) := by (first | lia | omega)
      refine iterRS [Str.ofString "child_low", Str.ofString "child_high"] (fun i => ∀ (j : Nat), j < i → keysOk d (cs.getD j T.nil) (winLo lo ks j) (winHi hi ks j) = some true) (by exact hh) (by assumption) (range_small (by (first | lia | omega))) (range_size (by (first | lia | omega))) F' N' (fun j hj => absurd hj (by (first | lia | omega))) ?_ ?_
      · intro i t u h tk I oI hi' hP hn F₁ N₁
        k_fold
        clear F' N'
        have g2 : ks.getD (0 + (i : Int)).toNat 0 = ks.getD i 0 := by rw [show (0 + (i : Int)).toNat = i by (first | lia | omega)]
        have g3 : ks.getD (0 + (i : Int) - 1).toNat 0 = ks.getD (i - 1) 0 := by rw [show (0 + (i : Int) - 1).toNat = i - 1 by (first | lia | omega)]
        have hle : i ≤ ks.length := by
          rcases w2 with q | q
          · rw [q] at hi'; simp at hi'
          · (first | lia | omega)
        obtain ⟨v, hv, hTc⟩ := cget i cs[i] (List.getElem?_eq_getElem hi')
        have hgd : cs.getD i T.nil = cs[i] := by simp [hi']
        have hstop : ∀ {r : Option Bool}, keysOk d (cs.getD i T.nil) (winLo lo ks i) (winHi hi ks i) = r → r ≠ some true → allM (fun i => keysOk d (cs.getD i T.nil) (winLo lo ks i) (winHi hi ks i)) (List.range cs.length) = r := by
          intro r e hn
          rw [allM_stop (f := fun i => keysOk d (cs.getD i T.nil) (winLo lo ks i) (winHi hi ks i)) (cs := List.range cs.length) (i := i) (c := i) (fun j c hj ej => by
            have : c = j := by
              have hlt : j < cs.length := by (first | lia | omega)
              rw [List.getElem?_eq_getElem (by simpa using hlt)] at ej
              simpa using ej.symm
            subst this; exact hP _ hj) (by rw [List.getElem?_eq_getElem (by simpa using hi')]; simp) (by rw [e]; exact hn)]
          exact e
        iterate 3 ((try unfold qk); (try unfold ek); (try clear qk); (try clear ek))
        rename_i zL2x0 zL2x1 zL2x2 zL2x3 zL2x4 zL2x5 zL2x6 zL2x7 zL2x8 zL2x9 zL2x10 zL2x11 zL2x12 zL2x13 zL2x14 zL2x15 zL2x16 zL2x17 zL2x18 zL2x19 zL2x20 zL2x21 zL2x22 zL2x23 zL2x24
        clear zL2x0 zL2x1 zL2x7 zL2x12 zL2x24
        revert ih lo hi B TP hh hd hu hQ hE hT tup kl ki cl clen cget s1 s3 s4 w2 w3 X zL2x3 zL2x4 zL2x11 zL2x16 zL2x17 hsz zL2x23 e1 hi' hP hn F₁ N₁ g2 g3 hle hv hTc hgd hstop
        revert zL2x2 zL2x5 zL2x6 zL2x8 zL2x9 zL2x10 zL2x13 zL2x14 zL2x15 zL2x18 zL2x19 zL2x20 zL2x21 zL2x22 i t u h tk I oI v
        exact hCut2.out
      · intro u h tk hP F₁ N₁
        k_steps
        refine hQ _ _ _ (allM_full fun j c hj e => ?_) F₁.keep
        have hlt : j < cs.length := by simpa using hj
        rw [List.getElem?_eq_getElem (by simpa using hlt)] at e
        have : c = j := by simpa using e.symm
        subst this; exact hP _ hlt⟩
end S11
namespace S11.L1
@[irreducible] noncomputable def tupl := pk14 cutL.Q1 rfl (by have := w_ne; have := s_ne; have := a_ne; have := g_ne; have := dr_ne; have := t_ne; have := p_ne; infer_instance)
@[irreducible] noncomputable def zL1x2 := tupl.1
@[irreducible] noncomputable def zL1x5 := tupl.2.1
@[irreducible] noncomputable def zL1x6 := tupl.2.2.1
@[irreducible] noncomputable def zL1x7 := tupl.2.2.2.1
@[irreducible] noncomputable def zL1x8 := tupl.2.2.2.2.1
@[irreducible] noncomputable def zL1x9 := tupl.2.2.2.2.2.1
@[irreducible] noncomputable def zL1x10 := tupl.2.2.2.2.2.2.1
@[irreducible] noncomputable def i := tupl.2.2.2.2.2.2.2.1
@[irreducible] noncomputable def t := tupl.2.2.2.2.2.2.2.2.1
@[irreducible] noncomputable def u := tupl.2.2.2.2.2.2.2.2.2.1
@[irreducible] noncomputable def h := tupl.2.2.2.2.2.2.2.2.2.2.1
@[irreducible] noncomputable def tk := tupl.2.2.2.2.2.2.2.2.2.2.2.1
@[irreducible] noncomputable def I := tupl.2.2.2.2.2.2.2.2.2.2.2.2.1
@[irreducible] noncomputable def oI := tupl.2.2.2.2.2.2.2.2.2.2.2.2.2
noncomputable def QQ : Prop := ap14 cutL.Q1 rfl zL1x2 zL1x5 zL1x6 zL1x7 zL1x8 zL1x9 zL1x10 i t u h tk I oI
theorem back (h : QQ) : cutL.Q1 := bk14 rfl (by have := w_ne; have := s_ne; have := a_ne; have := g_ne; have := dr_ne; have := t_ne; have := p_ne; infer_instance) (by with_unfolding_all exact h)
theorem finT1 : QQ := by
  w_top off
  intro ih lo hi B TP hh hd hu hQ hE hT tup kl ki cl clen cget s1 s3 s4 w2 w3 X zL1x3 zL1x4 zL1x11 hi' hP hn F₁ N₁ hbad g2 g3
  revert X
  k_fill
  intro X
  (try k_fold)
  cases lo with
  | none =>
    cases hi with
    | none =>
      have F₂ : Fr s.heap s.heap.objs.size h (fun y => if y = Str.ofString "i" then some (Value.int (0 + (i : Int)) t) else if y = Str.ofString "children" then some (Value.ref ac) else if y = Str.ofString "keys" then some (Value.ref ak) else List.lookup y [(Str.ofString "depth", Value.int ((d : Int) + 1) tk2), (Str.ofString "high", Value.none), (Str.ofString "low", Value.none), (Str.ofString "node", Value.ref a)]) := F₁
      clear F₁
      k_steps
      all_goals first
        | (refine turnEnd hn (by assumption) (by assumption) (fun p hp => hp) (fun z h1 h2 => by simp [h1, bndV]) ?_
           intro j hj
           by_cases hji : j < i
           · exact hP j hji
           · obtain rfl : j = i := by (first | lia | omega)
             exact kg_iff.mpr ⟨by (first | lia | omega), fun l e => by cases e <;> (first | lia | omega), fun h e => by cases e <;> (first | lia | omega)⟩)
        | (refine hQ _ _ _ ?_ (Fr.keep (by assumption))
           rw [if_neg]
           rw [hbad]
           · simp
           · rw [Bool.eq_false_iff, ne_eq, kg_iff]
             rintro ⟨q1, q2, q3⟩
             (try have q4 := q2 _ rfl)
             (try have q5 := q3 _ rfl)
             (first | lia | omega))
    | some hv =>
      have F₂ : Fr s.heap s.heap.objs.size h (fun y => if y = Str.ofString "i" then some (Value.int (0 + (i : Int)) t) else if y = Str.ofString "children" then some (Value.ref ac) else if y = Str.ofString "keys" then some (Value.ref ak) else List.lookup y [(Str.ofString "depth", Value.int ((d : Int) + 1) tk2), (Str.ofString "high", Value.int hv th), (Str.ofString "low", Value.none), (Str.ofString "node", Value.ref a)]) := F₁
      clear F₁
      k_steps
      all_goals first
        | (refine turnEnd hn (by assumption) (by assumption) (fun p hp => hp) (fun z h1 h2 => by simp [h1, bndV]) ?_
           intro j hj
           by_cases hji : j < i
           · exact hP j hji
           · obtain rfl : j = i := by (first | lia | omega)
             exact kg_iff.mpr ⟨by (first | lia | omega), fun l e => by cases e <;> (first | lia | omega), fun h e => by cases e <;> (first | lia | omega)⟩)
        | (refine hQ _ _ _ ?_ (Fr.keep (by assumption))
           rw [if_neg]
           rw [hbad]
           · simp
           · rw [Bool.eq_false_iff, ne_eq, kg_iff]
             rintro ⟨q1, q2, q3⟩
             (try have q4 := q2 _ rfl)
             (try have q5 := q3 _ rfl)
             (first | lia | omega))
  | some lv =>
    cases hi with
    | none =>
      have F₂ : Fr s.heap s.heap.objs.size h (fun y => if y = Str.ofString "i" then some (Value.int (0 + (i : Int)) t) else if y = Str.ofString "children" then some (Value.ref ac) else if y = Str.ofString "keys" then some (Value.ref ak) else List.lookup y [(Str.ofString "depth", Value.int ((d : Int) + 1) tk2), (Str.ofString "high", Value.none), (Str.ofString "low", Value.int lv tl), (Str.ofString "node", Value.ref a)]) := F₁
      clear F₁
      k_steps
      all_goals first
        | (refine turnEnd hn (by assumption) (by assumption) (fun p hp => hp) (fun z h1 h2 => by simp [h1, bndV]) ?_
           intro j hj
           by_cases hji : j < i
           · exact hP j hji
           · obtain rfl : j = i := by (first | lia | omega)
             exact kg_iff.mpr ⟨by (first | lia | omega), fun l e => by cases e <;> (first | lia | omega), fun h e => by cases e <;> (first | lia | omega)⟩)
        | (refine hQ _ _ _ ?_ (Fr.keep (by assumption))
           rw [if_neg]
           rw [hbad]
           · simp
           · rw [Bool.eq_false_iff, ne_eq, kg_iff]
             rintro ⟨q1, q2, q3⟩
             (try have q4 := q2 _ rfl)
             (try have q5 := q3 _ rfl)
             (first | lia | omega))
    | some hv =>
      have F₂ : Fr s.heap s.heap.objs.size h (fun y => if y = Str.ofString "i" then some (Value.int (0 + (i : Int)) t) else if y = Str.ofString "children" then some (Value.ref ac) else if y = Str.ofString "keys" then some (Value.ref ak) else List.lookup y [(Str.ofString "depth", Value.int ((d : Int) + 1) tk2), (Str.ofString "high", Value.int hv th), (Str.ofString "low", Value.int lv tl), (Str.ofString "node", Value.ref a)]) := F₁
      clear F₁
      k_steps
      all_goals first
        | (refine turnEnd hn (by assumption) (by assumption) (fun p hp => hp) (fun z h1 h2 => by simp [h1, bndV]) ?_
           intro j hj
           by_cases hji : j < i
           · exact hP j hji
           · obtain rfl : j = i := by (first | lia | omega)
             exact kg_iff.mpr ⟨by (first | lia | omega), fun l e => by cases e <;> (first | lia | omega), fun h e => by cases e <;> (first | lia | omega)⟩)
        | (refine hQ _ _ _ ?_ (Fr.keep (by assumption))
           rw [if_neg]
           rw [hbad]
           · simp
           · rw [Bool.eq_false_iff, ne_eq, kg_iff]
             rintro ⟨q1, q2, q3⟩
             (try have q4 := q2 _ rfl)
             (try have q5 := q3 _ rfl)
             (first | lia | omega))
end S11.L1
namespace S11.L2
@[irreducible] noncomputable def tupl := pk22 cutL.Q2 rfl (by have := w_ne; have := s_ne; have := a_ne; have := g_ne; have := dr_ne; have := t_ne; have := p_ne; infer_instance)
@[irreducible] noncomputable def zL2x2 := tupl.1
@[irreducible] noncomputable def zL2x5 := tupl.2.1
@[irreducible] noncomputable def zL2x6 := tupl.2.2.1
@[irreducible] noncomputable def zL2x8 := tupl.2.2.2.1
@[irreducible] noncomputable def zL2x9 := tupl.2.2.2.2.1
@[irreducible] noncomputable def zL2x10 := tupl.2.2.2.2.2.1
@[irreducible] noncomputable def zL2x13 := tupl.2.2.2.2.2.2.1
@[irreducible] noncomputable def zL2x14 := tupl.2.2.2.2.2.2.2.1
@[irreducible] noncomputable def zL2x15 := tupl.2.2.2.2.2.2.2.2.1
@[irreducible] noncomputable def zL2x18 := tupl.2.2.2.2.2.2.2.2.2.1
@[irreducible] noncomputable def zL2x19 := tupl.2.2.2.2.2.2.2.2.2.2.1
@[irreducible] noncomputable def zL2x20 := tupl.2.2.2.2.2.2.2.2.2.2.2.1
@[irreducible] noncomputable def zL2x21 := tupl.2.2.2.2.2.2.2.2.2.2.2.2.1
@[irreducible] noncomputable def zL2x22 := tupl.2.2.2.2.2.2.2.2.2.2.2.2.2.1
@[irreducible] noncomputable def i := tupl.2.2.2.2.2.2.2.2.2.2.2.2.2.2.1
@[irreducible] noncomputable def t := tupl.2.2.2.2.2.2.2.2.2.2.2.2.2.2.2.1
@[irreducible] noncomputable def u := tupl.2.2.2.2.2.2.2.2.2.2.2.2.2.2.2.2.1
@[irreducible] noncomputable def h := tupl.2.2.2.2.2.2.2.2.2.2.2.2.2.2.2.2.2.1
@[irreducible] noncomputable def tk := tupl.2.2.2.2.2.2.2.2.2.2.2.2.2.2.2.2.2.2.1
@[irreducible] noncomputable def I := tupl.2.2.2.2.2.2.2.2.2.2.2.2.2.2.2.2.2.2.2.1
@[irreducible] noncomputable def oI := tupl.2.2.2.2.2.2.2.2.2.2.2.2.2.2.2.2.2.2.2.2.1
@[irreducible] noncomputable def v := tupl.2.2.2.2.2.2.2.2.2.2.2.2.2.2.2.2.2.2.2.2.2
noncomputable def QQ : Prop := ap22 cutL.Q2 rfl zL2x2 zL2x5 zL2x6 zL2x8 zL2x9 zL2x10 zL2x13 zL2x14 zL2x15 zL2x18 zL2x19 zL2x20 zL2x21 zL2x22 i t u h tk I oI v
theorem back (h : QQ) : cutL.Q2 := bk22 rfl (by have := w_ne; have := s_ne; have := a_ne; have := g_ne; have := dr_ne; have := t_ne; have := p_ne; infer_instance) (by with_unfolding_all exact h)
theorem finT2 : QQ := by
  w_top off
  intro ih lo hi B TP hh hd hu hQ hE hT tup kl ki cl clen cget s1 s3 s4 w2 w3 X zL2x3 zL2x4 zL2x11 zL2x16 zL2x17 hsz zL2x23 e1 hi' hP hn F₁ N₁ g2 g3 hle hv hTc hgd hstop
  revert X
  k_fill
  intro X
  (try k_fold)
  replace F₁ : Fr s.heap s.heap.objs.size h _ := F₁
  replace N₁ : News s.heap s.heap.objs.size h _ := N₁
  k_steps
  · refine item_listL (Fr.lst (by assumption) cl) (by (first | lia | omega)) (by (first | lia | omega)) (by rw [show (0 + (i : Int)).toNat = i by (first | lia | omega)]; exact hv) ?_
    k_steps
    (rename Fr _ _ _ _ => F₃)
    (rename News _ _ _ _ => N₃)
    rw [e1]
    have hwl : winLo lo ks i = some (ks.getD (0 + (i : Int) - 1).toNat 0) := by unfold winLo; rw [if_pos (by (first | lia | omega))]; simp
    have hwh : winHi hi ks i = some (ks.getD (0 + (i : Int)).toNat 0) := by unfold winHi; rw [if_pos (by (first | lia | omega))]; simp
    refine ih cs[i] (some (ks.getD (0 + (i : Int) - 1).toNat 0)) (some (ks.getD (0 + (i : Int)).toNat 0)) v _ _ _ _ base _ _ _ _ (B.push F₃ rfl) (X.keeps F₃.keep) (TP.keeps F₃.keep) hh (by show A.depth + 1 + d + 1 < recursionLimit; (first | lia | omega)) (by show A.units + 3 + 8 * d + 200 < cLine; (first | lia | omega)) (hTc.keeps F₃.keep) (s4 _ (List.getElem_mem hi')) (w3 _ (List.getElem_mem hi')) ?_ ?_
    · intro b h' tk' hb hk
      have F₄ := F₃.keeps hk
      have N₄ : News s.heap s.heap.objs.size h' _ := News.kept N₃ hk
      clear F₃ N₃
      have hb' : keysOk d (cs.getD i T.nil) (winLo lo ks i) (winHi hi ks i) = some b := by rw [hwl, hwh, hgd]; exact hb
      cases b with
      | true =>
        k_steps
        refine turnEnd hn F₄ N₄ (fun p hp => hp) (fun z h1 h2 => by simp at h2; simp [h1, h2]) ?_
        intro j hj
        by_cases hji : j < i
        · exact hP j hji
        · obtain rfl : j = i := by (first | lia | omega)
          exact hb'
      | false =>
        k_steps
        refine hQ _ _ _ ?_ F₄.keep
        exact hstop hb' (by simp)
    · intro e h' tk' hb hfl
      obtain ⟨t', vs', R', U'⟩ := hfl
      refine leave_onS B F₃ R' U' ?_
      intro h'' R'' _ U''
      have hb' : keysOk d (cs.getD i T.nil) (winLo lo ks i) (winHi hi ks i) = none := by rw [hwl, hwh, hgd]; exact hb
      exact hE _ _ _ (hstop hb' (by simp)) ⟨_, _, R'', U''⟩
  · refine item_listL (Fr.lst (by assumption) cl) (by (first | lia | omega)) (by (first | lia | omega)) (by rw [show (0 + (i : Int)).toNat = i by (first | lia | omega)]; exact hv) ?_
    k_steps
    (rename Fr _ _ _ _ => F₃)
    (rename News _ _ _ _ => N₃)
    rw [e1]
    have hwl : winLo lo ks i = some (ks.getD (0 + (i : Int) - 1).toNat 0) := by unfold winLo; rw [if_pos (by (first | lia | omega))]; simp
    have hwh : winHi hi ks i = hi := by unfold winHi; rw [if_neg (by (first | lia | omega))]
    refine ih cs[i] (some (ks.getD (0 + (i : Int) - 1).toNat 0)) (hi) v _ _ _ _ base _ _ _ _ (B.push F₃ rfl) (X.keeps F₃.keep) (TP.keeps F₃.keep) hh (by show A.depth + 1 + d + 1 < recursionLimit; (first | lia | omega)) (by show A.units + 3 + 8 * d + 200 < cLine; (first | lia | omega)) (hTc.keeps F₃.keep) (s4 _ (List.getElem_mem hi')) (w3 _ (List.getElem_mem hi')) ?_ ?_
    · intro b h' tk' hb hk
      have F₄ := F₃.keeps hk
      have N₄ : News s.heap s.heap.objs.size h' _ := News.kept N₃ hk
      clear F₃ N₃
      have hb' : keysOk d (cs.getD i T.nil) (winLo lo ks i) (winHi hi ks i) = some b := by rw [hwl, hwh, hgd]; exact hb
      cases b with
      | true =>
        k_steps
        refine turnEnd hn F₄ N₄ (fun p hp => hp) (fun z h1 h2 => by simp at h2; simp [h1, h2]) ?_
        intro j hj
        by_cases hji : j < i
        · exact hP j hji
        · obtain rfl : j = i := by (first | lia | omega)
          exact hb'
      | false =>
        k_steps
        refine hQ _ _ _ ?_ F₄.keep
        exact hstop hb' (by simp)
    · intro e h' tk' hb hfl
      obtain ⟨t', vs', R', U'⟩ := hfl
      refine leave_onS B F₃ R' U' ?_
      intro h'' R'' _ U''
      have hb' : keysOk d (cs.getD i T.nil) (winLo lo ks i) (winHi hi ks i) = none := by rw [hwl, hwh, hgd]; exact hb
      exact hE _ _ _ (hstop hb' (by simp)) ⟨_, _, R'', U''⟩
  · refine item_listL (Fr.lst (by assumption) cl) (by (first | lia | omega)) (by (first | lia | omega)) (by rw [show (0 + (i : Int)).toNat = i by (first | lia | omega)]; exact hv) ?_
    k_steps
    (rename Fr _ _ _ _ => F₃)
    (rename News _ _ _ _ => N₃)
    rw [e1]
    have hwl : winLo lo ks i = lo := by unfold winLo; rw [if_neg (by (first | lia | omega))]
    have hwh : winHi hi ks i = some (ks.getD (0 + (i : Int)).toNat 0) := by unfold winHi; rw [if_pos (by (first | lia | omega))]; simp
    refine ih cs[i] (lo) (some (ks.getD (0 + (i : Int)).toNat 0)) v _ _ _ _ base _ _ _ _ (B.push F₃ rfl) (X.keeps F₃.keep) (TP.keeps F₃.keep) hh (by show A.depth + 1 + d + 1 < recursionLimit; (first | lia | omega)) (by show A.units + 3 + 8 * d + 200 < cLine; (first | lia | omega)) (hTc.keeps F₃.keep) (s4 _ (List.getElem_mem hi')) (w3 _ (List.getElem_mem hi')) ?_ ?_
    · intro b h' tk' hb hk
      have F₄ := F₃.keeps hk
      have N₄ : News s.heap s.heap.objs.size h' _ := News.kept N₃ hk
      clear F₃ N₃
      have hb' : keysOk d (cs.getD i T.nil) (winLo lo ks i) (winHi hi ks i) = some b := by rw [hwl, hwh, hgd]; exact hb
      cases b with
      | true =>
        k_steps
        refine turnEnd hn F₄ N₄ (fun p hp => hp) (fun z h1 h2 => by simp at h2; simp [h1, h2]) ?_
        intro j hj
        by_cases hji : j < i
        · exact hP j hji
        · obtain rfl : j = i := by (first | lia | omega)
          exact hb'
      | false =>
        k_steps
        refine hQ _ _ _ ?_ F₄.keep
        exact hstop hb' (by simp)
    · intro e h' tk' hb hfl
      obtain ⟨t', vs', R', U'⟩ := hfl
      refine leave_onS B F₃ R' U' ?_
      intro h'' R'' _ U''
      have hb' : keysOk d (cs.getD i T.nil) (winLo lo ks i) (winHi hi ks i) = none := by rw [hwl, hwh, hgd]; exact hb
      exact hE _ _ _ (hstop hb' (by simp)) ⟨_, _, R'', U''⟩
  · refine item_listL (Fr.lst (by assumption) cl) (by (first | lia | omega)) (by (first | lia | omega)) (by rw [show (0 + (i : Int)).toNat = i by (first | lia | omega)]; exact hv) ?_
    k_steps
    (rename Fr _ _ _ _ => F₃)
    (rename News _ _ _ _ => N₃)
    rw [e1]
    have hwl : winLo lo ks i = lo := by unfold winLo; rw [if_neg (by (first | lia | omega))]
    have hwh : winHi hi ks i = hi := by unfold winHi; rw [if_neg (by (first | lia | omega))]
    refine ih cs[i] (lo) (hi) v _ _ _ _ base _ _ _ _ (B.push F₃ rfl) (X.keeps F₃.keep) (TP.keeps F₃.keep) hh (by show A.depth + 1 + d + 1 < recursionLimit; (first | lia | omega)) (by show A.units + 3 + 8 * d + 200 < cLine; (first | lia | omega)) (hTc.keeps F₃.keep) (s4 _ (List.getElem_mem hi')) (w3 _ (List.getElem_mem hi')) ?_ ?_
    · intro b h' tk' hb hk
      have F₄ := F₃.keeps hk
      have N₄ : News s.heap s.heap.objs.size h' _ := News.kept N₃ hk
      clear F₃ N₃
      have hb' : keysOk d (cs.getD i T.nil) (winLo lo ks i) (winHi hi ks i) = some b := by rw [hwl, hwh, hgd]; exact hb
      cases b with
      | true =>
        k_steps
        refine turnEnd hn F₄ N₄ (fun p hp => hp) (fun z h1 h2 => by simp at h2; simp [h1, h2]) ?_
        intro j hj
        by_cases hji : j < i
        · exact hP j hji
        · obtain rfl : j = i := by (first | lia | omega)
          exact hb'
      | false =>
        k_steps
        refine hQ _ _ _ ?_ F₄.keep
        exact hstop hb' (by simp)
    · intro e h' tk' hb hfl
      obtain ⟨t', vs', R', U'⟩ := hfl
      refine leave_onS B F₃ R' U' ?_
      intro h'' R'' _ U''
      have hb' : keysOk d (cs.getD i T.nil) (winLo lo ks i) (winHi hi ks i) = none := by rw [hwl, hwh, hgd]; exact hb
      exact hE _ _ _ (hstop hb' (by simp)) ⟨_, _, R'', U''⟩
end S11.L2
theorem all : StepS := back (cutS1.k ⟨S11.back (S11.cutL.k ⟨S11.L1.back (S11.L1.finT1)⟩ ⟨S11.L2.back (S11.L2.finT2)⟩)⟩)
end KeysU
theorem keys_spec {w : World} {p : Program} {loose : List Str} {mean : ExcName → Option Value} {mg mb : Str → Option Value} : ∀ (d : Nat) (x : T) (lo hi : Option Int) (v : Value) (tl th tk2 : Tok) (A : Around) (base : Heap) (outer : List Env) (s : Shared) (Q E : Value → Shared → Prop),
    Below A base outer s.heap → (hK w.params).In s.heap → Top p loose mean mg mb s.heap → A.handled = none → A.depth + d + 1 < recursionLimit → A.units + 8 * d + 200 < cLine → TAt s.heap v x → smD d x → wf0 d x →
    (∀ b h' tk, keysOk d x lo hi = some b → Keeps s.heap h' → Q (.bool b) { s with heap := h', toks := tk }) → (∀ e h' tk, keysOk d x lo hi = none → Flies base s.heap outer e h' → E (.ref e) { s with heap := h', toks := tk }) →
    wpAny (model PySem.Challenge.rw_sx_zcanopy_6.row.prog w) A (call (.ref 41) [v, bndV lo tl, bndV hi th, .int d tk2]) Q E s := fun d => by
  induction d with
  | zero => exact KeysU.zero w p loose mean mg mb
  | succ d ih => exact KeysU.all w p loose mean mg mb d ih
end Mine
set_option maxRecDepth 100000
set_option maxHeartbeats 8000000
set_option Elab.async false
namespace Mine
open PySem PySem.W PySem.Calls PyProof.Rows PySem.Spec

local macro_rules | `(tactic| walk_at "call builtin:list.append cons nil") => `(tactic| refine of_hold ?_)

namespace RangeU
noncomputable def RangeP (w : World) (p : Program) (loose : List Str) (mean : ExcName → Option Value) (mg mb : Str → Option Value) (d : Nat) : Prop := ∀ (x : T) (lo hi : Int) (v : Value) (tl th tk2 : Tok) (A : Around) (base : Heap) (outer : List Env) (s : Shared) (Q E : Value → Shared → Prop),
    Below A base outer s.heap → (hK w.params).In s.heap → Top p loose mean mg mb s.heap → A.handled = none → A.depth + d + 1 < recursionLimit → A.units + 8 * d + 200 < cLine → TAt s.heap v x → smD d x → wf0 d x → d ≤ 3 →
    (∀ l D pvs c nl h' tk, rangePairs d x lo hi = some l → Keeps s.heap h' → (∀ p ∈ nl, h'.get? p.1 = some p.2 ∧ s.heap.get? p.1 = none) → (D, W.listOf pvs.toArray c) ∈ nl → PairsIn nl pvs l → Q (.ref D) { s with heap := h', toks := tk }) →
    (∀ e h' tk, rangePairs d x lo hi = none → Flies base s.heap outer e h' → E (.ref e) { s with heap := h', toks := tk }) →
    wpAny (model PySem.Challenge.rw_sx_zcanopy_6.row.prog w) A (call (.ref 55) [v, .int lo tl, .int hi th, .int d tk2]) Q E s
theorem zero (w : World) (p : Program) (loose : List Str) (mean : ExcName → Option Value) (mg mb : Str → Option Value) : RangeP w p loose mean mg mb 0 := by
  w_top off
  unfold RangeP
  k_fill
  intro x lo hi v tl th tk2 A base outer s Q E B X TP hh hd hu hT hS hW hd3 hQ hE
  refine wpAny_call ?_
  refine' enter X TP ?k6 ?k7 ?k8 ?k9 ?kB ?_ ?c2 ?c3 ?c4 ?c5
  case k6 => k_is
  case k7 => k_is
  case k8 => (first | lia | omega)
  case k9 => exact BindsTo.of_eq rfl
  case kB => exact locs rfl
  case c2 => exact rfl
  case c3 => exact rfl
  case c4 => exact rfl
  case c5 => decide
  intro h₁ F N
  dsimp only
  k_fold
  k_steps
  exact hE _ _ _ rfl ⟨_, _, by assumption, by assumption⟩
noncomputable def StepS : Prop := ∀ (w : World) (p : Program) (loose : List Str) (mean : ExcName → Option Value) (mg mb : Str → Option Value) (d : Nat), RangeP w p loose mean mg mb d → ∀ (x : T) (lo hi : Int) (v : Value) (tl th tk2 : Tok) (A : Around) (base : Heap) (outer : List Env) (s : Shared) (Q E : Value → Shared → Prop),
    Below A base outer s.heap → (hK w.params).In s.heap → Top p loose mean mg mb s.heap → A.handled = none → A.depth + (d + 1) + 1 < recursionLimit → A.units + 8 * (d + 1) + 200 < cLine → TAt s.heap v x → smD (d + 1) x → wf0 (d + 1) x → (d + 1) ≤ 3 →
    (∀ l D pvs c nl h' tk, rangePairs (d + 1) x lo hi = some l → Keeps s.heap h' → (∀ p ∈ nl, h'.get? p.1 = some p.2 ∧ s.heap.get? p.1 = none) → (D, W.listOf pvs.toArray c) ∈ nl → PairsIn nl pvs l → Q (.ref D) { s with heap := h', toks := tk }) →
    (∀ e h' tk, rangePairs (d + 1) x lo hi = none → Flies base s.heap outer e h' → E (.ref e) { s with heap := h', toks := tk }) →
    wpAny (model PySem.Challenge.rw_sx_zcanopy_6.row.prog w) A (call (.ref 55) [v, .int lo tl, .int hi th, .int ((d + 1 : Nat) : Int) tk2]) Q E s
noncomputable def QQ : Prop := StepS
theorem back (h : QQ) : StepS := h
noncomputable def cutS1 : Got1 QQ := ⟨_, by
  intro hCut1
  w_top off
  intro w p loose mean mg mb d ih x lo hi v tl th tk2 A base outer s Q E B X TP hh hd hu hT hS hW hd3 hQ hE
  revert X
  k_fill
  intro X
  obtain ⟨ks, vs, cs⟩ := x
  obtain ⟨a, ak, av, ac, kvs, vvs, cvs, rfl, P⟩ := hT.parts
  obtain ⟨tup, kl, ki, vl, vi, cl, clen, cget, cr⟩ := P
  obtain ⟨s1, s2, s3, s4⟩ := hS
  obtain ⟨w1, w2, w3⟩ := hW
  have hb2 := bnd_le (d := d) (by (first | lia | omega))
  rw [rangePairs] at hQ hE
  refine wpAny_call ?_
  refine' enter X TP ?k6 ?k7 ?k8 ?k9 ?kB ?_ ?c2 ?c3 ?c4 ?c5
  case k6 => k_is
  case k7 => k_is
  case k8 => (first | lia | omega)
  case k9 => exact BindsTo.of_eq rfl
  case kB => exact locs rfl
  case c2 => exact rfl
  case c3 => exact rfl
  case c4 => exact rfl
  case c5 => decide
  intro h₁ F N
  dsimp only
  k_fold
  have F1 : Fr s.heap s.heap.objs.size h₁ (fun y => List.lookup y [(Str.ofString "depth", Value.int ((d : Int) + 1) tk2), (Str.ofString "high", Value.int hi th), (Str.ofString "low", Value.int lo tl), (Str.ofString "node", Value.ref a)]) := F
  clear F
  iterate 3 ((try unfold qk); (try unfold ek); (try clear qk); (try clear ek))
  revert ih B TP hh hd hu hd3 X hQ hE hT tup kl ki vl vi cl clen cget cr s1 s2 s3 s4 w1 w2 w3 hb2 N F1
  revert w p loose mean mg mb d lo hi tl th tk2 A base outer s Q E ks vs cs a ak av ac kvs vvs cvs h₁
  exact hCut1.out⟩
namespace S11
@[irreducible] noncomputable def tupl := pk29 cutS1.Q1 rfl (by have := w_ne; have := s_ne; have := a_ne; have := g_ne; have := dr_ne; have := t_ne; have := p_ne; infer_instance)
@[irreducible] noncomputable def w := tupl.1
@[irreducible] noncomputable def p := tupl.2.1
@[irreducible] noncomputable def loose := tupl.2.2.1
@[irreducible] noncomputable def mean := tupl.2.2.2.1
@[irreducible] noncomputable def mg := tupl.2.2.2.2.1
@[irreducible] noncomputable def mb := tupl.2.2.2.2.2.1
@[irreducible] noncomputable def d := tupl.2.2.2.2.2.2.1
@[irreducible] noncomputable def lo := tupl.2.2.2.2.2.2.2.1
@[irreducible] noncomputable def hi := tupl.2.2.2.2.2.2.2.2.1
@[irreducible] noncomputable def tl := tupl.2.2.2.2.2.2.2.2.2.1
@[irreducible] noncomputable def th := tupl.2.2.2.2.2.2.2.2.2.2.1
@[irreducible] noncomputable def tk2 := tupl.2.2.2.2.2.2.2.2.2.2.2.1
@[irreducible] noncomputable def A := tupl.2.2.2.2.2.2.2.2.2.2.2.2.1
@[irreducible] noncomputable def base := tupl.2.2.2.2.2.2.2.2.2.2.2.2.2.1
@[irreducible] noncomputable def outer := tupl.2.2.2.2.2.2.2.2.2.2.2.2.2.2.1
@[irreducible] noncomputable def s := tupl.2.2.2.2.2.2.2.2.2.2.2.2.2.2.2.1
@[irreducible] noncomputable def Q := tupl.2.2.2.2.2.2.2.2.2.2.2.2.2.2.2.2.1
@[irreducible] noncomputable def E := tupl.2.2.2.2.2.2.2.2.2.2.2.2.2.2.2.2.2.1
@[irreducible] noncomputable def ks := tupl.2.2.2.2.2.2.2.2.2.2.2.2.2.2.2.2.2.2.1
@[irreducible] noncomputable def vs := tupl.2.2.2.2.2.2.2.2.2.2.2.2.2.2.2.2.2.2.2.1
@[irreducible] noncomputable def cs := tupl.2.2.2.2.2.2.2.2.2.2.2.2.2.2.2.2.2.2.2.2.1
@[irreducible] noncomputable def a := tupl.2.2.2.2.2.2.2.2.2.2.2.2.2.2.2.2.2.2.2.2.2.1
@[irreducible] noncomputable def ak := tupl.2.2.2.2.2.2.2.2.2.2.2.2.2.2.2.2.2.2.2.2.2.2.1
@[irreducible] noncomputable def av := tupl.2.2.2.2.2.2.2.2.2.2.2.2.2.2.2.2.2.2.2.2.2.2.2.1
@[irreducible] noncomputable def ac := tupl.2.2.2.2.2.2.2.2.2.2.2.2.2.2.2.2.2.2.2.2.2.2.2.2.1
@[irreducible] noncomputable def kvs := tupl.2.2.2.2.2.2.2.2.2.2.2.2.2.2.2.2.2.2.2.2.2.2.2.2.2.1
@[irreducible] noncomputable def vvs := tupl.2.2.2.2.2.2.2.2.2.2.2.2.2.2.2.2.2.2.2.2.2.2.2.2.2.2.1
@[irreducible] noncomputable def cvs := tupl.2.2.2.2.2.2.2.2.2.2.2.2.2.2.2.2.2.2.2.2.2.2.2.2.2.2.2.1
@[irreducible] noncomputable def h₁ := tupl.2.2.2.2.2.2.2.2.2.2.2.2.2.2.2.2.2.2.2.2.2.2.2.2.2.2.2.2
noncomputable def QQ : Prop := ap29 cutS1.Q1 rfl w p loose mean mg mb d lo hi tl th tk2 A base outer s Q E ks vs cs a ak av ac kvs vvs cvs h₁
theorem back (h : QQ) : cutS1.Q1 := bk29 rfl (by have := w_ne; have := s_ne; have := a_ne; have := g_ne; have := dr_ne; have := t_ne; have := p_ne; infer_instance) (by with_unfolding_all exact h)
noncomputable def cutL : Got1 QQ := ⟨_, by
  intro hCut1
  w_top off
  intro ih B TP hh hd hu hd3 X hQ hE hT tup kl ki vl vi cl clen cget cr s1 s2 s3 s4 w1 w2 w3 hb2 N F1
  revert X
  k_fill
  intro X
  (try k_fold)
  k_steps
  · (rename Fr _ _ _ _ => F')
    (rename News _ _ _ _ => N')
    exact hQ [] _ [] 0 _ _ _ (by rw [if_pos (by (first | lia | omega))]) F'.keep (fun p hp => ⟨(N' p hp).1, (N' p hp).2.2⟩) (.head _) .nil
  · (rename Fr _ _ _ _ => F')
    (rename News _ _ _ _ => N')
    rw [if_neg (by (first | lia | omega))] at hQ hE
    have e1 : ((d : Int) + 1 - 1) = (d : Int) := by (first | lia | omega)
    refine at_head N' ?_
    intro out hout
    subst hout
    refine iterRL [Str.ofString "p"] (fun i nx => ∃ pvs c nl acc, nx = (out, W.listOf pvs.toArray c) :: nl ∧ (∀ p ∈ nl, p.1 ≠ out) ∧ PairsIn nl pvs acc ∧ rngM (fun i => if meets ks cs lo hi i then rangePairs d (cs.getD i T.nil) lo hi else some []) (ownPair ks vs lo hi) (List.range (ks.length + 1)) [] = rngM (fun i => if meets ks cs lo hi i then rangePairs d (cs.getD i T.nil) lo hi else some []) (ownPair ks vs lo hi) ((List.range (ks.length + 1)).drop i) acc ∧ acc.length ≤ i * (bnd d + 1)) (by exact hh) (by assumption) (range_small (n := ks.length + 1) (by (first | lia | omega))) (range_size (by (first | lia | omega))) F' N' ⟨[], 0, [], [], rfl, (fun _ h => nomatch h), .nil, by simp, by simp⟩ ?_ ?_
    · rintro i t u nx h tk I oI hi' ⟨pvs, c, nl, acc, rfl, hsep, hpi, hrng, hal⟩ hn F₁ N₁
      k_fold
      replace F₁ : Fr s.heap s.heap.objs.size h _ := F₁
      replace N₁ : News s.heap s.heap.objs.size h _ := N₁
      clear F' N'
      have g2 : ks.getD (0 + (i : Int)).toNat 0 = ks.getD i 0 := by rw [show (0 + (i : Int)).toNat = i by (first | lia | omega)]
      have g3 : ks.getD (0 + (i : Int) - 1).toNat 0 = ks.getD (i - 1) 0 := by rw [show (0 + (i : Int) - 1).toNat = i - 1 by (first | lia | omega)]
      have hacc : acc.length ≤ 300000 := Nat.le_trans hal (Nat.le_trans (Nat.mul_le_mul (show i ≤ 64 by (first | lia | omega)) (show bnd d + 1 ≤ 4291 by (first | lia | omega))) (by decide))
      have hpl := hpi.length
      iterate 3 ((try unfold qk); (try unfold ek); (try clear qk); (try clear ek))
      rename_i zL1x0 zL1x1 zL1x2 zL1x3 zL1x4 zL1x5 zL1x6 zL1x7 zL1x8 zL1x9 zL1x10 zL1x11 zL1x12 zL1x13 zL1x14 zL1x15 zL1x16 zL1x17 zL1x18 zL1x19
      clear zL1x0 zL1x1 zL1x2 zL1x3 zL1x4 zL1x5 zL1x6 zL1x17
      revert ih B TP hh hd hu hd3 hQ hE hT tup kl ki vl vi cl clen cget cr s1 s2 s3 s4 w1 w2 w3 hb2 X zL1x8 zL1x16 e1 zL1x18 zL1x19 hi' hsep hpi hrng hal hn F₁ N₁ g2 g3 hacc hpl
      revert zL1x7 zL1x9 zL1x10 zL1x11 zL1x12 zL1x13 zL1x14 zL1x15 out i t u h tk I oI pvs c nl acc
      exact hCut1.out
    · rintro u nx h tk ⟨pvs, c, nl, acc, rfl, hsep, hpi, hrng, hal⟩ F₁ N₁
      k_steps
      refine hQ acc _ pvs c _ _ _ ?_ F₁.keep (fun p hp => ⟨(N₁ p hp).1, (N₁ p hp).2.2⟩) (.head _) (hpi.mono fun p hp => .tail _ hp)
      rw [hrng, List.drop_of_length_le (by simp)]; rfl⟩
end S11
namespace S11.L1
@[irreducible] noncomputable def tupl := pk20 cutL.Q1 rfl (by have := w_ne; have := s_ne; have := a_ne; have := g_ne; have := dr_ne; have := t_ne; have := p_ne; infer_instance)
@[irreducible] noncomputable def zL1x7 := tupl.1
@[irreducible] noncomputable def zL1x9 := tupl.2.1
@[irreducible] noncomputable def zL1x10 := tupl.2.2.1
@[irreducible] noncomputable def zL1x11 := tupl.2.2.2.1
@[irreducible] noncomputable def zL1x12 := tupl.2.2.2.2.1
@[irreducible] noncomputable def zL1x13 := tupl.2.2.2.2.2.1
@[irreducible] noncomputable def zL1x14 := tupl.2.2.2.2.2.2.1
@[irreducible] noncomputable def zL1x15 := tupl.2.2.2.2.2.2.2.1
@[irreducible] noncomputable def out := tupl.2.2.2.2.2.2.2.2.1
@[irreducible] noncomputable def i := tupl.2.2.2.2.2.2.2.2.2.1
@[irreducible] noncomputable def t := tupl.2.2.2.2.2.2.2.2.2.2.1
@[irreducible] noncomputable def u := tupl.2.2.2.2.2.2.2.2.2.2.2.1
@[irreducible] noncomputable def h := tupl.2.2.2.2.2.2.2.2.2.2.2.2.1
@[irreducible] noncomputable def tk := tupl.2.2.2.2.2.2.2.2.2.2.2.2.2.1
@[irreducible] noncomputable def I := tupl.2.2.2.2.2.2.2.2.2.2.2.2.2.2.1
@[irreducible] noncomputable def oI := tupl.2.2.2.2.2.2.2.2.2.2.2.2.2.2.2.1
@[irreducible] noncomputable def pvs := tupl.2.2.2.2.2.2.2.2.2.2.2.2.2.2.2.2.1
@[irreducible] noncomputable def c := tupl.2.2.2.2.2.2.2.2.2.2.2.2.2.2.2.2.2.1
@[irreducible] noncomputable def nl := tupl.2.2.2.2.2.2.2.2.2.2.2.2.2.2.2.2.2.2.1
@[irreducible] noncomputable def acc := tupl.2.2.2.2.2.2.2.2.2.2.2.2.2.2.2.2.2.2.2
noncomputable def QQ : Prop := ap20 cutL.Q1 rfl zL1x7 zL1x9 zL1x10 zL1x11 zL1x12 zL1x13 zL1x14 zL1x15 out i t u h tk I oI pvs c nl acc
theorem back (h : QQ) : cutL.Q1 := bk20 rfl (by have := w_ne; have := s_ne; have := a_ne; have := g_ne; have := dr_ne; have := t_ne; have := p_ne; infer_instance) (by with_unfolding_all exact h)
noncomputable def cutT : Got2 QQ := ⟨_, _, by
  intro hCut1 hCut2
  w_top off
  intro ih B TP hh hd hu hd3 hQ hE hT tup kl ki vl vi cl clen cget cr s1 s2 s3 s4 w1 w2 w3 hb2 X zL1x8 zL1x16 e1 zL1x18 zL1x19 hi' hsep hpi hrng hal hn F₁ N₁ g2 g3 hacc hpl
  revert X
  k_fill
  intro X
  (try k_fold)
  refine cutSeq [Str.ofString "p"] (fun nx => ∃ pvs' c' nl' l, nx = (I, oI) :: (out, W.listOf pvs'.toArray c') :: nl' ∧ (∀ p ∈ nl', p.1 ≠ out) ∧ (∀ p ∈ (out, W.listOf pvs'.toArray c') :: nl', p.1 ≠ I) ∧ PairsIn nl' pvs' (acc ++ l) ∧ (if meets ks cs lo hi i then rangePairs d (cs.getD i T.nil) lo hi else some []) = some l ∧ l.length ≤ bnd d) F₁ ?_ ?_
  · refine cutIf (meets ks cs lo hi i) F₁ N₁ ?_ ?_
    · k_steps
      refine ne_nil (by obtain ⟨as, q⟩ := cr; exact ⟨as, Reads.keeps (Fr.keep (by assumption)) q⟩) (News.isList (by assumption) (.head _)) (by show A.units + 3 + 64 < cLine; (first | lia | omega)) ?_
      cases he : cs.isEmpty with
      | true =>
        k_steps
        · exact (meets_nil he).symm
        · exact Same.intro (by assumption) (by assumption) (fun p hp => .tail _ hp)
      | false =>
        k_steps
        all_goals first
          | exact Same.intro (by assumption) (by assumption) (fun p hp => .tail _ hp)
          | exact ((meets_iff he).mpr (by (first | lia | omega))).symm
          | exact (Bool.eq_false_iff.mpr (fun q => by have := (meets_iff he).mp q; (first | lia | omega))).symm
    · intro h tk F₂ N₂
      clear F₁ N₁
      cases hm : meets ks cs lo hi i with
      | false =>
        k_steps
        exact Turned.intro F₂ (fun _ _ => rfl) N₂ ⟨pvs, c, nl, [], rfl, hsep, hn, by simpa using hpi, by simp [hm], by simp⟩
      | true =>
        have hlt : i < cs.length := by
          rcases w2 with q | q
          · rw [q] at hm; simp [meets] at hm
          · (first | lia | omega)
        obtain ⟨v, hv, hTc⟩ := cget i cs[i] (List.getElem?_eq_getElem hlt)
        have hgd : cs.getD i T.nil = cs[i] := by simp [hlt]
        replace F₂ : Fr s.heap s.heap.objs.size h _ := F₂
        replace N₂ : News s.heap s.heap.objs.size h _ := N₂
        iterate 3 ((try unfold qk); (try unfold ek); (try clear qk); (try clear ek))
        revert ih B TP hh hd hu hd3 hQ hE hT tup kl ki vl vi cl clen cget cr s1 s2 s3 s4 w1 w2 w3 hb2 zL1x8 zL1x16 e1 zL1x18 zL1x19 hi' hsep hpi hrng hal hn g2 g3 hacc hpl X hm hlt hv hTc hgd F₂ N₂
        revert h tk v
        exact hCut2.out
  · rintro h tk u2 nx F₂ N₂ ⟨pvs', c', nl', l, rfl, hs1, hs2, hpi', hg, hll⟩
    clear F₁ N₁
    replace F₂ : Fr s.heap s.heap.objs.size h _ := F₂
    replace N₂ : News s.heap s.heap.objs.size h _ := N₂
    iterate 3 ((try unfold qk); (try unfold ek); (try clear qk); (try clear ek))
    revert ih B TP hh hd hu hd3 hQ hE hT tup kl ki vl vi cl clen cget cr s1 s2 s3 s4 w1 w2 w3 hb2 zL1x8 zL1x16 e1 zL1x18 zL1x19 hi' hsep hpi hrng hal hn g2 g3 hacc hpl X hs1 hs2 hpi' hg hll F₂ N₂
    revert h tk u2 pvs' c' nl' l
    exact hCut1.out⟩
end S11.L1
namespace S11.L1.T1
@[irreducible] noncomputable def tupl := pk7 cutT.Q1 rfl (by have := w_ne; have := s_ne; have := a_ne; have := g_ne; have := dr_ne; have := t_ne; have := p_ne; infer_instance)
@[irreducible] noncomputable def h := tupl.1
@[irreducible] noncomputable def tk := tupl.2.1
@[irreducible] noncomputable def u2 := tupl.2.2.1
@[irreducible] noncomputable def pvs' := tupl.2.2.2.1
@[irreducible] noncomputable def c' := tupl.2.2.2.2.1
@[irreducible] noncomputable def nl' := tupl.2.2.2.2.2.1
@[irreducible] noncomputable def l := tupl.2.2.2.2.2.2
noncomputable def QQ : Prop := ap7 cutT.Q1 rfl h tk u2 pvs' c' nl' l
theorem back (h : QQ) : cutT.Q1 := bk7 rfl (by have := w_ne; have := s_ne; have := a_ne; have := g_ne; have := dr_ne; have := t_ne; have := p_ne; infer_instance) (by with_unfolding_all exact h)
theorem finU : QQ := by
  w_top off
  intro ih B TP hh hd hu hd3 hQ hE hT tup kl ki vl vi cl clen cget cr s1 s2 s3 s4 w1 w2 w3 hb2 zL1x8 zL1x16 e1 zL1x18 zL1x19 hi' hsep hpi hrng hal hn g2 g3 hacc hpl X hs1 hs2 hpi' hg hll F₂ N₂
  revert X
  k_fill
  intro X
  (try k_fold)
  have hpl' := hpi'.length
  rw [List.length_append] at hpl'
  have hnext : rngM (fun i => if meets ks cs lo hi i then rangePairs d (cs.getD i T.nil) lo hi else some []) (ownPair ks vs lo hi) (List.range (ks.length + 1)) [] = rngM (fun i => if meets ks cs lo hi i then rangePairs d (cs.getD i T.nil) lo hi else some []) (ownPair ks vs lo hi) ((List.range (ks.length + 1)).drop (i + 1)) (acc ++ l ++ ownPair ks vs lo hi i) := by rw [hrng, rng_turn hi', hg]
  have hal' : (acc ++ l ++ ownPair ks vs lo hi i).length ≤ (i + 1) * (bnd d + 1) := by
    have := own_len ks vs lo hi i
    simp only [List.length_append]
    rw [Nat.add_mul]
    (first | lia | omega)
  have hnI : ∀ p ∈ nl', p.1 ≠ I := fun p hp => hs2 p (.tail _ hp)
  have hoI : out ≠ I := hs2 _ (.head _)
  k_steps
  · (rename Fr _ _ _ _ => F₃)
    (rename News _ _ _ _ => N₃)
    (rename I < _ ∧ out < _ ∧ AllLt _ _ => hlt3)
    refine at_head2 N₃ ?_
    intro D3 o3 hD3 ho3
    subst hD3
    have hD3o : D3 ≠ out := Nat.ne_of_gt hlt3.2.1
    have hD3I : D3 ≠ I := Nat.ne_of_gt hlt3.1
    have g4 : vs.getD (0 + (i : Int)).toNat 0 = vs.getD i 0 := by rw [show (0 + (i : Int)).toNat = i by (first | lia | omega)]
    refine append_K F₃ N₃ (Upd.tail hD3o (Upd.tail (fun e => hoI e.symm) (Upd.head hs1))) ?_ (by rw [sizeLine_eq]; simp; (first | lia | omega))
    intro h4 F₄ N₄
    k_steps
    refine turnEndL (nx := (out, W.listOf (pvs' ++ [Value.ref D3]).toArray (c' + 1)) :: (D3, o3) :: nl') F₄ N₄ ?_ ?_ (fun z h1 h2 => by simp at h2; simp [h1, h2]) ⟨pvs' ++ [Value.ref D3], c' + 1, (D3, o3) :: nl', acc ++ l ++ ownPair ks vs lo hi i, rfl, ?_, ?_, hnext, hal'⟩
    · intro p hp
      rcases List.mem_cons.mp hp with rfl | hp
      · exact .tail _ (.head _)
      · rcases List.mem_cons.mp hp with rfl | hp
        · rw [← List.push_toArray]; exact .tail _ (.tail _ (.head _))
        · rcases List.mem_cons.mp hp with rfl | hp
          · rw [ho3]; exact .head _
          · exact .tail _ (.tail _ (.tail _ hp))
    · intro p hp
      rcases List.mem_cons.mp hp with rfl | hp
      · exact hoI
      · rcases List.mem_cons.mp hp with rfl | hp
        · exact hD3I
        · exact hnI p hp
    · intro p hp
      rcases List.mem_cons.mp hp with rfl | hp
      · exact hD3o
      · exact hs1 p hp
    · rw [own_yes (by (first | lia | omega)), ← g2, ← g4, ho3]
      exact (hpi'.mono fun p hp => .tail _ hp).append (.cons (.head _) .nil)
  all_goals
    refine turnEndL (by assumption) (by assumption) (fun p hp => hp) hs2 (fun z h1 h2 => by simp at h2; simp [h1, h2]) ⟨pvs', c', nl', acc ++ l, rfl, hs1, hpi', ?_, ?_⟩
    · rw [own_no (by (first | lia | omega)), List.append_nil] at hnext; exact hnext
    · rw [own_no (by (first | lia | omega)), List.append_nil] at hal'; exact hal'
end S11.L1.T1
namespace S11.L1.T2
@[irreducible] noncomputable def tupl := pk3 cutT.Q2 rfl (by have := w_ne; have := s_ne; have := a_ne; have := g_ne; have := dr_ne; have := t_ne; have := p_ne; infer_instance)
@[irreducible] noncomputable def h := tupl.1
@[irreducible] noncomputable def tk := tupl.2.1
@[irreducible] noncomputable def v := tupl.2.2
noncomputable def QQ : Prop := ap3 cutT.Q2 rfl h tk v
theorem back (h : QQ) : cutT.Q2 := bk3 rfl (by have := w_ne; have := s_ne; have := a_ne; have := g_ne; have := dr_ne; have := t_ne; have := p_ne; infer_instance) (by with_unfolding_all exact h)
theorem finV : QQ := by
  w_top off
  intro ih B TP hh hd hu hd3 hQ hE hT tup kl ki vl vi cl clen cget cr s1 s2 s3 s4 w1 w2 w3 hb2 zL1x8 zL1x16 e1 zL1x18 zL1x19 hi' hsep hpi hrng hal hn g2 g3 hacc hpl X hm hlt hv hTc hgd F₂ N₂
  revert X
  k_fill
  intro X
  (try k_fold)
  simp only [if_true]
  k_steps
  refine item_listL (Fr.lst (by assumption) cl) (by (first | lia | omega)) (by (first | lia | omega)) (by rw [show (0 + (i : Int)).toNat = i by (first | lia | omega)]; exact hv) ?_
  k_steps
  rw [e1]
  (rename Fr _ _ _ _ => F₃)
  (rename News _ _ _ _ => N₃)
  refine ih cs[i] lo hi v _ _ _ _ base _ _ _ _ (B.push F₃ rfl) (X.keeps F₃.keep) (TP.keeps F₃.keep) hh (by show A.depth + 1 + d + 1 < recursionLimit; (first | lia | omega)) (by show A.units + 3 + 8 * d + 200 < cLine; (first | lia | omega)) (hTc.keeps F₃.keep) (s4 _ (List.getElem_mem hlt)) (w3 _ (List.getElem_mem hlt)) (by (first | lia | omega)) ?_ ?_
  · intro l2 D pv2 c2 nl2 h' tk' hr hk hfr hD hpi2
    have F₄ := F₃.keeps hk
    have N₄ := News.join F₃ N₃ hk hfr
    have hfI := fresh_ne (N₃ _ (.head _)).1 hfr
    have hfo := fresh_ne (N₃ _ (.tail _ (.head _))).1 hfr
    have hl2 := range_len d cs[i] lo hi l2 (s4 _ (List.getElem_mem hlt)) (w3 _ (List.getElem_mem hlt)) hr
    have hpl2 := hpi2.length
    clear F₃ N₃
    have hsep2 : ∀ p ∈ nl ++ nl2, p.1 ≠ out := fun p hp => (List.mem_append.mp hp).elim (hsep p) (hfo p)
    have hn2 : ∀ p ∈ nl ++ nl2, p.1 ≠ I := fun p hp => (List.mem_append.mp hp).elim (fun q => hn p (.tail _ q)) (hfI p)
    have hoI : out ≠ I := hn _ (.head _)
    simp only [List.cons_append] at N₄
    refine iterVL [] (fun j nx => ∃ c', nx = (I, oI) :: (out, W.listOf (pvs ++ pv2.take j).toArray c') :: (nl ++ nl2)) (by exact hh) (.tail _ (.tail _ (List.mem_append_right _ hD))) rfl rfl (by rintro j nx ⟨c', rfl⟩; exact .tail _ (.tail _ (List.mem_append_right _ hD))) F₄ N₄ ⟨c, by simp⟩ ?_ ?_
    · rintro j v2 u2 nx h2 tk2 I2 oI2 hv2 ⟨c', rfl⟩ hn3 F₅ N₅
      k_fold
      replace F₅ : Fr s.heap s.heap.objs.size h2 _ := F₅
      replace N₅ : News s.heap s.heap.objs.size h2 _ := N₅
      k_steps
      have hjl : j < pv2.length := (List.getElem?_eq_some_iff.mp hv2).1
      refine append_K F₅ N₅ (Upd.tail (fun e => hn3 _ (.tail _ (.head _)) e.symm) (Upd.tail (fun e => hoI e.symm) (Upd.head hsep2))) ?_ (by rw [sizeLine_eq]; simp; (first | lia | omega))
      intro h3 F₆ N₆
      k_steps
      refine turnEndL F₆ N₆ (fun p hp => hp) ?_ (fun z h1 h2 => by simp [h1]) ⟨c' + 1, ?_⟩
      · intro p hp
        rcases List.mem_cons.mp hp with rfl | hp
        · exact hn3 _ (.head _)
        · rcases List.mem_cons.mp hp with rfl | hp
          · exact hn3 (out, W.listOf (pvs ++ pv2.take j).toArray c') (.tail _ (.head _))
          · exact hn3 _ (.tail _ (.tail _ hp))
      · rw [List.push_toArray, List.append_assoc, List.take_add_one, hv2]; rfl
    · rintro u2 nx h2 tk2 ⟨c', rfl⟩ F₅ N₅
      k_steps
      rw [List.take_length] at N₅
      refine Turned.intro F₅ (fun z hz => by simp at hz; simp [hz]) N₅ ⟨pvs ++ pv2, c', nl ++ nl2, l2, rfl, hsep2, ?_, (hpi.mono fun p hp => List.mem_append_left _ hp).append (hpi2.mono fun p hp => List.mem_append_right _ hp), by rw [hgd]; exact hr, hl2⟩
      intro p hp
      rcases List.mem_cons.mp hp with rfl | hp
      · exact hoI
      · exact hn2 p hp
  · intro e h' tk' hb hfl
    obtain ⟨t', vs', R', U'⟩ := hfl
    refine leave_onS B F₃ R' U' ?_
    intro h'' R'' _ U''
    refine hE _ _ _ ?_ ⟨_, _, R'', U''⟩
    rw [hrng, rng_turn hi', if_pos hm, hgd, hb]
end S11.L1.T2
theorem all : StepS := back (cutS1.k ⟨S11.back (S11.cutL.k ⟨S11.L1.back (S11.L1.cutT.k ⟨S11.L1.T1.back (S11.L1.T1.finU)⟩ ⟨S11.L1.T2.back (S11.L1.T2.finV)⟩)⟩)⟩)
end RangeU
theorem range_spec {w : World} {p : Program} {loose : List Str} {mean : ExcName → Option Value} {mg mb : Str → Option Value} : ∀ (d : Nat) (x : T) (lo hi : Int) (v : Value) (tl th tk2 : Tok) (A : Around) (base : Heap) (outer : List Env) (s : Shared) (Q E : Value → Shared → Prop),
    Below A base outer s.heap → (hK w.params).In s.heap → Top p loose mean mg mb s.heap → A.handled = none → A.depth + d + 1 < recursionLimit → A.units + 8 * d + 200 < cLine → TAt s.heap v x → smD d x → wf0 d x → d ≤ 3 →
    (∀ l D pvs c nl h' tk, rangePairs d x lo hi = some l → Keeps s.heap h' → (∀ p ∈ nl, h'.get? p.1 = some p.2 ∧ s.heap.get? p.1 = none) → (D, W.listOf pvs.toArray c) ∈ nl → PairsIn nl pvs l → Q (.ref D) { s with heap := h', toks := tk }) →
    (∀ e h' tk, rangePairs d x lo hi = none → Flies base s.heap outer e h' → E (.ref e) { s with heap := h', toks := tk }) →
    wpAny (model PySem.Challenge.rw_sx_zcanopy_6.row.prog w) A (call (.ref 55) [v, .int lo tl, .int hi th, .int d tk2]) Q E s := fun d => by
  induction d with
  | zero => exact RangeU.zero w p loose mean mg mb
  | succ d ih => exact RangeU.all w p loose mean mg mb d ih
end Mine
end
set_option maxRecDepth 100000
set_option maxHeartbeats 8000000
set_option Elab.async false
namespace Mine
open PySem PySem.W PySem.Calls PyProof.Rows PySem.Spec


local macro_rules | `(tactic| walk_at "call builtin:list.append cons nil") => `(tactic| (refine' append_K ?k1 ?k2 ?k3 ?_ ?z; (case k1 => k_asm); (case k2 => k_asm); (case k3 => k_upd); (case z => (rw [sizeLine_eq]; simp; omega)); intro h' F' N'; (try k_sweep)))
local macro_rules | `(tactic| walk_at "subscriptTail Name Slice ref ref") => `(tactic| refine of_hold ?_)

namespace Bd
noncomputable def BuildS : Prop := ∀ (w : World) (p : Program) (loose : List Str) (mean : ExcName → Option Value) (mg mb : Str → Option Value) (row vals : List Int) (gs : List G) (rl vl pl : Addr) (rvs vvs pvs : List Value) (A : Around) (s : Shared) (Q E : Value → Shared → Prop)
    (X : (hK w.params).In s.heap) (TP : Top p loose mean mg mb s.heap) (hh : A.handled = none) (hd : A.depth + 1 < recursionLimit)
    (hrl : s.heap.IsList rl rvs.toArray) (hri : IntsAre rvs row) (hvl : s.heap.IsList vl vvs.toArray) (hvi : IntsAre vvs vals) (hpl : s.heap.IsList pl pvs.toArray) (hpa : PlanAt s.heap pvs gs)
    (hlr : row.length = 36) (hlv : vals.length = 36) (hend : endL gs 0 ≤ 36) (hgs : gs ≠ []) (hgl : gs.length ≤ 3)
    (hQ : ∀ R nl h' tk, Keeps s.heap h' → (∀ p ∈ nl, h'.get? p.1 = some p.2 ∧ s.heap.get? p.1 = none) → Built nl row vals gs R → Q (.ref R) { s with heap := h', toks := tk }),
    wpAny (model PySem.Challenge.rw_sx_zcanopy_6.row.prog w) A (call (.ref 71) [.ref rl, .ref vl, .ref pl]) Q E s
@[irreducible] noncomputable def tupl := pk19 BuildS rfl (by have := w_ne; have := s_ne; have := a_ne; have := g_ne; have := dr_ne; have := t_ne; have := p_ne; infer_instance)
@[irreducible] noncomputable def w := tupl.1
@[irreducible] noncomputable def p := tupl.2.1
@[irreducible] noncomputable def loose := tupl.2.2.1
@[irreducible] noncomputable def mean := tupl.2.2.2.1
@[irreducible] noncomputable def mg := tupl.2.2.2.2.1
@[irreducible] noncomputable def mb := tupl.2.2.2.2.2.1
@[irreducible] noncomputable def row := tupl.2.2.2.2.2.2.1
@[irreducible] noncomputable def vals := tupl.2.2.2.2.2.2.2.1
@[irreducible] noncomputable def gs := tupl.2.2.2.2.2.2.2.2.1
@[irreducible] noncomputable def rl := tupl.2.2.2.2.2.2.2.2.2.1
@[irreducible] noncomputable def vl := tupl.2.2.2.2.2.2.2.2.2.2.1
@[irreducible] noncomputable def pl := tupl.2.2.2.2.2.2.2.2.2.2.2.1
@[irreducible] noncomputable def rvs := tupl.2.2.2.2.2.2.2.2.2.2.2.2.1
@[irreducible] noncomputable def vvs := tupl.2.2.2.2.2.2.2.2.2.2.2.2.2.1
@[irreducible] noncomputable def pvs := tupl.2.2.2.2.2.2.2.2.2.2.2.2.2.2.1
@[irreducible] noncomputable def A := tupl.2.2.2.2.2.2.2.2.2.2.2.2.2.2.2.1
@[irreducible] noncomputable def s := tupl.2.2.2.2.2.2.2.2.2.2.2.2.2.2.2.2.1
@[irreducible] noncomputable def Q := tupl.2.2.2.2.2.2.2.2.2.2.2.2.2.2.2.2.2.1
@[irreducible] noncomputable def E := tupl.2.2.2.2.2.2.2.2.2.2.2.2.2.2.2.2.2.2
noncomputable def QQ : Prop := ap19 BuildS rfl w p loose mean mg mb row vals gs rl vl pl rvs vvs pvs A s Q E
theorem back (h : QQ) : BuildS := bk19 rfl (by have := w_ne; have := s_ne; have := a_ne; have := g_ne; have := dr_ne; have := t_ne; have := p_ne; infer_instance) (by with_unfolding_all exact h)
noncomputable def cutS1 : Got1 QQ := ⟨_, by
  intro hCut1
  w_top off
  intro X TP hh hd hrl hri hvl hvi hpl hpa hlr hlv hend hgs hgl hQ
  revert X
  k_fill
  intro X
  refine wpAny_call ?_
  refine' enter X TP ?k6 ?k7 ?k8 ?k9 ?kB ?_ ?c2 ?c3 ?c4 ?c5
  case k6 => k_is
  case k7 => k_is
  case k8 => (first | lia | omega)
  case k9 => exact BindsTo.of_eq rfl
  case kB => exact locs rfl
  case c2 => exact rfl
  case c3 => exact rfl
  case c4 => exact rfl
  case c5 => decide
  intro h₁ F N
  dsimp only
  k_fold
  have F1 : Fr s.heap s.heap.objs.size h₁ (fun y => List.lookup y [(Str.ofString "plan", Value.ref pl), (Str.ofString "vals", Value.ref vl), (Str.ofString "row", Value.ref rl)]) := F
  clear F
  k_steps
  (rename Fr _ _ _ _ => F')
  (rename News _ _ _ _ => N')
  refine at_four N' ?_
  intro nd kd va ka e1 e2 e3 e4
  subst e1 e2 e3 e4
  iterate 3 ((try unfold qk); (try unfold ek); (try clear qk); (try clear ek))
  rename_i zS11x0 zS11x1 zS11x2 zS11x3 zS11x4 zS11x5 zS11x6 zS11x7 zS11x8 zS11x9 zS11x10 zS11x11 zS11x12 zS11x13 zS11x14
  clear zS11x0 zS11x1 zS11x2 zS11x3 zS11x4 zS11x5 zS11x6 zS11x7 zS11x8 zS11x9 zS11x10
  revert TP hh hd hrl hri hvl hvi hpl hpa hlr hlv hend hgs hgl hQ X zS11x12 zS11x13 zS11x14 F' N'
  revert h₁ zS11x11 tk nd kd va ka
  exact hCut1.out⟩
namespace S11
@[irreducible] noncomputable def tupl := pk7 cutS1.Q1 rfl (by have := w_ne; have := s_ne; have := a_ne; have := g_ne; have := dr_ne; have := t_ne; have := p_ne; infer_instance)
@[irreducible] noncomputable def h₁ := tupl.1
@[irreducible] noncomputable def zS11x11 := tupl.2.1
@[irreducible] noncomputable def tk := tupl.2.2.1
@[irreducible] noncomputable def nd := tupl.2.2.2.1
@[irreducible] noncomputable def kd := tupl.2.2.2.2.1
@[irreducible] noncomputable def va := tupl.2.2.2.2.2.1
@[irreducible] noncomputable def ka := tupl.2.2.2.2.2.2
noncomputable def QQ : Prop := ap7 cutS1.Q1 rfl h₁ zS11x11 tk nd kd va ka
theorem back (h : QQ) : cutS1.Q1 := bk7 rfl (by have := w_ne; have := s_ne; have := a_ne; have := g_ne; have := dr_ne; have := t_ne; have := p_ne; infer_instance) (by with_unfolding_all exact h)
noncomputable def cutLP : Got2 QQ := ⟨_, _, by
  intro hCut1 hCut2
  w_top off
  intro TP hh hd hrl hri hvl hvi hpl hpa hlr hlv hend hgs hgl hQ X zS11x12 zS11x13 zS11x14 F' N'
  revert X
  k_fill
  intro X
  (try k_fold)
  refine For_turns F' ?_ (by intro _; rfl) (by passes_own)
  walk1
  refine iterTA [Str.ofString "begin", Str.ofString "kid", Str.ofString "end", Str.ofString "deep", Str.ofString "a", Str.ofString "b"] (Str.ofString "at") (fun i => ((endL (gs.take i) 0 : Nat) : Int))
    (fun i nx => ∃ ndv kdv vav kav c1 c2 c3 c4 rest, nx = (nd, W.listOf ndv.toArray c1) :: (kd, W.listOf kdv.toArray c2) :: (va, W.listOf vav.toArray c3) :: (ka, W.listOf kav.toArray c4) :: rest ∧
      (∀ p ∈ rest, p.1 ≠ nd) ∧ (∀ p ∈ rest, p.1 ≠ kd) ∧ (∀ p ∈ rest, p.1 ≠ va) ∧ (∀ p ∈ rest, p.1 ≠ ka) ∧ NdsIn rest ndv (nodesL (gs.take i) 0) ∧ TsIn rest kdv (kidsL row vals (gs.take i) 0) ∧ IntsAre kav (keysL row (gs.take i) 0) ∧ IntsAre vav (keysL vals (gs.take i) 0))
    (by exact hh) hpl F' N' ⟨_, rfl⟩ ⟨[], [], [], [], 0, 0, 0, 0, [], rfl, (fun _ h => nomatch h), (fun _ h => nomatch h), (fun _ h => nomatch h), (fun _ h => nomatch h), .nil, .nil, .nil, .nil⟩ ?_ ?_
  · rintro i v u tkp nx h tk I oI hv ⟨ndv, kdv, vav, kav, c1, c2, c3, c4, rest, rfl, hs1, hs2, hs3, hs4, hnd, hkd, hka, hva⟩ hn F₁ N₁
    k_fold
    clear F' N'
    replace F₁ : Fr s.heap s.heap.objs.size h _ := F₁
    replace N₁ : News s.heap s.heap.objs.size h _ := N₁
    obtain ⟨hpa1, hpa2⟩ := hpa
    have hi : i < gs.length := by rw [← hpa1]; exact (List.getElem?_eq_some_iff.mp hv).1
    obtain ⟨tt, td, ta, tb, hvt, htup⟩ := hpa2 i gs[i] (List.getElem?_eq_getElem hi)
    obtain rfl : v = .ref tt := Option.some.inj (hv.symm.trans hvt)
    have hlt := endL_take hi
    have hle := endL_mono gs 0 (i + 1)
    have q1 := neN (hn _ (.head _))
    have q2 := neN (hn _ (.tail _ (.head _)))
    have q3 := neN (hn _ (.tail _ (.tail _ (.head _))))
    have q4 := neN (hn _ (.tail _ (.tail _ (.tail _ (.head _)))))
    dsimp only at q1 q2 q3 q4
    have hnr : ∀ p ∈ rest, p.1 ≠ I := fun p hp => hn p (.tail _ (.tail _ (.tail _ (.tail _ hp))))
    clear hn
    have l1' := nodesL_len (gs.take i) 0
    rw [List.length_take] at l1'
    have l2' := hnd.length
    have l3' := hkd.length
    rw [kidsL_length, List.length_take] at l3'
    have l4' := IntsAre.length hka
    rw [keysL_length, List.length_take] at l4'
    have l5' := IntsAre.length hva
    rw [keysL_length, List.length_take] at l5'
    have hg3 : gs.length ≤ 3 := hgl
    generalize hat : endL (gs.take i) 0 = pos at *
    generalize hgi : gs[i] = g at *
    iterate 3 ((try unfold qk); (try unfold ek); (try clear qk); (try clear ek))
    revert TP hh hd hrl hri hvl hvi hpl hlr hlv hend hgs hgl hQ zS11x12 zS11x13 zS11x14 X hs1 hs2 hs3 hs4 hnd hkd hka hva N₁ hpa1 hpa2 hi hvt hv hle q1 q2 q3 q4 hnr l1' l2' l3' l4' l5' hg3 hat F₁ hgi htup hlt
    revert i u tkp h tk I oI ndv kdv vav kav c1 c2 c3 c4 rest tt td ta tb pos g
    exact hCut1.out
  · rintro uA tkpA nxA hA tkA ⟨ndvA, kdvA, vavA, kavA, c1A, c2A, c3A, c4A, restA, rfl, hs1, hs2, hs3, hs4, hnd, hkd, hka, hva⟩ F₁ N₁
    clear F' N'
    iterate 3 ((try unfold qk); (try unfold ek); (try clear qk); (try clear ek))
    revert TP hh hd hrl hri hvl hvi hpl hpa hlr hlv hend hgs hgl hQ zS11x12 zS11x13 zS11x14 X hs1 hs2 hs3 hs4 hnd hkd hka hva F₁ N₁
    revert uA tkpA hA tkA ndvA kdvA vavA kavA c1A c2A c3A c4A restA
    exact hCut2.out⟩
end S11
namespace S11.LP1
@[irreducible] noncomputable def tupl := pk22 cutLP.Q1 rfl (by have := w_ne; have := s_ne; have := a_ne; have := g_ne; have := dr_ne; have := t_ne; have := p_ne; infer_instance)
@[irreducible] noncomputable def i := tupl.1
@[irreducible] noncomputable def u := tupl.2.1
@[irreducible] noncomputable def tkp := tupl.2.2.1
@[irreducible] noncomputable def h := tupl.2.2.2.1
@[irreducible] noncomputable def tk := tupl.2.2.2.2.1
@[irreducible] noncomputable def I := tupl.2.2.2.2.2.1
@[irreducible] noncomputable def oI := tupl.2.2.2.2.2.2.1
@[irreducible] noncomputable def ndv := tupl.2.2.2.2.2.2.2.1
@[irreducible] noncomputable def kdv := tupl.2.2.2.2.2.2.2.2.1
@[irreducible] noncomputable def vav := tupl.2.2.2.2.2.2.2.2.2.1
@[irreducible] noncomputable def kav := tupl.2.2.2.2.2.2.2.2.2.2.1
@[irreducible] noncomputable def c1 := tupl.2.2.2.2.2.2.2.2.2.2.2.1
@[irreducible] noncomputable def c2 := tupl.2.2.2.2.2.2.2.2.2.2.2.2.1
@[irreducible] noncomputable def c3 := tupl.2.2.2.2.2.2.2.2.2.2.2.2.2.1
@[irreducible] noncomputable def c4 := tupl.2.2.2.2.2.2.2.2.2.2.2.2.2.2.1
@[irreducible] noncomputable def rest := tupl.2.2.2.2.2.2.2.2.2.2.2.2.2.2.2.1
@[irreducible] noncomputable def tt := tupl.2.2.2.2.2.2.2.2.2.2.2.2.2.2.2.2.1
@[irreducible] noncomputable def td := tupl.2.2.2.2.2.2.2.2.2.2.2.2.2.2.2.2.2.1
@[irreducible] noncomputable def ta := tupl.2.2.2.2.2.2.2.2.2.2.2.2.2.2.2.2.2.2.1
@[irreducible] noncomputable def tb := tupl.2.2.2.2.2.2.2.2.2.2.2.2.2.2.2.2.2.2.2.1
@[irreducible] noncomputable def pos := tupl.2.2.2.2.2.2.2.2.2.2.2.2.2.2.2.2.2.2.2.2.1
@[irreducible] noncomputable def g := tupl.2.2.2.2.2.2.2.2.2.2.2.2.2.2.2.2.2.2.2.2.2
noncomputable def QQ : Prop := ap22 cutLP.Q1 rfl i u tkp h tk I oI ndv kdv vav kav c1 c2 c3 c4 rest tt td ta tb pos g
theorem back (h : QQ) : cutLP.Q1 := bk22 rfl (by have := w_ne; have := s_ne; have := a_ne; have := g_ne; have := dr_ne; have := t_ne; have := p_ne; infer_instance) (by with_unfolding_all exact h)
noncomputable def cutC : Got2 QQ := ⟨_, _, by
  intro hCut1 hCut2
  w_top off
  intro TP hh hd hrl hri hvl hvi hpl hlr hlv hend hgs hgl hQ zS11x12 zS11x13 zS11x14 X hs1 hs2 hs3 hs4 hnd hkd hka hva N₁ hpa1 hpa2 hi hvt hv hle q1 q2 q3 q4 hnr l1' l2' l3' l4' l5' hg3 hat F₁ hgi htup hlt
  revert X
  k_fill
  intro X
  (try k_fold)
  cases hdp : g.dp with
  | false =>
    iterate 3 ((try unfold qk); (try unfold ek); (try clear qk); (try clear ek))
    revert TP hh hd hrl hri hvl hvi hpl hlr hlv hend hgs hgl hQ zS11x12 zS11x13 zS11x14 hs1 hs2 hs3 hs4 hnd hkd hka hva N₁ hpa1 hpa2 hi hvt hv hle q1 q2 q3 q4 hnr l1' l2' l3' l4' l5' hg3 hat F₁ hgi htup hlt X hdp
    exact hCut1.out
  | true =>
    iterate 3 ((try unfold qk); (try unfold ek); (try clear qk); (try clear ek))
    revert TP hh hd hrl hri hvl hvi hpl hlr hlv hend hgs hgl hQ zS11x12 zS11x13 zS11x14 hs1 hs2 hs3 hs4 hnd hkd hka hva N₁ hpa1 hpa2 hi hvt hv hle q1 q2 q3 q4 hnr l1' l2' l3' l4' l5' hg3 hat F₁ hgi htup hlt X hdp
    exact hCut2.out⟩
end S11.LP1
namespace S11.LP1.C1
noncomputable def QQ : Prop := cutC.Q1
theorem back (h : QQ) : cutC.Q1 := h
noncomputable def cutF1 : Got1 QQ := ⟨_, by
  intro hCut1
  w_top off
  intro TP hh hd hrl hri hvl hvi hpl hlr hlv hend hgs hgl hQ zS11x12 zS11x13 zS11x14 hs1 hs2 hs3 hs4 hnd hkd hka hva N₁ hpa1 hpa2 hi hvt hv hle q1 q2 q3 q4 hnr l1' l2' l3' l4' l5' hg3 hat F₁ hgi htup hlt X hdp
  revert X
  k_fill
  intro X
  (try k_fold)
  have hlen : g.len = g.a := by simp [G.len, hdp]
  rw [hdp] at htup
  have htup' : IsTup s.heap tt [Value.int 0 td, Value.int (g.a : Int) ta, Value.int (g.b : Int) tb].toArray := htup
  clear htup
  refine unpackN_ F₁ N₁ (htup'.keeps F₁.keep) (by exact hh) rfl rfl ?_
  intro h2 F₂ N₂
  clear F₁ N₁
  k_steps
  refine slice_run pos (pos + g.a) (by k_asm) (by k_asm) (Fr.lst (by k_asm) hrl) hri rfl (by (first | lia | omega)) (by (first | lia | omega)) (by (first | lia | omega)) ?_
  intro D1 w1 h3 F₃ N₃ z1 i1
  k_lt z1
  k_steps
  iterate 3 ((try unfold qk); (try unfold ek); (try clear qk); (try clear ek))
  rename_i zF11x0 zF11x1 zF11x2 zF11x3 zF11x4 zF11x5 zF11x6 zF11x7 zF11x8
  clear h2 zF11x0 zF11x1 zF11x2
  revert TP hh hd hrl hri hvl hvi hpl hlr hlv hend hgs hgl hQ zS11x12 zS11x13 zS11x14 hs1 hs2 hs3 hs4 hnd hkd hka hva hpa1 hpa2 hi hvt hv hle q1 q2 q3 q4 hnr l1' l2' l3' l4' l5' hg3 hat hgi hlt hdp X hlen htup' zF11x6 zF11x7 F₃ N₃ i1 z1
  revert zF11x3 zF11x4 zF11x5 zF11x8 D1 w1 h3
  exact hCut1.out⟩
end S11.LP1.C1
namespace S11.LP1.C1.F11
@[irreducible] noncomputable def tupl := pk7 cutF1.Q1 rfl (by have := w_ne; have := s_ne; have := a_ne; have := g_ne; have := dr_ne; have := t_ne; have := p_ne; infer_instance)
@[irreducible] noncomputable def zF11x3 := tupl.1
@[irreducible] noncomputable def zF11x4 := tupl.2.1
@[irreducible] noncomputable def zF11x5 := tupl.2.2.1
@[irreducible] noncomputable def zF11x8 := tupl.2.2.2.1
@[irreducible] noncomputable def D1 := tupl.2.2.2.2.1
@[irreducible] noncomputable def w1 := tupl.2.2.2.2.2.1
@[irreducible] noncomputable def h3 := tupl.2.2.2.2.2.2
noncomputable def QQ : Prop := ap7 cutF1.Q1 rfl zF11x3 zF11x4 zF11x5 zF11x8 D1 w1 h3
theorem back (h : QQ) : cutF1.Q1 := bk7 rfl (by have := w_ne; have := s_ne; have := a_ne; have := g_ne; have := dr_ne; have := t_ne; have := p_ne; infer_instance) (by with_unfolding_all exact h)
theorem finF2 : QQ := by
  w_top off
  intro TP hh hd hrl hri hvl hvi hpl hlr hlv hend hgs hgl hQ zS11x12 zS11x13 zS11x14 hs1 hs2 hs3 hs4 hnd hkd hka hva hpa1 hpa2 hi hvt hv hle q1 q2 q3 q4 hnr l1' l2' l3' l4' l5' hg3 hat hgi hlt hdp X hlen htup' zF11x6 zF11x7 F₃ N₃ i1 z1
  revert X
  k_fill
  intro X
  (try k_fold)
  refine slice_run pos (pos + g.a) (by k_asm) (by k_asm) (Fr.lst (by k_asm) hvl) hvi rfl (by (first | lia | omega)) (by (first | lia | omega)) (by (first | lia | omega)) ?_
  intro D2 w2 h4 F₄ N₄ z2 i2
  k_lt z2
  have hw1 : w1.toArray.size = g.a := by rw [List.size_toArray, i1.length, slc_length _ (by (first | lia | omega))]; (first | lia | omega)
  k_steps
  (rename Fr _ _ _ _ => F₅)
  (rename News _ _ _ _ => N₅)
  simp only [List.push_toArray] at N₅
  have N₆ := sink5 N₅
  have hsl : (slc row pos (pos + g.a)).length = g.a := by rw [slc_length _ (by (first | lia | omega))]; (first | lia | omega)
  have htk := take_next hi
  rw [hgi] at htk
  have hra : row.getD ((pos : Int) + (g.a : Int)).toNat 0 = row.getD (pos + g.len) 0 := by rw [hlen, show ((pos : Int) + (g.a : Int)).toNat = pos + g.a by (first | lia | omega)]
  have hva' : vals.getD ((pos : Int) + (g.a : Int)).toNat 0 = vals.getD (pos + g.len) 0 := by rw [hlen, show ((pos : Int) + (g.a : Int)).toNat = pos + g.a by (first | lia | omega)]
  refine turnEndA F₅ N₆ (fun p hp => hp) (by k_all) (fun z h1 h2 => by simp at h1; simp [h1, h2]) (by show some (Value.int _ _) = _; rw [hlt]; simp [hlen]; rfl) ⟨_, _, _, _, _, _, _, _, _, rfl, by k_all, by k_all, by k_all, by k_all, ?_, ?_, ?_, ?_⟩
  · rw [htk, nodesL_app, hat, show nodesL [g] pos = [⟨1, pos, pos + g.a, g.a⟩] by simp [nodesL, nodesG, hdp, hlen]]
    exact (hnd.mono fun p hp => .tail _ (.tail _ (.tail _ (.tail _ (.tail _ (hp)))))).append (.cons (NdIn.of (.head _) rfl rfl (by simp) rfl) .nil)
  · rw [htk, kidsL_app, hat, show kidsL row vals [g] pos = [leafT row vals pos (pos + g.a)] by simp [kidsL, kidT, hdp]]
    exact (hkd.mono fun p hp => .tail _ (.tail _ (.tail _ (.tail _ (.tail _ (hp)))))).append (.cons (leaf_in (.tail _ (.head _)) (.tail _ (.tail _ (.tail _ (.tail _ (.head _))))) i1 (.tail _ (.tail _ (.tail _ (.head _)))) i2 (.tail _ (.tail _ (.head _)))) .nil)
  · rw [htk, keysL_app, hat]
    exact snoc hka hra
  · rw [htk, keysL_app, hat]
    exact snoc hva hva'
end S11.LP1.C1.F11
namespace S11.LP1.C2
noncomputable def QQ : Prop := cutC.Q2
theorem back (h : QQ) : cutC.Q2 := h
noncomputable def cutT1 : Got1 QQ := ⟨_, by
  intro hCut1
  w_top off
  intro TP hh hd hrl hri hvl hvi hpl hlr hlv hend hgs hgl hQ zS11x12 zS11x13 zS11x14 hs1 hs2 hs3 hs4 hnd hkd hka hva N₁ hpa1 hpa2 hi hvt hv hle q1 q2 q3 q4 hnr l1' l2' l3' l4' l5' hg3 hat F₁ hgi htup hlt X hdp
  revert X
  k_fill
  intro X
  (try k_fold)
  have hlen : g.len = g.a + 1 + g.b := by simp [G.len, hdp]
  rw [hdp] at htup
  have htup' : IsTup s.heap tt [Value.int 1 td, Value.int (g.a : Int) ta, Value.int (g.b : Int) tb].toArray := htup
  clear htup
  refine unpackN_ F₁ N₁ (htup'.keeps F₁.keep) (by exact hh) rfl rfl ?_
  intro h2 F₂ N₂
  clear F₁ N₁
  k_steps
  refine slice_run pos (pos + g.a) (by k_asm) (by k_asm) (Fr.lst (by k_asm) hrl) hri rfl (by (first | lia | omega)) (by (first | lia | omega)) (by (first | lia | omega)) ?_
  intro D1 w1 h3 F₃ N₃ z1 i1
  k_lt z1
  k_steps
  refine slice_run pos (pos + g.a) (by k_asm) (by k_asm) (Fr.lst (by k_asm) hvl) hvi rfl (by (first | lia | omega)) (by (first | lia | omega)) (by (first | lia | omega)) ?_
  intro D2 w2 h4 F₄ N₄ z2 i2
  k_lt z2
  k_steps
  iterate 3 ((try unfold qk); (try unfold ek); (try clear qk); (try clear ek))
  rename_i zT11x0 zT11x1 zT11x2 zT11x3 zT11x4 zT11x5 zT11x6 zT11x7 zT11x8 zT11x9 zT11x10 zT11x11 zT11x12 zT11x13 zT11x14 zT11x15 zT11x16 zT11x17 zT11x18 zT11x19 zT11x20 zT11x21 zT11x22 zT11x23 zT11x24 zT11x25 zT11x26 zT11x27 zT11x28 zT11x29 zT11x30 zT11x31 zT11x32 zT11x33 zT11x34 zT11x35 zT11x36
  clear h2 zT11x0 zT11x1 zT11x2 zT11x5 zT11x6 h3 h4 zT11x8 zT11x11 zT11x14 zT11x16 zT11x19 zT11x21 zT11x23 zT11x25
  revert TP hh hd hrl hri hvl hvi hpl hlr hlv hend hgs hgl hQ zS11x12 zS11x13 zS11x14 hs1 hs2 hs3 hs4 hnd hkd hka hva hpa1 hpa2 hi hvt hv hle q1 q2 q3 q4 hnr l1' l2' l3' l4' l5' hg3 hat hgi hlt hdp X hlen htup' i1 z1 i2 z2 zT11x9 zT11x12 zT11x20 zT11x24 zT11x30 zT11x34 zT11x35 zT11x36
  revert zT11x3 zT11x4 D1 w1 D2 w2 zT11x7 zT11x10 zT11x13 zT11x15 zT11x17 zT11x18 tk zT11x22 zT11x26 zT11x27 zT11x28 zT11x29 zT11x31 zT11x32 zT11x33
  exact hCut1.out⟩
end S11.LP1.C2
namespace S11.LP1.C2.T11
@[irreducible] noncomputable def tupl := pk21 cutT1.Q1 rfl (by have := w_ne; have := s_ne; have := a_ne; have := g_ne; have := dr_ne; have := t_ne; have := p_ne; infer_instance)
@[irreducible] noncomputable def zT11x3 := tupl.1
@[irreducible] noncomputable def zT11x4 := tupl.2.1
@[irreducible] noncomputable def D1 := tupl.2.2.1
@[irreducible] noncomputable def w1 := tupl.2.2.2.1
@[irreducible] noncomputable def D2 := tupl.2.2.2.2.1
@[irreducible] noncomputable def w2 := tupl.2.2.2.2.2.1
@[irreducible] noncomputable def zT11x7 := tupl.2.2.2.2.2.2.1
@[irreducible] noncomputable def zT11x10 := tupl.2.2.2.2.2.2.2.1
@[irreducible] noncomputable def zT11x13 := tupl.2.2.2.2.2.2.2.2.1
@[irreducible] noncomputable def zT11x15 := tupl.2.2.2.2.2.2.2.2.2.1
@[irreducible] noncomputable def zT11x17 := tupl.2.2.2.2.2.2.2.2.2.2.1
@[irreducible] noncomputable def zT11x18 := tupl.2.2.2.2.2.2.2.2.2.2.2.1
@[irreducible] noncomputable def tk := tupl.2.2.2.2.2.2.2.2.2.2.2.2.1
@[irreducible] noncomputable def zT11x22 := tupl.2.2.2.2.2.2.2.2.2.2.2.2.2.1
@[irreducible] noncomputable def zT11x26 := tupl.2.2.2.2.2.2.2.2.2.2.2.2.2.2.1
@[irreducible] noncomputable def zT11x27 := tupl.2.2.2.2.2.2.2.2.2.2.2.2.2.2.2.1
@[irreducible] noncomputable def zT11x28 := tupl.2.2.2.2.2.2.2.2.2.2.2.2.2.2.2.2.1
@[irreducible] noncomputable def zT11x29 := tupl.2.2.2.2.2.2.2.2.2.2.2.2.2.2.2.2.2.1
@[irreducible] noncomputable def zT11x31 := tupl.2.2.2.2.2.2.2.2.2.2.2.2.2.2.2.2.2.2.1
@[irreducible] noncomputable def zT11x32 := tupl.2.2.2.2.2.2.2.2.2.2.2.2.2.2.2.2.2.2.2.1
@[irreducible] noncomputable def zT11x33 := tupl.2.2.2.2.2.2.2.2.2.2.2.2.2.2.2.2.2.2.2.2
noncomputable def QQ : Prop := ap21 cutT1.Q1 rfl zT11x3 zT11x4 D1 w1 D2 w2 zT11x7 zT11x10 zT11x13 zT11x15 zT11x17 zT11x18 tk zT11x22 zT11x26 zT11x27 zT11x28 zT11x29 zT11x31 zT11x32 zT11x33
theorem back (h : QQ) : cutT1.Q1 := bk21 rfl (by have := w_ne; have := s_ne; have := a_ne; have := g_ne; have := dr_ne; have := t_ne; have := p_ne; infer_instance) (by with_unfolding_all exact h)
noncomputable def cutT2 : Got1 QQ := ⟨_, by
  intro hCut1
  w_top off
  intro TP hh hd hrl hri hvl hvi hpl hlr hlv hend hgs hgl hQ zS11x12 zS11x13 zS11x14 hs1 hs2 hs3 hs4 hnd hkd hka hva hpa1 hpa2 hi hvt hv hle q1 q2 q3 q4 hnr l1' l2' l3' l4' l5' hg3 hat hgi hlt hdp X hlen htup' i1 z1 i2 z2 zT11x9 zT11x12 zT11x20 zT11x24 zT11x30 zT11x34 zT11x35 zT11x36
  revert X
  k_fill
  intro X
  (try k_fold)
  refine slice_run (pos + g.a + 1) (pos + g.a + 1 + g.b) (by k_asm) (by k_asm) (Fr.lst (by k_asm) hrl) hri (by (first | lia | omega)) (by (first | lia | omega)) (by (first | lia | omega)) (by (first | lia | omega)) ?_
  intro D3 w3 h3 F₃ N₃ z3 i3
  k_lt z3
  k_steps
  refine slice_run (pos + g.a + 1) (pos + g.a + 1 + g.b) (by k_asm) (by k_asm) (Fr.lst (by k_asm) hvl) hvi (by (first | lia | omega)) (by (first | lia | omega)) (by (first | lia | omega)) (by (first | lia | omega)) ?_
  intro D4 w4 h4 F₄ N₄ z4 i4
  k_lt z4
  k_steps
  iterate 3 ((try unfold qk); (try unfold ek); (try clear qk); (try clear ek))
  rename_i zT21x0 zT21x1 zT21x2 zT21x3 zT21x4 zT21x5 zT21x6 zT21x7 zT21x8 zT21x9 zT21x10 zT21x11 zT21x12 zT21x13 zT21x14 zT21x15 zT21x16 zT21x17 zT21x18 zT21x19 zT21x20 zT21x21 zT21x22 zT21x23 zT21x24 zT21x25 zT21x26 zT21x27 zT21x28 zT21x29
  clear h3 h4 zT21x1 zT21x4 zT21x7 zT21x10 zT21x12 zT21x14 zT21x16 zT21x18 zT21x19 zT21x21 zT21x22 zT21x24 zT21x25
  revert TP hh hd hrl hri hvl hvi hpl hlr hlv hend hgs hgl hQ zS11x12 zS11x13 zS11x14 hs1 hs2 hs3 hs4 hnd hkd hka hva hpa1 hpa2 hi hvt hv hle q1 q2 q3 q4 hnr l1' l2' l3' l4' l5' hg3 hat hgi hlt hdp hlen htup' i1 z1 i2 z2 zT11x9 zT11x12 zT11x20 zT11x24 zT11x30 zT11x36 X i3 z3 i4 z4 zT21x2 zT21x5 zT21x8 zT21x11 zT21x17 zT21x28 zT21x29
  revert D3 w3 D4 w4 zT21x0 zT21x3 zT21x6 zT21x9 zT21x13 zT21x15 zT21x20 zT21x23 zT21x26 tk zT21x27
  exact hCut1.out⟩
end S11.LP1.C2.T11
namespace S11.LP1.C2.T11.T21
@[irreducible] noncomputable def tupl := pk15 cutT2.Q1 rfl (by have := w_ne; have := s_ne; have := a_ne; have := g_ne; have := dr_ne; have := t_ne; have := p_ne; infer_instance)
@[irreducible] noncomputable def D3 := tupl.1
@[irreducible] noncomputable def w3 := tupl.2.1
@[irreducible] noncomputable def D4 := tupl.2.2.1
@[irreducible] noncomputable def w4 := tupl.2.2.2.1
@[irreducible] noncomputable def zT21x0 := tupl.2.2.2.2.1
@[irreducible] noncomputable def zT21x3 := tupl.2.2.2.2.2.1
@[irreducible] noncomputable def zT21x6 := tupl.2.2.2.2.2.2.1
@[irreducible] noncomputable def zT21x9 := tupl.2.2.2.2.2.2.2.1
@[irreducible] noncomputable def zT21x13 := tupl.2.2.2.2.2.2.2.2.1
@[irreducible] noncomputable def zT21x15 := tupl.2.2.2.2.2.2.2.2.2.1
@[irreducible] noncomputable def zT21x20 := tupl.2.2.2.2.2.2.2.2.2.2.1
@[irreducible] noncomputable def zT21x23 := tupl.2.2.2.2.2.2.2.2.2.2.2.1
@[irreducible] noncomputable def zT21x26 := tupl.2.2.2.2.2.2.2.2.2.2.2.2.1
@[irreducible] noncomputable def tk := tupl.2.2.2.2.2.2.2.2.2.2.2.2.2.1
@[irreducible] noncomputable def zT21x27 := tupl.2.2.2.2.2.2.2.2.2.2.2.2.2.2
noncomputable def QQ : Prop := ap15 cutT2.Q1 rfl D3 w3 D4 w4 zT21x0 zT21x3 zT21x6 zT21x9 zT21x13 zT21x15 zT21x20 zT21x23 zT21x26 tk zT21x27
theorem back (h : QQ) : cutT2.Q1 := bk15 rfl (by have := w_ne; have := s_ne; have := a_ne; have := g_ne; have := dr_ne; have := t_ne; have := p_ne; infer_instance) (by with_unfolding_all exact h)
theorem finT3 : QQ := by
  w_top off
  intro TP hh hd hrl hri hvl hvi hpl hlr hlv hend hgs hgl hQ zS11x12 zS11x13 zS11x14 hs1 hs2 hs3 hs4 hnd hkd hka hva hpa1 hpa2 hi hvt hv hle q1 q2 q3 q4 hnr l1' l2' l3' l4' l5' hg3 hat hgi hlt hdp hlen htup' i1 z1 i2 z2 zT11x9 zT11x12 zT11x20 zT11x24 zT11x30 zT11x36 X i3 z3 i4 z4 zT21x2 zT21x5 zT21x8 zT21x11 zT21x17 zT21x28 zT21x29
  revert X
  k_fill
  intro X
  (try k_fold)
  (rename Fr _ _ _ _ => F₅)
  (rename News _ _ _ _ => N₅)
  simp only [List.push_toArray] at N₅
  have N₆ := sink15 N₅
  have htk := take_next hi
  rw [hgi] at htk
  have hra : row.getD ((pos : Int) + (g.a : Int) + 1 + (g.b : Int)).toNat 0 = row.getD (pos + g.len) 0 := by rw [hlen, show ((pos : Int) + (g.a : Int) + 1 + (g.b : Int)).toNat = pos + (g.a + 1 + g.b) by (first | lia | omega)]
  have hva' : vals.getD ((pos : Int) + (g.a : Int) + 1 + (g.b : Int)).toNat 0 = vals.getD (pos + g.len) 0 := by rw [hlen, show ((pos : Int) + (g.a : Int) + 1 + (g.b : Int)).toNat = pos + (g.a + 1 + g.b) by (first | lia | omega)]
  have hr1 : row.getD ((pos : Int) + (g.a : Int)).toNat 0 = row.getD (pos + g.a) 0 := by rw [show ((pos : Int) + (g.a : Int)).toNat = pos + g.a by (first | lia | omega)]
  have hv1 : vals.getD ((pos : Int) + (g.a : Int)).toNat 0 = vals.getD (pos + g.a) 0 := by rw [show ((pos : Int) + (g.a : Int)).toNat = pos + g.a by (first | lia | omega)]
  refine turnEndA F₅ N₆ (fun p hp => hp) (by k_all) (fun z h1 h2 => by simp at h1; simp [h1, h2]) (by show some (Value.int _ _) = _; rw [hlt, hlen]; simp [Int.add_assoc]; rfl) ⟨_, _, _, _, _, _, _, _, _, rfl, by k_all, by k_all, by k_all, by k_all, ?_, ?_, ?_, ?_⟩
  · rw [htk, nodesL_app, hat, show nodesL [g] pos = [⟨2, pos, pos + g.a, g.a⟩] ++ [⟨2, pos + g.a + 1, pos + g.a + 1 + g.b, g.b⟩] ++ [⟨1, pos, pos + (g.a + 1 + g.b), 1⟩] by simp [nodesL, nodesG, hdp, hlen], ← List.append_assoc, ← List.append_assoc]
    exact (((hnd.mono fun p hp => .tail _ (.tail _ (.tail _ (.tail _ (.tail _ (.tail _ (.tail _ (.tail _ (.tail _ (.tail _ (.tail _ (.tail _ (.tail _ (.tail _ (.tail _ (hp)))))))))))))))).append (.cons (NdIn.of (x := ⟨2, pos, pos + g.a, g.a⟩) (.tail _ (.tail _ (.tail _ (.tail _ (.tail _ (.tail _ (.tail _ (.tail _ (.tail _ (.tail _ (.head _))))))))))) rfl rfl (by dsimp only; (first | lia | omega)) rfl) .nil)).append (.cons (NdIn.of (x := ⟨2, pos + g.a + 1, pos + g.a + 1 + g.b, g.b⟩) (.tail _ (.tail _ (.tail _ (.tail _ (.tail _ (.tail _ (.tail _ (.tail _ (.tail _ (.head _)))))))))) rfl (by dsimp only; (first | lia | omega)) (by dsimp only; (first | lia | omega)) rfl) .nil)).append (.cons (NdIn.of (x := ⟨1, pos, pos + (g.a + 1 + g.b), 1⟩) (.head _) rfl rfl (by dsimp only; (first | lia | omega)) rfl) .nil)
  · rw [htk, kidsL_app, hat, show kidsL row vals [g] pos = [.node [row.getD (pos + g.a) 0] [vals.getD (pos + g.a) 0] [leafT row vals pos (pos + g.a), leafT row vals (pos + g.a + 1) (pos + g.a + 1 + g.b)]] by simp [kidsL, kidT, hdp], ← hr1, ← hv1]
    exact (hkd.mono fun p hp => .tail _ (.tail _ (.tail _ (.tail _ (.tail _ (.tail _ (.tail _ (.tail _ (.tail _ (.tail _ (.tail _ (.tail _ (.tail _ (.tail _ (.tail _ (hp)))))))))))))))).append (.cons (deep_in (.tail _ (.head _)) (.tail _ (.tail _ (.tail _ (.tail _ (.tail _ (.tail _ (.tail _ (.tail _ (.head _))))))))) (.tail _ (.tail _ (.tail _ (.tail _ (.tail _ (.tail _ (.tail _ (.head _)))))))) (.tail _ (.tail _ (.head _))) (leaf_in (.tail _ (.tail _ (.tail _ (.tail _ (.tail _ (.tail _ (.tail _ (.tail _ (.tail _ (.tail _ (.tail _ (.head _)))))))))))) (.tail _ (.tail _ (.tail _ (.tail _ (.tail _ (.tail _ (.tail _ (.tail _ (.tail _ (.tail _ (.tail _ (.tail _ (.tail _ (.tail _ (.head _))))))))))))))) i1 (.tail _ (.tail _ (.tail _ (.tail _ (.tail _ (.tail _ (.tail _ (.tail _ (.tail _ (.tail _ (.tail _ (.tail _ (.tail _ (.head _)))))))))))))) i2 (.tail _ (.tail _ (.tail _ (.tail _ (.tail _ (.tail _ (.tail _ (.tail _ (.tail _ (.tail _ (.tail _ (.tail _ (.head _)))))))))))))) (leaf_in (.tail _ (.tail _ (.tail _ (.head _)))) (.tail _ (.tail _ (.tail _ (.tail _ (.tail _ (.tail _ (.head _))))))) i3 (.tail _ (.tail _ (.tail _ (.tail _ (.tail _ (.head _)))))) i4 (.tail _ (.tail _ (.tail _ (.tail _ (.head _))))))) .nil)
  · rw [htk, keysL_app, hat]
    exact snoc hka hra
  · rw [htk, keysL_app, hat]
    exact snoc hva hva'
end S11.LP1.C2.T11.T21
namespace S11.LP2
@[irreducible] noncomputable def tupl := pk13 cutLP.Q2 rfl (by have := w_ne; have := s_ne; have := a_ne; have := g_ne; have := dr_ne; have := t_ne; have := p_ne; infer_instance)
@[irreducible] noncomputable def uA := tupl.1
@[irreducible] noncomputable def tkpA := tupl.2.1
@[irreducible] noncomputable def hA := tupl.2.2.1
@[irreducible] noncomputable def tkA := tupl.2.2.2.1
@[irreducible] noncomputable def ndvA := tupl.2.2.2.2.1
@[irreducible] noncomputable def kdvA := tupl.2.2.2.2.2.1
@[irreducible] noncomputable def vavA := tupl.2.2.2.2.2.2.1
@[irreducible] noncomputable def kavA := tupl.2.2.2.2.2.2.2.1
@[irreducible] noncomputable def c1A := tupl.2.2.2.2.2.2.2.2.1
@[irreducible] noncomputable def c2A := tupl.2.2.2.2.2.2.2.2.2.1
@[irreducible] noncomputable def c3A := tupl.2.2.2.2.2.2.2.2.2.2.1
@[irreducible] noncomputable def c4A := tupl.2.2.2.2.2.2.2.2.2.2.2.1
@[irreducible] noncomputable def restA := tupl.2.2.2.2.2.2.2.2.2.2.2.2
noncomputable def QQ : Prop := ap13 cutLP.Q2 rfl uA tkpA hA tkA ndvA kdvA vavA kavA c1A c2A c3A c4A restA
theorem back (h : QQ) : cutLP.Q2 := bk13 rfl (by have := w_ne; have := s_ne; have := a_ne; have := g_ne; have := dr_ne; have := t_ne; have := p_ne; infer_instance) (by with_unfolding_all exact h)
noncomputable def cutA1 : Got1 QQ := ⟨_, by
  intro hCut1
  w_top off
  intro TP hh hd hrl hri hvl hvi hpl hpa hlr hlv hend hgs hgl hQ zS11x12 zS11x13 zS11x14 X hs1 hs2 hs3 hs4 hnd hkd hka hva F₁ N₁
  revert X
  k_fill
  intro X
  (try k_fold)
  rw [hpa.1, List.take_length] at hnd hkd hka hva F₁
  replace F₁ : Fr s.heap s.heap.objs.size hA _ := F₁
  replace N₁ : News s.heap s.heap.objs.size hA _ := N₁
  have hkl : kdvA.toArray.size = gs.length := by rw [List.size_toArray, hkd.length, kidsL_length]
  have hgl1 : 1 ≤ gs.length := List.length_pos_iff.mpr hgs
  k_steps
  refine slice_upto (gs.length - 1) (by k_asm) (by k_asm) (News.isList (by k_asm) (.tail _ (.tail _ (.tail _ (.head _))))) hka (by (first | lia | omega)) (by rw [keysL_length]; (first | lia | omega)) ?_
  intro D1 w1 h3 F₃ N₃ z1 i1
  k_lt z1
  k_steps
  iterate 3 ((try unfold qk); (try unfold ek); (try clear qk); (try clear ek))
  rename_i zA11x0 zA11x1 zA11x2 zA11x3
  revert TP hh hd hrl hri hvl hvi hpl hpa hlr hlv hend hgs hgl hQ zS11x12 zS11x13 zS11x14 hs1 hs2 hs3 hs4 hnd hkd hka hva X hkl hgl1 zA11x1 zA11x2 F₃ N₃ i1 z1
  revert zA11x0 zA11x3 D1 w1 h3
  exact hCut1.out⟩
end S11.LP2
namespace S11.LP2.A11
@[irreducible] noncomputable def tupl := pk5 cutA1.Q1 rfl (by have := w_ne; have := s_ne; have := a_ne; have := g_ne; have := dr_ne; have := t_ne; have := p_ne; infer_instance)
@[irreducible] noncomputable def zA11x0 := tupl.1
@[irreducible] noncomputable def zA11x3 := tupl.2.1
@[irreducible] noncomputable def D1 := tupl.2.2.1
@[irreducible] noncomputable def w1 := tupl.2.2.2.1
@[irreducible] noncomputable def h3 := tupl.2.2.2.2
noncomputable def QQ : Prop := ap5 cutA1.Q1 rfl zA11x0 zA11x3 D1 w1 h3
theorem back (h : QQ) : cutA1.Q1 := bk5 rfl (by have := w_ne; have := s_ne; have := a_ne; have := g_ne; have := dr_ne; have := t_ne; have := p_ne; infer_instance) (by with_unfolding_all exact h)
theorem finA2 : QQ := by
  w_top off
  intro TP hh hd hrl hri hvl hvi hpl hpa hlr hlv hend hgs hgl hQ zS11x12 zS11x13 zS11x14 hs1 hs2 hs3 hs4 hnd hkd hka hva X hkl hgl1 zA11x1 zA11x2 F₃ N₃ i1 z1
  revert X
  k_fill
  intro X
  (try k_fold)
  refine slice_upto (gs.length - 1) (by k_asm) (by k_asm) (News.isList (by k_asm) (.tail _ (.tail _ (.tail _ (.head _))))) hva (by (first | lia | omega)) (by rw [keysL_length]; (first | lia | omega)) ?_
  intro D2 w2 h4 F₄ N₄ z2 i2
  k_lt z2
  k_steps
  (rename Fr _ _ _ _ => F₅)
  (rename News _ _ _ _ => N₅)
  have hep := endL_pos hgs
  rw [show ((endL gs 0 : Nat) : Int) - 1 = ((usedN gs : Nat) : Int) by unfold usedN; (first | lia | omega)] at N₅
  refine hQ _ _ _ _ F₅.keep (fun p hp => ⟨(N₅ p hp).1, (N₅ p hp).2.2⟩) ⟨_, nd, ndvA, c1A, _, _, .head _, ?_, .tail _ (.tail _ (.tail _ (.tail _ (.head _)))), hnd.mono fun p hp => .tail _ (.tail _ (.tail _ (.tail _ (.tail _ (.tail _ (.tail _ (.tail _ (hp))))))))⟩
  exact .mk (.tail _ (.head _)) (.tail _ (.tail _ (.tail _ (.head _)))) i1 (.tail _ (.tail _ (.head _))) i2 (.tail _ (.tail _ (.tail _ (.tail _ (.tail _ (.head _)))))) hkd.length (TsIn.get (hkd.mono fun p hp => .tail _ (.tail _ (.tail _ (.tail _ (.tail _ (.tail _ (.tail _ (.tail _ (hp))))))))))
end S11.LP2.A11
theorem all : BuildS := back (cutS1.k ⟨S11.back (S11.cutLP.k ⟨S11.LP1.back (S11.LP1.cutC.k ⟨S11.LP1.C1.back (S11.LP1.C1.cutF1.k ⟨S11.LP1.C1.F11.back (S11.LP1.C1.F11.finF2)⟩)⟩ ⟨S11.LP1.C2.back (S11.LP1.C2.cutT1.k ⟨S11.LP1.C2.T11.back (S11.LP1.C2.T11.cutT2.k ⟨S11.LP1.C2.T11.T21.back (S11.LP1.C2.T11.T21.finT3)⟩)⟩)⟩)⟩ ⟨S11.LP2.back (S11.LP2.cutA1.k ⟨S11.LP2.A11.back (S11.LP2.A11.finA2)⟩)⟩)⟩)
end Bd
theorem build_spec {w : World} {p : Program} {loose : List Str} {mean : ExcName → Option Value} {mg mb : Str → Option Value} (row vals : List Int) (gs : List G) (rl vl pl : Addr) (rvs vvs pvs : List Value) (A : Around) (s : Shared) (Q E : Value → Shared → Prop)
    (X : (hK w.params).In s.heap) (TP : Top p loose mean mg mb s.heap) (hh : A.handled = none) (hd : A.depth + 1 < recursionLimit)
    (hrl : s.heap.IsList rl rvs.toArray) (hri : IntsAre rvs row) (hvl : s.heap.IsList vl vvs.toArray) (hvi : IntsAre vvs vals) (hpl : s.heap.IsList pl pvs.toArray) (hpa : PlanAt s.heap pvs gs)
    (hlr : row.length = 36) (hlv : vals.length = 36) (hend : endL gs 0 ≤ 36) (hgs : gs ≠ []) (hgl : gs.length ≤ 3)
    (hQ : ∀ R nl h' tk, Keeps s.heap h' → (∀ p ∈ nl, h'.get? p.1 = some p.2 ∧ s.heap.get? p.1 = none) → Built nl row vals gs R → Q (.ref R) { s with heap := h', toks := tk }) :
    wpAny (model PySem.Challenge.rw_sx_zcanopy_6.row.prog w) A (call (.ref 71) [.ref rl, .ref vl, .ref pl]) Q E s := Bd.all w p loose mean mg mb row vals gs rl vl pl rvs vvs pvs A s Q E X TP hh hd hrl hri hvl hvi hpl hpa hlr hlv hend hgs hgl hQ
end Mine
set_option maxRecDepth 100000
set_option maxHeartbeats 8000000
set_option Elab.async false
namespace Mine
open PySem PySem.W PySem.Calls PyProof.Rows PySem.Spec


local macro_rules | `(tactic| walk_at "subscriptTail Name Slice ref ref") => `(tactic| refine of_hold ?_)
local macro_rules | `(tactic| walk_at "assign Tuple cons ref") => `(tactic| refine of_hold ?_)
local macro_rules | `(tactic| walk_at "subscriptTail Name Name ref int") => `(tactic| refine of_hold ?_)
local macro_rules | `(tactic| walk_at "binaryOp Add ref ref") => `(tactic| refine of_hold ?_)

theorem hurt_spec {w : World} {p : Program} {loose : List Str} {mean : ExcName → Option Value} {mg mb : Str → Option Value} (x : T) (mode place : Nat) (v : Value) (nw : List (Addr × Obj)) (t1 t2 : Tok) (A : Around) (s : Shared) (Q E : Value → Shared → Prop)
    (X : (hK w.params).In s.heap) (TP : Top p loose mean mg mb s.heap) (hh : A.handled = none) (hd : A.depth + 1 < recursionLimit)
    (hnw : ∀ p ∈ nw, s.heap.get? p.1 = some p.2) (hT : TIn nw v x) (hS : smD 2 x) (hp : ∀ ks vs cs, x = .node ks vs cs → place < cs.length)
    (hQ : ∀ r nl h' tk, Keeps s.heap h' → (∀ p ∈ nl, h'.get? p.1 = some p.2 ∧ s.heap.get? p.1 = none) → TIn (nw ++ nl) r (hurtT x mode place) → Q r { s with heap := h', toks := tk }) :
    wpAny (model PySem.Challenge.rw_sx_zcanopy_6.row.prog w) A (call (.ref 78) [v, .int (mode : Int) t1, .int (place : Int) t2]) Q E s := by
  revert X
  k_fill
  intro X
  cases hT with
  | @mk a ak av ac na nk nv nc kvs vvs cvs ks vs cs m1 m2 m3 m4 m5 m6 m7 m8 =>
  have hpl := hp ks vs cs rfl
  obtain ⟨s1, s2, s3, s4⟩ := hS
  have tup : IsTup s.heap a [Value.ref ak, Value.ref av, Value.ref ac].toArray := ⟨_, hnw _ m1, rfl, na, rfl⟩
  have kl : s.heap.IsList ak kvs.toArray := ⟨_, hnw _ m2, rfl, nk, rfl⟩
  have vl : s.heap.IsList av vvs.toArray := ⟨_, hnw _ m4, rfl, nv, rfl⟩
  have cl : s.heap.IsList ac cvs.toArray := ⟨_, hnw _ m6, rfl, nc, rfl⟩
  have hcl : place < cvs.length := by omega
  obtain ⟨kv, hvk⟩ : ∃ kv, cvs[place]? = some kv := ⟨_, List.getElem?_eq_getElem hcl⟩
  obtain ⟨kx, hxk⟩ : ∃ kx, cs[place]? = some kx := ⟨_, List.getElem?_eq_getElem hpl⟩
  have hTk := m8 place kv kx hvk hxk
  have hSk := s4 kx (List.mem_of_getElem? hxk)
  have hTs := TsIn.of m7 m8
  cases hTk with
  | @mk b bk bv bc nb nbk nbv nbc kkv kvv kcv kks kvs' kcs b1 b2 b3 b4 b5 b6 b7 b8 =>
  have hT' := m8 place _ _ hvk hxk
  obtain ⟨t1', t2', t3', _⟩ := hSk
  have tupk : IsTup s.heap b [Value.ref bk, Value.ref bv, Value.ref bc].toArray := ⟨_, hnw _ b1, rfl, nb, rfl⟩
  have kvl : s.heap.IsList bv kvv.toArray := ⟨_, hnw _ b4, rfl, nbv, rfl⟩
  have lc := IntsAre.length b5
  have lv := IntsAre.length m5
  refine wpAny_call ?_
  refine' enter X TP ?k6 ?k7 ?k8 ?k9 ?kB ?_ ?c2 ?c3 ?c4 ?c5
  case k6 => k_is
  case k7 => k_is
  case k8 => omega
  case k9 => exact BindsTo.of_eq rfl
  case kB => exact locs rfl
  case c2 => exact rfl
  case c3 => exact rfl
  case c4 => exact rfl
  case c5 => decide
  intro h₁ F N
  dsimp only
  k_fold
  have F1 : Fr s.heap s.heap.objs.size h₁ (fun y => List.lookup y [(Str.ofString "place", Value.int (place : Int) t2), (Str.ofString "mode", Value.int (mode : Int) t1), (Str.ofString "nest", Value.ref a)]) := F
  clear F
  k_steps
  refine unpackN_ F1 N (tup.keeps F1.keep) (by exact hh) rfl rfl ?_
  intro h2 F2 N2
  clear F1 N
  k_steps
  refine item_listL (Fr.lst (by k_asm) cl) (by omega) (by omega) (by simp only [Int.toNat_natCast]; exact hvk) ?_
  k_steps
  · obtain rfl : mode = 0 := by omega
    refine sliceV_upto place (by k_asm) (by k_asm) (Fr.lst (by k_asm) cl) rfl (by omega) ?_
    intro S1 h3 F3 N3 z1
    k_lt z1
    k_steps
    refine cat_lists (ws := [Value.int 0 _]) (by k_asm) (by k_asm) (Fr.lst (by k_asm) kvl) (News.isList (by k_asm) (.head _)) (by simp; omega) ?_
    intro V2 h4 F4 N4 z2
    k_lt z2
    k_steps
    refine cat_lists (ws := [Value.ref _]) (by k_asm) (by k_asm) (News.isList (by k_asm) (.tail _ (.tail _ (.tail _ (.tail _ (.head _)))))) (News.isList (by k_asm) (.head _)) (by simp; omega) ?_
    intro C1 h5 F5 N5 z3
    k_lt z3
    k_steps
    refine sliceV_from (place + 1) (by k_asm) (by k_asm) (Fr.lst (by k_asm) cl) (by omega) (by omega) ?_
    intro S2 h6 F6 N6 z4
    k_lt z4
    k_steps
    refine cat_lists (by k_asm) (by k_asm) (News.isList (by k_asm) (.tail _ (.head _))) (News.isList (by k_asm) (.head _)) (by simp; omega) ?_
    intro C2 h7 F7 N7 z5
    k_lt z5
    k_steps
    (rename Fr _ _ _ _ => F8)
    (rename News _ _ _ _ => N8)
    refine hQ _ _ _ _ F8.keep (fun p hp => ⟨(N8 p hp).1, (N8 p hp).2.2⟩) ?_
    rw [hurt0 hxk]
    exact TIn.of (List.mem_append_right _ (.head _)) (List.mem_append_left _ m2) m3 (List.mem_append_left _ m4) m5 (List.mem_append_right _ (.tail _ (.head _))) ((((hTs.take place).mono fun p hp => List.mem_append_left _ hp).append (.cons (TIn.of (List.mem_append_right _ (.tail _ (.tail _ (.tail _ (.tail _ (.tail _ (.head _))))))) (List.mem_append_left _ b2) b3 (List.mem_append_right _ (.tail _ (.tail _ (.tail _ (.tail _ (.tail _ (.tail _ (.head _)))))))) (snoc b5 rfl) (List.mem_append_left _ b6) (TsIn.mono (TsIn.of b7 b8) fun p hp => List.mem_append_left _ hp)) .nil)).append ((hTs.drop (place + 1)).mono fun p hp => List.mem_append_left _ hp))
  · obtain rfl : mode = 1 := by omega
    refine slice_from 1 (by k_asm) (by k_asm) (Fr.lst (by k_asm) vl) m5 rfl (by omega) ?_
    intro V1 w1 h3 F3 N3 z1 i1
    k_lt z1
    k_steps
    (rename Fr _ _ _ _ => F8)
    (rename News _ _ _ _ => N8)
    refine hQ _ _ _ _ F8.keep (fun p hp => ⟨(N8 p hp).1, (N8 p hp).2.2⟩) ?_
    rw [hurt1]
    exact TIn.of (List.mem_append_right _ (.head _)) (List.mem_append_left _ m2) m3 (List.mem_append_right _ (.tail _ (.head _))) i1 (List.mem_append_left _ m6) (hTs.mono fun p hp => List.mem_append_left _ hp)
  · obtain rfl : mode = 2 := by omega
    refine sliceV_upto place (by k_asm) (by k_asm) (Fr.lst (by k_asm) cl) rfl (by omega) ?_
    intro S1 h3 F3 N3 z1
    k_lt z1
    k_steps
    refine sliceV_from (place + 1) (by k_asm) (by k_asm) (Fr.lst (by k_asm) cl) (by omega) (by omega) ?_
    intro S2 h6 F6 N6 z4
    k_lt z4
    k_steps
    refine cat_lists (by k_asm) (by k_asm) (News.isList (by k_asm) (.tail _ (.head _))) (News.isList (by k_asm) (.head _)) (by simp; omega) ?_
    intro C2 h7 F7 N7 z5
    k_lt z5
    k_steps
    (rename Fr _ _ _ _ => F8)
    (rename News _ _ _ _ => N8)
    refine hQ _ _ _ _ F8.keep (fun p hp => ⟨(N8 p hp).1, (N8 p hp).2.2⟩) ?_
    rw [hurt2]
    exact TIn.of (List.mem_append_right _ (.head _)) (List.mem_append_left _ m2) m3 (List.mem_append_left _ m4) m5 (List.mem_append_right _ (.tail _ (.head _))) (((hTs.take place).mono fun p hp => List.mem_append_left _ hp).append ((hTs.drop (place + 1)).mono fun p hp => List.mem_append_left _ hp))
  · obtain rfl : mode = 3 := by omega
    refine sliceV_upto place (by k_asm) (by k_asm) (Fr.lst (by k_asm) cl) rfl (by omega) ?_
    intro S1 h3 F3 N3 z1
    k_lt z1
    k_steps
    refine cat_lists (ws := [Value.ref b]) (by k_asm) (by k_asm) (News.isList (by k_asm) (.tail _ (.head _))) (News.isList (by k_asm) (.head _)) (by simp; omega) ?_
    intro C1 h5 F5 N5 z3
    k_lt z3
    k_steps
    refine sliceV_from place (by k_asm) (by k_asm) (Fr.lst (by k_asm) cl) rfl (by omega) ?_
    intro S2 h6 F6 N6 z4
    k_lt z4
    k_steps
    refine cat_lists (by k_asm) (by k_asm) (News.isList (by k_asm) (.tail _ (.head _))) (News.isList (by k_asm) (.head _)) (by simp; omega) ?_
    intro C2 h7 F7 N7 z5
    k_lt z5
    k_steps
    (rename Fr _ _ _ _ => F8)
    (rename News _ _ _ _ => N8)
    refine hQ _ _ _ _ F8.keep (fun p hp => ⟨(N8 p hp).1, (N8 p hp).2.2⟩) ?_
    rw [hurt3 hxk]
    exact TIn.of (List.mem_append_right _ (.head _)) (List.mem_append_left _ m2) m3 (List.mem_append_left _ m4) m5 (List.mem_append_right _ (.tail _ (.head _))) ((((hTs.take place).mono fun p hp => List.mem_append_left _ hp).append (.cons (hT'.mono fun p hp => List.mem_append_left _ hp) .nil)).append ((hTs.drop place).mono fun p hp => List.mem_append_left _ hp))
  · refine hQ _ [] _ _ (Fr.keep (by assumption)) (fun _ h => nomatch h) ?_
    rw [hurt_lawful (by omega), List.append_nil]
    exact .mk m1 m2 m3 m4 m5 m6 m7 m8
end Mine
set_option maxRecDepth 100000
set_option maxHeartbeats 8000000
set_option Elab.async false
namespace Mine
open PySem PySem.W PySem.Calls PyProof.Rows PySem.Spec


/-- a call that may have caught: the frames about it keep all but their slots, all else stays -/
noncomputable def Turnd (outer : List Env) (h h' : Heap) : Prop := ∃ g', KtsTurn (outer.filterMap (·.frame)) h g' ∧ Keeps g' h'
theorem Turnd.of {outer : List Env} {h h' : Heap} (k : Keeps h h') : Turnd outer h h' := ⟨h, KtsTurn.refl, k⟩
/-- the word for a budget that is too small -/
noncomputable abbrev deepS : Str := Str.ofString "deep"

theorem wshape_spec {w : World} {p : Program} {loose : List Str} {mean : ExcName → Option Value} {mg mb : Str → Option Value} (d : Nat) (x : T) (t : Int) (r : Bool) (v : Value) (tk1 tk2 : Tok) (A : Around) (base : Heap) (outer : List Env) (s : Shared) (Q E : Value → Shared → Prop)
    (B : Below A base outer s.heap) (D : KtsDicts (outer.filterMap (·.frame)) s.heap) (X : (hK w.params).In base) (TB : Top p loose mean mg mb base) (hh : A.handled = none) (hd : A.depth + d + 2 < recursionLimit) (hu : A.units + 8 * d + 220 < cLine) (hT : TAt s.heap v x) (hS : smD d x)
    (hQ : ∀ b h' tk, shapeOk d x t r = some b → Turnd outer s.heap h' → Q (.bool b) { s with heap := h', toks := tk })
    (hQ2 : ∀ tk0 h' tk, shapeOk d x t r = none → Turnd outer s.heap h' → Q (.str deepS tk0) { s with heap := h', toks := tk }) :
    wpAny (model PySem.Challenge.rw_sx_zcanopy_6.row.prog w) A (call (.ref 85) [v, .int t tk1, .bool r, .int d tk2]) Q E s := by
  have XB := X
  have X := X.keeps B.stays
  have TP := TB.keeps B.stays
  revert X XB
  k_fill
  intro XB X
  refine wpAny_call ?_
  refine' enter X TP ?k6 ?k7 ?k8 ?k9 ?kB ?_ ?c2 ?c3 ?c4 ?c5
  case k6 => k_is
  case k7 => k_is
  case k8 => omega
  case k9 => exact BindsTo.of_eq rfl
  case kB => exact locs rfl
  case c2 => exact rfl
  case c3 => exact rfl
  case c4 => exact rfl
  case c5 => decide
  intro h₁ F N
  dsimp only
  k_fold
  k_steps
  refine shape_spec d x t r v tk1 tk2 _ base _ _ _ _ (B.push F rfl) (X.keeps F.keep) (TP.keeps F.keep) hh (by show A.depth + 1 + d + 1 < recursionLimit; omega) (by show A.units + 3 + 8 * d + 200 < cLine; omega) (hT.keeps F.keep) hS ?_ ?_
  · intro b h' tk' hb hk
    have F₂ := F.keeps hk
    have N₂ : News s.heap s.heap.objs.size h' _ := News.kept N hk
    clear F N
    k_steps
    exact hQ _ _ _ hb (.of (Fr.keep (by assumption)))
  · intro e h' tk' hb hfl
    obtain ⟨t', vs', R', U'⟩ := hfl
    refine caught_SO0 R' F B U' XB TB D KtsTurn.refl (by k_is) (by kts_isx) ?_
    intro h₂ g' n₂ T' F₂ N₂ G' N' K' X' P' D'
    clear F N
    k_steps
    exact hQ2 _ _ _ hb ⟨_, T', Fr.keep (by assumption)⟩
theorem worder_spec {w : World} {p : Program} {loose : List Str} {mean : ExcName → Option Value} {mg mb : Str → Option Value} (d : Nat) (x : T) (lo hi : Option Int) (v : Value) (tl th tk2 : Tok) (A : Around) (base : Heap) (outer : List Env) (s : Shared) (Q E : Value → Shared → Prop)
    (B : Below A base outer s.heap) (D : KtsDicts (outer.filterMap (·.frame)) s.heap) (X : (hK w.params).In base) (TB : Top p loose mean mg mb base) (hh : A.handled = none) (hd : A.depth + d + 2 < recursionLimit) (hu : A.units + 8 * d + 220 < cLine) (hT : TAt s.heap v x) (hS : smD d x) (hW : wf0 d x)
    (hQ : ∀ b h' tk, keysOk d x lo hi = some b → Turnd outer s.heap h' → Q (.bool b) { s with heap := h', toks := tk })
    (hQ2 : ∀ tk0 h' tk, keysOk d x lo hi = none → Turnd outer s.heap h' → Q (.str deepS tk0) { s with heap := h', toks := tk }) :
    wpAny (model PySem.Challenge.rw_sx_zcanopy_6.row.prog w) A (call (.ref 92) [v, bndV lo tl, bndV hi th, .int d tk2]) Q E s := by
  have XB := X
  have X := X.keeps B.stays
  have TP := TB.keeps B.stays
  revert X XB
  k_fill
  intro XB X
  refine wpAny_call ?_
  refine' enter X TP ?k6 ?k7 ?k8 ?k9 ?kB ?_ ?c2 ?c3 ?c4 ?c5
  case k6 => k_is
  case k7 => k_is
  case k8 => omega
  case k9 => exact BindsTo.of_eq rfl
  case kB => exact locs rfl
  case c2 => exact rfl
  case c3 => exact rfl
  case c4 => exact rfl
  case c5 => decide
  intro h₁ F N
  dsimp only
  k_fold
  k_steps
  refine keys_spec d x lo hi v tl th tk2 _ base _ _ _ _ (B.push F rfl) (X.keeps F.keep) (TP.keeps F.keep) hh (by show A.depth + 1 + d + 1 < recursionLimit; omega) (by show A.units + 3 + 8 * d + 200 < cLine; omega) (hT.keeps F.keep) hS hW ?_ ?_
  · intro b h' tk' hb hk
    have F₂ := F.keeps hk
    have N₂ : News s.heap s.heap.objs.size h' _ := News.kept N hk
    clear F N
    k_steps
    exact hQ _ _ _ hb (.of (Fr.keep (by assumption)))
  · intro e h' tk' hb hfl
    obtain ⟨t', vs', R', U'⟩ := hfl
    refine caught_SO0 R' F B U' XB TB D KtsTurn.refl (by k_is) (by kts_isx) ?_
    intro h₂ g' n₂ T' F₂ N₂ G' N' K' X' P' D'
    clear F N
    k_steps
    exact hQ2 _ _ _ hb ⟨_, T', Fr.keep (by assumption)⟩
theorem wlevel_spec {w : World} {p : Program} {loose : List Str} {mean : ExcName → Option Value} {mg mb : Str → Option Value} (d : Nat) (x : T) (v : Value) (tk2 : Tok) (A : Around) (base : Heap) (outer : List Env) (s : Shared) (Q E : Value → Shared → Prop)
    (B : Below A base outer s.heap) (D : KtsDicts (outer.filterMap (·.frame)) s.heap) (X : (hK w.params).In base) (TB : Top p loose mean mg mb base) (hh : A.handled = none) (hd : A.depth + d + 2 < recursionLimit) (hu : A.units + 8 * d + 220 < cLine) (hT : TAt s.heap v x) (hS : smD d x)
    (hQ : ∀ y ty h' tk, leafLevel d x = some y → Turnd outer s.heap h' → Q (.int y ty) { s with heap := h', toks := tk })
    (hQ2 : ∀ tk0 h' tk, leafLevel d x = none → Turnd outer s.heap h' → Q (.str deepS tk0) { s with heap := h', toks := tk }) :
    wpAny (model PySem.Challenge.rw_sx_zcanopy_6.row.prog w) A (call (.ref 99) [v, .int d tk2]) Q E s := by
  have XB := X
  have X := X.keeps B.stays
  have TP := TB.keeps B.stays
  revert X XB
  k_fill
  intro XB X
  refine wpAny_call ?_
  refine' enter X TP ?k6 ?k7 ?k8 ?k9 ?kB ?_ ?c2 ?c3 ?c4 ?c5
  case k6 => k_is
  case k7 => k_is
  case k8 => omega
  case k9 => exact BindsTo.of_eq rfl
  case kB => exact locs rfl
  case c2 => exact rfl
  case c3 => exact rfl
  case c4 => exact rfl
  case c5 => decide
  intro h₁ F N
  dsimp only
  k_fold
  k_steps
  refine level_spec d x v tk2 _ base _ _ _ _ (B.push F rfl) (X.keeps F.keep) (TP.keeps F.keep) hh (by show A.depth + 1 + d + 1 < recursionLimit; omega) (by show A.units + 3 + 8 * d + 200 < cLine; omega) (hT.keeps F.keep) hS ?_ ?_
  · intro y ty h' tk' hb hk
    have F₂ := F.keeps hk
    have N₂ : News s.heap s.heap.objs.size h' _ := News.kept N hk
    clear F N
    k_steps
    exact hQ _ _ _ _ hb (.of (Fr.keep (by assumption)))
  · intro e h' tk' hb hfl
    obtain ⟨t', vs', R', U'⟩ := hfl
    refine caught_SO0 R' F B U' XB TB D KtsTurn.refl (by k_is) (by kts_isx) ?_
    intro h₂ g' n₂ T' F₂ N₂ G' N' K' X' P' D'
    clear F N
    k_steps
    exact hQ2 _ _ _ hb ⟨_, T', Fr.keep (by assumption)⟩
theorem wrange_spec {w : World} {p : Program} {loose : List Str} {mean : ExcName → Option Value} {mg mb : Str → Option Value} (d : Nat) (x : T) (lo hi : Int) (v : Value) (tl th tk2 : Tok) (A : Around) (base : Heap) (outer : List Env) (s : Shared) (Q E : Value → Shared → Prop)
    (B : Below A base outer s.heap) (D : KtsDicts (outer.filterMap (·.frame)) s.heap) (X : (hK w.params).In base) (TB : Top p loose mean mg mb base) (hh : A.handled = none) (hd : A.depth + d + 2 < recursionLimit) (hu : A.units + 8 * d + 220 < cLine) (hT : TAt s.heap v x) (hS : smD d x) (hW : wf0 d x) (hd3 : d ≤ 3)
    (hQ : ∀ l D pvs c nl h' tk, rangePairs d x lo hi = some l → Turnd outer s.heap h' → (∀ p ∈ nl, h'.get? p.1 = some p.2 ∧ s.heap.get? p.1 = none) → (D, W.listOf pvs.toArray c) ∈ nl → PairsIn nl pvs l → Q (.ref D) { s with heap := h', toks := tk })
    (hQ2 : ∀ tk0 h' tk, rangePairs d x lo hi = none → Turnd outer s.heap h' → Q (.str deepS tk0) { s with heap := h', toks := tk }) :
    wpAny (model PySem.Challenge.rw_sx_zcanopy_6.row.prog w) A (call (.ref 106) [v, .int lo tl, .int hi th, .int d tk2]) Q E s := by
  have XB := X
  have X := X.keeps B.stays
  have TP := TB.keeps B.stays
  revert X XB
  k_fill
  intro XB X
  refine wpAny_call ?_
  refine' enter X TP ?k6 ?k7 ?k8 ?k9 ?kB ?_ ?c2 ?c3 ?c4 ?c5
  case k6 => k_is
  case k7 => k_is
  case k8 => omega
  case k9 => exact BindsTo.of_eq rfl
  case kB => exact locs rfl
  case c2 => exact rfl
  case c3 => exact rfl
  case c4 => exact rfl
  case c5 => decide
  intro h₁ F N
  dsimp only
  k_fold
  k_steps
  refine range_spec d x lo hi v tl th tk2 _ base _ _ _ _ (B.push F rfl) (X.keeps F.keep) (TP.keeps F.keep) hh (by show A.depth + 1 + d + 1 < recursionLimit; omega) (by show A.units + 3 + 8 * d + 200 < cLine; omega) (hT.keeps F.keep) hS hW hd3 ?_ ?_
  · intro l D pvs c nl h' tk' hb hk hnl hD hP
    replace hk : Keeps h₁ h' := hk
    have F₂ := F.keeps hk
    have N₂ : News s.heap s.heap.objs.size h' _ := News.kept N hk
    have hne : ∀ p ∈ nl, p.1 ≠ s.heap.objs.size ∧ s.heap.get? p.1 = none := fun p hp => ⟨fun e => by obtain ⟨_, _, o, ho, _⟩ := F.ns; have := (hnl p hp).2; rw [e] at this; exact absurd (ho.symm.trans this) (by simp), kts_none F.keep (hnl p hp).2⟩
    have N₃ : News s.heap s.heap.objs.size h' nl := fun p hp => ⟨(hnl p hp).1, hne p hp⟩
    clear F N N₂
    k_steps
    (rename Fr _ _ _ _ => F₄)
    (rename News _ _ _ _ => N₄)
    exact hQ _ _ _ _ nl _ _ hb (.of F₄.keep) (fun p hp => ⟨(N₄ p hp).1, (N₄ p hp).2.2⟩) hD hP
  · intro e h' tk' hb hfl
    obtain ⟨t', vs', R', U'⟩ := hfl
    refine caught_SO0 R' F B U' XB TB D KtsTurn.refl (by k_is) (by kts_isx) ?_
    intro h₂ g' n₂ T' F₂ N₂ G' N' K' X' P' D'
    clear F N
    k_steps
    exact hQ2 _ _ _ hb ⟨_, T', Fr.keep (by assumption)⟩
end Mine
set_option maxRecDepth 100000
set_option maxHeartbeats 8000000
set_option Elab.async false
namespace Mine
open PySem PySem.W PySem.Calls PyProof.Rows PySem.Spec



noncomputable def gotB : Option Bool → Tok → Value
  | none, t => .str deepS t
  | some b, _ => .bool b
noncomputable def gotI : Option Int → Tok → Value
  | none, t => .str deepS t
  | some b, t => .int b t

theorem fitsB_spec {w : World} {p : Program} {loose : List Str} {mean : ExcName → Option Value} {mg mb : Str → Option Value} (got : Option Bool) (want : Bool) (enough : Bool) (tg : Tok) (A : Around) (s : Shared) (Q E : Value → Shared → Prop)
    (X : (hK w.params).In s.heap) (TP : Top p loose mean mg mb s.heap) (hh : A.handled = none) (hd : A.depth + 1 < recursionLimit)
    (hQ : ∀ h' tk, Keeps s.heap h' → Q (.bool (fits got want false enough)) { s with heap := h', toks := tk }) :
    wpAny (model PySem.Challenge.rw_sx_zcanopy_6.row.prog w) A (call (.ref 113) [gotB got tg, .bool want, .bool false, .bool enough]) Q E s := by
  have hQ' : ∀ r h' tk, fits got want false enough = r → Keeps s.heap h' → Q (.bool r) { s with heap := h', toks := tk } := fun r h' tk e k => e ▸ hQ h' tk k
  clear hQ
  revert X
  k_fill
  intro X
  cases got with
  | none =>
    dsimp only [gotB]
    refine wpAny_call ?_
    refine' enter X TP ?k6 ?k7 ?k8 ?k9 ?kB ?_ ?c2 ?c3 ?c4 ?c5
    case k6 => k_is
    case k7 => k_is
    case k8 => omega
    case k9 => exact BindsTo.of_eq rfl
    case kB => exact locs rfl
    case c2 => exact rfl
    case c3 => exact rfl
    case c4 => exact rfl
    case c5 => decide
    intro h₁ F N
    dsimp only
    k_fold
    k_steps
    all_goals exact hQ' _ _ _ (by simp_all [fits] <;> rfl) (Fr.keep (by assumption))
  | some b =>
    dsimp only [gotB]
    refine wpAny_call ?_
    refine' enter X TP ?k6 ?k7 ?k8 ?k9 ?kB ?_ ?c2 ?c3 ?c4 ?c5
    case k6 => k_is
    case k7 => k_is
    case k8 => omega
    case k9 => exact BindsTo.of_eq rfl
    case kB => exact locs rfl
    case c2 => exact rfl
    case c3 => exact rfl
    case c4 => exact rfl
    case c5 => decide
    intro h₁ F N
    dsimp only
    k_fold
    k_steps
    all_goals exact hQ' _ _ _ (by simp_all [fits] <;> rfl) (Fr.keep (by assumption))
theorem fitsI_spec {w : World} {p : Program} {loose : List Str} {mean : ExcName → Option Value} {mg mb : Str → Option Value} (got : Option Int) (want : Int) (enough : Bool) (tg tw tb : Tok) (A : Around) (s : Shared) (Q E : Value → Shared → Prop)
    (X : (hK w.params).In s.heap) (TP : Top p loose mean mg mb s.heap) (hh : A.handled = none) (hd : A.depth + 1 < recursionLimit)
    (hQ : ∀ h' tk, Keeps s.heap h' → Q (.bool (fits got want (-1) enough)) { s with heap := h', toks := tk }) :
    wpAny (model PySem.Challenge.rw_sx_zcanopy_6.row.prog w) A (call (.ref 113) [gotI got tg, .int want tw, .int (-1) tb, .bool enough]) Q E s := by
  have hQ' : ∀ r h' tk, fits got want (-1) enough = r → Keeps s.heap h' → Q (.bool r) { s with heap := h', toks := tk } := fun r h' tk e k => e ▸ hQ h' tk k
  clear hQ
  revert X
  k_fill
  intro X
  cases got with
  | none =>
    dsimp only [gotI]
    refine wpAny_call ?_
    refine' enter X TP ?k6 ?k7 ?k8 ?k9 ?kB ?_ ?c2 ?c3 ?c4 ?c5
    case k6 => k_is
    case k7 => k_is
    case k8 => omega
    case k9 => exact BindsTo.of_eq rfl
    case kB => exact locs rfl
    case c2 => exact rfl
    case c3 => exact rfl
    case c4 => exact rfl
    case c5 => decide
    intro h₁ F N
    dsimp only
    k_fold
    k_steps
    all_goals exact hQ' _ _ _ (by simp_all [fits] <;> rfl) (Fr.keep (by assumption))
  | some b =>
    dsimp only [gotI]
    refine wpAny_call ?_
    refine' enter X TP ?k6 ?k7 ?k8 ?k9 ?kB ?_ ?c2 ?c3 ?c4 ?c5
    case k6 => k_is
    case k7 => k_is
    case k8 => omega
    case k9 => exact BindsTo.of_eq rfl
    case kB => exact locs rfl
    case c2 => exact rfl
    case c3 => exact rfl
    case c4 => exact rfl
    case c5 => decide
    intro h₁ F N
    dsimp only
    k_fold
    k_steps
    all_goals exact hQ' _ _ _ (by simp_all [fits] <;> rfl) (Fr.keep (by assumption))
end Mine
set_option maxRecDepth 100000
namespace Mine
open PySem PySem.W PySem.Calls PyProof.Rows PySem.Spec
noncomputable def oneZ (b : Bool) : Int := if b then 1 else 0
/-- the eight forms, as the text holds them -/
theorem forms_tup {w : World} {h : Heap} (X : (hK w.params).In h) : IsTup h 64 [Value.ref 56, .ref 57, .ref 58, .ref 59, .ref 60, .ref 61, .ref 62, .ref 63].toArray := ⟨_, X 64 _ rfl, rfl, 0, rfl⟩
theorem forms_at {w : World} {h : Heap} (X : (hK w.params).In h) (j : Nat) (hj : j < 8) : ∃ x d0 d1 d2 t0 t1 t2, [Value.ref 56, .ref 57, .ref 58, .ref 59, .ref 60, .ref 61, .ref 62, .ref 63][j]? = some (.ref x) ∧ IsTup h x [Value.int (oneZ d0) t0, Value.int (oneZ d1) t1, Value.int (oneZ d2) t2].toArray := by
  have : j = 0 ∨ j = 1 ∨ j = 2 ∨ j = 3 ∨ j = 4 ∨ j = 5 ∨ j = 6 ∨ j = 7 := by omega
  rcases this with rfl | rfl | rfl | rfl | rfl | rfl | rfl | rfl
  · exact ⟨56, false, false, false, _, _, _, rfl, _, X 56 _ rfl, rfl, 0, rfl⟩
  · exact ⟨57, true, true, true, _, _, _, rfl, _, X 57 _ rfl, rfl, 0, rfl⟩
  · exact ⟨58, false, false, false, _, _, _, rfl, _, X 58 _ rfl, rfl, 0, rfl⟩
  · exact ⟨59, true, true, true, _, _, _, rfl, _, X 59 _ rfl, rfl, 0, rfl⟩
  · exact ⟨60, true, false, true, _, _, _, rfl, _, X 60 _ rfl, rfl, 0, rfl⟩
  · exact ⟨61, false, true, false, _, _, _, rfl, _, X 61 _ rfl, rfl, 0, rfl⟩
  · exact ⟨62, false, false, true, _, _, _, rfl, _, X 62 _ rfl, rfl, 0, rfl⟩
  · exact ⟨63, true, false, false, _, _, _, rfl, _, X 63 _ rfl, rfl, 0, rfl⟩
theorem idx_nat {k : Int} {n : Nat} (h0 : 0 ≤ k) (h1 : k < n) : seqIndex? k n = some k.toNat := by
  unfold seqIndex?
  simp [show ¬ k < 0 by omega, h0, h1]
theorem fm {a n : Int} (h : 0 < n) : 0 ≤ a.fmod n ∧ a.fmod n < n := by
  rw [Int.fmod_eq_emod_of_nonneg _ (by omega)]
  exact ⟨Int.emod_nonneg _ (by omega), Int.emod_lt_of_pos _ h⟩
end Mine
namespace Mine
open PySem PySem.W PySem.Calls PyProof.Rows PySem.Spec
theorem PlanAt.take {h : Heap} {pvs : List Value} {gs : List G} (H : PlanAt h pvs gs) (k : Nat) : PlanAt h (pvs.take k) (gs.take k) := by
  refine ⟨by simp [H.1], fun i g e => ?_⟩
  rw [List.getElem?_take] at e ⊢
  split at e
  · rename_i hlt; rw [if_pos hlt]; exact H.2 i g e
  · cases e
theorem PlanAt.keeps {h h' : Heap} {pvs : List Value} {gs : List G} (H : PlanAt h pvs gs) (k : Keeps h h') : PlanAt h' pvs gs := ⟨H.1, fun i g e => by
  obtain ⟨t, td, ta, tb, e1, e2⟩ := H.2 i g e
  exact ⟨t, td, ta, tb, e1, e2.keeps k⟩⟩
/-- a plan of three -/
theorem plan3 {h : Heap} {x0 x1 x2 : Addr} {g0 g1 g2 : G} {td ta tb ud ua ub vd va vb : Tok} {a0 b0 a1 b1 a2 b2 : Int}
    (h0 : IsTup h x0 [Value.int (oneZ g0.dp) td, Value.int a0 ta, Value.int b0 tb].toArray) (h1 : IsTup h x1 [Value.int (oneZ g1.dp) ud, Value.int a1 ua, Value.int b1 ub].toArray) (h2 : IsTup h x2 [Value.int (oneZ g2.dp) vd, Value.int a2 va, Value.int b2 vb].toArray)
    (ea0 : a0 = (g0.a : Int)) (eb0 : b0 = (g0.b : Int)) (ea1 : a1 = (g1.a : Int)) (eb1 : b1 = (g1.b : Int)) (ea2 : a2 = (g2.a : Int)) (eb2 : b2 = (g2.b : Int)) : PlanAt h [.ref x0, .ref x1, .ref x2] [g0, g1, g2] := by
  subst ea0 eb0 ea1 eb1 ea2 eb2
  refine ⟨rfl, fun i g e => ?_⟩
  match i, e with
  | 0, e => cases e; exact ⟨_, _, _, _, rfl, h0⟩
  | 1, e => cases e; exact ⟨_, _, _, _, rfl, h1⟩
  | 2, e => cases e; exact ⟨_, _, _, _, rfl, h2⟩
  | i + 3, e => simp at e
theorem len5 {g : G} (ha : g.a ≤ 5) (hb : g.b ≤ 5) : g.len ≤ 11 := by unfold G.len; split <;> omega
theorem end3 {g0 g1 g2 : G} (h0 : g0.len ≤ 11) (h1 : g1.len ≤ 11) (h2 : g2.len ≤ 11) (k : Nat) : endL ([g0, g1, g2].take k) 0 ≤ 36 := by
  refine Nat.le_trans (endL_mono [g0, g1, g2] 0 k) ?_
  simp only [endL]
  omega
/-- the row of keys and the row of values -/
theorem row_len (a : Int) : (List.map (fun k' => a + 2 * k') (rangeKs 0 (36 - 0 : Int).toNat)).length = 36 := by simp [rangeKs]
theorem vals_len (a : Int) : (List.map (fun k' => a - 3 * k') (rangeKs 0 (36 - 0 : Int).toNat)).length = 36 := by simp [rangeKs]
theorem row_up (a : Int) : (List.map (fun k' => a + 2 * k') (rangeKs 0 (36 - 0 : Int).toNat)).Pairwise (· < ·) := by
  rw [List.pairwise_map]
  unfold rangeKs
  rw [List.pairwise_map]
  exact List.pairwise_lt_range.imp fun h => by omega
end Mine
namespace Mine
open PySem PySem.W PySem.Calls PyProof.Rows PySem.Spec
/-- all of a ledger stands -/
noncomputable def Held (l : List (Addr × Obj)) (h : Heap) : Prop := ∀ p ∈ l, h.get? p.1 = some p.2
theorem Held.of {h₀ h : Heap} {L : Addr} {a : List (Addr × Obj)} (N : News h₀ L h a) : Held a h := fun p hp => (N p hp).1
theorem Held.right {a b : List (Addr × Obj)} {h : Heap} (H : Held (a ++ b) h) : Held b h := fun p hp => H p (List.mem_append_right _ hp)
theorem Held.left {a b : List (Addr × Obj)} {h : Heap} (H : Held (a ++ b) h) : Held a h := fun p hp => H p (List.mem_append_left _ hp)
theorem Held.tail {a : Addr × Obj} {b : List (Addr × Obj)} {h : Heap} (H : Held (a :: b) h) : Held b h := fun p hp => H p (.tail _ hp)
theorem Held.list {l : List (Addr × Obj)} {h : Heap} {a : Addr} {vs : List Value} {n : Nat} (H : Held l h) (m : (a, W.listOf vs.toArray n) ∈ l) : h.IsList a vs.toArray := ⟨_, H _ m, rfl, n, rfl⟩
theorem Held.tup {l : List (Addr × Obj)} {h : Heap} {a : Addr} {vs : List Value} {n : Nat} (H : Held l h) (m : (a, tupO vs n) ∈ l) : IsTup h a vs.toArray := ⟨_, H _ m, rfl, n, rfl⟩
/-- five cells first, the rest behind -/
theorem fiveFirst {h₀ h : Heap} {L : Addr} {c1 c2 c3 c4 c5 : Addr × Obj} {pre nl : List (Addr × Obj)} (N : News h₀ L h ((pre ++ [c5, c4, c3, c2, c1]) ++ nl)) : News h₀ L h (c5 :: c4 :: c3 :: c2 :: c1 :: (pre ++ nl)) := fun p hp => N p (by
  simp only [List.mem_cons, List.mem_append] at hp ⊢
  simp only [List.not_mem_nil, or_false]
  rcases hp with h | h | h | h | h | h | h <;> simp [h])
end Mine
set_option maxRecDepth 100000
namespace Mine
open PySem PySem.W PySem.Calls PyProof.Rows PySem.Spec
section
variable {prog : Program} {w : World} {A : Around} {E : Value → Shared → Prop} {s : Shared} {h₀ : Heap} {L l : Addr} {m : Str → Option Value} {news : List (Addr × Obj)} {vs : List Value} {ns : List Int}
theorem iter_intTup {xs : Array (Int × Tok)} {Q : Value → Shared → Prop} (hl : s.heap.IsTuple l (intItems xs))
    (h : ∀ s₂ : Shared, s₂ = { s with heap := s.heap.push { cls := .type "tuple_iterator", data := .fields #[.ref l, .int 0 0] } } →
      (s₂.heap.IsTupleIter s.heap.objs.size l 0 ∧ s₂.heap.IsTuple l (intItems xs)) → (∀ b ∈ [s.heap.objs.size, l], b < s₂.heap.objs.size) → l ≠ s.heap.objs.size → Q (.ref s.heap.objs.size) s₂) :
    wpAny (model prog w) A (pyIter (.ref l)) Q E s := by
  have hlt : l < s.heap.objs.size := by obtain ⟨_, e, _⟩ := hl; exact Heap.lt_size e
  refine wpAny_pyIter_tuple hl (h _ rfl ⟨⟨_, Heap.get?_push_size _ rfl, rfl, rfl⟩, ?_⟩ (fun b hb => ?_) (Nat.ne_of_lt hlt))
  · obtain ⟨o, e, r⟩ := hl
    exact ⟨o, Heap.get?_push_of_some _ e, r⟩
  · show b < (s.heap.push _).objs.size
    rw [Heap.size_push]
    rcases List.mem_cons.mp hb with rfl | hb
    · exact Nat.lt_succ_self _
    · rcases List.mem_cons.mp hb with rfl | hb
      · exact Nat.lt_succ_of_lt hlt
      · cases hb
theorem old_keptT {h' : Heap} (hk : ∀ b o, b ∉ [s.heap.objs.size] → (s.heap.push { cls := .type "tuple_iterator", data := .fields #[.ref l, .int 0 0] }).get? b = some o → h'.get? b = some o) :
    ∀ b o, s.heap.get? b = some o → h'.get? b = some o := fun b o e => by
  refine hk b o (fun hm => ?_) (Heap.get?_push_of_some _ e)
  rcases List.mem_cons.mp hm with e1 | hm
  · exact absurd (e1 ▸ Heap.lt_size e) (Nat.lt_irrefl _)
  · cases hm
theorem max_tup {Q : Value → Shared → Prop} (hh : A.handled = none) (F : Fr h₀ L s.heap m) (N : News h₀ L s.heap news)
    (hl : IsTup s.heap l vs.toArray) (hi : IntsAre vs ns) (hne : 0 < ns.length)
    (h : ∀ h' M (t : Tok) tk, Fr h₀ L h' m → News h₀ L h' news → M ∈ ns → (∀ a, a ∈ ns → a ≤ M) → Q (.int M t) { s with heap := h', toks := tk }) :
    wpAny (model prog w) A (call (.builtin "max") [.ref l]) Q E s := by
  obtain ⟨xs, e⟩ := hi.allInts.items
  have hns : ns = xs.toList.map (·.1) := by
    rw [← hi.numsOf, ← nums_intItems, ← e]
  have hsz : 0 < xs.size := by
    have h3 := hne; rw [hns, List.length_map, Array.length_toList] at h3; exact h3
  rw [e] at hl
  refine call_max_walk (iter_intTup (xs := xs) hl fun s₂ e st hfp hlI => ?_)
  subst e
  refine ⟨_, _, _, _, _, _, _, rfl, Walks.tuple (A := A.in1) hh _ l hlI (intItems xs), st, hfp, by simpa [intItems] using hsz, CmpOf.ints_gt (numAt xs) (fun _ _ => intItems_at), fun v h' tk hv hk => ?_⟩
  replace hk := old_keptT hk
  have hv' : (intItems xs)[argBest (fun i j => decide (numAt xs i > numAt xs j)) (xs.size - 1)]? = some v := by simpa [intItems] using hv
  obtain ⟨t, rfl⟩ := intItems_at hv'
  obtain ⟨h1, h2⟩ := argBest_gt (numAt xs) (xs.size - 1)
  refine h _ _ t tk (F.grownK hk) (N.grown hk) ?_ fun a ha => ?_
  · rw [hns, numAt_eq]; exact PySem.getD_mem (by rw [List.length_map, Array.length_toList]; omega)
  · rw [hns] at ha
    obtain ⟨j, hj, rfl⟩ := mem_getD ha
    rw [List.length_map, Array.length_toList] at hj
    rw [← numAt_eq]; exact h2 j (by omega)
theorem min_tup {Q : Value → Shared → Prop} (hh : A.handled = none) (F : Fr h₀ L s.heap m) (N : News h₀ L s.heap news)
    (hl : IsTup s.heap l vs.toArray) (hi : IntsAre vs ns) (hne : 0 < ns.length)
    (h : ∀ h' M (t : Tok) tk, Fr h₀ L h' m → News h₀ L h' news → M ∈ ns → (∀ a, a ∈ ns → M ≤ a) → Q (.int M t) { s with heap := h', toks := tk }) :
    wpAny (model prog w) A (call (.builtin "min") [.ref l]) Q E s := by
  obtain ⟨xs, e⟩ := hi.allInts.items
  have hns : ns = xs.toList.map (·.1) := by
    rw [← hi.numsOf, ← nums_intItems, ← e]
  have hsz : 0 < xs.size := by
    have h3 := hne; rw [hns, List.length_map, Array.length_toList] at h3; exact h3
  rw [e] at hl
  refine call_min_walk (iter_intTup (xs := xs) hl fun s₂ e st hfp hlI => ?_)
  subst e
  refine ⟨_, _, _, _, _, _, _, rfl, Walks.tuple (A := A.in1) hh _ l hlI (intItems xs), st, hfp, by simpa [intItems] using hsz, CmpOf.ints_lt (numAt xs) (fun _ _ => intItems_at), fun v h' tk hv hk => ?_⟩
  replace hk := old_keptT hk
  have hv' : (intItems xs)[argBest (fun i j => decide (numAt xs i < numAt xs j)) (xs.size - 1)]? = some v := by simpa [intItems] using hv
  obtain ⟨t, rfl⟩ := intItems_at hv'
  obtain ⟨h1, h2⟩ := argBest_lt (numAt xs) (xs.size - 1)
  refine h _ _ t tk (F.grownK hk) (N.grown hk) ?_ fun a ha => ?_
  · rw [hns, numAt_eq]; exact PySem.getD_mem (by rw [List.length_map, Array.length_toList]; omega)
  · rw [hns] at ha
    obtain ⟨j, hj, rfl⟩ := mem_getD ha
    rw [List.length_map, Array.length_toList] at hj
    rw [← numAt_eq]; exact h2 j (by omega)

theorem adjust_upto (a n : Nat) : Builtin.Slice.sliceAdjust none (some (a : Int)) 1 (n : Int) = ((0 : Int), ((min a n : Nat) : Int)) := by
  unfold Builtin.Slice.sliceAdjust
  have h1 : ¬ ((1 : Int) < 0) := by omega
  have h2 : ¬ ((a : Int) < 0) := by omega
  simp only [h1, h2, if_false]
  congr 1
  omega
theorem places_upto (a : Nat) : Builtin.Slice.slicePlaces (0 : Int) (a : Int) 1 = a := by
  unfold Builtin.Slice.slicePlaces
  have h1 : (1 : Int) > 0 := by omega
  simp only [h1, if_true, Int.ediv_one]
  split <;> omega
theorem sliceApplied_upto {sl : Addr} {a n : Nat} {u : Tok} {Q : Int × Int × Nat → Shared → Prop} (hs : s.heap.IsSliceOf sl .none (.int a u) .none) (h : Q ((0 : Int), 1, min a n) s) :
    wpAny (model prog w) A (Builtin.Slice.sliceApplied (.ref sl) (pure (n : Int))) Q E s := by
  obtain ⟨os, hos, hcs, hds⟩ := id hs
  unfold Builtin.Slice.sliceApplied Builtin.Slice.sliceFields
  refine wpAny_bind (wpAny_bind (wpAny_field hos hds (x := .none) rfl (wpAny_bind (wpAny_field hos hds (x := .int a u) rfl (wpAny_bind (wpAny_field hos hds (x := .none) rfl (wpAny_pure ?_)))))))
  refine wpAny_bind (slicePart_none ?_)
  show wpAny _ _ (if ((1 : Int) == 0) = true then _ else _) _ _ s
  rw [if_neg (by decide)]
  refine wpAny_bind (slicePart_none (wpAny_bind (slicePart_int (wpAny_bind (wpAny_pure ?_)))))
  show wpAny _ _ (match Builtin.Slice.sliceAdjust none (some (a : Int)) 1 (n : Int) with | (lo, hi) => pure (lo, (1 : Int), Builtin.Slice.slicePlaces lo hi 1)) _ _ s
  rw [adjust_upto a n]
  show wpAny _ _ (pure ((0 : Int), (1 : Int), Builtin.Slice.slicePlaces (0 : Int) ((min a n : Nat) : Int) 1)) _ _ s
  rw [places_upto]
  exact wpAny_pure h
theorem pick_upto' (xs : Array Value) (a : Nat) (_ha : a ≤ xs.size) : ((List.range a).filterMap fun (k : Nat) => xs[((0 : Int) + (k : Int) * 1).toNat]?).toArray = (xs.toList.take a).toArray := by
  have e : (fun (k : Nat) => xs[((0 : Int) + (k : Int) * 1).toNat]?) = fun k => xs[0 + k]? := by
    funext k
    have : ((0 : Int) + (k : Int) * 1).toNat = 0 + k := by omega
    rw [this]
  rw [e]
  have := pick_run xs 0 a
  rw [List.filterMap_map] at this
  have e2 : ((fun x => xs[x]?) ∘ fun x => 0 + x) = fun k => xs[0 + k]? := rfl
  rw [e2] at this
  rw [this, List.drop_zero]
theorem getItem_tuple_upto {t sl : Addr} {items : Array Value} {a : Nat} {u : Tok} {Q : Value → Shared → Prop} (ht : IsTup s.heap t items) (hs : s.heap.IsSliceOf sl .none (.int a u) .none)
    (h1 : items.size ≤ a → Q (.ref t) s)
    (h2 : a < items.size → Q (.ref s.heap.objs.size) { s with heap := s.heap.push { cls := .type "tuple", data := .seq (items.toList.take a).toArray } })
    (hsz : items.size ≤ sizeLine) : wpAny (model prog w) A (getItem (.ref t) (.ref sl)) Q E s := by
  have hdrop : sizeOk (.seq (items.toList.take a).toArray) := by
    show (items.toList.take a).toArray.size ≤ sizeLine
    rw [List.size_toArray, List.length_take, Array.length_toList]
    omega
  obtain ⟨os, hos, hcs, hds⟩ := id hs
  have hTs : s.TypeIs (.ref sl) "slice" := ⟨os, hos, hcs⟩
  unfold getItem
  try with_reducible refine wpAny_holding ?_
  first | refine wpAny_bind (wpAny_pure ?_) | skip
  refine wpAny_bind (wpAny_sequenceKey ht.typeIs (by decide) ?_)
  refine wpAny_bind (wpAny_callSpecial?_slot (name := Str.ofString "__getitem__") ht.typeIs slot_tuple_getitem
    (wpAny_call_entry slot_tuple_getitem ht.typeIs entry_tuple_getitem ?_ (args_tuple_getitem _ _)))
  show wpAny _ _ (Builtin.Tuple.tupleItemsOf (.ref t) >>= _) _ _ s
  refine wpAny_bind (tupleItemsOf_ ht ?_)
  refine wpAny_bind (wpAny_typeOf hTs ?_)
  rw [if_pos (by decide)]
  refine wpAny_bind (sliceApplied_upto hs ?_)
  by_cases hle : items.size ≤ a
  · have hyes : (((0 : Int) == 0 && (1 : Int) == 1 && (min a items.size) == items.size) = true) := by
      rw [Nat.min_eq_right hle]; simp
    show wpAny _ _ (if ((0 : Int) == 0 && (1 : Int) == 1 && (min a items.size) == items.size) = true then _ else _) _ _ s
    rw [if_pos hyes]
    refine wpAny_bind (m := Builtin.Tuple.tupleIsExact _) (wpAny_bind (wpAny_typeOf ht.typeIs (wpAny_pure ?_)))
    rw [if_pos (by decide)]
    exact wpAny_bind (wpAny_rule (wpAny_pure ⟨_, rfl, wpAny_pure (h1 hle)⟩))
  · have hlt : a < items.size := by omega
    have hno : ¬ (((0 : Int) == 0 && (1 : Int) == 1 && (min a items.size) == items.size) = true) := by
      rw [Nat.min_eq_left (by omega)]; simp; omega
    show wpAny _ _ (if ((0 : Int) == 0 && (1 : Int) == 1 && (min a items.size) == items.size) = true then _ else _) _ _ s
    rw [if_neg hno, Nat.min_eq_left (by omega), pick_upto' items a (by omega)]
    first
      | exact wpAny_bind (m := Builtin.Tuple.tupleExact _) (wpAny_newObj_type (wpAny_pure ⟨_, rfl, wpAny_pure (h2 hlt)⟩) hdrop)
      | exact wpAny_bind (m := Builtin.Tuple.tupleExact _) (wpAny_newObj_type (wpAny_bind (wpAny_pure (wpAny_pure ⟨_, rfl, wpAny_pure (h2 hlt)⟩))) hdrop)
      | exact wpAny_bind (wpAny_bind (m := Builtin.Tuple.tupleExact _) (wpAny_newObj_type (wpAny_pure (wpAny_pure ⟨_, rfl, wpAny_pure (h2 hlt)⟩)) hdrop))
      | exact wpAny_bind (wpAny_bind (m := Builtin.Tuple.tupleExact _) (wpAny_newObj_type (wpAny_pure ⟨_, rfl, wpAny_pure (h2 hlt)⟩) hdrop))
/-- a tuple up to a place: a new tuple, or the old one whole -/
theorem slice_tup_upto {value slice : Expr} {t : Addr} {a : Nat} {y : Int} {u : Tok} {Q : Value → Shared → Prop}
    (F : Fr h₀ L s.heap m) (N : News h₀ L s.heap news) (ht : IsTup s.heap t vs.toArray) (ey : y = (a : Int)) (hz : vs.length ≤ 1000)
    (h : ∀ D h', Fr h₀ L h' m → News h₀ L h' news → IsTup h' D (vs.take a).toArray → Q (.ref D) { s with heap := h' })
    (hs : subscripted slice false (.ref t) (.ref s.heap.objs.size) = operate [.ref s.heap.objs.size, .ref t] (getItem (.ref t) (.ref s.heap.objs.size)) := by with_unfolding_all rfl)
    (hg : ∀ r, letTemporaryGo value (.ref t) r = pure () := by intro _; with_unfolding_all rfl) :
    wpAny (model prog w) A (subscriptTail value slice (.ref t) (.ref s.heap.objs.size)) Q E { s with heap := s.heap.push { cls := .type "slice", data := .fields #[.none, .int y u, .none] } } := by
  subst ey
  have ht' : IsTup (s.heap.push { cls := .type "slice", data := .fields #[.none, .int a u, .none] }) t vs.toArray := ht.keeps fun _ _ e => Heap.get?_push_of_some _ e
  refine subscriptTail_ops (s := { s with heap := s.heap.push { cls := .type "slice", data := .fields #[.none, .int a u, .none] } }) ht'.typeIs slot_tuple_getitem.lookup
    (getItem_tuple_upto ht' (Heap.IsSliceOf.new ..) (fun hle => ?_) (fun hlt => ?_) (by rw [List.size_toArray, sizeLine_eq]; omega)) hs hg
  · refine h t _ (F.push _) (N.grown fun _ _ e => Heap.get?_push_of_some _ e) ?_
    rw [List.take_of_length_le (by simpa using hle)]
    exact ht'
  · refine h _ _ ((F.push _).push _) ((N.grown fun _ _ e => Heap.get?_push_of_some _ e).grown fun _ _ e => Heap.get?_push_of_some _ e) ?_
    exact ⟨_, Heap.get?_push_size _ rfl, rfl, 0, rfl⟩
end
end Mine
namespace Mine
open PySem PySem.W PySem.Calls PyProof.Rows PySem.Spec
/-- after a call: five cells, the rest behind, with what the call has laid -/
theorem regroup {h₀ h h' : Heap} {L : Addr} {m : Str → Option Value} {c1 c2 c3 c4 c5 : Addr × Obj} {pre rest nl : List (Addr × Obj)} (F : Fr h₀ L h m) (N : News h₀ L h (pre ++ c5 :: c4 :: c3 :: c2 :: c1 :: rest)) (k : Keeps h h')
    (fresh : ∀ p ∈ nl, h'.get? p.1 = some p.2 ∧ h.get? p.1 = none) (h5 : ∀ p ∈ pre, p.1 ≠ c5.1) (h4 : ∀ p ∈ pre, p.1 ≠ c4.1) (r5 : ∀ p ∈ rest, p.1 ≠ c5.1) (r4 : ∀ p ∈ rest, p.1 ≠ c4.1) :
    ∃ rest', News h₀ L h' (c5 :: c4 :: c3 :: c2 :: c1 :: rest') ∧ (∀ p ∈ pre, p ∈ rest') ∧ (∀ p ∈ rest, p ∈ rest') ∧ (∀ p ∈ nl, p ∈ rest') ∧ (∀ p ∈ rest', p.1 ≠ c5.1) ∧ (∀ p ∈ rest', p.1 ≠ c4.1) := by
  have N' := News.join F N k fresh
  have f5 := fresh_ne (N c5 (List.mem_append_right _ (.head _))).1 fresh
  have f4 := fresh_ne (N c4 (List.mem_append_right _ (.tail _ (.head _)))).1 fresh
  refine ⟨pre ++ rest ++ nl, fun p hp => N' p ?_, fun p hp => by simp [hp], fun p hp => by simp [hp], fun p hp => by simp [hp], fun p hp => ?_, fun p hp => ?_⟩
  · simp only [List.mem_cons, List.mem_append] at hp ⊢
    rcases hp with q | q | q | q | q | (q | q) | q <;> simp [q]
  · simp only [List.mem_append] at hp
    rcases hp with (q | q) | q
    · exact h5 p q
    · exact r5 p q
    · exact f5 p q
  · simp only [List.mem_append] at hp
    rcases hp with (q | q) | q
    · exact h4 p q
    · exact r4 p q
    · exact f4 p q
end Mine
namespace Mine
open PySem PySem.W PySem.Calls PyProof.Rows PySem.Spec
theorem ints_take {vs : List Value} {ns : List Int} (h : IntsAre vs ns) : ∀ k, IntsAre (vs.take k) (ns.take k) := by
  induction h with
  | nil => intro k; simp; exact .nil
  | cons n t h ih =>
    intro k
    cases k with
    | zero => exact .nil
    | succ k => exact .cons _ _ (ih k)
/-- the greatest mark and the budget that a nest needs -/
theorem need_is {gs : List G} {M : Int} (h1 : M ∈ gs.map fun g => oneZ g.dp) (h2 : ∀ a, a ∈ (gs.map fun g => oneZ g.dp) → a ≤ M) : M + 2 = ((needN gs : Nat) : Int) := by
  unfold needN
  by_cases h : gs.any (·.dp) = true
  · rw [if_pos h]
    obtain ⟨g, hg, hd⟩ := List.any_eq_true.mp h
    have := h2 _ (List.mem_map_of_mem hg)
    obtain ⟨g', _, e⟩ := List.mem_map.mp h1
    simp only [hd, oneZ, if_true] at this
    unfold oneZ at e
    split at e <;> omega
  · rw [if_neg h]
    obtain ⟨g', hg, e⟩ := List.mem_map.mp h1
    have : g'.dp = false := by
      cases q : g'.dp with
      | false => rfl
      | true => exact absurd (List.any_eq_true.mpr ⟨g', hg, q⟩) h
    simp only [this, oneZ] at e
    simp at e
    omega
theorem level_is {gs : List G} {M m : Int} (hg : gs ≠ []) (h1 : M ∈ gs.map fun g => oneZ g.dp) (h2 : ∀ a, a ∈ (gs.map fun g => oneZ g.dp) → a ≤ M) (h3 : m ∈ gs.map fun g => oneZ g.dp) (h4 : ∀ a, a ∈ (gs.map fun g => oneZ g.dp) → m ≤ a) :
    (if M = m then M + 1 else -1) = levelZ gs := by
  have hn := need_is h1 h2
  unfold needN at hn
  unfold levelZ
  have hm01 : m = 0 ∨ m = 1 := by
    obtain ⟨g', _, e⟩ := List.mem_map.mp h3
    unfold oneZ at e
    split at e <;> omega
  by_cases ha : gs.all (·.dp) = true
  · have hany : gs.any (·.dp) = true := by
      cases gs with
      | nil => exact absurd rfl hg
      | cons g gs => simp at ha ⊢; exact .inl ha.1
    rw [if_pos hany] at hn
    obtain ⟨g', hg', e⟩ := List.mem_map.mp h3
    have : g'.dp = true := List.all_eq_true.mp ha g' hg'
    simp only [this, oneZ, if_true] at e
    rw [if_pos ha, if_pos (by omega)]
    omega
  · rw [if_neg ha]
    have hm0 : m = 0 := by
      obtain ⟨g, hg', hd⟩ : ∃ g ∈ gs, g.dp = false := by
        simp at ha
        exact ha
      have := h4 _ (List.mem_map_of_mem hg')
      simp only [hd, oneZ] at this
      simp at this
      omega
    by_cases hany : gs.any (·.dp) = true
    · rw [if_pos hany] at hn
      rw [if_pos hany, if_neg (by omega)]
    · rw [if_neg hany] at hn
      rw [if_neg hany, if_pos (by omega)]
      omega
end Mine
set_option maxRecDepth 100000
namespace Mine
open PySem PySem.W PySem.Calls PyProof.Rows PySem.Spec
theorem NdsIn.get {nl : List (Addr × Obj)} {vs : List Value} {xs : List Nd} (h : NdsIn nl vs xs) : ∀ (i : Nat) v, vs[i]? = some v → ∃ x, xs[i]? = some x ∧ NdIn nl v x := by
  induction h with
  | nil => intro i v e; simp at e
  | cons h _ ih =>
    intro i v e
    cases i with
    | zero => simp at e; subst e; exact ⟨_, rfl, h⟩
    | succ i => exact ih i v (by simpa using e)
theorem nds_paired {nl : List (Addr × Obj)} {vs : List Value} {xs : List Nd} (h : NdsIn nl vs xs) : ∀ {ys : List Value}, Paired (fun v r => ∀ x, NdIn nl v x → ∃ t, r = Value.int (x.n : Int) t) vs ys → IntsAre ys (xs.map fun x => (x.n : Int)) := by
  induction h with
  | nil => intro ys p; cases p; exact .nil
  | cons h _ ih =>
    intro ys p
    cases p with
    | cons a b =>
      obtain ⟨t, rfl⟩ := a _ h
      exact .cons _ _ (ih b)
/-- what one turn of the row of sizes gives -/
noncomputable def SizeEnd (nl : List (Addr × Obj)) (v : Value) (s₃ : Shared) (y : Value) (s₄ : Shared) : Prop := (∀ x, NdIn nl v x → ∃ t, y = Value.int (x.n : Int) t) ∧ PySem.Keeps s₃ s₄
theorem NdIn.same {nl : List (Addr × Obj)} {h : Heap} {v : Value} {x y : Nd} (H : Held nl h) (a : NdIn nl v x) (b : NdIn nl v y) : x.lev = y.lev ∧ x.left = y.left ∧ x.right = y.right ∧ x.n = y.n := by
  obtain ⟨t, n, t1, t2, t3, t4, rfl, hm⟩ := a
  obtain ⟨t', n', u1, u2, u3, u4, e, hm'⟩ := b
  cases e
  have h1 := H _ hm
  have h2 := H _ hm'
  rw [h1] at h2
  simp only [Option.some.injEq, tupO, Obj.mk.injEq, Data.seq.injEq, true_and, and_true] at h2
  have h3 := h2.1
  simp at h3
  omega
section
variable {prog : Program} {w : World} {A : Around} {E : Value → Shared → Prop} {s₁ : Shared} {h₀ : Heap} {m : Str → Option Value} {news nl : List (Addr × Obj)} {env : Env} {scope : Scope} {x z : Str} {elt : Expr} {Q : Flow → Shared → Prop} {l : Addr} {vs : List Value} {xs : List Nd}
theorem comp_sizes (hh : A.handled = none) (hl : s₁.heap.IsList l vs.toArray) (hN : NdsIn nl vs xs) (hH : Held nl s₁.heap) (F : Fr h₀ env.locals s₁.heap m) (N : News h₀ env.locals s₁.heap news) (hz : vs.length ≤ 1000)
    (g2 : ∀ C v s₃ m₃ E', (∃ x, NdIn nl v x) → s₃.heap.Ns C m₃ → m₃ x = some v → Held nl s₃.heap → wpAny (model prog w) A (eval elt (compEnv scope C env)) (SizeEnd nl v s₃) E' s₃)
    (g3 : ∀ D (ys : List Value) n h' tk, Fr h₀ env.locals h' (fun q => if q = z then some (.ref D) else m q) → News h₀ env.locals h' ((D, W.listOf ys.toArray n) :: news) → (∀ p ∈ news, p.1 ≠ D) → IntsAre ys (xs.map fun x => (x.n : Int)) → Q .next { s₁ with heap := h', toks := tk }) :
    wpAny (model prog w) A (pyIter (.ref l)) (CompPostA prog w A env scope x z [] elt Q) E s₁ := by
  have hlt : l < s₁.heap.objs.size := by obtain ⟨_, e, _⟩ := hl; exact Heap.lt_size e
  refine wpAny_pyIter_list hl ?_
  refine ⟨fun _ => true, fun v r => ∀ x, NdIn nl v x → ∃ t, r = Value.int (x.n : Int) t, s₁.heap.objs.size, [s₁.heap.objs.size, l], [s₁.heap.objs.size], vs.toArray.size, _, _, m, rfl, Walks.list hh _ l (Nat.ne_of_lt hlt) vs.toArray, (by rw [List.size_toArray, sizeLine_eq]; omega),
    ⟨⟨_, Heap.get?_push_size _ rfl, rfl, rfl⟩, hl.at fun o e => Heap.get?_push_of_some _ e⟩, ?_, ?_, (F.push _).ns, ⟨?_, ?_⟩, ?_⟩
  · intro b hb
    show b < (s₁.heap.push _).objs.size
    rw [Heap.size_push]
    rcases List.mem_cons.mp hb with rfl | hb
    · exact Nat.lt_succ_self _
    · rw [List.mem_singleton.mp hb]; exact Nat.lt_succ_of_lt hlt
  · intro hm
    exact absurd F.ns.lt ((List.mem_singleton.mp hm) ▸ Nat.lt_irrefl _)
  · intro C i v s₃ m₃ E' hP hn hm _ htk
    exact wpAny_pure ⟨rfl, s₃.heap, s₃.toks, rfl, fun _ _ e => e⟩
  · intro C i v s₃ m₃ E' hP hp' hn hm hk htk
    obtain ⟨x', _, ha⟩ := hN.get i v (by simpa using hP)
    exact g2 C v s₃ m₃ E' ⟨_, ha⟩ hn hm fun p hp => hk _ _ (not_iter_of_old (hH p hp)) (Heap.get?_push_of_some _ (hH p hp))
  · intro D h' tk ys vs' hnew hlD hplD hlen hP hF hn' hk
    have e' : vs' = vs := by simpa using walked_is hlen hP
    subst e'
    rw [List.filter_eq_self.mpr (fun _ _ => rfl)] at hF
    obtain ⟨n, hpl⟩ := hplD
    have hDs : s₁.heap.get? D = none := by
      cases e : s₁.heap.get? D with
      | none => rfl
      | some o' => rw [Heap.get?_push_of_some _ e] at hnew; cases hnew
    have hD0 : h₀.get? D = none := by
      cases e : h₀.get? D with
      | none => rfl
      | some o' => rw [F.keep _ _ e] at hDs; cases hDs
    have hDL : D ≠ env.locals := by
      rintro rfl
      obtain ⟨o, _, _, ho, _⟩ := F.ns
      rw [hDs] at ho; cases ho
    refine g3 D ys.toList n h' tk ⟨hn', fun b o' e => hk b o' (Nat.ne_of_lt (Nat.lt_of_lt_of_le (Heap.lt_size e) F.above)) (not_iter_of_old (F.keep b o' e)) (Heap.get?_push_of_some _ (F.keep b o' e)), F.above⟩ ?_ ?_ (nds_paired hN hF)
    · intro p hp
      rcases List.mem_cons.mp hp with rfl | hp
      · exact ⟨by rw [Array.toArray_toList]; exact hpl, hDL, hD0⟩
      · exact ⟨hk _ _ (N p hp).2.1 (not_iter_of_old (N p hp).1) (Heap.get?_push_of_some _ (N p hp).1), (N p hp).2⟩
    · intro p hp e
      have := (N p hp).1
      rw [e, hDs] at this; cases this
end
/-- a least member, with one added -/
noncomputable def MinPost (h₀ : Heap) (L : Addr) (m : Str → Option Value) (news : List (Addr × Obj)) (s : Shared) (l : List Int) (v : Value) (s' : Shared) : Prop := ∃ g t h tk, v = Value.int (g + 1) t ∧ s' = { s with heap := h, toks := tk } ∧ Fr h₀ L h m ∧ News h₀ L h news ∧ g ∈ l ∧ ∀ a, a ∈ l → g ≤ a
theorem cutMin {M : Model} {A : Around} {E Q : Value → Shared → Prop} {t : Sem Value} {h₀ : Heap} {L : Addr} {m : Str → Option Value} {news : List (Addr × Obj)} {s : Shared} (F : Fr h₀ L s.heap m) (N : News h₀ L s.heap news) (l : List Int)
    (h1 : wpAny M A t (MinPost h₀ L m news s l) E s)
    (h2 : ∀ g tg h tk, Fr h₀ L h m → News h₀ L h news → g ∈ l → (∀ a, a ∈ l → g ≤ a) → Q (.int (g + 1) tg) { s with heap := h, toks := tk }) : wpAny M A t Q E s :=
  let _ := F; let _ := N
  wpAny_mono h1 (fun _ _ hp => by obtain ⟨g, tg, h, tk, rfl, rfl, F', N', a, b⟩ := hp; exact h2 g tg h tk F' N' a b) fun _ _ e => e
end Mine
namespace Mine
noncomputable def smk (n : Nat) : Nat → T → Prop
  | 0, _ => True
  | d + 1, .node ks vs cs => ks.length ≤ n ∧ vs.length ≤ n ∧ cs.length ≤ n ∧ ∀ c ∈ cs, smk n d c
theorem smk_D {n : Nat} (hn : n ≤ 64) : ∀ (d : Nat) (x : T), smk n d x → smD d x
  | 0, _, _ => trivial
  | d + 1, .node _ _ _, ⟨a, b, c, e⟩ => ⟨by omega, by omega, by omega, fun y hy => smk_D hn d y (e y hy)⟩
theorem smk_mono {n n' : Nat} (hn : n ≤ n') : ∀ (d : Nat) (x : T), smk n d x → smk n' d x
  | 0, _, _ => trivial
  | d + 1, .node _ _ _, ⟨a, b, c, e⟩ => ⟨by omega, by omega, by omega, fun y hy => smk_mono hn d y (e y hy)⟩
theorem slc_len {l : List Int} {lo hi : Nat} : (slc l lo hi).length ≤ l.length := by
  unfold slc; rw [List.length_take, List.length_drop]; omega
theorem smk_leaf {row vals : List Int} {lo hi n : Nat} (h1 : row.length ≤ n) (h2 : vals.length ≤ n) : ∀ d, smk n d (leafT row vals lo hi)
  | 0 => trivial
  | d + 1 => ⟨Nat.le_trans slc_len h1, Nat.le_trans slc_len h2, by simp, fun c hc => by cases hc⟩
theorem smk_kid {row vals : List Int} {s n : Nat} {g : G} (h1 : row.length ≤ n) (h2 : vals.length ≤ n) (hn : 3 ≤ n) : ∀ d, smk n d (kidT row vals s g)
  | 0 => trivial
  | d + 1 => by
    unfold kidT
    split
    · refine ⟨by simp; omega, by simp; omega, by simp; omega, fun c hc => ?_⟩
      simp only [List.mem_cons, List.not_mem_nil, or_false] at hc
      rcases hc with rfl | rfl <;> exact smk_leaf h1 h2 d
    · exact smk_leaf h1 h2 (d + 1)
theorem smk_kids {row vals : List Int} {n : Nat} (h1 : row.length ≤ n) (h2 : vals.length ≤ n) (hn : 3 ≤ n) (d : Nat) : ∀ (gs : List G) (s : Nat), ∀ c ∈ kidsL row vals gs s, smk n d c
  | [], _, c, hc => by cases hc
  | g :: gs, s, c, hc => by
    rw [kidsL] at hc
    rcases List.mem_cons.mp hc with rfl | hc
    · exact smk_kid h1 h2 hn d
    · exact smk_kids h1 h2 hn d gs _ c hc
theorem smk_nest {row vals : List Int} {gs : List G} {n : Nat} (h1 : row.length ≤ n) (h2 : vals.length ≤ n) (hn : 3 ≤ n) (hg : gs.length ≤ 3) : ∀ d, smk n d (nestT row vals gs)
  | 0 => trivial
  | d + 1 => ⟨by rw [List.length_take, keysL_length]; omega, by rw [List.length_take, keysL_length]; omega, by rw [kidsL_length]; omega, smk_kids h1 h2 hn d gs 0⟩
theorem smk_hurt {x : T} {n mode place d : Nat} (h : smk n (d + 1) x) (hp : ∀ ks vs cs, x = .node ks vs cs → place < cs.length) : smk (n + 1) (d + 1) (hurtT x mode place) := by
  obtain ⟨ks, vs, cs⟩ := x
  have hpl := hp ks vs cs rfl
  obtain ⟨a, b, c, e⟩ := h
  have ec : ∀ y ∈ cs, smk (n + 1) d y := fun y hy => smk_mono (by omega) d y (e y hy)
  have et : ∀ k, ∀ y ∈ cs.take k, smk (n + 1) d y := fun k y hy => ec y (List.mem_of_mem_take hy)
  have ed : ∀ k, ∀ y ∈ cs.drop k, smk (n + 1) d y := fun k y hy => ec y (List.mem_of_mem_drop hy)
  obtain ⟨kx, hxk⟩ : ∃ kx, cs[place]? = some kx := ⟨_, List.getElem?_eq_getElem hpl⟩
  by_cases h0 : mode = 0
  · subst h0
    obtain ⟨k, v, cc⟩ := kx
    rw [hurt0 hxk]
    refine ⟨by omega, by omega, by simp; omega, fun y hy => ?_⟩
    simp only [List.mem_append, List.mem_singleton] at hy
    rcases hy with (hy | rfl) | hy
    · exact et _ y hy
    · cases d with
      | zero => trivial
      | succ d =>
        obtain ⟨a', b', c', e'⟩ := e _ (List.mem_of_getElem? hxk)
        exact ⟨by omega, by simp; omega, by omega, fun y hy => smk_mono (by omega) d y (e' y hy)⟩
    · exact ed _ y hy
  · by_cases h1 : mode = 1
    · subst h1
      rw [hurt1]
      exact ⟨by omega, by simp; omega, by omega, ec⟩
    · by_cases h2 : mode = 2
      · subst h2
        rw [hurt2]
        refine ⟨by omega, by omega, by simp; omega, fun y hy => ?_⟩
        rcases List.mem_append.mp hy with hy | hy
        · exact et _ y hy
        · exact ed _ y hy
      · by_cases h3 : mode = 3
        · subst h3
          rw [hurt3 hxk]
          refine ⟨by omega, by omega, by simp; omega, fun y hy => ?_⟩
          simp only [List.mem_append, List.mem_singleton] at hy
          rcases hy with (hy | rfl) | hy
          · exact et _ y hy
          · exact ec _ (List.mem_of_getElem? hxk)
          · exact ed _ y hy
        · rw [hurt_lawful (by omega)]
          exact ⟨by omega, by omega, by omega, ec⟩
theorem sm_nest {row vals : List Int} {gs : List G} (h1 : row.length = 36) (h2 : vals.length = 36) (hg : gs.length ≤ 3) (d : Nat) : smD d (nestT row vals gs) := smk_D (n := 36) (by omega) d _ (smk_nest (by omega) (by omega) (by omega) hg d)
theorem sm_hurt {row vals : List Int} {gs : List G} {mode place : Nat} (h1 : row.length = 36) (h2 : vals.length = 36) (hg : gs.length ≤ 3) (hp : place < gs.length) (d : Nat) : smD d (hurtT (nestT row vals gs) mode place) := by
  cases d with
  | zero => trivial
  | succ d => exact smk_D (n := 37) (by omega) _ _ (smk_hurt (smk_nest (by omega) (by omega) (by omega) hg (d + 1)) (fun ks vs cs e => by cases e; rw [kidsL_length]; exact hp))
theorem sm_twin {row vals : List Int} {gs : List G} (h1 : row.length = 36) (h2 : vals.length = 36) (hg : gs.length ≤ 3) : ∀ d, smD d (twinT (nestT row vals gs))
  | 0 => trivial
  | d + 1 => ⟨by simp, by simp, by simp, fun c hc => by
    simp only [List.mem_cons, List.not_mem_nil, or_false, or_self] at hc
    subst hc; exact sm_nest h1 h2 hg d⟩
theorem wf_any {row vals : List Int} {gs : List G} (hg : gs ≠ []) (h1 : endL gs 0 ≤ row.length + 1) (h2 : endL gs 0 ≤ vals.length + 1) (d : Nat) : wf0 d (nestT row vals gs) :=
  wf0_down d _ (wf0_down (d + 1) _ (wf0_down (d + 2) _ (wf0_of (d + 3) _ (wf_nest hg h1 h2))))
end Mine
set_option maxRecDepth 100000
namespace Mine
open PySem PySem.W PySem.Calls PyProof.Rows PySem.Spec
noncomputable def ValPost (h₀ : Heap) (L : Addr) (m : Str → Option Value) (news : List (Addr × Obj)) (s : Shared) (P : Value → Prop) (v : Value) (s' : Shared) : Prop := ∃ h tk, P v ∧ s' = { s with heap := h, toks := tk } ∧ Fr h₀ L h m ∧ News h₀ L h news
theorem cutVal {M : Model} {A : Around} {E Q : Value → Shared → Prop} {t : Sem Value} {h₀ : Heap} {L : Addr} {m : Str → Option Value} {news : List (Addr × Obj)} {s : Shared} (P : Value → Prop) (F : Fr h₀ L s.heap m) (N : News h₀ L s.heap news)
    (h1 : wpAny M A t (ValPost h₀ L m news s P) E s)
    (h2 : ∀ v h tk, P v → Fr h₀ L h m → News h₀ L h news → Q v { s with heap := h, toks := tk }) : wpAny M A t Q E s :=
  let _ := F; let _ := N
  wpAny_mono h1 (fun _ _ hp => by obtain ⟨h, tk, p, rfl, F', N'⟩ := hp; exact h2 _ h tk p F' N') fun _ _ e => e
theorem Turnd.fr {env : Env} {h₀ h h' : Heap} {m : Str → Option Value} (T : Turnd [env] h h') (F : Fr h₀ env.locals h m) (hf : env.frame = some env.locals) : Fr h₀ env.locals h' m := by
  obtain ⟨g', K, k⟩ := T
  have e : List.filterMap (fun x : Env => x.frame) [env] = [env.locals] := by simp [hf]
  rw [e] at K
  obtain ⟨o, es, ep, ho, hd, rest⟩ := F.ns
  obtain ⟨sl, hs⟩ := K.frame _ _ ho (.head _)
  refine ⟨⟨_, es, ep, k _ _ hs, hd, rest⟩, fun b ob q => k _ _ (K.other b ob (F.keep b ob q) fun hm => ?_), F.above⟩
  rw [List.mem_singleton.mp hm] at q
  exact absurd (Nat.lt_of_lt_of_le (Heap.lt_size q) F.above) (Nat.lt_irrefl _)
theorem Turnd.news {env : Env} {h₀ h h' : Heap} {news : List (Addr × Obj)} (T : Turnd [env] h h') (N : News h₀ env.locals h news) (hf : env.frame = some env.locals) : News h₀ env.locals h' news := by
  obtain ⟨g', K, k⟩ := T
  have e : List.filterMap (fun x : Env => x.frame) [env] = [env.locals] := by simp [hf]
  rw [e] at K
  exact fun p hp => ⟨k _ _ (K.other _ _ (N p hp).1 fun hm => (N p hp).2.1 (List.mem_singleton.mp hm)), (N p hp).2⟩
theorem dicts_of {env : Env} {h₀ h : Heap} {m : Str → Option Value} (F : Fr h₀ env.locals h m) (hf : env.frame = some env.locals) : KtsDicts ([env].filterMap (·.frame)) h := by
  intro b hb
  have e : List.filterMap (fun x : Env => x.frame) [env] = [env.locals] := by simp [hf]
  rw [e] at hb
  rw [List.mem_singleton.mp hb]
  obtain ⟨o, es, ep, ho, hd, _⟩ := F.ns
  exact ⟨o, es, ep, ho, hd⟩
theorem For_hold {prog : Program} {w : World} {A : Around} {s : Shared} {env : Env} {E : Value → Shared → Prop} {Q : Flow → Shared → Prop} {x : Str} {px pos : Pos} {iter : Expr} {body : List Stmt} (h₀ : Heap) (hx : env.kindOf x = some .local)
    (hp : (env.scope.kind == .class || (env.scope.kind == .module && env.locals != env.globals)) = false)
    (h : wpAny (model prog w) A (eval iter env) (fun xv s₁ => Hold (wpAny (model prog w) A (pyIter xv) (fun it s₂ => LoopAtV prog w A h₀ env x body Q E it s₂) E s₁)) E s)
    (hs : ∀ x, foldedSetIterable iter env x = pure x := by intro _; rfl)
    (hE : PassesOwn (model prog w) A env E := by passes_own) :
    wpAny (model prog w) A (exec (.For (.Name x px) iter body [] pos) env) Q E s := For_invV h₀ hx hp h hs hE
end Mine
namespace Mine
theorem endL_long : ∀ (gs : List G) (s : Nat), s + gs.length ≤ endL gs s
  | [], s => by simp [endL]
  | g :: gs, s => by
    have := endL_long gs (s + g.len + 1)
    rw [endL, List.length_cons]; omega
theorem used_pos {gs : List G} (h : 2 ≤ gs.length) : 1 ≤ usedN gs := by
  have := endL_long gs 0
  unfold usedN; omega
end Mine
namespace Mine
open PySem PySem.W PySem.Calls PyProof.Rows PySem.Spec
theorem room_d {env : Env} {d : Nat} (h : d ≤ 5) : (callerA.deeper env).depth + d + 2 < recursionLimit := by
  have h1 : (callerA.deeper env).depth = 1 + claimMargin + 1 := rfl
  have h2 : 1 + claimMargin + 1 + 7 < recursionLimit := by decide
  omega
theorem room_u {env : Env} {d : Nat} (h : d ≤ 5) : (callerA.deeper env).units + 8 * d + 220 < cLine := by
  have h1 : (callerA.deeper env).units = 4 + 3 := rfl
  have h2 : 4 + 3 + 260 < cLine := by decide
  omega
end Mine
namespace Mine
open PySem PySem.W PySem.Calls PyProof.Rows PySem.Spec
section
variable {prog : Program} {w : World} {A : Around} {E : Value → Shared → Prop} {s : Shared}
/-- one of four, the first of them nothing -/
theorem pick4 {value slice : Expr} {t : Addr} {a b c k : Int} {ta tb tc u : Tok} {Q : Value → Shared → Prop} (ht : IsTup s.heap t [Value.none, .int a ta, .int b tb, .int c tc].toArray) (h0 : 0 ≤ k) (h4 : k < 4)
    (h : ∀ o tl, (o = none ∨ o = some a ∨ o = some b ∨ o = some c) → Q (bndV o tl) s)
    (hs : subscripted slice false (.ref t) (.int k u) = operate [.ref t, .int k u] (getItem (.ref t) (.int k u)) := by with_unfolding_all rfl) :
    wpAny (model prog w) A (subscriptTail value slice (.ref t) (.int k u)) Q E s := by
  have : k = 0 ∨ k = 1 ∨ k = 2 ∨ k = 3 := by omega
  rcases this with rfl | rfl | rfl | rfl
  · exact item_tupleT (j := 0) ht (by omega) (by omega) rfl rfl (h none 0 (.inl rfl)) hs
  · exact item_tupleT (j := 1) ht (by omega) (by omega) rfl rfl (h (some a) ta (.inr (.inl rfl))) hs
  · exact item_tupleT (j := 2) ht (by omega) (by omega) rfl rfl (h (some b) tb (.inr (.inr (.inl rfl)))) hs
  · exact item_tupleT (j := 3) ht (by omega) (by omega) rfl rfl (h (some c) tc (.inr (.inr (.inr rfl)))) hs
end
end Mine
set_option maxRecDepth 100000
namespace Mine
open PySem PySem.W PySem.Calls PyProof.Rows PySem.Spec
/-! both answers of a wrapper at once -/
theorem worderM {w : World} {p : Program} {loose : List Str} {mean : ExcName → Option Value} {mg mb : Str → Option Value} (d : Nat) (x : T) (lo hi : Option Int) (v : Value) (tl th tk2 : Tok) (A : Around) (base : Heap) (outer : List Env) (s : Shared) (Q E : Value → Shared → Prop)
    (B : Below A base outer s.heap) (D : KtsDicts (outer.filterMap (·.frame)) s.heap) (X : (hK w.params).In base) (TB : Top p loose mean mg mb base) (hh : A.handled = none) (hd : A.depth + d + 2 < recursionLimit) (hu : A.units + 8 * d + 220 < cLine) (hT : TAt s.heap v x) (hS : smD d x) (hW : wf0 d x)
    (hQ : ∀ got tg h' tk, keysOk d x lo hi = got → Turnd outer s.heap h' → Q (gotB got tg) { s with heap := h', toks := tk }) :
    wpAny (model PySem.Challenge.rw_sx_zcanopy_6.row.prog w) A (call (.ref 92) [v, bndV lo tl, bndV hi th, .int d tk2]) Q E s :=
  worder_spec d x lo hi v tl th tk2 A base outer s Q E B D X TB hh hd hu hT hS hW (fun b h' tk e t => hQ (some b) 0 h' tk e t) fun tk0 h' tk e t => hQ none tk0 h' tk e t
theorem wlevelM {w : World} {p : Program} {loose : List Str} {mean : ExcName → Option Value} {mg mb : Str → Option Value} (d : Nat) (x : T) (v : Value) (tk2 : Tok) (A : Around) (base : Heap) (outer : List Env) (s : Shared) (Q E : Value → Shared → Prop)
    (B : Below A base outer s.heap) (D : KtsDicts (outer.filterMap (·.frame)) s.heap) (X : (hK w.params).In base) (TB : Top p loose mean mg mb base) (hh : A.handled = none) (hd : A.depth + d + 2 < recursionLimit) (hu : A.units + 8 * d + 220 < cLine) (hT : TAt s.heap v x) (hS : smD d x)
    (hQ : ∀ got tg h' tk, leafLevel d x = got → Turnd outer s.heap h' → Q (gotI got tg) { s with heap := h', toks := tk }) :
    wpAny (model PySem.Challenge.rw_sx_zcanopy_6.row.prog w) A (call (.ref 99) [v, .int d tk2]) Q E s :=
  wlevel_spec d x v tk2 A base outer s Q E B D X TB hh hd hu hT hS (fun y ty h' tk e t => hQ (some y) ty h' tk e t) fun tk0 h' tk e t => hQ none tk0 h' tk e t

/-! two equal nests -/
theorem depth_ints : ∀ ns : List Int, PyData.depthAll (ns.map PyData.int) = 0
  | [] => rfl
  | n :: ns => by rw [List.map_cons, PyData.depthAll, depth_ints ns]; rfl
theorem depthAll_le {k : Nat} : ∀ (cs : List T), (∀ c ∈ cs, (encP c).depth ≤ k) → PyData.depthAll (encPs cs) ≤ k
  | [], _ => by rw [encPs, PyData.depthAll]; omega
  | c :: cs, h => by
    rw [encPs, PyData.depthAll]
    have h1 := h c (.head _)
    have h2 := depthAll_le cs fun c hc => h c (.tail _ hc)
    omega
theorem depth_enc : ∀ (d : Nat) (x : T), fitsD d x → (encP x).depth ≤ 2 * d
  | 0, _, h => h.elim
  | d + 1, .node ks vs cs, h => by
    have hc := depthAll_le cs fun c hc => depth_enc d c (h c hc)
    rw [encP]
    simp only [PyData.depth, PyData.depthAll, depth_ints]
    omega
section
variable {prog : Program} {w : World} {A : Around} {E : Value → Shared → Prop} {s : Shared} {a b : Value} {x : T} {Q : Value → Shared → Prop}
theorem ne_same (ha : TAt s.heap a x) (hb : TAt s.heap b x) (hf : fitsD 3 x) (hu : A.units + 64 < cLine) (h : Q (.bool false) s) : wpAny (model prog w) A (compareOp .NotEq a b) Q E s := by
  obtain ⟨as, ra⟩ := ha
  obtain ⟨bs, rb⟩ := hb
  have hd := depth_enc 3 x hf
  refine SeqAt.compareNe_reads ra rb (canLay_enc x) (canLay_enc x) (by rw [Nat.min_self]; omega) ?_
  rw [eqv_enc]; exact h
end

/-! two equal lists of pairs -/
noncomputable def encR (l : List (Int × Int)) : List PyData := l.map fun p => .tuple [.int p.1, .int p.2]
theorem canLay_pairs : ∀ l : List (Int × Int), PyData.canLayAll0 (encR l) = true
  | [] => rfl
  | p :: l => by
    have := canLay_pairs l
    unfold encR at this ⊢
    simp only [List.map_cons, PyData.canLayAll0, PyData.canLay0, this, Bool.and_self]
theorem eqv_pairs : ∀ l : List (Int × Int), PyData.eqvAll (encR l) (encR l) = true
  | [] => rfl
  | p :: l => by
    have := eqv_pairs l
    unfold encR at this ⊢
    simp [PyData.eqvAll, PyData.eqv, this]
theorem depth_pairs : ∀ l : List (Int × Int), PyData.depthAll (encR l) ≤ 1
  | [] => by simp [encR, PyData.depthAll]
  | p :: l => by
    have := depth_pairs l
    unfold encR at this ⊢
    simp only [List.map_cons, PyData.depthAll, PyData.depth]
    omega
theorem reads_pairs {h : Heap} {nl : List (Addr × Obj)} {vs : List Value} {l : List (Int × Int)} (H : Held nl h) (hp : PairsIn nl vs l) : ∃ as, ReadsAll h vs (encR l) as := by
  induction hp with
  | nil => exact ⟨_, .nil⟩
  | cons hm _ ih =>
    obtain ⟨as, r⟩ := ih
    exact ⟨_, .cons (reads_tuple_at (H _ hm) rfl rfl (.cons (.int _ _) (.cons (.int _ _) .nil))) r⟩
section
variable {prog : Program} {w : World} {A : Around} {E : Value → Shared → Prop} {s : Shared} {a b : Addr} {vs us : List Value} {l : List (Int × Int)} {na nb : List (Addr × Obj)} {Q : Value → Shared → Prop}
theorem ne_pairs (Ha : Held na s.heap) (Hb : Held nb s.heap) (la : s.heap.IsList a vs.toArray) (lb : s.heap.IsList b us.toArray) (pa : PairsIn na vs l) (pb : PairsIn nb us l) (hu : A.units + 64 < cLine) (h : Q (.bool false) s) :
    wpAny (model prog w) A (compareOp .NotEq (.ref a) (.ref b)) Q E s := by
  obtain ⟨o, ho, hc, n, hd⟩ := la
  obtain ⟨o', ho', hc', n', hd'⟩ := lb
  obtain ⟨as, ra⟩ := reads_pairs Ha pa
  obtain ⟨bs, rb⟩ := reads_pairs Hb pb
  have hdp := depth_pairs l
  have hde : (PyData.list (encR l)).depth ≤ 2 := by simp only [PyData.depth]; omega
  refine SeqAt.compareNe_reads (reads_list_at ho hc hd ra) (reads_list_at ho' hc' hd' rb) (by simp only [PyData.canLay0]; exact canLay_pairs l) (by simp only [PyData.canLay0]; exact canLay_pairs l) (by rw [Nat.min_self]; omega) ?_
  have e : PyData.eqv (.list (encR l)) (.list (encR l)) = true := by simp only [PyData.eqv]; exact eqv_pairs l
  rw [e]; exact h
end

/-! a loop over a list of the ledger, the target a tuple of names, one int carried -/
section
variable {prog : Program} {w : World} {A : Around} {E : Value → Shared → Prop} {s : Shared} {env : Env} {h₀ : Heap} {target : Expr} {body : List Stmt} {Q : Flow → Shared → Prop} {m : Str → Option Value} {news : List (Addr × Obj)} {l : Addr} {vs : List Value} {ol : Obj} {k : Nat}
theorem iterTC (S : List Str) (y0 : Str) (pos : Nat → Int) (hh : A.handled = none) (hl : (l, ol) ∈ news) (hc : ol.cls = .type "list") (hd : ol.data = .seq vs.toArray k) (F : Fr h₀ env.locals s.heap m) (N : News h₀ env.locals s.heap news) (hy : ∃ tk, m y0 = some (.int (pos 0) tk))
    (turn : ∀ (i : Nat) v (u : Str → Option Value) tkp h tk I oI, vs[i]? = some v → (∀ p ∈ news, p.1 ≠ I) → Fr h₀ env.locals h (fun y => if y = y0 then some (.int (pos i) tkp) else if S.contains y then u y else m y) → News h₀ env.locals h ((I, oI) :: news) →
      wpAny (model prog w) A (assign target env v) (fun _ s₃ => wpAny (model prog w) A (execs body env) (TurnPost h₀ env.locals I oI (AtJ S y0 pos m (fun _ nx => nx = news) (i + 1)) { s with heap := h, toks := tk } Q) E s₃) E { s with heap := h, toks := tk })
    (done : ∀ (u : Str → Option Value) tkp h tk, Fr h₀ env.locals h (fun y => if y = y0 then some (.int (pos vs.length) tkp) else if S.contains y then u y else m y) → News h₀ env.locals h news → Q .next { s with heap := h, toks := tk }) :
    wpAny (model prog w) A (pyIter (.ref l)) (fun it s₂ => TurnsAt prog w A h₀ env target body Q E it s₂) E s := by
  refine iterT (AtJ S y0 pos m (fun _ nx => nx = news)) hh (N _ hl).1 hc hd (.inr fun i m₁ nx q => by obtain ⟨_, _, rfl⟩ := q; exact hl) (N _ hl).2.1 F N ⟨fun _ _ _ => rfl, hy, rfl⟩ ?_ ?_
  · rintro i v m₁ nx h tk I oI hv ⟨hm, ⟨tkp, hp⟩, rfl⟩ hn F₁ N₁
    exact turn i v m₁ tkp h tk I oI hv hn (atFr hm hp F₁) N₁
  · rintro m₁ nx h tk ⟨hm, ⟨tkp, hp⟩, rfl⟩ F₁ N₁
    exact done m₁ tkp h tk (atFr hm hp F₁) N₁
end
theorem nodes_bound : ∀ (gs : List G) (s : Nat), ∀ x ∈ nodesL gs s, x.left + 1 ≤ endL gs s ∧ x.right + 1 ≤ endL gs s
  | [], _, x, hx => by cases hx
  | g :: gs, s, x, hx => by
    have hge := endL_ge gs (s + g.len + 1)
    rw [nodesL] at hx
    rw [endL]
    rcases List.mem_append.mp hx with hx | hx
    · unfold nodesG at hx
      unfold G.len at hge hx ⊢
      cases hdp : g.dp with
      | true =>
        simp only [hdp, if_true, List.cons_append, List.nil_append, List.mem_cons, List.not_mem_nil, or_false] at hx hge ⊢
        rcases hx with rfl | rfl | rfl <;> dsimp only <;> omega
      | false =>
        simp only [hdp, Bool.false_eq_true, if_false, List.nil_append, List.mem_cons, List.not_mem_nil, or_false] at hx hge ⊢
        subst hx; dsimp only; omega
    · exact nodes_bound gs _ x hx
theorem reach_next {row : List Int} {used : Nat} {lo hi : Int} {l : List Nd} {i : Nat} {x : Nd} (h : l[i]? = some x) : reachN row used lo hi (l.take (i + 1)) = if metN row used lo hi x then max (reachN row used lo hi (l.take i)) (x.lev + 1) else reachN row used lo hi (l.take i) := by
  obtain ⟨hi', rfl⟩ := List.getElem?_eq_some_iff.mp h
  rw [List.take_succ_eq_append_getElem hi']
  unfold reachN
  rw [List.foldl_append]
  rfl
end Mine
namespace Mine
open PySem PySem.W PySem.Calls PyProof.Rows PySem.Spec
section
variable {prog : Program} {w : World} {A : Around} {s : Shared} {h₀ : Heap} {L : Addr} {m : Str → Option Value} {env : Env} {ct elt : Expr} {x : Str} {scope : Scope} {cl : List (Str × Addr)} {S : List (Addr × Obj) → Prop} {P : Nat → Value → Prop} {Fin : List Value → List (Addr × Obj) → Prop} {news : List (Addr × Obj)}
theorem rest_ind (J : Nat → List Value → List (Addr × Obj) → Prop) {n : Nat} (h0 : J 0 [] news) (fin : ∀ ys nx, J n ys nx → Fin ys nx)
    (turn : ∀ k i ys nx, i < n → J i ys nx → (∀ ys' nx', J (i + 1) ys' nx' → LCt.CompRestT prog w A h₀ L m env ct elt x scope cl s S P Fin k (i + 1) ys' nx') → LCt.CompRestT prog w A h₀ L m env ct elt x scope cl s S P Fin (k + 1) i ys nx) :
    LCt.CompRestT prog w A h₀ L m env ct elt x scope cl s S P Fin n 0 [] news := by
  have all : ∀ k i ys nx, i + k = n → J i ys nx → LCt.CompRestT prog w A h₀ L m env ct elt x scope cl s S P Fin k i ys nx := by
    intro k
    induction k with
    | zero => intro i ys nx e j; exact fin ys nx (by rw [← e]; exact j)
    | succ k ih => intro i ys nx e j; exact turn k i ys nx (by omega) j fun ys' nx' j' => ih (i + 1) ys' nx' (by omega) j'
  exact all n 0 [] news (by omega) h0
end
theorem due_yes {row vals : List Int} {i : Nat} {lo hi : Int} (h : lo ≤ row.getD i 0 ∧ row.getD i 0 ≤ hi) : dueL row vals (i + 1) lo hi = dueL row vals i lo hi ++ [(row.getD i 0, vals.getD i 0)] := by
  unfold dueL
  rw [List.range_succ, List.filter_append, List.map_append]
  have : (decide (lo ≤ row.getD i 0) && decide (row.getD i 0 ≤ hi)) = true := by
    rw [Bool.and_eq_true, decide_eq_true_eq, decide_eq_true_eq]; exact h
  simp only [List.filter_cons, this, List.filter_nil, if_true, List.map_nil, List.map_cons]
theorem due_no {row vals : List Int} {i : Nat} {lo hi : Int} (h : ¬ (lo ≤ row.getD i 0 ∧ row.getD i 0 ≤ hi)) : dueL row vals (i + 1) lo hi = dueL row vals i lo hi := by
  unfold dueL
  rw [List.range_succ, List.filter_append, List.map_append]
  have : (decide (lo ≤ row.getD i 0) && decide (row.getD i 0 ≤ hi)) = false := by
    rw [Bool.and_eq_false_iff, decide_eq_false_iff_not, decide_eq_false_iff_not]; omega
  simp only [List.filter_cons, this, List.filter_nil, if_false, List.map_nil, List.append_nil, Bool.false_eq_true]
/-- a nest twice under one root -/
theorem twin_in {nl : List (Addr × Obj)} {a ak av ac : Addr} {na nk nv nc : Nat} {v : Value} {x : T} {t1 t2 : Tok} (h1 : (a, tupO [.ref ak, .ref av, .ref ac] na) ∈ nl) (h2 : (ak, W.listOf [Value.int 0 t1].toArray nk) ∈ nl) (h4 : (av, W.listOf [Value.int 0 t2].toArray nv) ∈ nl) (h6 : (ac, W.listOf [v, v].toArray nc) ∈ nl) (hx : TIn nl v x) : TIn nl (.ref a) (twinT x) := by
  refine .mk h1 h2 (.cons _ _ .nil) h4 (.cons _ _ .nil) h6 rfl fun i u c e1 e2 => ?_
  match i, e1, e2 with
  | 0, e1, e2 => simp at e1 e2; subst e1 e2; exact hx
  | 1, e1, e2 => simp at e1 e2; subst e1 e2; exact hx
  | _ + 2, e1, _ => simp at e1
end Mine
namespace Mine
open PySem PySem.W PySem.Calls PyProof.Rows PySem.Spec
section
variable {prog : Program} {w : World} {A : Around} {s : Shared} {h₀ : Heap} {L : Addr} {m : Str → Option Value} {env : Env} {ct elt : Expr} {x : Str} {scope : Scope} {cl : List (Str × Addr)} {S : List (Addr × Obj) → Prop} {P : Nat → Value → Prop} {Fin : List Value → List (Addr × Obj) → Prop} {c1 c2 c3 c4 c5 : Addr × Obj} {rest : List (Addr × Obj)}
theorem rest_due (G : Nat → List (Int × Int)) {n : Nat} (hG : G 0 = [])
    (turn : ∀ k i ys rest', i < n → (∀ p ∈ rest, p ∈ rest') → PairsIn rest' ys (G i) → (∀ ys' rest'', (∀ p ∈ rest, p ∈ rest'') → PairsIn rest'' ys' (G (i + 1)) → LCt.CompRestT prog w A h₀ L m env ct elt x scope cl s S P Fin k (i + 1) ys' (c5 :: c4 :: c3 :: c2 :: c1 :: rest'')) → LCt.CompRestT prog w A h₀ L m env ct elt x scope cl s S P Fin (k + 1) i ys (c5 :: c4 :: c3 :: c2 :: c1 :: rest'))
    (fin : ∀ ys rest', (∀ p ∈ rest, p ∈ rest') → PairsIn rest' ys (G n) → Fin ys (c5 :: c4 :: c3 :: c2 :: c1 :: rest')) :
    LCt.CompRestT prog w A h₀ L m env ct elt x scope cl s S P Fin n 0 [] (c5 :: c4 :: c3 :: c2 :: c1 :: rest) := by
  refine rest_ind (fun i ys nx => ∃ rest', nx = c5 :: c4 :: c3 :: c2 :: c1 :: rest' ∧ (∀ p ∈ rest, p ∈ rest') ∧ PairsIn rest' ys (G i)) ⟨rest, rfl, fun _ h => h, by rw [hG]; exact .nil⟩ ?_ ?_
  · rintro ys nx ⟨rest', rfl, hs, hp⟩
    exact fin ys rest' hs hp
  · rintro k i ys nx hi ⟨rest', rfl, hs, hp⟩ ih
    exact turn k i ys rest' hi hs hp fun ys' rest'' h1 h2 => ih ys' _ ⟨rest'', rfl, h1, h2⟩
end
theorem regroup' {h₀ h h' : Heap} {L : Addr} {m : Str → Option Value} {c1 c2 c3 c4 c5 : Addr × Obj} {pre rest nl : List (Addr × Obj)} (F : Fr h₀ L h m) (N : News h₀ L h (pre ++ c5 :: c4 :: c3 :: c2 :: c1 :: rest)) (k : Keeps h h')
    (fresh : ∀ p ∈ nl, h'.get? p.1 = some p.2 ∧ h.get? p.1 = none) : ∃ rest', News h₀ L h' (c5 :: c4 :: c3 :: c2 :: c1 :: rest') ∧ (∀ p ∈ pre, p ∈ rest') ∧ (∀ p ∈ rest, p ∈ rest') ∧ (∀ p ∈ nl, p ∈ rest') := by
  have N' := News.join F N k fresh
  refine ⟨pre ++ rest ++ nl, fun p hp => N' p ?_, fun p hp => by simp [hp], fun p hp => by simp [hp], fun p hp => by simp [hp]⟩
  simp only [List.mem_cons, List.mem_append] at hp ⊢
  rcases hp with q | q | q | q | q | (q | q) | q <;> simp [q]
end Mine
namespace Mine
open PySem PySem.W PySem.Calls PyProof.Rows PySem.Spec
section
variable {M : Model} {A : Around} {E : Value → Shared → Prop} {s : Shared} {env : Env} {h₀ : Heap} {Q : Flow → Shared → Prop} {m : Str → Option Value}
/-- two statements cut off -/
theorem cutTwo (S : List Str) (R : List (Addr × Obj) → Prop) {st₁ st₂ : Stmt} {rest : List Stmt} (_F : Fr h₀ env.locals s.heap m)
    (h1 : wpAny M A (exec st₁ env) (fun f s' => match f with | .next => wpAny M A (exec st₂ env) (Turned h₀ env.locals S m R s) E s' | _ => False) E s)
    (h2 : ∀ h tk (u : Str → Option Value) nx, Fr h₀ env.locals h (fun y => if S.contains y then u y else m y) → News h₀ env.locals h nx → R nx → wpAny M A (execs rest env) Q E { s with heap := h, toks := tk }) : wpAny M A (execs (st₁ :: st₂ :: rest) env) Q E s := by
  refine wpAny_execs_cons (wpAny_mono h1 (fun f s' h => ?_) fun _ _ h => h)
  cases f with
  | next =>
    refine wpAny_execs_cons (wpAny_mono h (fun f s'' h => ?_) fun _ _ h => h)
    obtain ⟨rfl, h', tk, u, nx, rfl, F', N', r⟩ := h
    exact h2 h' tk u nx F' N' r
  | _ => exact h.elim
end
end Mine
namespace Mine
open PySem PySem.W PySem.Calls PyProof.Rows PySem.Spec
theorem ne_bnd {prog : Program} {w : World} {A : Around} {E : Value → Shared → Prop} {s : Shared} {Q : Value → Shared → Prop} {o : Option Int} {n : Int} {tl t : Tok} (h : Q (.bool (decide (o ≠ some n))) s) : wpAny (model prog w) A (compareOp .NotEq (bndV o tl) (.int n t)) Q E s := by
  cases o with
  | none => exact EqNone.ne_none_int (by simpa using h)
  | some a =>
    refine PyProof.Rows.ne_int ?_
    have e : (a != n) = decide (some a ≠ some n) := by
      by_cases q : a = n <;> simp [q]
    first | exact e ▸ h | (rw [show decide (some a ≠ some n) = (a != n) from e.symm] at h; exact h)
end Mine
set_option maxRecDepth 100000
namespace Mine
open PySem PySem.W PySem.Calls PyProof.Rows PySem.Spec
theorem twin_at {h₀ h : Heap} {L a ak av ac : Addr} {t1 t2 : Tok} {v : Value} {x : T} {more : List (Addr × Obj)}
    (N : News h₀ L h ((a, { cls := .type "tuple", data := .seq #[.ref ak, .ref av, .ref ac] }) :: (ac, W.listOf #[v, v] 0) :: (av, W.listOf #[.int 0 t2] 0) :: (ak, W.listOf #[.int 0 t1] 0) :: more)) (hx : TIn more v x) : TAt h (.ref a) (twinT x) := by
  have H := Held.of N
  exact (twin_in (na := 0) (nk := 0) (nv := 0) (nc := 0) (t1 := t1) (t2 := t2) (x := x) (v := v) (List.Mem.head _) (.tail _ (.tail _ (.tail _ (.head _)))) (.tail _ (.tail _ (.head _))) (.tail _ (.head _)) (hx.mono fun p hp => .tail _ (.tail _ (.tail _ (.tail _ hp))))).at H
end Mine
namespace Mine
open PySem PySem.W PySem.Calls PyProof.Rows PySem.Spec
theorem cutTrue {M : Model} {A : Around} {E : Value → Shared → Prop} {s : Shared} {h₀ : Heap} {L : Addr} {m : Str → Option Value} {news : List (Addr × Obj)} {t : Sem Bool} {Q : Bool → Shared → Prop} (b : Bool) (_F : Fr h₀ L s.heap m) (_N : News h₀ L s.heap news)
    (h1 : wpAny M A t (fun b' s' => b' = b ∧ Same h₀ L m news s s') E s) (h2 : ∀ h tk, Fr h₀ L h m → News h₀ L h news → Q b { s with heap := h, toks := tk }) : wpAny M A t Q E s := by
  refine wpAny_mono h1 (fun b' s' h => ?_) fun _ _ h => h
  obtain ⟨rfl, h', tk, rfl, F', N'⟩ := h
  exact h2 h' tk F' N'
end Mine
namespace Mine
theorem metN_iff {row : List Int} {used : Nat} {lo hi : Int} {x : Nd} : metN row used lo hi x = true ↔ lo ≤ hi ∧ (x.left = 0 ∨ row.getD (x.left - 1) 0 < hi) ∧ (x.right = used ∨ row.getD x.right 0 > lo) := by
  unfold metN
  rw [Bool.and_eq_true, Bool.and_eq_true, Bool.or_eq_true, Bool.or_eq_true, decide_eq_true_eq, decide_eq_true_eq, decide_eq_true_eq, beq_iff_eq, beq_iff_eq, and_assoc]
end Mine
namespace Mine
open PySem PySem.W PySem.Calls PyProof.Rows PySem.Spec
theorem max2 {prog : Program} {w : World} {A : Around} {E : Value → Shared → Prop} {s : Shared} {h₀ : Heap} {L : Addr} {m : Str → Option Value} {news : List (Addr × Obj)} {a b : Int} {t u : Tok} {Q : Value → Shared → Prop} (hh : A.handled = none) (F : Fr h₀ L s.heap m) (N : News h₀ L s.heap news)
    (h : ∀ h' t' tk, Fr h₀ L h' m → News h₀ L h' news → Q (.int (max a b) t') { s with heap := h', toks := tk }) : wpAny (model prog w) A (call (.builtin "max") [.int a t, .int b u]) Q E s := by
  refine max_two_ints hh fun h' tk hk => ?_
  by_cases q : b > a
  · rw [if_pos q]
    have e : max a b = b := by omega
    have := h h' u tk (F.keeps hk) (N.grown hk)
    rw [e] at this; exact this
  · rw [if_neg q]
    have e : max a b = a := by omega
    have := h h' t tk (F.keeps hk) (N.grown hk)
    rw [e] at this; exact this
end Mine
namespace Mine
open PySem PySem.W PySem.Calls PyProof.Rows PySem.Spec
theorem off_in {I C D T : Addr} {o : Obj} {c1 c2 c3 c4 c5 : Addr × Obj} {r : List (Addr × Obj)} (h : LCg.Off3 I C D (c5 :: c4 :: c3 :: c2 :: c1 :: r)) (h1 : T ≠ I) (h2 : T ≠ C) (h3 : T ≠ D) : LCg.Off3 I C D (c5 :: c4 :: c3 :: c2 :: c1 :: (T, o) :: r) :=
  ⟨h.1, h.2.1, h.2.2.1, h.2.2.2.1, h.2.2.2.2.1, ⟨h1, h2, h3⟩, h.2.2.2.2.2⟩
end Mine
namespace Mine
open PySem PySem.W PySem.Calls PyProof.Rows PySem.Spec
theorem due_end {h₀ h' : Heap} {L I C D T : Addr} {m : Str → Option Value} {s₁ : Shared} {o oI oC oD : Obj} {S : List (Addr × Obj) → Prop} {R : Value → List (Addr × Obj) → Prop} {tk : Nat} {c1 c2 c3 c4 c5 : Addr × Obj} {r : List (Addr × Obj)}
    (F : Fr h₀ L h' m) (N : News h₀ L h' ((T, o) :: (I, oI) :: (C, oC) :: (D, oD) :: c5 :: c4 :: c3 :: c2 :: c1 :: r)) (off : LCg.Off3 I C D (c5 :: c4 :: c3 :: c2 :: c1 :: r)) (h1 : I < T) (h2 : C < T) (h3 : D < T)
    (hS : S (c5 :: c4 :: c3 :: c2 :: c1 :: (T, o) :: r)) (hR : R (.ref T) (c5 :: c4 :: c3 :: c2 :: c1 :: (T, o) :: r)) : LCg.CompEnd h₀ L m s₁ I oI C oC D oD S R (.ref T) { s₁ with heap := h', toks := tk } := by
  refine LCg.CompEnd.intro F N _ ?_ (off_in off (Nat.ne_of_gt h1) (Nat.ne_of_gt h2) (Nat.ne_of_gt h3)) hS hR
  intro p hp
  simp only [List.mem_cons] at hp ⊢
  rcases hp with q | q | q | q | q | q | q | q | q | q <;> simp [q]
theorem due_pair {nl : List (Addr × Obj)} {ys : List Value} {l : List (Int × Int)} {T : Addr} {a b a' b' : Int} {ta tb : Tok} (h : PairsIn nl ys l) (ea : a = a') (eb : b = b') : PairsIn ((T, ({ cls := .type "tuple", data := .seq #[.int a ta, .int b tb] } : Obj)) :: nl) (ys ++ [.ref T]) (l ++ [(a', b')]) := by
  subst ea eb
  exact (h.mono fun p hp => .tail _ hp).append (.cons (.head _) .nil)
end Mine
namespace Mine
open PySem PySem.W PySem.Calls PyProof.Rows PySem.Spec
theorem cutTwoN {M : Model} {A : Around} {E : Value → Shared → Prop} {s : Shared} {env : Env} {h₀ : Heap} {Q : Flow → Shared → Prop} {m : Str → Option Value} {d : Addr × Obj} {news : List (Addr × Obj)} (S : List Str) {st₁ st₂ : Stmt} {rest : List Stmt} (F : Fr h₀ env.locals s.heap m) (_N : News h₀ env.locals s.heap (d :: news))
    (h1 : wpAny M A (exec st₁ env) (fun f s' => match f with | .next => wpAny M A (exec st₂ env) (Turned h₀ env.locals S m (fun nx => nx = news) s) E s' | _ => False) E s)
    (h2 : ∀ h tk (u : Str → Option Value), Fr h₀ env.locals h (fun y => if S.contains y then u y else m y) → News h₀ env.locals h news → wpAny M A (execs rest env) Q E { s with heap := h, toks := tk }) : wpAny M A (execs (st₁ :: st₂ :: rest) env) Q E s :=
  cutTwo S (fun nx => nx = news) F h1 fun h tk u nx F' N' e => h2 h tk u F' (e ▸ N')
end Mine
set_option maxRecDepth 100000
namespace Mine
open PySem PySem.W PySem.Calls PyProof.Rows PySem.Spec
section
variable {prog : Program} {w : World} {A : Around} {E : Value → Shared → Prop} {s : Shared} {a : Addr} {S : Int → Bool} {n : Nat}
/-- a set of ints and its table, as set(..) lays them -/
noncomputable def SOk (prog : Program) (w : World) (h : Heap) (a : Addr) (S : Int → Bool) (n : Nat) : Prop :=
  ∃ o es ep t, h.get? a = some o ∧ o.ExactSet ∧ o.data = .set es ep t ∧ ElemsOf (intKind prog w) es.toList ∧ (∀ k, S k = true ↔ ∃ e ∈ es.toList, (intKind prog w).is k e.2 = true)
    ∧ es.size < scanBound ∧ t.fits es.size = true ∧ es.size = n ∧ TOk (!w.params.followText "set-order") t
theorem SOk.at {h h' : Heap} (H : SOk prog w h a S n) (e : ∀ o, h.get? a = some o → h'.get? a = some o) : SOk prog w h' a S n := by
  obtain ⟨o, es, ep, t, ho, r⟩ := H
  exact ⟨o, es, ep, t, e o ho, r⟩
theorem SOk.like {h : Heap} {S' : Int → Bool} {n' : Nat} (H : SOk prog w h a S n) (e : ∀ k, S k = S' k) (en : n = n') : SOk prog w h a S' n' := by
  have : S = S' := funext e
  subst this en; exact H
theorem SOk_put {h : Heap} {o : Obj} {es es' : Array (Int × Value)} {ep : Nat} {t t' : SetTable} (ho : h.get? a = some o) (hex : o.ExactSet) (hd : o.data = .set es ep t) (hel : ElemsOf (intKind prog w) es'.toList)
    (hmem : ∀ k, S k = true ↔ ∃ e ∈ es'.toList, (intKind prog w).is k e.2 = true) (hb : es'.size < scanBound) (hf : t'.fits es'.size = true) (ht : TOk (!w.params.followText "set-order") t') :
    (h.update a (Obj.putSet es' t')).get? a = some { o with data := .set es' (ep + 1) t' } ∧ SOk prog w (h.update a (Obj.putSet es' t')) a S es'.size := by
  obtain ⟨h1, _⟩ := SetOf_store (knd := intKind prog w) ho hex hd hel hmem hb hf
  exact ⟨h1, _, es', ep + 1, t', h1, hex, rfl, hel, hmem, hb, hf, rfl, ht⟩
theorem add_rest {g : Bool → Sem Unit} (hg : ∀ (b : Bool) (s₁ : Shared) (Q' : Unit → Shared → Prop), Q' () s₁ → wpAny (model prog w) A (g b) Q' E s₁)
    {o : Obj} {es es1 : Array (Int × Value)} {ep : Nat} {t t2 : SetTable} (ho : s.heap.get? a = some o) (hex : o.ExactSet) (hd : o.data = .set es ep t) (hel : ElemsOf (intKind prog w) es1.toList)
    (hmem : ∀ k, S k = true ↔ ∃ e ∈ es1.toList, (intKind prog w).is k e.2 = true) (hb : es1.size < scanBound) (hf : t2.fits es1.size = true) (ht : TOk (!w.params.followText "set-order") t2) {was : Bool} {R : Option Bool → Shared → Prop}
    (h : ∀ h', Heap.SameBut a s.heap h' → SOk prog w h' a S es1.size → R (some true) { s with heap := h' }) :
    wpAny (model prog w) A (do
        storeSet a es1 t2
        if (!was && t2.tooFull) = true then do
            g (relayAll t2 es1 (SetTable.grown es1.size)).2.2
            storeSet a (relayAll t2 es1 (SetTable.grown es1.size)).1 (relayAll t2 es1 (SetTable.grown es1.size)).2.1
            pure (some true)
          else pure (some true)) R E s := by
  obtain ⟨h1, h2⟩ := SOk_put ho hex hd hel hmem hb hf ht
  have same1 := Heap.SameBut.update s.heap a (Obj.putSet es1 t2)
  refine wpAny_bind (wpAny_storeSet_of ho hd ?_ (fits_of_scanBound hb))
  by_cases hq : (!was && t2.tooFull) = true
  · rw [if_pos hq]
    have p := relayAll_perm t2 es1 (SetTable.grown es1.size)
    have f := relayAll_fits t2 es1 (SetTable.grown es1.size)
    have k := ht.relayAll es1 (SetTable.grown es1.size)
    generalize relayAll t2 es1 (SetTable.grown es1.size) = X at p f k ⊢
    obtain ⟨es2, t3, gv⟩ := X
    dsimp only at p f k ⊢
    have z : es2.size = es1.size := by rw [← Array.length_toList, p.length_eq, Array.length_toList]
    obtain ⟨_, h4⟩ := SOk_put (S := S) h1 hex rfl (hel.perm p) (fun k' => (hmem k').trans ⟨fun ⟨e, he, q⟩ => ⟨e, p.mem_iff.mpr he, q⟩, fun ⟨e, he, q⟩ => ⟨e, p.mem_iff.mp he, q⟩⟩) (by rw [z]; exact hb) f k
    refine wpAny_bind (hg _ _ _ (wpAny_bind (wpAny_storeSet_of h1 rfl (wpAny_pure (h _ (same1.trans (Heap.SameBut.update _ a _)) (by rw [z] at h4; exact h4))) (fits_of_scanBound (by rw [z]; exact hb)))))
  · rw [if_neg hq]
    exact wpAny_pure (h _ same1 h2)
theorem add_int {x : Int} {tx : Tok} {Q : Bool → Shared → Prop} (H : SOk prog w s.heap a S n) (hroom : n + 1 < scanBound)
    (h : ∀ h', Heap.SameBut a s.heap h' → SOk prog w h' a (fun k => S k || decide (k = x)) (if S x then n else n + 1) → Q (!S x) { s with heap := h' }) :
    wpAny (model prog w) A (setAddHashed a (.int x tx) ((intKind prog w).hash x)) Q E s := by
  have hkey : (intKind prog w).is x (.int x tx) = true := intKind_is _ _ _ _
  have hsc : (Value.int x tx).scannable = true := rfl
  obtain ⟨o, es, ep, t, ho, hex, hd, hel, hmem, hb, hf, hn, htk⟩ := H
  unfold setAddHashed setAddHashedIn
  refine wpAny_holding (wpAny_bind (wpAny_setState_of ho hd hf ?_))
  dsimp only
  rw [byScan_of hsc hb hel]
  simp only [↓reduceIte]
  unfold setAddByScan
  refine wpAny_bind (wpAny_bind (wpAny_rule (wpAny_bind (wpAny_setScan_of hkey ho hd hf hel ?_))))
  cases hr : List.findIdx? (fun e => (intKind prog w).is x e.2) es.toList with
  | some j =>
    dsimp only
    obtain ⟨hj, hpj, _⟩ := List.findIdx?_eq_some_iff_getElem.mp hr
    have hSx : S x = true := (hmem x).mpr ⟨es.toList[j], List.getElem_mem hj, hpj⟩
    refine wpAny_pure (wpAny_pure ?_)
    have e : s = { s with heap := s.heap } := by cases s; rfl
    have := h s.heap (Heap.SameBut.refl a s.heap) ⟨o, es, ep, t, ho, hex, hd, hel, fun k => by
      rw [Bool.or_eq_true, decide_eq_true_eq, ← hmem k]
      exact ⟨fun q => q.elim id fun e => e ▸ hSx, .inl⟩, hb, hf, by rw [hSx]; exact hn, htk⟩
    rw [hSx] at this
    rw [e]; exact this
  | none =>
    dsimp only
    have hSx : S x = false := by
      cases hk : S x with
      | false => rfl
      | true =>
        obtain ⟨e, he, hp⟩ := (hmem x).mp hk
        have := List.findIdx?_eq_none_iff.mp hr e he
        rw [hp] at this; cases this
    have p := layNew_perm t es ((intKind prog w).hash x) (.int x tx)
    have f := layNew_fits t es ((intKind prog w).hash x) (.int x tx)
    have k := htk.layNew es ((intKind prog w).hash x) (.int x tx)
    generalize layNew t es ((intKind prog w).hash x) (.int x tx) = X at p f k ⊢
    obtain ⟨es1, t1, was, gv⟩ := X
    dsimp only at p f k ⊢
    rw [Array.toList_push] at p
    have z : es1.size = n + 1 := by rw [← Array.length_toList, p.length_eq, List.length_append, Array.length_toList, hn]; rfl
    have hg : ∀ (b : Bool) (s₁ : Shared) (Q' : Unit → Shared → Prop), Q' () s₁ → wpAny (model prog w) A (match b with | true => rule "set.scan.the-table-gave-way" | false => pure ()) Q' E s₁ := fun b s₁ Q' hq => by
      cases b
      · exact wpAny_pure hq
      · exact wpAny_rule hq
    have done : ∀ h', Heap.SameBut a s.heap h' → SOk prog w h' a (fun k => S k || decide (k = x)) es1.size → Q true { s with heap := h' } := fun h' q1 q2 => by
      have := h h' q1
      rw [hSx] at this
      rw [z] at q2
      exact this q2
    refine wpAny_bind (hg _ _ _ ?_)
    split
    · refine wpAny_bind ?_
      rw [hashByValue_scannable 8 hsc]
      refine wpAny_pure ?_
      refine add_rest (S := fun k => S k || decide (k = x)) (fun b s₁ Q' hq => hg b s₁ Q' hq) ho hex hd ((hel.push hkey hsc).perm p) (mem_push_iff hkey hmem p) (by omega) ?_ ?_ ?_
      · split
        · exact f
        · exact SetTable.fits_plain_off f
      · split
        · exact k
        · exact k.plain false
      · intro h' q1 q2; dsimp only; exact wpAny_pure (done h' q1 q2)
    · refine wpAny_bind (wpAny_pure ?_)
      simp only [↓reduceIte]
      refine add_rest (S := fun k => S k || decide (k = x)) (fun b s₁ Q' hq => hg b s₁ Q' hq) ho hex hd ((hel.push hkey hsc).perm p) (mem_push_iff hkey hmem p) (by omega) f k ?_
      intro h' q1 q2; dsimp only; exact wpAny_pure (done h' q1 q2)
end
end Mine
set_option maxRecDepth 100000
set_option maxHeartbeats 3200000
namespace Mine
open PySem PySem.W PySem.Calls PyProof.Rows PySem.Spec
section
variable {prog : Program} {w : World} {A : Around} {R : Result → Shared → Prop} {I : Addr} {fp wr : List Addr} {G : Array GenState → Array GenState → Prop} {n : Nat} {P : Nat → Value → Prop} {St : Nat → Shared → Prop}
theorem fill_loop (W : WalksS prog w A.in1 I fp wr G n P St) (a : Addr) (ha : a ∉ fp) (val : Nat → Int) (hval : ∀ i v, P i v → ∃ t, v = .int (val i) t) (hb : n + 1 < scanBound) :
    ∀ (k i : Nat) (s : Shared), n - i = k → i ≤ n → St i s → SOk prog w s.heap a (fun x => (firstMet val i).any (· == x)) (firstMet val i).length →
      (∀ s', Moved (a :: wr) G s s' → SOk prog w s'.heap a (fun x => (firstMet val n).any (· == x)) (firstMet val n).length → R (.ok (.ret .none)) s') →
      codeAny (model prog w) A (.builtin "set.update.loop" ⟨[.ref a, .ref I], []⟩) R s := by
  have haw : a ∉ wr := fun q => ha (W.sub _ q)
  have hsub : ∀ b ∈ wr, b ∈ a :: wr := fun b hb => List.mem_cons_of_mem _ hb
  intro k
  induction k with
  | zero =>
    intro i s hk hi hst H hR
    obtain rfl : i = n := by omega
    refine codeAny_builtin F.entry_set_update_loop ?_
    rw [Around.under_plainId F.plain_set_update_loop _]
    show wpAny _ A.in1 (pyNext (.ref I) >>= _) _ _ s
    refine wpAny_bind (W.done s _ _ hst fun s' hm => ?_)
    show wpAny _ A.in1 (ret Value.none) _ _ s'
    exact wpAny_pure (hR s' (hm.mono hsub) (H.at fun o e => hm.heap a _ haw e))
  | succ k ih =>
    intro i s hk hi hst H hR
    have hlt : i < n := by omega
    refine codeAny_builtin F.entry_set_update_loop ?_
    rw [Around.under_plainId F.plain_set_update_loop _]
    show wpAny _ A.in1 (pyNext (.ref I) >>= _) _ _ s
    refine wpAny_bind (W.item i s _ _ hlt hst fun v s' hP hst' hm => ?_)
    obtain ⟨t, rfl⟩ := hval i v hP
    have H' := H.at (h' := s'.heap) fun o e => hm.heap a _ haw e
    show wpAny _ A.in1 (holding [Value.int (val i) t] (setAdd a (.int (val i) t)) >>= _) _ _ s'
    refine wpAny_bind (wpAny_holding ?_)
    unfold setAdd
    refine wpAny_holding (wpAny_bind ((intKind prog w).pyHash (k := val i) (intKind_is _ _ _ _) ?_))
    have hl := firstMet_length_le val i
    refine add_int (s := { s' with toks := s'.toks + 1 }) H' (by omega) fun h' hsb H2 => ?_
    have H3 : SOk prog w h' a (fun x => (firstMet val (i + 1)).any (· == x)) (firstMet val (i + 1)).length := H2.like (fun x => by rw [firstMet_succ, step_any]) (by rw [firstMet_succ, step_length])
    refine wpAny_pure ⟨plainId_quiet F.plain_set_update_loop _, ih (i + 1) _ (by omega) hlt (W.frame _ s' _ _ hst' (Nat.le_succ _) fun b hb o e => ?_) H3 fun s'' hm'' H'' => ?_⟩
    · rw [hsb.2 b fun q : b = a => ha (q ▸ hb)]; exact e
    · refine hR s'' (Moved.trans W.gtrans ((hm.mono hsub).then_heap (Nat.le_succ _) fun b o hb e => ?_) hm'') H''
      rw [hsb.2 b fun q : b = a => hb (by rw [q]; exact List.mem_cons_self)]; exact e
end
section
variable {prog : Program} {w : World} {A : Around} {E : Value → Shared → Prop} {s : Shared}
noncomputable abbrev set0 (w : World) : Obj := { cls := .type "set", dict := none, data := .set #[] 0 (.fresh 0 0 (!w.params.followText "set-order")) }
theorem new_set1 (v : Value) {Q₁ : Value → Shared → Prop} (h : Q₁ (.ref s.heap.objs.size) { s with heap := s.heap.push (set0 w) }) :
    codeAny (model prog w) A (.call (.builtin "set.__new__") ⟨[.type "set", v], []⟩) (wants Q₁ E) s := by
  refine codeAny_of_tree ?_
  show wpAny _ A.in1 (do checkBuiltinCall "set.__new__" ⟨[.type "set", v], []⟩; again (.builtin "set.__new__" ⟨[.type "set", v], []⟩)) _ _ s
  refine wpAny_bind (wpAny_of_eq (F.newCall_set_1 v) (wpAny_pure ⟨plainId_quiet F.plain_set_new _, codeAny_builtin F.entry_set_new ?_⟩))
  rw [Around.under_plainId F.plain_set_new _]
  unfold Builtin.«set.__new__» Builtin.Frozenset.newClass
  have hsub := sub_set_self
  obtain ⟨hp, g, d, tk, os⟩ := s
  dsimp only
  wp_walk
  refine wpAny_askSetting (wpAny_pure ?_)
  dsimp only
  simp only [newObj]
  exact wpAny_bind (wpAny_alloc (wpAny_pure (wpAny_pure h)))
theorem set_of_ints {l : Addr} {items : Array Value} {ns : List Int} {Q : Value → Shared → Prop} (hh : A.handled = none) (hl : s.heap.IsList l items) (hi : IntsAre items.toList ns) (hb : items.size + 1 < scanBound)
    (h : ∀ (h' : Heap) (tk : Nat), SOk prog w h' s.heap.objs.size (fun x => (firstMet (fun i => ns.getD i 0) items.size).any (· == x)) (firstMet (fun i => ns.getD i 0) items.size).length →
      (∀ b o, b < s.heap.objs.size → s.heap.get? b = some o → h'.get? b = some o) → Q (.ref s.heap.objs.size) { s with heap := h', toks := tk }) :
    wpAny (model prog w) A (call (.type "set") [.ref l]) Q E s := by
  obtain ⟨c, tl, hmro⟩ := F.called_set.mro
  have hmade := F.called_set.made
  have hsub := F.called_set.sub
  refine wpAny_call (codeAny_of_tree ?_)
  show wpAny _ _ (callAny (.type "set") _) _ _ _
  refine wpAny_pure ⟨Code.quiet_builtin _ (by decide +kernel), codeAny_builtin F.entry_type_call ?_⟩
  rw [Around.under_plain (weight_type_call_type "set" [.ref l] []) rfl]
  have h1 := F.called_set.notType
  have h2 := F.called_set.canCreate
  have hct := F.typeCall_set_1 (.ref l)
  repeat (any_goals (first | assumption | with_reducible (first | refine wpAny_pure ?_ | refine wpAny_bind ?_ | refine wpAny_holding ?_ | refine wpAny_standAt ?_ | refine wpAny_point ?_ | refine wpAny_rule ?_ | refine wpAny_letGo ?_ | refine wpAny_attempt ?_ | refine wpAny_throw ?_ | refine wpAny_of_eq (by assumption) ?_ | refine wpAny_typeOf (by assumption) ?_ | refine wpAny_call ?_ | refine wpAny_runValue ?_ | refine wpAny_run ?_) | ((with_reducible apply wpAny_load'); focus (heap_get; done)) | ((with_reducible apply wpAny_loadPart'); focus (heap_get; done)) | ((with_reducible apply wpAny_ite_false); focus (rfl; done)) | ((with_reducible apply wpAny_ite_true); focus (rfl; done)) | wp_delta | wp_step))
  refine codeAny_mono (new_set1 (.ref l) (E := E) (Q₁ := fun obj s₁ => obj = .ref s.heap.objs.size ∧ s₁ = { s with heap := s.heap.push (set0 w) }) ⟨rfl, rfl⟩) fun r s₁ hr => ?_
  cases r with
  | error e => exact hr
  | ok fl =>
    cases fl with
    | ret obj =>
      obtain ⟨rfl, rfl⟩ := hr
      have hS : (s.heap.push (set0 w)).get? s.heap.objs.size = some (set0 w) := Heap.get?_push_size _ rfl
      have hT : Shared.TypeIs { s with heap := s.heap.push (set0 w) } (.ref s.heap.objs.size) "set" := ⟨_, hS, rfl⟩
      have hli := F.called_set.init.lookup
      have hbi := F.called_set.init.bind (.ref s.heap.objs.size)
      repeat (any_goals (first | assumption | with_reducible (first | refine wpAny_pure ?_ | refine wpAny_bind ?_ | refine wpAny_holding ?_ | refine wpAny_standAt ?_ | refine wpAny_point ?_ | refine wpAny_rule ?_ | refine wpAny_letGo ?_ | refine wpAny_attempt ?_ | refine wpAny_throw ?_ | refine wpAny_of_eq (by assumption) ?_ | refine wpAny_typeOf (by assumption) ?_ | refine wpAny_call ?_ | refine wpAny_runValue ?_ | refine wpAny_run ?_) | ((with_reducible apply wpAny_load'); focus (heap_get; done)) | ((with_reducible apply wpAny_loadPart'); focus (heap_get; done)) | ((with_reducible apply wpAny_ite_false); focus (rfl; done)) | ((with_reducible apply wpAny_ite_true); focus (rfl; done)) | wp_delta | wp_step))
      refine codeAny_mono (codeAny_call_builtin (R := wants (fun r s₂ => r = .none ∧ ∃ h' tk, s₂ = { s with heap := h', toks := tk } ∧
          SOk prog w h' s.heap.objs.size (fun x => (firstMet (fun i => ns.getD i 0) items.size).any (· == x)) (firstMet (fun i => ns.getD i 0) items.size).length ∧
          (∀ b o, b < s.heap.objs.size → s.heap.get? b = some o → h'.get? b = some o)) E) F.called_set.init.plain F.entry_set_init (check_set_init_1 hT ?_)) fun r₂ s₂ hr₂ => ?_
      · obtain ⟨ol, hol, hcl, nl, hdl⟩ := hl
        obtain ⟨ocls, odict, odata, oslots⟩ := ol
        simp only at hcl hdl
        subst hcl; subst hdl
        have hol' : (s.heap.push (set0 w)).get? l = some { cls := .type "list", dict := odict, data := .seq items nl, slots := oslots } := Heap.get?_push_of_some _ hol
        have hsls := F.sub_list_set
        have hslf := F.sub_list_frozenset
        have hne : (Value.type "list" == Value.type "dict") = false := by decide
        have hl1 : (s.heap.push (set0 w)).IsList l items := ⟨_, hol', rfl, nl, rfl⟩
        unfold Builtin.«set.__init__» noKeywords Builtin.Frozenset.updateFrom
        generalize hPI : pyIter = PI
        repeat (first | with_reducible (first | refine wpAny_pure ?_ | refine wpAny_bind ?_ | refine wpAny_holding ?_ | refine wpAny_standAt ?_ | refine wpAny_point ?_ | refine wpAny_rule ?_ | refine wpAny_letGo ?_ | refine wpAny_attempt ?_ | refine wpAny_throw ?_ | refine wpAny_of_eq (by assumption) ?_ | refine wpAny_typeOf (by assumption) ?_ | refine wpAny_call ?_ | refine wpAny_runValue ?_ | refine wpAny_run ?_) | ((with_reducible apply wpAny_load'); focus (heap_get; done)) | ((with_reducible apply wpAny_loadPart'); focus (heap_get; done)) | ((with_reducible apply wpAny_ite_false); focus (rfl; done)) | ((with_reducible apply wpAny_ite_true); focus (rfl; done)) | wp_delta | wp_step)
        subst hPI
        refine wpAny_pyIter_list hl1 ?_
        refine wpAny_bind (wpAny_runValue ?_)
        have hlS : l < s.heap.objs.size := Heap.lt_size hol
        have hh3 : A.in1.in1.in1.handled = none := by simp [hh]
        have hneI : l ≠ (s.heap.push (set0 w)).objs.size := by rw [Heap.size_push]; exact Nat.ne_of_lt (Nat.lt_succ_of_lt hlS)
        have hSf : s.heap.objs.size ∉ [(s.heap.push (set0 w)).objs.size, l] := by
          rw [Heap.size_push]; simp only [List.mem_cons, List.mem_singleton, List.not_mem_nil, or_false, not_or]
          exact ⟨Nat.ne_of_lt (Nat.lt_succ_self _), Nat.ne_of_gt hlS⟩
        refine fill_loop ((Walks.list hh3 _ l hneI items).toS) s.heap.objs.size hSf (fun i => ns.getD i 0) (fun i v hv => IntsAre.int_at hi i v (by rw [Array.getElem?_toList]; exact hv)) hb (items.size - 0) 0 _ (by omega) (Nat.zero_le _)
          ⟨⟨_, Heap.get?_push_size _ rfl, rfl, rfl⟩, (hl1.push _)⟩ ?hS0 ?hR
        case hS0 =>
          exact ⟨set0 w, #[], 0, _, Heap.get?_push_of_some _ hS, ⟨rfl, rfl, rfl⟩, rfl, fun e he => by simp at he, fun k => by simp [firstMet_zero], by decide, rfl, rfl, TOk.fresh⟩
        case hR =>
          intro s' hm hS'
          obtain ⟨h', g', d', tk', os'⟩ := s'
          have eg : g' = s.gens := hm.gens
          have ed : d' = s.drawn := hm.drawn
          have eo : os' = s.os := hm.os
          subst eg; subst ed; subst eo
          show wpAny _ _ _ _ _ _
          refine wpAny_pure ?_
          show wpAny _ _ (ret Value.none) _ _ _
          refine wpAny_pure ⟨rfl, h', tk', rfl, hS', fun b o hb e => ?_⟩
          refine hm.heap b o ?_ (Heap.get?_push_of_some _ (Heap.get?_push_of_some _ e))
          simp only [List.mem_cons, List.mem_singleton, List.not_mem_nil, or_false, not_or, Heap.size_push]
          exact ⟨Nat.ne_of_lt hb, Nat.ne_of_lt (Nat.lt_succ_of_lt hb)⟩
      · cases r₂ with
        | error e => exact hr₂
        | ok fl₂ =>
          cases fl₂ with
          | ret r =>
            obtain ⟨rfl, h', tk, rfl, hS', hk'⟩ := hr₂
            repeat (any_goals (first | assumption | with_reducible (first | refine wpAny_pure ?_ | refine wpAny_bind ?_ | refine wpAny_holding ?_ | refine wpAny_standAt ?_ | refine wpAny_point ?_ | refine wpAny_rule ?_ | refine wpAny_letGo ?_ | refine wpAny_attempt ?_ | refine wpAny_throw ?_ | refine wpAny_of_eq (by assumption) ?_ | refine wpAny_typeOf (by assumption) ?_ | refine wpAny_call ?_ | refine wpAny_runValue ?_ | refine wpAny_run ?_) | ((with_reducible apply wpAny_load'); focus (heap_get; done)) | ((with_reducible apply wpAny_loadPart'); focus (heap_get; done)) | ((with_reducible apply wpAny_ite_false); focus (rfl; done)) | ((with_reducible apply wpAny_ite_true); focus (rfl; done)) | wp_delta | wp_step))
            exact h _ _ hS' hk'
          | _ => exact hr₂.elim
    | _ => exact hr.elim
end
end Mine
set_option maxRecDepth 100000
namespace Mine
open PySem PySem.W PySem.Calls PyProof.Rows PySem.Spec
section
variable {M : Model} {A : Around} {E : Value → Shared → Prop} {s : Shared}
theorem choose_any {src : Source} {n : Nat} {Q : Nat → Shared → Prop} (hn : n ≠ 0) (h : ∀ i d, i < n → Q i { s with drawn := d }) : wpAny M A (choose src n) Q E s :=
  fun _ _ _ => ⟨hn, h _ _ (Nat.mod_lt _ (Nat.pos_of_ne_zero hn))⟩
theorem draw_any {α : Type} : ∀ (n : Nat) (xs : List α) (s : Shared) (Q : List α → Shared → Prop), xs.length = n → (∀ ys d, ys.Perm xs → Q ys { s with drawn := d }) → wpAny M A (drawOrder n xs) Q E s
  | 0, xs, s, Q, hl, h => by
    have : xs = [] := List.length_eq_zero_iff.mp hl
    subst this
    rw [drawOrder]
    exact wpAny_pure (h [] s.drawn (List.Perm.refl _))
  | n + 1, [], s, Q, hl, h => by simp at hl
  | n + 1, x :: xs, s, Q, hl, h => by
    rw [drawOrder]
    · refine wpAny_bind (choose_any (by simp) fun i d hi => ?_)
      rw [List.getElem?_eq_getElem hi]
      dsimp only
      refine wpAny_bind (draw_any n _ _ _ (by rw [List.length_eraseIdx, if_pos hi]; simp at hl ⊢; omega) fun ys d' hp => wpAny_pure (h _ _ ?_))
      exact (hp.cons _).trans (erase_perm hi)
    · simp
end
end Mine
set_option maxRecDepth 100000
namespace Mine
open PySem PySem.W PySem.Calls PyProof.Rows PySem.Spec
theorem slot_sit_next : Slot "set_iterator" "__next__" "set_iterator.__next__" :=
  .of (owner := "set_iterator") (n := "__next__") (by rw [typeLookup_type, builtinLookup_eq_fast]; kernel_rfl) (by decide +kernel) (by decide +kernel) (by decide +kernel)
    (by first | exact .inl (by decide +kernel) | exact .inr (by decide +kernel)) (by rw [isSubtype_type]; kernel_rfl)
theorem entry_sit_next : entryFor table "set_iterator.__next__" = some Builtin.«set_iterator.__next__» := entryFor_of_tree (by kernel_rfl)
theorem args_sit_next (a : Value) : argsOk "set_iterator.__next__" ⟨[a], []⟩ := by
  unfold argsOk
  kernel_rfl
theorem entry_set_iter : entryFor table "set.__iter__" = some Builtin.«frozenset.__iter__» :=
  entryFor_alias (id' := "frozenset.__iter__") (by rw [fastTable_eq_tree]; kernel_rfl) rfl (by rw [Fast.canonicalQ_eq]; kernel_rfl) (by rw [fastTable_eq_tree]; kernel_rfl)
section
variable {prog : Program} {w : World} {A : Around} {E : Value → Shared → Prop} {s : Shared} {a I : Addr}
/-- the set as it stands, and an iterator over it -/
noncomputable def SetThere (h : Heap) (a : Addr) (es : Array (Int × Value)) (ep : Nat) (t : SetTable) : Prop := ∃ o, h.get? a = some o ∧ o.data = .set es ep t
noncomputable def SitAt (h : Heap) (I a : Addr) (first : Value) (i n ep : Nat) : Prop := ∃ o, h.get? I = some o ∧ o.cls = .type "set_iterator" ∧ o.data = .fields #[first, .int i 0, .ref a, .int n 0, .int ep 0]
theorem SitAt.typeIs {s : Shared} {first : Value} {i n ep : Nat} (x : SitAt s.heap I a first i n ep) : s.TypeIs (.ref I) "set_iterator" := let ⟨o, ho, hc, _⟩ := x; ⟨o, ho, hc⟩
theorem next_slot {es : Array (Int × Value)} {ep slot nxt i : Nat} {t : SetTable} {x : Value} {Q : Option Value → Shared → Prop} (hit : SitAt s.heap I a (.int slot 0) i es.size ep) (hset : SetThere s.heap a es ep t) (hf : t.fits es.size = true)
    (hnx : ∀ (A : Around) (E : Value → Shared → Prop) (Q : Option (Value × Nat) → Shared → Prop), Q (some (x, nxt)) s → wpAny (model prog w) A (setNext a slot i ep) Q E s)
    (hQ : ∀ h', SitAt h' I a (.int nxt 0) (i + 1) es.size ep → Heap.SameBut I s.heap h' → Q (some x) { s with heap := h' }) : wpAny (model prog w) A (pyNext (.ref I)) Q E s := by
  obtain ⟨o, ho, hc, hd⟩ := id hit
  obtain ⟨os, hos, hds⟩ := hset
  unfold pyNext
  refine wpAny_bind (wpAny_attempt (wpAny_callSpecial?_slot (name := Str.ofString "__next__") hit.typeIs slot_sit_next (wpAny_call_entry slot_sit_next hit.typeIs entry_sit_next ?_ (args_sit_next _))))
  show wpAny _ _ (fieldsOf (.ref I) >>= _) _ _ s
  refine wpAny_bind (wpAny_fieldsOf ho hd ?_)
  show wpAny _ _ (setEntries a >>= _) _ _ s
  refine wpAny_bind (wpAny_setEntries_of hos hds hf ?_)
  rw [if_neg (by simp)]
  show wpAny _ _ (setNext a slot i ep >>= _) _ _ s
  refine wpAny_bind (hnx _ _ _ ?_)
  show wpAny _ _ (setField (.ref I) 0 (rawInt nxt) >>= _) _ _ s
  refine wpAny_bind (wpAny_setField ho hd (by simp) ?_)
  have h1 := Heap.get?_update_self (Obj.mapFields (·.setIfInBounds 0 (rawInt nxt))) ho (Obj.isFreed_of_fields (Obj.data_mapFields hd _))
  refine wpAny_bind (wpAny_setField h1 (Obj.data_mapFields hd _) (by simp) (wpAny_pure ⟨x, rfl, wpAny_pure (hQ _ ?_ ((Heap.SameBut.update ..).trans (Heap.SameBut.update ..)))⟩))
  refine ⟨_, Heap.get?_update_self _ h1 (Obj.isFreed_of_fields (Obj.data_mapFields (Obj.data_mapFields hd _) _)), (Obj.cls_mapFields ..).trans ((Obj.cls_mapFields ..).trans hc), ?_⟩
  rw [Obj.data_mapFields (Obj.data_mapFields hd _)]
  simp [rawInt]
theorem end_slot {es : Array (Int × Value)} {ep slot i : Nat} {t : SetTable} {Q : Option Value → Shared → Prop} (hh : A.handled = none) (hit : SitAt s.heap I a (.int slot 0) i es.size ep) (hset : SetThere s.heap a es ep t) (hf : t.fits es.size = true)
    (hnx : ∀ (A : Around) (E : Value → Shared → Prop) (Q : Option (Value × Nat) → Shared → Prop), Q none s → wpAny (model prog w) A (setNext a slot i ep) Q E s)
    (hQ : ∀ h', Heap.ExtBut I s.heap h' → Q none { s with heap := h' }) : wpAny (model prog w) A (pyNext (.ref I)) Q E s := by
  obtain ⟨o, ho, hc, hd⟩ := id hit
  obtain ⟨os, hos, hds⟩ := hset
  unfold pyNext
  refine wpAny_bind (wpAny_attempt (wpAny_callSpecial?_slot (name := Str.ofString "__next__") hit.typeIs slot_sit_next (wpAny_call_entry slot_sit_next hit.typeIs entry_sit_next ?_ (args_sit_next _))))
  show wpAny _ _ (fieldsOf (.ref I) >>= _) _ _ s
  refine wpAny_bind (wpAny_fieldsOf ho hd ?_)
  show wpAny _ _ (setEntries a >>= _) _ _ s
  refine wpAny_bind (wpAny_setEntries_of hos hds hf ?_)
  rw [if_neg (by simp)]
  show wpAny _ _ (setNext a slot i ep >>= _) _ _ s
  refine wpAny_bind (hnx _ _ _ ?_)
  show wpAny _ _ (setField (.ref I) 2 .none >>= _) _ _ s
  refine wpAny_bind (wpAny_setField ho hd (by simp) ?_)
  show wpAny _ _ (newExc (.type "StopIteration") [] >>= _) _ _ _
  refine wpAny_bind ?_
  simp only [newExc, newTuple]
  refine wpAny_bind (wpAny_newObj_type ?_ (by size_fits))
  refine wpAny_bind (m := firstArgMember _ _) (wpAny_of_eq (a := Value.none) (by first | rfl | (simp only [firstArgMember]; rfl)) ?_)
  refine wpAny_newObj_type ?_ (by size_fits)
  simp only [raiseNew]
  refine wpAny_bind (wpAny_handled ?_)
  first | rw [show A.in1.handled = none from hh] | rw [hh]
  refine wpAny_bind (wpAny_pure (wpAny_throw ?_))
  refine wpAny_bind (wpAny_isInstance (T := "StopIteration") (b := true) ⟨_, Heap.get?_push_size _ rfl, rfl⟩ isSubtype_stop ?_)
  exact wpAny_pure (hQ _ (((Heap.SameBut.update ..).extBut.push _).push _))
theorem next_drawn {es : Array (Int × Value)} {ep i place : Nat} {tp : Tok} {t : SetTable} {x : Value} {T : Addr} {ps : Array Value} {Q : Option Value → Shared → Prop} (hit : SitAt s.heap I a (.ref T) i es.size ep) (hset : SetThere s.heap a es ep t) (hf : t.fits es.size = true)
    (hT : s.heap.IsTuple T ps) (hp : ps[i]? = some (.int (place : Int) tp)) (hx : (es[place]?).map (·.2) = some x)
    (hQ : ∀ h', SitAt h' I a (.ref T) (i + 1) es.size ep → Heap.SameBut I s.heap h' → Q (some x) { s with heap := h' }) : wpAny (model prog w) A (pyNext (.ref I)) Q E s := by
  obtain ⟨o, ho, hc, hd⟩ := id hit
  obtain ⟨os, hos, hds⟩ := hset
  obtain ⟨ot, hot, _, nt, hdt⟩ := hT
  unfold pyNext
  refine wpAny_bind (wpAny_attempt (wpAny_callSpecial?_slot (name := Str.ofString "__next__") hit.typeIs slot_sit_next (wpAny_call_entry slot_sit_next hit.typeIs entry_sit_next ?_ (args_sit_next _))))
  show wpAny _ _ (fieldsOf (.ref I) >>= _) _ _ s
  refine wpAny_bind (wpAny_fieldsOf ho hd ?_)
  show wpAny _ _ (setEntries a >>= _) _ _ s
  refine wpAny_bind (wpAny_setEntries_of hos hds hf ?_)
  rw [if_neg (by simp)]
  show wpAny _ _ (seqItems? (.ref T) >>= _) _ _ s
  refine wpAny_bind (wpAny_seqItems hot hdt ?_)
  simp only [Int.toNat_natCast, hp]
  unfold setNextDrawn
  refine wpAny_bind (wpAny_bind (wpAny_setState_of hos hds hf ?_))
  obtain ⟨⟨hh', y⟩, he, rfl⟩ := Option.map_eq_some_iff.mp hx
  simp only [Int.toNat_natCast, bne_self_eq_false, Bool.false_eq_true, if_false, he]
  refine wpAny_pure ?_
  refine wpAny_bind (wpAny_setField ho hd (by simp) (wpAny_pure ⟨y, rfl, wpAny_pure (hQ _ ?_ (Heap.SameBut.update ..))⟩))
  refine ⟨_, Heap.get?_update_self _ ho (Obj.isFreed_of_fields (Obj.data_mapFields hd _)), (Obj.cls_mapFields ..).trans hc, ?_⟩
  rw [Obj.data_mapFields hd]
  simp [rawInt]
theorem end_drawn {es : Array (Int × Value)} {ep i : Nat} {t : SetTable} {T : Addr} {ps : Array Value} {Q : Option Value → Shared → Prop} (hh : A.handled = none) (hit : SitAt s.heap I a (.ref T) i es.size ep) (hset : SetThere s.heap a es ep t) (hf : t.fits es.size = true)
    (hT : s.heap.IsTuple T ps) (hp : ps[i]? = none)
    (hQ : ∀ h', Heap.ExtBut I s.heap h' → Q none { s with heap := h' }) : wpAny (model prog w) A (pyNext (.ref I)) Q E s := by
  obtain ⟨o, ho, hc, hd⟩ := id hit
  obtain ⟨os, hos, hds⟩ := hset
  obtain ⟨ot, hot, _, nt, hdt⟩ := hT
  unfold pyNext
  refine wpAny_bind (wpAny_attempt (wpAny_callSpecial?_slot (name := Str.ofString "__next__") hit.typeIs slot_sit_next (wpAny_call_entry slot_sit_next hit.typeIs entry_sit_next ?_ (args_sit_next _))))
  show wpAny _ _ (fieldsOf (.ref I) >>= _) _ _ s
  refine wpAny_bind (wpAny_fieldsOf ho hd ?_)
  show wpAny _ _ (setEntries a >>= _) _ _ s
  refine wpAny_bind (wpAny_setEntries_of hos hds hf ?_)
  rw [if_neg (by simp)]
  show wpAny _ _ (seqItems? (.ref T) >>= _) _ _ s
  refine wpAny_bind (wpAny_seqItems hot hdt ?_)
  simp only [Int.toNat_natCast, hp]
  refine wpAny_bind (wpAny_setField ho hd (by simp) ?_)
  have h1 := Heap.get?_update_self (Obj.mapFields (·.setIfInBounds 0 (rawInt 0))) ho (Obj.isFreed_of_fields (Obj.data_mapFields hd _))
  refine wpAny_bind (wpAny_setField h1 (Obj.data_mapFields hd _) (by simp) ?_)
  show wpAny _ _ (newExc (.type "StopIteration") [] >>= _) _ _ _
  refine wpAny_bind ?_
  simp only [newExc, newTuple]
  refine wpAny_bind (wpAny_newObj_type ?_ (by size_fits))
  refine wpAny_bind (m := firstArgMember _ _) (wpAny_of_eq (a := Value.none) (by first | rfl | (simp only [firstArgMember]; rfl)) ?_)
  refine wpAny_newObj_type ?_ (by size_fits)
  simp only [raiseNew]
  refine wpAny_bind (wpAny_handled ?_)
  first | rw [show A.in1.handled = none from hh] | rw [hh]
  refine wpAny_bind (wpAny_pure (wpAny_throw ?_))
  refine wpAny_bind (wpAny_isInstance (T := "StopIteration") (b := true) ⟨_, Heap.get?_push_size _ rfl, rfl⟩ isSubtype_stop ?_)
  exact wpAny_pure (hQ _ ((((Heap.SameBut.update ..).trans (Heap.SameBut.update ..)).extBut.push _).push _))
end
end Mine
set_option maxRecDepth 100000
namespace Mine
open PySem PySem.W PySem.Calls PyProof.Rows PySem.Spec
section
variable {prog : Program} {w : World} {A : Around} {E : Value → Shared → Prop} {s : Shared} {a I : Addr} {es : Array (Int × Value)} {ep : Nat} {t : SetTable}
theorem SetThere.at {h h' : Heap} (x : SetThere h a es ep t) (e : ∀ o, h.get? a = some o → h'.get? a = some o) : SetThere h' a es ep t := let ⟨o, ho, r⟩ := x; ⟨o, e o ho, r⟩
theorem SitAt.at {h h' : Heap} {first : Value} {i n : Nat} (x : SitAt h I a first i n ep) (e : ∀ o, h.get? I = some o → h'.get? I = some o) : SitAt h' I a first i n ep := let ⟨o, ho, r⟩ := x; ⟨o, e o ho, r⟩
noncomputable def slotAt (t : SetTable) (i : Nat) : Nat := if i = 0 then 0 else t.place.getD (i - 1) 0 + 1
theorem below_slotAt (hu : Up t.place) {i : Nat} (hi : i ≤ t.place.size) : SetTable.below t.place (slotAt t i) = i := by
  unfold slotAt
  cases i with
  | zero => exact below_zero hu
  | succ k =>
    have hk : k < t.place.size := by omega
    have e : t.place[k]? = some t.place[k] := by simp [hk]
    have e2 : t.place.getD (k + 1 - 1) 0 = t.place[k] := by simp [Array.getD, hk]
    rw [if_neg (by omega), e2]
    exact below_next hu e
theorem step_slot (hb : w.params.followText "set-order" = false) (hk : TOk (!w.params.followText "set-order") t) (hf : t.fits es.size = true) (hnd : (!t.plain && decide (es.size > 1)) = false) (hset : SetThere s.heap a es ep t) {i : Nat} (hi : i ≤ es.size)
    {Q : Option (Value × Nat) → Shared → Prop} (h : Q (((es.toList.map (·.2))[i]?).map fun x => (x, slotAt t (i + 1))) s) : wpAny (model prog w) A (setNext a (slotAt t i) i ep) Q E s := by
  obtain ⟨o, ho, hd⟩ := hset
  have hps : t.place.size = es.size := by
    have := hf
    simp only [SetTable.fits, Bool.and_eq_true, beq_iff_eq] at this
    exact this.1
  unfold setNext
  refine wpAny_bind (wpAny_setState_of ho hd hf ?_)
  dsimp only
  unfold setsByText
  refine wpAny_bind (wpAny_bind (wpAny_askSetting (wpAny_pure ?_)))
  show wpAny _ _ (if w.params.followText "set-order" = true then _ else _) _ _ s
  rw [if_neg (by rw [hb]; simp)]
  show wpAny _ _ (if (!t.plain && decide (es.size > 1)) = true then _ else _) _ _ s
  rw [if_neg (by rw [hnd]; simp)]
  have hled : t.led = true := by rw [hk.led, hb]; rfl
  show wpAny _ _ ((if (!t.led && !es.isEmpty) = true then unsupported "set:maker-not-led" else pure ()) >>= _) _ _ s
  rw [if_neg (by rw [hled]; simp)]
  refine wpAny_bind (wpAny_pure ?_)
  refine wpAny_pure ?_
  rw [below_slotAt hk.up (by omega)]
  rcases Nat.lt_or_ge i es.size with q | q
  · have e1 : es[i]? = some es[i] := by simp [q]
    have e2 : t.place[i]? = some t.place[i] := by simp [hps, q]
    rw [e1, e2]
    have e3 : (es.toList.map (·.2))[i]? = some es[i].2 := by simp [q]
    rw [e3] at h
    have e4 : slotAt t (i + 1) = t.place[i] + 1 := by
      unfold slotAt
      rw [if_neg (by omega)]
      simp [Array.getD, hps, q]
    rw [e4] at h
    exact h
  · have e1 : es[i]? = none := by simp; omega
    rw [e1]
    have e3 : (es.toList.map (·.2))[i]? = none := by simp; omega
    rw [e3] at h
    exact h
theorem step_text (hb : w.params.followText "set-order" = true) (hf : t.fits es.size = true) (hset : SetThere s.heap a es ep t) {i : Nat}
    {Q : Option (Value × Nat) → Shared → Prop} (h : Q ((((pickOrder (w.params.setOrder a ep) es).toList.map (·.2))[i]?).map fun x => (x, 0)) s) : wpAny (model prog w) A (setNext a 0 i ep) Q E s := by
  obtain ⟨o, ho, hd⟩ := hset
  unfold setNext
  refine wpAny_bind (wpAny_setState_of ho hd hf ?_)
  dsimp only
  unfold setsByText
  refine wpAny_bind (wpAny_bind (wpAny_askSetting (wpAny_pure ?_)))
  show wpAny _ _ (if w.params.followText "set-order" = true then _ else _) _ _ s
  rw [if_pos hb]
  rw [if_neg (by simp)]
  unfold setWalk setsByText
  refine wpAny_bind (wpAny_bind (wpAny_setState_of ho hd hf ?_))
  dsimp only
  refine wpAny_bind (wpAny_bind (wpAny_askSetting (wpAny_pure ?_)))
  show wpAny _ _ (if w.params.followText "set-order" = true then _ else _) _ _ s
  rw [if_pos hb]
  refine wpAny_bind (wpAny_askSetting (wpAny_pure (wpAny_pure ?_)))
  have e : ((pickOrder (w.params.setOrder a ep) es)[i]?).map (fun e => (e.2, 0)) = (((pickOrder (w.params.setOrder a ep) es).toList.map (·.2))[i]?).map fun x => (x, 0) := by
    simp [Function.comp_def]
  exact e ▸ h
end
end Mine
set_option maxRecDepth 100000
namespace Mine
open PySem PySem.W PySem.Calls PyProof.Rows PySem.Spec
theorem slot_sit_iter : Slot "set_iterator" "__iter__" "set_iterator.__iter__" :=
  .of (owner := "set_iterator") (n := "__iter__") (by rw [typeLookup_type, builtinLookup_eq_fast]; kernel_rfl) (by decide +kernel) (by decide +kernel) (by decide +kernel)
    (by first | exact .inl (by decide +kernel) | exact .inr (by decide +kernel)) (by rw [isSubtype_type]; kernel_rfl)
theorem entry_sit_iter : entryFor table "set_iterator.__iter__" = some Builtin.«dict_keyiterator.__iter__» :=
  entryFor_alias (id' := "dict_keyiterator.__iter__") (by rw [fastTable_eq_tree]; kernel_rfl) rfl (by rw [Fast.canonicalQ_eq]; kernel_rfl) (by rw [fastTable_eq_tree]; kernel_rfl)
theorem args_sit_iter (a : Value) : argsOk "set_iterator.__iter__" ⟨[a], []⟩ := by
  unfold argsOk
  kernel_rfl
section
variable {prog : Program} {w : World} {A : Around} {E : Value → Shared → Prop} {s : Shared} {a I : Addr} {es : Array (Int × Value)} {ep : Nat} {t : SetTable}
theorem sit_self {first : Value} {i n : Nat} {Q : Value → Shared → Prop} (hit : SitAt s.heap I a first i n ep) (h : Q (.ref I) s) : wpAny (model prog w) A (pyIter (.ref I)) Q E s := by
  refine wpAny_pyIter_slot hit.typeIs slot_sit_iter (wpAny_call_entry slot_sit_iter hit.typeIs entry_sit_iter ?_ (args_sit_iter _))
  show wpAny _ _ (ret (.ref I)) _ _ s
  exact wpAny_pure ⟨_, rfl, "set_iterator", _, hit.typeIs, slot_sit_next.lookup, h⟩
theorem walk_slot (hh : A.handled = none) (hne : a ≠ I) (hf : t.fits es.size = true) (vs : List Value) (hl : vs.length = es.size) (sl : Nat → Nat)
    (hstep : ∀ (A : Around) (s : Shared) (i : Nat) (E : Value → Shared → Prop) (Q : Option (Value × Nat) → Shared → Prop), SetThere s.heap a es ep t → i ≤ es.size → Q ((vs[i]?).map fun x => (x, sl (i + 1))) s → wpAny (model prog w) A (setNext a (sl i) i ep) Q E s) :
    Walks prog w A I [I, a] [I] vs.length (fun i v => vs[i]? = some v) (fun i h => SitAt h I a (.int (sl i) 0) i es.size ep ∧ SetThere h a es ep t) where
  sub := fun b hb => by simp at hb; simp [hb]
  frame := fun _ _ _ st hk => ⟨st.1.at fun o e => hk I (by simp) o e, st.2.at fun o e => hk a (by simp) o e⟩
  item := fun i s Q E hi st hQ => by
    refine next_slot (x := vs[i]) (nxt := sl (i + 1)) st.1 st.2 hf (fun A E Q h => hstep A s i E Q st.2 (by omega) (by rw [List.getElem?_eq_getElem hi]; exact h)) fun h' hit' hs' => ?_
    exact hQ _ h' s.toks (List.getElem?_eq_getElem hi) ⟨hit', st.2.at fun o e => hs'.extBut a o hne e⟩ fun b o hb e => hs'.extBut b o (fun h => hb (by simp [h])) e
  done := fun s Q E st hQ => by
    refine end_slot hh st.1 st.2 hf (fun A E Q h => hstep A s vs.length E Q st.2 (by omega) (by rw [List.getElem?_eq_none (Nat.le_refl _)]; exact h)) fun h' he' => ?_
    exact hQ h' s.toks fun b o hb e => he' b o (fun h => hb (by simp [h])) e
  self := fun _ _ _ _ st hQ => sit_self st.1 hQ
theorem walk_drawn (hh : A.handled = none) (hne : a ≠ I) {T : Addr} (hTI : T ≠ I) (hf : t.fits es.size = true) (ps : List Nat) (vs : List Value) (hl : vs.length = ps.length)
    (hv : ∀ (i p : Nat), ps[i]? = some p → (es[p]?).map (·.2) = vs[i]?) :
    Walks prog w A I [I, a, T] [I] vs.length (fun i v => vs[i]? = some v) (fun i h => SitAt h I a (.ref T) i es.size ep ∧ SetThere h a es ep t ∧ h.IsTuple T (ps.map fun (p : Nat) => rawInt (p : Int)).toArray) where
  sub := fun b hb => by simp at hb; simp [hb]
  frame := fun _ _ _ st hk => ⟨st.1.at fun o e => hk I (by simp) o e, st.2.1.at fun o e => hk a (by simp) o e, st.2.2.at fun o e => hk T (by simp) o e⟩
  item := fun i s Q E hi st hQ => by
    have hp : ps[i]? = some ps[i] := List.getElem?_eq_getElem (by omega)
    have hx := hv i _ hp
    rw [List.getElem?_eq_getElem hi] at hx
    refine next_drawn (x := vs[i]) (place := ps[i]) (tp := 0) st.1 st.2.1 hf st.2.2 (by simp [rawInt, hp]) hx fun h' hit' hs' => ?_
    exact hQ _ h' s.toks (List.getElem?_eq_getElem hi) ⟨hit', st.2.1.at fun o e => hs'.extBut a o hne e, st.2.2.at fun o e => hs'.extBut T o hTI e⟩ fun b o hb e => hs'.extBut b o (fun h => hb (by simp [h])) e
  done := fun s Q E st hQ => by
    refine end_drawn hh st.1 st.2.1 hf st.2.2 (by simp; omega) fun h' he' => ?_
    exact hQ h' s.toks fun b o hb e => he' b o (fun h => hb (by simp [h])) e
  self := fun _ _ _ _ st hQ => sit_self st.1 hQ
end
end Mine
set_option maxRecDepth 100000
namespace Mine
open PySem PySem.W PySem.Calls PyProof.Rows PySem.Spec
section
variable {prog : Program} {w : World} {A : Around} {E : Value → Shared → Prop} {s : Shared} {a : Addr} {es : Array (Int × Value)} {ep : Nat} {t : SetTable}
/-- an iterator over a set: it goes over the values in some order -/
noncomputable def SetIter (prog : Program) (w : World) (a : Addr) (es : Array (Int × Value)) (s : Shared) (it : Value) (s₂ : Shared) : Prop :=
  ∃ I h₂ d fp vs St, it = .ref I ∧ s₂ = { s with heap := h₂, drawn := d } ∧ (∀ A : Around, A.handled = none → Walks prog w A I fp [I] (List.length vs) (fun i v => vs[i]? = some v) St) ∧ St 0 h₂ ∧ (∀ b ∈ fp, b < h₂.objs.size) ∧ I ∈ fp
    ∧ (∀ b o, s.heap.get? b = some o → h₂.get? b = some o) ∧ s.heap.get? I = none ∧ vs.Perm (es.toList.map (·.2)) ∧ (∀ b ∈ fp, b = a ∨ s.heap.get? b = none)
theorem iter_set {o : Obj} (ho : s.heap.get? a = some o) (hc : o.cls = .type "set") (hd : o.data = .set es ep t) (hf : t.fits es.size = true) (hz : es.size < scanBound) (hk : TOk (!w.params.followText "set-order") t)
    {Q : Value → Shared → Prop} (h : ∀ it s₂, SetIter prog w a es s it s₂ → Q it s₂) : wpAny (model prog w) A (pyIter (.ref a)) Q E s := by
  have hT : s.TypeIs (.ref a) "set" := ⟨o, ho, hc⟩
  have hset : SetThere s.heap a es ep t := ⟨o, ho, hd⟩
  have hz' : es.size < 4096 := hz
  refine wpAny_pyIter_slot hT F.slot_set_iter (wpAny_call_entry F.slot_set_iter hT entry_set_iter ?_ (F.args_set_iter_1 _))
  unfold Builtin.«frozenset.__iter__»
  refine wpAny_bind (m := Builtin.Frozenset.slot0 "__iter__" _) (wpAny_of_eq (a := a) (by rfl) ?_)
  unfold Builtin.Frozenset.sizeOf
  refine wpAny_bind (wpAny_bind (wpAny_setEntries_of ho hd hf (wpAny_pure ?_)))
  unfold setDrawn setsByText
  refine wpAny_bind ?_
  refine wpAny_bind (wpAny_setState_of ho hd hf ?_)
  dsimp only
  refine wpAny_bind (wpAny_bind (wpAny_askSetting (wpAny_pure (wpAny_pure ?_))))
  show wpAny _ _ (if (!w.params.followText "set-order" && (!t.plain && decide (es.size > 1))) = true then _ else _) _ _ s
  by_cases hq : (!w.params.followText "set-order" && (!t.plain && decide (es.size > 1))) = true
  · rw [if_pos hq]
    refine wpAny_bind (draw_any _ _ _ _ (by simp) fun ps d hp => ?_)
    have hpl : ps.length = es.size := by simpa using hp.length_eq
    have hlt : a < s.heap.objs.size := Heap.lt_size ho
    simp only [newTuple]
    refine wpAny_bind (wpAny_newObj_type ?_ (by show (List.map _ ps).toArray.size ≤ sizeLine; rw [List.size_toArray, List.length_map, hpl, sizeLine_eq]; omega))
    refine wpAny_bind (wpAny_setEpoch_of (Heap.get?_push_of_some _ ho) hd hf ?_)
    refine wpAny_bind (wpAny_newObj_type (wpAny_pure ⟨_, rfl, "set_iterator", _, ⟨_, Heap.get?_push_size _ rfl, rfl⟩, slot_sit_next.lookup, h _ _ ?_⟩))
    have hin : ∀ p ∈ ps, p < es.size := fun p hq => by have := hp.mem_iff.mp hq; simpa using this
    have hget : ∀ (i p : Nat), ps[i]? = some p → (es[p]?).map (·.2) = (ps.map fun p => (es.toList.map (·.2)).getD p .none)[i]? := fun i p e => by
      have hlt' := hin p (List.mem_of_getElem? e)
      rw [List.getElem?_map, e]
      simp [hlt']
    refine ⟨_, _, d, [_, a, s.heap.objs.size], ps.map (fun p => (es.toList.map (·.2)).getD p .none), _, rfl, rfl, fun A hA => walk_drawn hA ?_ ?_ hf ps _ (by simp) hget, ⟨⟨_, Heap.get?_push_size _ rfl, rfl, rfl⟩, hset.at fun o e => Heap.get?_push_of_some _ (Heap.get?_push_of_some _ e), ⟨_, Heap.get?_push_of_some _ (Heap.get?_push_size _ rfl), rfl, 0, rfl⟩⟩, ?_, .head _, fun _ _ e => Heap.get?_push_of_some _ (Heap.get?_push_of_some _ e), ?_, ?_, ?_⟩
    · show a ≠ (s.heap.push _).objs.size
      rw [Heap.size_push]; exact Nat.ne_of_lt (Nat.lt_succ_of_lt hlt)
    · show s.heap.objs.size ≠ (s.heap.push _).objs.size
      rw [Heap.size_push]; exact Nat.ne_of_lt (Nat.lt_succ_self _)
    · intro b hb'
      rw [Heap.size_push]
      show b < (s.heap.push _).objs.size + 1
      simp only [List.mem_cons, List.not_mem_nil, or_false] at hb'
      rcases hb' with rfl | rfl | rfl
      · exact Nat.lt_succ_self _
      · rw [Heap.size_push]; exact Nat.lt_succ_of_lt (Nat.lt_succ_of_lt hlt)
      · rw [Heap.size_push]; exact Nat.lt_succ_of_lt (Nat.lt_succ_self _)
    · show s.heap.get? (s.heap.push _).objs.size = none
      rw [Heap.size_push]
      cases q : s.heap.get? (s.heap.objs.size + 1) with
      | none => rfl
      | some o' => exact absurd (Nat.lt_of_succ_lt (Heap.lt_size q)) (Nat.lt_irrefl _)
    · have h1 : (ps.map fun p => (es.toList.map (·.2)).getD p .none).Perm ((List.range es.size).map fun p => (es.toList.map (·.2)).getD p .none) := hp.map _
      refine h1.trans ?_
      have e : ((List.range es.size).map fun p => (es.toList.map (·.2)).getD p .none) = es.toList.map (·.2) := by
        apply List.ext_getElem
        · simp
        · intro i q1 q2
          simp at q1 q2
          simp [q1]
      rw [e]
    · intro b hb'
      simp only [List.mem_cons, List.not_mem_nil, or_false] at hb'
      rcases hb' with rfl | rfl | rfl
      · refine .inr ?_
        show s.heap.get? (s.heap.push _).objs.size = none
        rw [Heap.size_push]
        cases q : s.heap.get? (s.heap.objs.size + 1) with
        | none => rfl
        | some o' => exact absurd (Nat.lt_of_succ_lt (Heap.lt_size q)) (Nat.lt_irrefl _)
      · exact .inl rfl
      · refine .inr ?_
        cases q : s.heap.get? s.heap.objs.size with
        | none => rfl
        | some o' => exact absurd (Heap.lt_size q) (Nat.lt_irrefl _)
  · rw [if_neg hq]
    refine wpAny_bind (wpAny_pure ?_)
    refine wpAny_bind (wpAny_setEpoch_of ho hd hf ?_)
    refine wpAny_bind (wpAny_newObj_type (wpAny_pure ⟨_, rfl, "set_iterator", _, ⟨_, Heap.get?_push_size _ rfl, rfl⟩, slot_sit_next.lookup, h _ _ ?_⟩))
    have hlt : a < s.heap.objs.size := Heap.lt_size ho
    have hfre : s.heap.get? s.heap.objs.size = none := by
      cases q : s.heap.get? s.heap.objs.size with
      | none => rfl
      | some o' => exact absurd (Heap.lt_size q) (Nat.lt_irrefl _)
    have hst : SetThere (s.heap.push { cls := .type "set_iterator", data := .fields #[rawInt 0, rawInt 0, .ref a, rawInt es.size, rawInt ep] }) a es ep t := hset.at fun o e => Heap.get?_push_of_some _ e
    by_cases hb : w.params.followText "set-order" = true
    · refine ⟨_, _, s.drawn, [s.heap.objs.size, a], (pickOrder (w.params.setOrder a ep) es).toList.map (·.2), _, rfl, rfl, fun A hA => walk_slot hA (Nat.ne_of_lt hlt) hf _ ?_ (fun _ => 0) (fun A s i E Q hs _ hq => step_text hb hf hs hq), ⟨⟨_, Heap.get?_push_size _ rfl, rfl, rfl⟩, hst⟩, ?_, .head _, fun _ _ e => Heap.get?_push_of_some _ e, hfre, (pick_perm _ _).map _, ?_⟩
      · have := (pick_perm (w.params.setOrder a ep) es).length_eq
        simpa using this
      · intro b hb'
        rw [Heap.size_push]
        simp only [List.mem_cons, List.not_mem_nil, or_false] at hb'
        rcases hb' with rfl | rfl
        · exact Nat.lt_succ_self _
        · exact Nat.lt_succ_of_lt hlt
      · intro b hb'
        simp only [List.mem_cons, List.not_mem_nil, or_false] at hb'
        rcases hb' with rfl | rfl
        · exact .inr hfre
        · exact .inl rfl
    · have hb' : w.params.followText "set-order" = false := by simpa using hb
      refine ⟨_, _, s.drawn, [s.heap.objs.size, a], es.toList.map (·.2), _, rfl, rfl, fun A hA => walk_slot hA (Nat.ne_of_lt hlt) hf _ (by simp) (slotAt t) (fun A s i E Q hs hi hq' => step_slot hb' hk hf (by rw [hb'] at hq; simpa using hq) hs hi hq'), ⟨⟨_, Heap.get?_push_size _ rfl, rfl, rfl⟩, hst⟩, ?_, .head _, fun _ _ e => Heap.get?_push_of_some _ e, hfre, List.Perm.refl _, ?_⟩
      · intro b hb'
        rw [Heap.size_push]
        simp only [List.mem_cons, List.not_mem_nil, or_false] at hb'
        rcases hb' with rfl | rfl
        · exact Nat.lt_succ_self _
        · exact Nat.lt_succ_of_lt hlt
      · intro b hb'
        simp only [List.mem_cons, List.not_mem_nil, or_false] at hb'
        rcases hb' with rfl | rfl
        · exact .inr hfre
        · exact .inl rfl
end
end Mine
set_option maxRecDepth 100000
namespace Mine
open PySem PySem.W PySem.Calls PyProof.Rows PySem.Spec
section
variable {prog : Program} {w : World} {A : Around} {E : Value → Shared → Prop} {s : Shared} {a : Addr} {es : Array (Int × Value)} {ep : Nat} {t : SetTable}
theorem hint_set {Q : Bool → Shared → Prop} (hT : s.TypeIs (.ref a) "set") (h : Q false s) : wpAny (model prog w) A (Builtin.List.listLengthHint (.ref a)) Q E s := by
  unfold Builtin.List.listLengthHint
  refine wpAny_bind (wpAny_specialOf hT F.slot_set_len.lookup ?_)
  generalize hid : ("set.__len__" : String) = id0
  wp_delta
  rw [show splitId id0 = some ("set", "__len__") from by subst hid; decide +kernel]
  subst hid
  refine wpAny_bind (wpAny_isInstance (T := "set") (b := true) hT (by rw [isSubtype_type]; kernel_rfl) ?_)
  refine wpAny_ite_split (fun hab => absurd hab (by decide)) (fun _ => ?_)
  refine wpAny_ite_split (fun _ => ?_) (fun hab => absurd (by decide +kernel) hab)
  refine wpAny_bind (wpAny_typeOf hT ?_)
  exact wpAny_pure h
theorem collect_set {o : Obj} (hh : A.handled = none) (ho : s.heap.get? a = some o) (hc : o.cls = .type "set") (hd : o.data = .set es ep t) (hf : t.fits es.size = true) (hz : es.size < scanBound) (hk : TOk (!w.params.followText "set-order") t)
    {Q : List Value → Shared → Prop} (h : ∀ h' tk d vs, (∀ b o, s.heap.get? b = some o → h'.get? b = some o) → vs.Perm (es.toList.map (·.2)) → Q vs { s with heap := h', toks := tk, drawn := d }) : wpAny (model prog w) A (collect (.ref a)) Q E s := by
  have hlt : a < s.heap.objs.size := Heap.lt_size ho
  have hSa : s.heap.objs.size ≠ a := Nat.ne_of_gt hlt
  unfold collect
  refine wpAny_bind (wpAny_runValue (codeAny_builtin F.entry_proto_collect ?_))
  rw [Around.under_plainId F.plain_proto_collect _]
  show wpAny _ A.in1 (newList [] >>= fun l => again (.builtin "list.__iadd__" ⟨[l, .ref a], []⟩)) _ _ s
  refine wpAny_bind (wpAny_newObj_type ?_)
  refine wpAny_pure ⟨plainId_quiet F.plain_list_iadd _, codeAny_builtin F.entry_list_iadd ?_⟩
  rw [Around.under_plainId F.plain_list_iadd _]
  show wpAny _ A.in1 (Builtin.List.listExtendWith (.ref s.heap.objs.size) (.ref a) (.ref s.heap.objs.size)) _ _ _
  have hS₁ : (s.heap.push { cls := .type "list", data := .seq ([] : List Value).toArray }).get? s.heap.objs.size = some { cls := .type "list", data := .seq ([] : List Value).toArray } := Heap.get?_push_size _ rfl
  have ho1 : (s.heap.push { cls := .type "list", data := .seq ([] : List Value).toArray }).get? a = some o := Heap.get?_push_of_some _ ho
  have hT1 : Shared.TypeIs { s with heap := s.heap.push { cls := .type "list", data := .seq ([] : List Value).toArray } } (.ref a) "set" := ⟨o, ho1, hc⟩
  unfold Builtin.List.listExtendWith
  refine wpAny_bind (wpAny_typeOf hT1 ?_)
  have h1 : Builtin.List.listSameRef (.ref s.heap.objs.size) (.ref a) = false := by simp [Builtin.List.listSameRef, hSa]
  have h2 : (Value.type "set" == Value.type "list") = false := by decide
  have h3 : (Value.type "set" == Value.type "tuple") = false := by decide
  simp only [h1, h2, h3, Bool.or_false, Bool.false_eq_true, if_false]
  refine wpAny_bind (iter_set (s := { s with heap := s.heap.push { cls := .type "list", data := .seq ([] : List Value).toArray } }) ho1 hc hd hf hz hk fun it s₂ hI => ?_)
  obtain ⟨I, h₂, d, fp, vs, St, rfl, rfl, W, st, hfp, hIf, hkeep, hnew, hperm, hfree⟩ := hI
  have hSf : s.heap.objs.size ∉ fp := fun hm => by
    rcases hfree _ hm with q | q
    · exact hSa q
    · rw [show (s.heap.push { cls := .type "list", data := .seq ([] : List Value).toArray }).get? s.heap.objs.size = _ from hS₁] at q; cases q
  have hSI : s.heap.objs.size ≠ I := fun e => hSf (e ▸ hIf)
  have hS₂ := hkeep _ _ hS₁
  have hln : vs.length ≤ sizeLine := by
    have := hperm.length_eq
    have hz' : es.size < 4096 := hz
    simp at this
    rw [sizeLine_eq]; omega
  refine wpAny_bind (wpAny_holding (hint_set (s := { s with heap := h₂, drawn := d }) ⟨o, hkeep _ _ ho1, hc⟩ ?_))
  show wpAny _ A.in1 (rule "list.extend.makes-room" >>= fun _ => Builtin.List.listTouch (.ref s.heap.objs.size) >>= fun _ =>
    again (.builtin "list.extend.loop" ⟨[.ref s.heap.objs.size, .ref I, .ref s.heap.objs.size], []⟩)) _ _ _
  refine wpAny_bind (wpAny_rule ?_)
  refine wpAny_bind ?_
  show wpAny _ A.in1 (updateSeq s.heap.objs.size (·.push .none) >>= fun _ => updateSeq s.heap.objs.size (·.pop)) _ _ _
  refine wpAny_bind (wpAny_updateSeq hS₂ rfl ?_)
  have hS₃ := Heap.get?_update_self (Obj.mapSeq (·.push Value.none)) hS₂ rfl
  refine wpAny_updateSeq hS₃ rfl ?_
  have hS₄ := Heap.get?_update_self (Obj.mapSeq (·.pop)) hS₃ rfl
  have oth : ∀ b o, b ≠ s.heap.objs.size → h₂.get? b = some o → ((h₂.update s.heap.objs.size (Obj.mapSeq (·.push Value.none))).update s.heap.objs.size (Obj.mapSeq (·.pop))).get? b = some o :=
    fun b o hb e => (Heap.get?_update_other _ _ (Ne.symm hb)).trans ((Heap.get?_update_other _ _ (Ne.symm hb)).trans e)
  have W' := W A.in1 hh
  refine wpAny_pure ⟨plainId_quiet F.plain_extend_loop _, codeAny_extend_loopS W'.toS hln _ hSf _ vs.length 0 _ _ _ rfl (Nat.zero_le _) (W'.frame 0 _ _ st fun b hb o e => oth b o (fun q => hSf (q ▸ hb)) e) hS₄ (ItemsOf.nil _) fun s' acc' c' hm hS' hacc => ?_⟩
  show wpAny _ A (load s.heap.objs.size >>= _) _ _ s'
  refine wpAny_bind (wpAny_load hS' (wpAny_pure ?_))
  have hav : acc'.toList = vs := walked_is (items := vs.toArray) (by simpa using hacc.1) (fun j v e => by simpa using hacc.2 j v (by simpa using e))
  rw [hav, Moved.eq_with hm]
  refine h _ _ _ vs (fun b o e => hm.heap b o (fun q => ?_) (oth b o (Nat.ne_of_lt (Heap.lt_size e)) (hkeep _ _ (Heap.get?_push_of_some _ e)))) hperm
  rcases List.mem_cons.mp q with q | q
  · rw [q] at e; exact absurd (Heap.lt_size e) (Nat.lt_irrefl _)
  · rw [List.mem_singleton.mp q] at e
    have := Heap.get?_push_of_some { cls := .type "list", data := .seq ([] : List Value).toArray } e
    rw [this] at hnew; cases hnew
end
end Mine
set_option maxRecDepth 100000
namespace Mine
open PySem PySem.W PySem.Calls PyProof.Rows PySem.Spec
theorem ints_perm {vs us : List Value} (p : vs.Perm us) : ∀ {ks : List Int}, IntsAre us ks → ∃ ks', IntsAre vs ks' ∧ ks'.Perm ks := by
  induction p with
  | nil => intro ks h; exact ⟨ks, h, List.Perm.refl _⟩
  | cons x _ ih =>
    intro ks h
    cases h with
    | cons n t h =>
      obtain ⟨k, h1, h2⟩ := ih h
      exact ⟨n :: k, .cons _ _ h1, h2.cons _⟩
  | swap x y l =>
    intro ks h
    cases h with
    | cons n t h =>
      cases h with
      | cons n' t' h => exact ⟨_, .cons _ _ (.cons _ _ h), List.Perm.swap _ _ _⟩
  | trans _ _ ih1 ih2 =>
    intro ks h
    obtain ⟨k, h1, h2⟩ := ih2 h
    obtain ⟨k', h3, h4⟩ := ih1 h1
    exact ⟨k', h3, h4.trans h2⟩
section
variable {prog : Program} {w : World} {A : Around} {E : Value → Shared → Prop} {s : Shared} {a : Addr} {es : Array (Int × Value)} {ep : Nat} {t : SetTable}
theorem sorted_set {o : Obj} {ks : List Int} (hh : A.handled = none) (ho : s.heap.get? a = some o) (hc : o.cls = .type "set") (hd : o.data = .set es ep t) (hf : t.fits es.size = true) (hz : es.size < 64) (hk : TOk (!w.params.followText "set-order") t) (hi : IntsAre (es.toList.map (·.2)) ks)
    {Q : Value → Shared → Prop} (h : ∀ h' tk d D out ns' c, (∀ b o, s.heap.get? b = some o → h'.get? b = some o) → s.heap.get? D = none → h'.get? D = some (seqObj "list" out c) → IntsAre out.toList ns' → ns'.Perm ks → ns'.Pairwise (· ≤ ·) → Q (.ref D) { s with heap := h', toks := tk, drawn := d }) :
    wpAny (model prog w) A (call (.builtin "sorted") [.ref a]) Q E s := by
  refine Calls.call_function_entry kind_sorted plain_sorted entry_sorted (args_sorted1 _) ?_
  unfold Builtin.«sorted»
  refine wpAny_bind (m := checkCount "sorted" 1 1 _) (wpAny_pure ?_)
  refine wpAny_bind (collect_set (A := A.in1) hh ho hc hd hf (by unfold scanBound; omega) hk fun h1 tk d vs hkp hperm => ?_)
  have hvl : vs.length = es.size := by simpa using hperm.length_eq
  obtain ⟨ks', hI, hkp'⟩ := ints_perm hperm hi
  refine wpAny_bind (wpAny_newList (hsz := by rw [hvl, sizeLine_eq]; omega) ?_)
  have hoL : (h1.push (seqObj "list" vs.toArray 0)).get? h1.objs.size = some (seqObj "list" vs.toArray 0) := Heap.get?_push_size _ rfl
  refine wpAny_bind (wpAny_holding (wpAny_call_entry slot_list_sort ⟨_, hoL, rfl⟩ entry_list_sort (list_sort_tree hoL hI (by omega) fun out ns' a1 a2 a3 => ⟨_, rfl, ?_⟩) (args_list_sort _)))
  obtain ⟨e, he⟩ := sortedHeap_at (out := out) hoL
  refine wpAny_pure ⟨_, rfl, h _ _ _ _ out ns' e (fun b o q => ?_) ?_ he a1 (a2.trans hkp') a3⟩
  · have q1 := hkp _ _ q
    have hlt := Heap.lt_size q1
    rw [sortedHeap_old (Nat.ne_of_lt hlt) (by rw [size_push']; exact Nat.lt_succ_of_lt hlt)]
    exact Heap.get?_push_of_some _ q1
  · cases q : s.heap.get? h1.objs.size with
    | none => rfl
    | some o' => exact absurd (Heap.lt_size (hkp _ _ q)) (Nat.lt_irrefl _)
end
end Mine
set_option maxRecDepth 100000
namespace Mine
open PySem PySem.W PySem.Calls PyProof.Rows PySem.Spec
theorem step_nodup {l : List Int} (h : l.Nodup) (k : Int) : (step_dedup l k).Nodup := by
  unfold step_dedup
  split
  · exact h
  · rename_i q
    rw [List.nodup_append]
    refine ⟨h, by simp, fun a ha b hb => ?_⟩
    rw [List.mem_singleton] at hb
    subst hb
    intro e
    subst e
    exact q (List.any_eq_true.mpr ⟨a, ha, by simp⟩)
theorem firstMet_nodup (val : Nat → Int) : ∀ i, (firstMet val i).Nodup
  | 0 => by rw [firstMet_zero]; exact .nil
  | i + 1 => by rw [firstMet_succ]; exact step_nodup (firstMet_nodup val i) _
theorem elems_ints {prog : Program} {w : World} : ∀ {l : List (Int × Value)}, ElemsOf (intKind prog w) l → ∃ ks, IntsAre (l.map (·.2)) ks ∧ ∀ x, x ∈ ks ↔ ∃ e ∈ l, (intKind prog w).is x e.2 = true
  | [], _ => ⟨[], .nil, fun x => by simp⟩
  | e :: l, h => by
    obtain ⟨ks, h1, h2⟩ := elems_ints h.tail
    obtain ⟨⟨k, hk, _⟩, _⟩ := h.head
    obtain ⟨tk, he⟩ := Value.isInt_shape hk
    refine ⟨k :: ks, by rw [List.map_cons, he]; exact .cons _ _ h1, fun x => ?_⟩
    rw [List.mem_cons, h2 x]
    constructor
    · rintro (rfl | ⟨e', he', q⟩)
      · exact ⟨e, .head _, hk⟩
      · exact ⟨e', .tail _ he', q⟩
    · rintro ⟨e', he', q⟩
      rcases List.mem_cons.mp he' with rfl | he'
      · exact .inl ((intKind prog w).inj _ _ _ q hk)
      · exact .inr ⟨e', he', q⟩
end Mine
set_option maxRecDepth 100000
namespace Mine
open PySem PySem.W PySem.Calls PyProof.Rows PySem.Spec
theorem range_vals (ns : List Int) : ∀ n, n = ns.length → (List.range n).map (fun i => ns.getD i 0) = ns := by
  intro n e
  subst e
  refine List.ext_getElem (by simp) fun i h1 h2 => ?_
  simp [List.getD, List.getElem?_eq_getElem h2]
/-- a set of the members of a line of ints -/
noncomputable def SetLine (prog : Program) (w : World) (h : Heap) (a : Addr) (line : List Int) : Prop :=
  ∃ (o : Obj) (es : Array (Int × Value)) (ep : Nat) (t : SetTable) (ks : List Int), h.get? a = some o ∧ o.cls = .type "set" ∧ o.data = .set es ep t ∧ t.fits es.size = true ∧ es.size < 64 ∧ TOk (!w.params.followText "set-order") t ∧ IntsAre (es.toList.map (·.2)) ks ∧ ks.Nodup ∧ ∀ x, x ∈ ks ↔ x ∈ line
section
variable {prog : Program} {w : World} {A : Around} {E : Value → Shared → Prop} {s : Shared} {h₀ : Heap} {L l a : Addr} {m : Str → Option Value} {news : List (Addr × Obj)} {vs : List Value} {ns : List Int}
theorem set_line {Q : Value → Shared → Prop} (hh : A.handled = none) (F : Fr h₀ L s.heap m) (N : News h₀ L s.heap news) (hl : s.heap.IsList l vs.toArray) (hi : IntsAre vs ns) (hz : ns.length < 64)
    (h : ∀ a h' tk, Fr h₀ L h' m → News h₀ L h' news → SetLine prog w h' a ns → Q (.ref a) { s with heap := h', toks := tk }) :
    wpAny (model prog w) A (call (.type "set") [.ref l]) Q E s := by
  have hlen : vs.length = ns.length := hi.length
  refine set_of_ints hh hl (by simpa using hi) (by simp only [List.size_toArray]; unfold scanBound; omega) fun h' tk hS hk => ?_
  have hk' : ∀ b o, s.heap.get? b = some o → h'.get? b = some o := fun b o e => hk b o (Heap.lt_size e) e
  refine h _ h' tk (F.keeps hk') (N.grown hk') ?_
  obtain ⟨o, es, ep, t, ho, hx, hd, hE, hm, hb, hf, hn, hT⟩ := hS
  obtain ⟨ks, hI, hks⟩ := elems_ints hE
  have ez : vs.toArray.size = vs.length := List.size_toArray ..
  rw [ez] at hm hn
  have hmem : ∀ x, x ∈ ks ↔ x ∈ firstMet (fun i => ns.getD i 0) vs.length := fun x => by
    rw [hks x, ← hm x, List.any_eq_true]
    constructor
    · rintro ⟨y, hy, e⟩; rw [beq_iff_eq] at e; exact e ▸ hy
    · intro hy; exact ⟨x, hy, by simp⟩
  have hnd := firstMet_nodup (fun i => ns.getD i 0) vs.length
  have hkl : ks.length = es.size := by
    have := hI.length
    simpa using this.symm
  have hp := perm_of_len hnd (fun x hx => (hmem x).mpr hx) (by rw [hkl, hn]; exact Nat.le_refl _)
  refine ⟨o, es, ep, t, ks, ho, hx.1, hd, hf, ?_, hT, hI, hp.nodup_iff.mpr hnd, fun x => ?_⟩
  · rw [hn]
    have hq := firstMet_length_le (fun i => ns.getD i 0) vs.length
    omega
  · rw [hmem x]
    have e := firstMet_any (fun i => ns.getD i 0) vs.length x
    rw [range_vals ns _ hlen] at e
    constructor
    · intro hx
      have : ns.any (· == x) = true := by rw [← e]; exact List.any_eq_true.mpr ⟨x, hx, by simp⟩
      obtain ⟨y, hy, q⟩ := List.any_eq_true.mp this
      rw [beq_iff_eq] at q; exact q ▸ hy
    · intro hx
      have : (firstMet (fun i => ns.getD i 0) vs.length).any (· == x) = true := by rw [e]; exact List.any_eq_true.mpr ⟨x, hx, by simp⟩
      obtain ⟨y, hy, q⟩ := List.any_eq_true.mp this
      rw [beq_iff_eq] at q; exact q ▸ hy
theorem sorted_line {Q : Value → Shared → Prop} (hh : A.handled = none) (F : Fr h₀ L s.heap m) (N : News h₀ L s.heap news) (hS : SetLine prog w s.heap a ns)
    (h : ∀ D (out : List Value) ns' h' tk d, Fr h₀ L h' m → News h₀ L h' news → h'.IsList D out.toArray → IntsAre out ns' → (ns = ns' ↔ ns.Pairwise (· < ·)) → Q (.ref D) { s with heap := h', toks := tk, drawn := d }) :
    wpAny (model prog w) A (call (.builtin "sorted") [.ref a]) Q E s := by
  obtain ⟨o, es, ep, t, ks, ho, hc, hd, hf, hz, hT, hI, hn, hm⟩ := hS
  refine sorted_set hh ho hc hd hf hz hT hI fun h' tk d D out ns' c hk hD hD' hI' hp hs => ?_
  exact h D out.toList ns' h' tk d (F.keeps hk) (N.grown hk) ⟨_, hD', rfl, c, by simp [seqObj]⟩ hI' (sorted_eq hn hm hp hs)
/-- as cutVal, where the order of a set may have been drawn -/
noncomputable def ValPostD (h₀ : Heap) (L : Addr) (m : Str → Option Value) (news : List (Addr × Obj)) (s : Shared) (P : Value → Prop) (v : Value) (s' : Shared) : Prop := ∃ h tk d, P v ∧ s' = { s with heap := h, toks := tk, drawn := d } ∧ Fr h₀ L h m ∧ News h₀ L h news
theorem cutValD {M : Model} {Q : Value → Shared → Prop} {t : Sem Value} (P : Value → Prop) (F : Fr h₀ L s.heap m) (N : News h₀ L s.heap news)
    (h1 : wpAny M A t (ValPostD h₀ L m news s P) E s)
    (h2 : ∀ v h tk d, P v → Fr h₀ L h m → News h₀ L h news → Q v { s with heap := h, toks := tk, drawn := d }) : wpAny M A t Q E s :=
  let _ := F; let _ := N
  wpAny_mono h1 (fun _ _ hp => by obtain ⟨h, tk, d, p, rfl, F', N'⟩ := hp; exact h2 _ h tk d p F' N') fun _ _ e => e
end
end Mine
set_option maxRecDepth 100000
set_option maxHeartbeats 8000000
set_option Elab.async false
namespace Mine
open PySem PySem.W PySem.Calls PyProof.Rows PySem.Spec
local macro_rules | `(tactic| walk_at "subscriptTail Name BinOp ref int") => `(tactic| refine of_hold ?_)
local macro_rules | `(tactic| walk_at "subscriptTail Name Slice ref ref") => `(tactic| refine of_hold ?_)
local macro_rules | `(tactic| walk_at "call ref cons nil") => `(tactic| refine of_hold ?_)
local macro_rules | `(tactic| walk_at "assign Tuple cons ref") => `(tactic| refine of_hold ?_)
local macro_rules | `(tactic| walk_at "call builtin:max cons nil") => `(tactic| refine of_hold ?_)
local macro_rules | `(tactic| walk_at "call builtin:min cons nil") => `(tactic| refine of_hold ?_)
local macro_rules | `(tactic| walk_at "binaryOp Add ref ref") => `(tactic| refine of_hold ?_)
local macro_rules | `(tactic| walk_at "eval IfExp") => `(tactic| refine of_hold ?_)
local macro_rules | `(tactic| walk_at "exec For Name Call cons nil") => `(tactic| refine of_hold ?_)
local macro_rules | `(tactic| walk_at "eval BoolOp") => `(tactic| refine of_hold ?_)
local macro_rules | `(tactic| walk_at "subscriptTail Tuple BinOp ref int") => `(tactic| refine of_hold ?_)
local macro_rules | `(tactic| walk_at "exec For Tuple Name cons nil") => `(tactic| refine of_hold ?_)
local macro_rules | `(tactic| walk_at "compareOp Eq ref ref") => `(tactic| refine of_hold ?_)
local macro_rules | `(tactic| walk_at "compareOp NotEq ref ref") => `(tactic| refine of_hold ?_)
local macro_rules | `(tactic| walk_at "call type:set cons nil") => `(tactic| refine of_hold ?_)
local macro_rules | `(tactic| walk_at "call builtin:sorted cons nil") => `(tactic| refine of_hold ?_)
local macro_rules | `(tactic| walk_at "exec Assign cons ListComp") => `(tactic| (lct_look; refine of_hold ?_))
local macro_rules | `(tactic| walk_at "exec If") => `(tactic| ((show wpAny _ _ (exec (Stmt.If (Expr.BoolOp _ _ _) _ _ _) _) _ _ _); refine of_hold ?_))
local macro_rules | `(tactic| walk_at "subscriptTail Name Name ref int") => `(tactic| refine of_hold ?_)
local macro_rules | `(tactic| walk_at "CompSrcT BoolOp Tuple cons ref") => `(tactic| refine of_hold ?_)
noncomputable def cutA : Got (PySem.Challenge.rw_sx_zcanopy_6.Holds) := ⟨_, by
  intro hCut
  w_top off
  refine hd ?_
  dsimp only [hdG]
  k_go0
  all_goals (try k_fold)
  (rename List Int => ns)
  (rename List Value => svs)
  (rename Shared => s₁)
  (rename World => w)
  (rename Frag.In _ _ => KX)
  (rename Top _ _ _ _ _ _ => TP)
  k_steps
  clear_value (hqk : qk = _) (hek : ek = _)
  rename_i zA0 zA1 zA2 zA3 zA4 zA5 zA6 zA7 zA8 zA9 zA10 zA11 zA12 zA13 zA14 zA15 zA16 zA17 zA18 zA19 zA20 zA21 zA22 zA23 zA24 zA25 zA26 zA27 zA28 zA29 zA30 zA31 zA32 zA33 zA34 zA35 zA36 zA37 zA38 zA39 zA40 zA41 zA42 zA43 zA44 zA45 zA46 zA47 zA48 zA49 zA50 zA51 zA52 zA53 zA54 zA55 zA56 zA57 zA58 zA59 zA60 zA61 zA62 zA63 zA64 zA65 zA66 zA67 zA68 zA69 zA70 zA71 zA72 zA73 zA74 zA75 zA76 zA77 zA78 zA79 zA80 zA81 zA82 zA83 zA84 zA85 zA86 zA87 zA88 zA89 zA90 zA91 zA92 zA93 zA94 zA95 zA96 zA97 zA98 zA99 zA100 zA101 zA102 zA103 zA104
  clear zA3 zA4 zA21 zA22 zA23 zA24 zA25 zA26 zA27 zA28 zA29 zA34 zA35 zA37 zA39 zA41 zA42 zA43 zA54 zA56 zA57 zA58 zA59 zA60 zA61 zA62 zA63 zA65 zA70 zA71 zA73 zA76 zA77 zA78 zA79 zA80 zA81 zA82 zA83 zA86 zA90 zA91 zA96 zA99 zA104
  revert zA9 zA10 KX zA11 zA12 zA13 TP zA14 zA15 zA16 zA19 zA32 zA33 zA36 zA38 zA40 zA49 zA50 zA51 zA52 zA53 zA55 zA64 zA67 zA68 zA72 zA75 zA84 zA85 zA87 zA88 zA92 zA95 zA101 zA102 hqk hek
  revert w zA0 s₁ zA1 zA2 zA5 zA6 zA7 zA8 zA17 zA18 zA20 ns zA30 svs zA31 zA44 zA45 zA46 zA47 zA48 qk ek zA66 zA69 zA74 ys zA89 zA93 zA94 tk zA97 zA98 zA100 zA103
  exact hCut.out⟩
@[irreducible] noncomputable def tuplA := pk35 cutA.Q rfl (by have := w_ne; have := s_ne; have := a_ne; have := g_ne; have := dr_ne; have := t_ne; infer_instance)
@[irreducible] noncomputable def w := tuplA.1
@[irreducible] noncomputable def zA0 := tuplA.2.1
@[irreducible] noncomputable def s₁ := tuplA.2.2.1
@[irreducible] noncomputable def zA1 := tuplA.2.2.2.1
@[irreducible] noncomputable def zA2 := tuplA.2.2.2.2.1
@[irreducible] noncomputable def zA5 := tuplA.2.2.2.2.2.1
@[irreducible] noncomputable def zA6 := tuplA.2.2.2.2.2.2.1
@[irreducible] noncomputable def zA7 := tuplA.2.2.2.2.2.2.2.1
@[irreducible] noncomputable def zA8 := tuplA.2.2.2.2.2.2.2.2.1
@[irreducible] noncomputable def zA17 := tuplA.2.2.2.2.2.2.2.2.2.1
@[irreducible] noncomputable def zA18 := tuplA.2.2.2.2.2.2.2.2.2.2.1
@[irreducible] noncomputable def zA20 := tuplA.2.2.2.2.2.2.2.2.2.2.2.1
@[irreducible] noncomputable def ns := tuplA.2.2.2.2.2.2.2.2.2.2.2.2.1
@[irreducible] noncomputable def zA30 := tuplA.2.2.2.2.2.2.2.2.2.2.2.2.2.1
@[irreducible] noncomputable def svs := tuplA.2.2.2.2.2.2.2.2.2.2.2.2.2.2.1
@[irreducible] noncomputable def zA31 := tuplA.2.2.2.2.2.2.2.2.2.2.2.2.2.2.2.1
@[irreducible] noncomputable def zA44 := tuplA.2.2.2.2.2.2.2.2.2.2.2.2.2.2.2.2.1
@[irreducible] noncomputable def zA45 := tuplA.2.2.2.2.2.2.2.2.2.2.2.2.2.2.2.2.2.1
@[irreducible] noncomputable def zA46 := tuplA.2.2.2.2.2.2.2.2.2.2.2.2.2.2.2.2.2.2.1
@[irreducible] noncomputable def zA47 := tuplA.2.2.2.2.2.2.2.2.2.2.2.2.2.2.2.2.2.2.2.1
@[irreducible] noncomputable def zA48 := tuplA.2.2.2.2.2.2.2.2.2.2.2.2.2.2.2.2.2.2.2.2.1
@[irreducible] noncomputable def qk := tuplA.2.2.2.2.2.2.2.2.2.2.2.2.2.2.2.2.2.2.2.2.2.1
@[irreducible] noncomputable def ek := tuplA.2.2.2.2.2.2.2.2.2.2.2.2.2.2.2.2.2.2.2.2.2.2.1
@[irreducible] noncomputable def zA66 := tuplA.2.2.2.2.2.2.2.2.2.2.2.2.2.2.2.2.2.2.2.2.2.2.2.1
@[irreducible] noncomputable def zA69 := tuplA.2.2.2.2.2.2.2.2.2.2.2.2.2.2.2.2.2.2.2.2.2.2.2.2.1
@[irreducible] noncomputable def zA74 := tuplA.2.2.2.2.2.2.2.2.2.2.2.2.2.2.2.2.2.2.2.2.2.2.2.2.2.1
@[irreducible] noncomputable def ys := tuplA.2.2.2.2.2.2.2.2.2.2.2.2.2.2.2.2.2.2.2.2.2.2.2.2.2.2.1
@[irreducible] noncomputable def zA89 := tuplA.2.2.2.2.2.2.2.2.2.2.2.2.2.2.2.2.2.2.2.2.2.2.2.2.2.2.2.1
@[irreducible] noncomputable def zA93 := tuplA.2.2.2.2.2.2.2.2.2.2.2.2.2.2.2.2.2.2.2.2.2.2.2.2.2.2.2.2.1
@[irreducible] noncomputable def zA94 := tuplA.2.2.2.2.2.2.2.2.2.2.2.2.2.2.2.2.2.2.2.2.2.2.2.2.2.2.2.2.2.1
@[irreducible] noncomputable def tk := tuplA.2.2.2.2.2.2.2.2.2.2.2.2.2.2.2.2.2.2.2.2.2.2.2.2.2.2.2.2.2.2.1
@[irreducible] noncomputable def zA97 := tuplA.2.2.2.2.2.2.2.2.2.2.2.2.2.2.2.2.2.2.2.2.2.2.2.2.2.2.2.2.2.2.2.1
@[irreducible] noncomputable def zA98 := tuplA.2.2.2.2.2.2.2.2.2.2.2.2.2.2.2.2.2.2.2.2.2.2.2.2.2.2.2.2.2.2.2.2.1
@[irreducible] noncomputable def zA100 := tuplA.2.2.2.2.2.2.2.2.2.2.2.2.2.2.2.2.2.2.2.2.2.2.2.2.2.2.2.2.2.2.2.2.2.1
@[irreducible] noncomputable def zA103 := tuplA.2.2.2.2.2.2.2.2.2.2.2.2.2.2.2.2.2.2.2.2.2.2.2.2.2.2.2.2.2.2.2.2.2.2
noncomputable def QA : Prop := ap35 cutA.Q rfl w zA0 s₁ zA1 zA2 zA5 zA6 zA7 zA8 zA17 zA18 zA20 ns zA30 svs zA31 zA44 zA45 zA46 zA47 zA48 qk ek zA66 zA69 zA74 ys zA89 zA93 zA94 tk zA97 zA98 zA100 zA103
theorem backA (h : QA) : cutA.Q := bk35 rfl (by have := w_ne; have := s_ne; have := a_ne; have := g_ne; have := dr_ne; have := t_ne; infer_instance) (by with_unfolding_all exact h)
noncomputable def cutB : Got (QA) := ⟨_, by
  intro hCut
  w_top off
  intro zA9 zA10 KX zA11 zA12 zA13 TP zA14 zA15 zA16 zA19 zA32 zA33 zA36 zA38 zA40 zA49 zA50 zA51 zA52 zA53 zA55 zA64 zA67 zA68 zA72 zA75 zA84 zA85 zA87 zA88 zA92 zA95 zA101 zA102 hqk hek
  revert KX
  k_fill
  intro KX
  have f4 := fm (a := ns.getD (Int.toNat 4) 0) (n := 8) (by decide)
  obtain ⟨fx, d0, d1, d2, t0, t1, t2, hfx, hft⟩ := forms_at KX ((ns.getD (Int.toNat 4) 0).fmod 8).toNat (by omega)
  have f2 := fm (a := ns.getD (Int.toNat 2) 0) (n := 2) (by decide)
  have f3 := fm (a := ns.getD (Int.toNat 3) 0) (n := 4) (by decide)
  have f5 := fm (a := ns.getD (Int.toNat 5) 0) (n := 3) (by decide)
  have f6 := fm (a := ns.getD (Int.toNat 6) 0) (n := 3) (by decide)
  have f7 := fm (a := ns.getD (Int.toNat 7) 0) (n := 3) (by decide)
  have f8 := fm (a := ns.getD (Int.toNat 8) 0) (n := 3) (by decide)
  have f9 := fm (a := ns.getD (Int.toNat 9) 0) (n := 3) (by decide)
  have f10 := fm (a := ns.getD (Int.toNat 10) 0) (n := 3) (by decide)
  obtain ⟨g0, hg0⟩ : ∃ g : G, g = ⟨d0, ((ns.getD (Int.toNat 3) 0).fmod 4 + (ns.getD (Int.toNat 5) 0).fmod 3).toNat, ((ns.getD (Int.toNat 3) 0).fmod 4 + (ns.getD (Int.toNat 6) 0).fmod 3).toNat⟩ := ⟨_, rfl⟩
  obtain ⟨g1, hg1⟩ : ∃ g : G, g = ⟨d1, ((ns.getD (Int.toNat 3) 0).fmod 4 + (ns.getD (Int.toNat 7) 0).fmod 3).toNat, ((ns.getD (Int.toNat 3) 0).fmod 4 + (ns.getD (Int.toNat 8) 0).fmod 3).toNat⟩ := ⟨_, rfl⟩
  obtain ⟨g2, hg2⟩ : ∃ g : G, g = ⟨d2, ((ns.getD (Int.toNat 3) 0).fmod 4 + (ns.getD (Int.toNat 9) 0).fmod 3).toNat, ((ns.getD (Int.toNat 3) 0).fmod 4 + (ns.getD (Int.toNat 10) 0).fmod 3).toNat⟩ := ⟨_, rfl⟩
  have hl0 : g0.len ≤ 11 := len5 (by rw [hg0]; dsimp only; omega) (by rw [hg0]; dsimp only; omega)
  have hl1 : g1.len ≤ 11 := len5 (by rw [hg1]; dsimp only; omega) (by rw [hg1]; dsimp only; omega)
  have hl2 : g2.len ≤ 11 := len5 (by rw [hg2]; dsimp only; omega) (by rw [hg2]; dsimp only; omega)
  have hp0 : d0 = g0.dp := by rw [hg0]
  have hp1 : d1 = g1.dp := by rw [hg1]
  have hp2 : d2 = g2.dp := by rw [hg2]
  have e0a : (ns.getD (Int.toNat 3) 0).fmod 4 + (ns.getD (Int.toNat 5) 0).fmod 3 = (g0.a : Int) := by rw [hg0]; dsimp only; omega
  have e0b : (ns.getD (Int.toNat 3) 0).fmod 4 + (ns.getD (Int.toNat 6) 0).fmod 3 = (g0.b : Int) := by rw [hg0]; dsimp only; omega
  have e1a : (ns.getD (Int.toNat 3) 0).fmod 4 + (ns.getD (Int.toNat 7) 0).fmod 3 = (g1.a : Int) := by rw [hg1]; dsimp only; omega
  have e1b : (ns.getD (Int.toNat 3) 0).fmod 4 + (ns.getD (Int.toNat 8) 0).fmod 3 = (g1.b : Int) := by rw [hg1]; dsimp only; omega
  have e2a : (ns.getD (Int.toNat 3) 0).fmod 4 + (ns.getD (Int.toNat 9) 0).fmod 3 = (g2.a : Int) := by rw [hg2]; dsimp only; omega
  have e2b : (ns.getD (Int.toNat 3) 0).fmod 4 + (ns.getD (Int.toNat 10) 0).fmod 3 = (g2.b : Int) := by rw [hg2]; dsimp only; omega
  clear hg0 hg1 hg2
  subst hp0 hp1 hp2
  refine item_tupleL (Fr.tup (by assumption) (forms_tup KX)) (by omega) (by omega) (idx_nat f4.1 (by simpa using f4.2)) hfx ?_
  k_steps
  rename_i zB0 zB1 zB2 zB3 zB4 zB5 zB6 zB7 zB8 zB9 zB10 zB11 zB12 zB13 zB14 zB15 zB16 zB17 zB18 zB19 zB20 zB21 zB22 zB23 zB24 zB25 zB26 zB27
  clear zB0 zB2 zB3 zB5 zB8 zB10 zB12 zB13 zB15 zB17 zB19 zB20 zB22
  revert zA9 zA10 zA11 zA12 zA13 TP zA14 zA15 zA16 zA19 zA32 zA33 zA36 zA38 zA40 zA49 zA50 zA51 zA52 zA53 zA55 zA64 zA67 zA68 zA72 zA75 zA84 zA85 zA87 zA88 zA92 zA95 hqk hek KX f4 hfx f2 f3 f5 f6 f7 f8 f9 f10 hl0 hl1 hl2 e0a e0b e1a e1b e2a e2b hft zB6 zB9 zB16 zB23 zB25 zB26
  revert fx t0 t1 t2 g0 g1 g2 zB1 zB4 zB7 zB11 zB14 zB18 zB21 zB24 zB27
  exact hCut.out⟩
@[irreducible] noncomputable def tuplB := pk16 cutB.Q rfl (by have := w_ne; have := s_ne; have := a_ne; have := g_ne; have := dr_ne; have := t_ne; infer_instance)
@[irreducible] noncomputable def fx := tuplB.1
@[irreducible] noncomputable def t0 := tuplB.2.1
@[irreducible] noncomputable def t1 := tuplB.2.2.1
@[irreducible] noncomputable def t2 := tuplB.2.2.2.1
@[irreducible] noncomputable def g0 := tuplB.2.2.2.2.1
@[irreducible] noncomputable def g1 := tuplB.2.2.2.2.2.1
@[irreducible] noncomputable def g2 := tuplB.2.2.2.2.2.2.1
@[irreducible] noncomputable def zB1 := tuplB.2.2.2.2.2.2.2.1
@[irreducible] noncomputable def zB4 := tuplB.2.2.2.2.2.2.2.2.1
@[irreducible] noncomputable def zB7 := tuplB.2.2.2.2.2.2.2.2.2.1
@[irreducible] noncomputable def zB11 := tuplB.2.2.2.2.2.2.2.2.2.2.1
@[irreducible] noncomputable def zB14 := tuplB.2.2.2.2.2.2.2.2.2.2.2.1
@[irreducible] noncomputable def zB18 := tuplB.2.2.2.2.2.2.2.2.2.2.2.2.1
@[irreducible] noncomputable def zB21 := tuplB.2.2.2.2.2.2.2.2.2.2.2.2.2.1
@[irreducible] noncomputable def zB24 := tuplB.2.2.2.2.2.2.2.2.2.2.2.2.2.2.1
@[irreducible] noncomputable def zB27 := tuplB.2.2.2.2.2.2.2.2.2.2.2.2.2.2.2
noncomputable def QB : Prop := ap16 cutB.Q rfl fx t0 t1 t2 g0 g1 g2 zB1 zB4 zB7 zB11 zB14 zB18 zB21 zB24 zB27
theorem backB (h : QB) : cutB.Q := bk16 rfl (by have := w_ne; have := s_ne; have := a_ne; have := g_ne; have := dr_ne; have := t_ne; infer_instance) (by with_unfolding_all exact h)
noncomputable def cutC : Got (QB) := ⟨_, by
  intro hCut
  w_top off
  intro zA9 zA10 zA11 zA12 zA13 TP zA14 zA15 zA16 zA19 zA32 zA33 zA36 zA38 zA40 zA49 zA50 zA51 zA52 zA53 zA55 zA64 zA67 zA68 zA72 zA75 zA84 zA85 zA87 zA88 zA92 zA95 hqk hek KX f4 hfx f2 f3 f5 f6 f7 f8 f9 f10 hl0 hl1 hl2 e0a e0b e1a e1b e2a e2b hft zB6 zB9 zB16 zB23 zB25 zB26
  revert KX
  k_fill
  intro KX
  (rename Fr _ _ _ _ => F1)
  (rename News _ _ _ _ => N1)
  (rename IntsAre _ (List.map (fun k' => ns.getD (Int.toNat 0) 0 + 2 * k') _) => hIr)
  (rename IntsAre _ (List.map (fun k' => ns.getD (Int.toNat 1) 0 - 3 * k') _) => hIv)
  obtain ⟨W, hW⟩ : ∃ W : Nat, 2 + (ns.getD (Int.toNat 2) 0).fmod 2 = (W : Int) := ⟨_, (Int.toNat_of_nonneg (by omega)).symm⟩
  have hW2 : W = 2 ∨ W = 3 := by omega
  refine sliceV_upto W F1 N1 (vs := [.ref _, .ref _, .ref _]) (News.isList N1 (.tail _ (.tail _ (.head _)))) hW (by simp) ?_
  intro P1 h2 F2 N2 z1
  k_lt z1
  clear F1 N1
  k_steps
  rename_i zC0 zC1 zC2
  clear h2
  revert zA9 zA10 zA11 zA12 zA13 TP zA14 zA15 zA16 zA19 zA32 zA33 zA36 zA38 zA40 zA49 zA50 zA51 zA52 zA53 zA55 zA64 hIr zA68 zA72 zA75 zA84 zA85 hIv zA88 zA92 zA95 hqk hek f4 hfx f2 f3 f5 f6 f7 f8 f9 f10 hl0 hl1 hl2 e0a e0b e1a e1b e2a e2b hft zB6 zB9 zB16 zB23 KX hW hW2 z1 zC1 zC2
  revert W P1 zC0
  exact hCut.out⟩
@[irreducible] noncomputable def tuplC := pk3 cutC.Q rfl (by have := w_ne; have := s_ne; have := a_ne; have := g_ne; have := dr_ne; have := t_ne; infer_instance)
@[irreducible] noncomputable def W := tuplC.1
@[irreducible] noncomputable def P1 := tuplC.2.1
@[irreducible] noncomputable def zC0 := tuplC.2.2
noncomputable def QC : Prop := ap3 cutC.Q rfl W P1 zC0
theorem backC (h : QC) : cutC.Q := bk3 rfl (by have := w_ne; have := s_ne; have := a_ne; have := g_ne; have := dr_ne; have := t_ne; infer_instance) (by with_unfolding_all exact h)
noncomputable def cutD : Got (QC) := ⟨_, by
  intro hCut
  w_top off
  intro zA9 zA10 zA11 zA12 zA13 TP zA14 zA15 zA16 zA19 zA32 zA33 zA36 zA38 zA40 zA49 zA50 zA51 zA52 zA53 zA55 zA64 hIr zA68 zA72 zA75 zA84 zA85 hIv zA88 zA92 zA95 hqk hek f4 hfx f2 f3 f5 f6 f7 f8 f9 f10 hl0 hl1 hl2 e0a e0b e1a e1b e2a e2b hft zB6 zB9 zB16 zB23 KX hW hW2 z1 zC1 zC2
  revert KX
  k_fill
  intro KX
  (rename Fr _ _ _ _ => F3)
  (rename News _ _ _ _ => N3)
  obtain ⟨row, hrow⟩ : ∃ row, row = List.map (fun k' => ns.getD (Int.toNat 0) 0 + 2 * k') (rangeKs 0 (36 - 0 : Int).toNat) := ⟨_, rfl⟩
  obtain ⟨vals, hvals⟩ : ∃ vals, vals = List.map (fun k' => ns.getD (Int.toNat 1) 0 - 3 * k') (rangeKs 0 (36 - 0 : Int).toNat) := ⟨_, rfl⟩
  rw [← hrow] at hIr
  rw [← hvals] at hIv
  have hlr : row.length = 36 := by rw [hrow]; exact row_len _
  have hlv : vals.length = 36 := by rw [hvals]; exact vals_len _
  obtain ⟨gs, hgs⟩ : ∃ gs, gs = [g0, g1, g2].take W := ⟨_, rfl⟩
  have hgl : gs.length = W := by rw [hgs]; rcases hW2 with q | q <;> rw [q] <;> rfl
  have hend : endL gs 0 ≤ 36 := by rw [hgs]; exact end3 hl0 hl1 hl2 W
  have hgn : gs ≠ [] := by intro e; rw [e] at hgl; simp at hgl; omega
  have hpl := (plan3 (News.isTup N3 (.tail _ (.tail _ (.tail _ (.tail _ (.head _)))))) (News.isTup N3 (.tail _ (.tail _ (.head _)))) (News.isTup N3 (.tail _ (.head _))) e0a e0b e1a e1b e2a e2b).take W
  rw [← hgs] at hpl
  refine build_spec row vals gs _ _ _ _ _ _ _ _ _ _ (KX.keeps F3.keep) (TP.keeps F3.keep) rfl (by k_room) (News.isList N3 (.tail _ (.tail _ (.tail _ (.tail _ (.tail _ (.tail _ (.head _)))))))) hIr (News.isList N3 (.tail _ (.tail _ (.tail _ (.tail _ (.tail _ (.head _))))))) hIv (News.isList N3 (.head _)) hpl hlr hlv hend hgn (by omega) ?_
  intro R nl h4 tk4 k4 hnl hB
  revert zA9 zA10 zA11 zA12 zA13 TP zA14 zA15 zA16 zA19 zA32 zA33 zA36 zA38 zA40 zA49 zA50 zA51 zA52 zA53 zA55 zA64 zA68 zA72 zA75 zA84 zA85 zA88 zA92 zA95 hqk hek f4 hfx f2 f3 f5 f6 f7 f8 f9 f10 hl0 hl1 hl2 e0a e0b e1a e1b e2a e2b hft zB6 zB9 zB16 zB23 hW hW2 z1 F3 N3 KX hIr hrow hIv hvals hlr hlv hgs hgl hend hgn hpl k4 hnl hB
  revert row vals gs R nl h4 tk4
  exact hCut.out⟩
@[irreducible] noncomputable def tuplD := pk7 cutD.Q rfl (by have := w_ne; have := s_ne; have := a_ne; have := g_ne; have := dr_ne; have := t_ne; infer_instance)
@[irreducible] noncomputable def row := tuplD.1
@[irreducible] noncomputable def vals := tuplD.2.1
@[irreducible] noncomputable def gs := tuplD.2.2.1
@[irreducible] noncomputable def R := tuplD.2.2.2.1
@[irreducible] noncomputable def nl := tuplD.2.2.2.2.1
@[irreducible] noncomputable def h4 := tuplD.2.2.2.2.2.1
@[irreducible] noncomputable def tk4 := tuplD.2.2.2.2.2.2
noncomputable def QD : Prop := ap7 cutD.Q rfl row vals gs R nl h4 tk4
theorem backD (h : QD) : cutD.Q := bk7 rfl (by have := w_ne; have := s_ne; have := a_ne; have := g_ne; have := dr_ne; have := t_ne; infer_instance) (by with_unfolding_all exact h)
noncomputable def cutE : Got (QD) := ⟨_, by
  intro hCut
  w_top off
  intro zA9 zA10 zA11 zA12 zA13 TP zA14 zA15 zA16 zA19 zA32 zA33 zA36 zA38 zA40 zA49 zA50 zA51 zA52 zA53 zA55 zA64 zA68 zA72 zA75 zA84 zA85 zA88 zA92 zA95 hqk hek f4 hfx f2 f3 f5 f6 f7 f8 f9 f10 hl0 hl1 hl2 e0a e0b e1a e1b e2a e2b hft zB6 zB9 zB16 zB23 hW hW2 z1 F3 N3 KX hIr hrow hIv hvals hlr hlv hgs hgl hend hgn hpl k4 hnl hB
  revert KX
  k_fill
  intro KX
  obtain ⟨nv, nda, ndv, c0, tu, nr, m1, m2, m3, m4⟩ := hB
  obtain ⟨rest, N4, q1, _, q3, r5, r4⟩ := regroup (pre := [_, _, _, _, _, _, _]) (rest := []) F3 N3 k4 hnl (by k_all) (by k_all) (by simp) (by simp)
  have F4 := F3.keeps k4
  have mrow := q1 _ (.tail _ (.tail _ (.tail _ (.tail _ (.tail _ (.tail _ (.head _)))))))
  have mvals := q1 _ (.tail _ (.tail _ (.tail _ (.tail _ (.tail _ (.head _))))))
  have mplan := q1 _ (.head _)
  have hplH : ∀ h, Held rest h → PlanAt h _ gs := fun h H => by
    have := (plan3 (h := h) (g0 := g0) (g1 := g1) (g2 := g2) (Held.tup H (q1 _ (.tail _ (.tail _ (.tail _ (.tail _ (.head _))))))) (Held.tup H (q1 _ (.tail _ (.tail _ (.head _))))) (Held.tup H (q1 _ (.tail _ (.head _)))) e0a e0b e1a e1b e2a e2b).take W
    rw [← hgs] at this
    exact this
  have mR := q3 _ m1
  have mnest := m2.mono q3
  have mnodes := q3 _ m3
  have hnds := m4.mono q3
  clear q1 q3 m1 m2 m3 m4 hnl hpl F3 N3 k4
  k_steps
  refine unpackN_ F4 N4 (Held.tup (Held.of N4).tail.tail.tail.tail.tail mR) rfl rfl rfl ?_
  intro h5 F5 N5
  clear F4 N4
  k_steps
  rename_i zE0 zE1 zE2 zE3 zE4 zE5 zE6
  clear h5 zE1 zE2
  revert zA9 zA10 zA11 zA12 zA13 TP zA14 zA15 zA16 zA19 zA32 zA33 zA36 zA38 zA40 zA49 zA50 zA51 zA52 zA53 zA55 zA64 zA68 zA72 zA75 zA84 zA85 zA88 zA92 zA95 hqk hek f4 hfx f2 f3 f5 f6 f7 f8 f9 f10 hl0 hl1 hl2 e0a e0b e1a e1b e2a e2b hft zB6 zB9 zB16 zB23 hW hW2 z1 hIr hrow hIv hvals hlr hlv hgs hgl hend hgn KX zE0 r5 r4 mrow mvals mplan hplH mR mnest mnodes hnds zE4 zE5
  revert nv nda ndv c0 tu nr rest zE3 zE6
  exact hCut.out⟩
@[irreducible] noncomputable def tuplE := pk9 cutE.Q rfl (by have := w_ne; have := s_ne; have := a_ne; have := g_ne; have := dr_ne; have := t_ne; infer_instance)
@[irreducible] noncomputable def nv := tuplE.1
@[irreducible] noncomputable def nda := tuplE.2.1
@[irreducible] noncomputable def ndv := tuplE.2.2.1
@[irreducible] noncomputable def c0 := tuplE.2.2.2.1
@[irreducible] noncomputable def tu := tuplE.2.2.2.2.1
@[irreducible] noncomputable def nr := tuplE.2.2.2.2.2.1
@[irreducible] noncomputable def rest := tuplE.2.2.2.2.2.2.1
@[irreducible] noncomputable def zE3 := tuplE.2.2.2.2.2.2.2.1
@[irreducible] noncomputable def zE6 := tuplE.2.2.2.2.2.2.2.2
noncomputable def QE : Prop := ap9 cutE.Q rfl nv nda ndv c0 tu nr rest zE3 zE6
theorem backE (h : QE) : cutE.Q := bk9 rfl (by have := w_ne; have := s_ne; have := a_ne; have := g_ne; have := dr_ne; have := t_ne; infer_instance) (by with_unfolding_all exact h)
noncomputable def cutF : Got (QE) := ⟨_, by
  intro hCut
  w_top off
  intro zA9 zA10 zA11 zA12 zA13 TP zA14 zA15 zA16 zA19 zA32 zA33 zA36 zA38 zA40 zA49 zA50 zA51 zA52 zA53 zA55 zA64 zA68 zA72 zA75 zA84 zA85 zA88 zA92 zA95 hqk hek f4 hfx f2 f3 f5 f6 f7 f8 f9 f10 hl0 hl1 hl2 e0a e0b e1a e1b e2a e2b hft zB6 zB9 zB16 zB23 hW hW2 z1 hIr hrow hIv hvals hlr hlv hgs hgl hend hgn KX zE0 r5 r4 mrow mvals mplan hplH mR mnest mnodes hnds zE4 zE5
  revert KX
  k_fill
  intro KX
  (rename Fr _ _ _ _ => F6)
  (rename News _ _ _ _ => N6)
  have hmk : gs.map (fun g => oneZ g.dp) = [oneZ g0.dp, oneZ g1.dp, oneZ g2.dp].take W := by rw [hgs, List.map_take]; rfl
  have him : IntsAre ([Value.int (oneZ g0.dp) t0, Value.int (oneZ g1.dp) t1, Value.int (oneZ g2.dp) t2].take W) (gs.map fun g => oneZ g.dp) := by rw [hmk]; exact ints_take (.cons _ _ (.cons _ _ (.cons _ _ .nil))) W
  have hml : 0 < (gs.map fun g => oneZ g.dp).length := by rw [List.length_map]; omega
  refine slice_tup_upto (a := W) F6 N6 (Fr.tup F6 hft) hW (by simp) ?_
  intro M1 h7 F7 N7 htm
  clear F6 N6
  k_steps
  refine max_tup rfl F7 N7 htm him hml ?_
  intro h8 most tm tk8 F8 N8 hmo1 hmo2
  clear F7 N7 htm
  have hneed := need_is hmo1 hmo2
  k_steps
  rename_i zF0 zF1 zF2 zF3 zF4 zF5 zF6 zF7
  clear M1 h7 h8 tk8 zF3
  revert zA9 zA10 zA11 zA12 zA13 TP zA14 zA15 zA16 zA19 zA32 zA33 zA36 zA38 zA40 zA49 zA50 zA51 zA52 zA53 zA55 zA64 zA68 zA72 zA75 zA84 zA85 zA88 zA92 zA95 hqk hek f4 hfx f2 f3 f5 f6 f7 f8 f9 f10 hl0 hl1 hl2 e0a e0b e1a e1b e2a e2b hft zB6 zB9 zB16 zB23 hW hW2 z1 hIr hrow hIv hvals hlr hlv hgs hgl hend hgn zE0 r5 r4 mrow mvals mplan hplH mR mnest mnodes hnds KX hmk him hml hmo1 hmo2 hneed zF5 zF6
  revert most tm zF0 tk zF1 zF2 zF4 zF7
  exact hCut.out⟩
@[irreducible] noncomputable def tuplF := pk8 cutF.Q rfl (by have := w_ne; have := s_ne; have := a_ne; have := g_ne; have := dr_ne; have := t_ne; infer_instance)
@[irreducible] noncomputable def most := tuplF.1
@[irreducible] noncomputable def tm := tuplF.2.1
@[irreducible] noncomputable def zF0 := tuplF.2.2.1
@[irreducible] noncomputable def tkF := tuplF.2.2.2.1
@[irreducible] noncomputable def zF1 := tuplF.2.2.2.2.1
@[irreducible] noncomputable def zF2 := tuplF.2.2.2.2.2.1
@[irreducible] noncomputable def zF4 := tuplF.2.2.2.2.2.2.1
@[irreducible] noncomputable def zF7 := tuplF.2.2.2.2.2.2.2
noncomputable def QF : Prop := ap8 cutF.Q rfl most tm zF0 tkF zF1 zF2 zF4 zF7
theorem backF (h : QF) : cutF.Q := bk8 rfl (by have := w_ne; have := s_ne; have := a_ne; have := g_ne; have := dr_ne; have := t_ne; infer_instance) (by with_unfolding_all exact h)
noncomputable def cutG : Got (QF) := ⟨_, by
  intro hCut
  w_top off
  intro zA9 zA10 zA11 zA12 zA13 TP zA14 zA15 zA16 zA19 zA32 zA33 zA36 zA38 zA40 zA49 zA50 zA51 zA52 zA53 zA55 zA64 zA68 zA72 zA75 zA84 zA85 zA88 zA92 zA95 hqk hek f4 hfx f2 f3 f5 f6 f7 f8 f9 f10 hl0 hl1 hl2 e0a e0b e1a e1b e2a e2b hft zB6 zB9 zB16 zB23 hW hW2 z1 hIr hrow hIv hvals hlr hlv hgs hgl hend hgn zE0 r5 r4 mrow mvals mplan hplH mR mnest mnodes hnds KX hmk him hml hmo1 hmo2 hneed zF5 zF6
  revert KX
  k_fill
  intro KX
  (rename Fr _ _ _ _ => F9)
  (rename News _ _ _ _ => N9)
  have hnl9 : ndv.length ≤ 9 := by rw [hnds.length]; have := nodesL_len gs 0; omega
  refine comp_sizes (nl := rest) rfl (Held.list (Held.of N9).tail.tail.tail.tail.tail mnodes) hnds (Held.of N9).tail.tail.tail.tail.tail F9 N9 (by omega) ?_ ?_
  · intro C v s₃ m₃ E' hv hn hm hH
    obtain ⟨x, hx0⟩ := hv
    obtain ⟨xa, xn, y1, y2, y3, y4, rfl, hx⟩ := id hx0
    have ht := Held.tup hH hx
    clear F9 N9
    k_steps
    exact ⟨fun x' hx' => ⟨_, by rw [(NdIn.same hH hx0 hx').2.2.2]⟩, _, _, rfl, fun _ _ e => e⟩
  intro D szs n10 h10 tk10 F10 N10 z10 hsz
  have hszl : szs.length ≤ 9 := by rw [hsz.length, List.length_map, ← hnds.length]; exact hnl9
  have hsz0 : 0 < (List.map (fun x : Nd => (x.n : Int)) (nodesL gs 0)).length := by
    rw [List.length_map]
    exact nodes_pos hgn
  clear F9 N9
  k_steps
  (rename Fr _ _ _ _ => F11)
  (rename News _ _ _ _ => N11)
  refine cat_lists (vs := szs) (ws := [Value.int _ _]) F11 N11 (News.isList N11 (.tail _ (.head _))) (News.isList N11 (.head _)) (by simp; omega) ?_
  intro D2 h12 F12 N12 z12
  k_lt z12
  clear F11 N11
  k_steps
  refine max_list_N rfl F12 N12 (News.isList N12 (.head _)) (snoc hsz rfl) (by simp) ?_
  intro h13 mxs tx tk13 F13 N13 hmx1 hmx2
  clear F12 N12
  k_steps
  rename_i zG0 zG1 zG2 zG3 zG4 zG5 zG6 zG7 zG8 zG9
  clear tk10 zG0 zG1 zG4 tx
  revert zA9 zA10 zA11 zA12 zA13 TP zA14 zA15 zA16 zA19 zA32 zA33 zA36 zA38 zA40 zA49 zA50 zA51 zA52 zA53 zA55 zA64 zA68 zA72 zA75 zA84 zA85 zA88 zA92 zA95 hqk hek f4 hfx f2 f3 f5 f6 f7 f8 f9 f10 hl0 hl1 hl2 e0a e0b e1a e1b e2a e2b hft zB6 zB9 zB16 zB23 hW hW2 z1 hIr hrow hIv hvals hlr hlv hgs hgl hend hgn zE0 r5 r4 mrow mvals mplan hplH mR mnest mnodes hnds hmk him hml hmo1 hmo2 hneed KX hnl9 F10 N10 z10 hsz hszl hsz0 zG5 z12 hmx1 hmx2 zG7 zG8
  revert D szs n10 h10 zG2 zG3 D2 h12 h13 mxs tk13 zG6 zG9
  exact hCut.out⟩
@[irreducible] noncomputable def tuplG := pk13 cutG.Q rfl (by have := w_ne; have := s_ne; have := a_ne; have := g_ne; have := dr_ne; have := t_ne; infer_instance)
@[irreducible] noncomputable def D := tuplG.1
@[irreducible] noncomputable def szs := tuplG.2.1
@[irreducible] noncomputable def n10 := tuplG.2.2.1
@[irreducible] noncomputable def h10 := tuplG.2.2.2.1
@[irreducible] noncomputable def zG2 := tuplG.2.2.2.2.1
@[irreducible] noncomputable def zG3 := tuplG.2.2.2.2.2.1
@[irreducible] noncomputable def D2 := tuplG.2.2.2.2.2.2.1
@[irreducible] noncomputable def h12 := tuplG.2.2.2.2.2.2.2.1
@[irreducible] noncomputable def h13 := tuplG.2.2.2.2.2.2.2.2.1
@[irreducible] noncomputable def mxs := tuplG.2.2.2.2.2.2.2.2.2.1
@[irreducible] noncomputable def tk13 := tuplG.2.2.2.2.2.2.2.2.2.2.1
@[irreducible] noncomputable def zG6 := tuplG.2.2.2.2.2.2.2.2.2.2.2.1
@[irreducible] noncomputable def zG9 := tuplG.2.2.2.2.2.2.2.2.2.2.2.2
noncomputable def QG : Prop := ap13 cutG.Q rfl D szs n10 h10 zG2 zG3 D2 h12 h13 mxs tk13 zG6 zG9
theorem backG (h : QG) : cutG.Q := bk13 rfl (by have := w_ne; have := s_ne; have := a_ne; have := g_ne; have := dr_ne; have := t_ne; infer_instance) (by with_unfolding_all exact h)
noncomputable def cutH : Got (QG) := ⟨_, by
  intro hCut
  w_top off
  intro zA9 zA10 zA11 zA12 zA13 TP zA14 zA15 zA16 zA19 zA32 zA33 zA36 zA38 zA40 zA49 zA50 zA51 zA52 zA53 zA55 zA64 zA68 zA72 zA75 zA84 zA85 zA88 zA92 zA95 hqk hek f4 hfx f2 f3 f5 f6 f7 f8 f9 f10 hl0 hl1 hl2 e0a e0b e1a e1b e2a e2b hft zB6 zB9 zB16 zB23 hW hW2 z1 hIr hrow hIv hvals hlr hlv hgs hgl hend hgn zE0 r5 r4 mrow mvals mplan hplH mR mnest mnodes hnds hmk him hml hmo1 hmo2 hneed KX hnl9 F10 N10 z10 hsz hszl hsz0 zG5 z12 hmx1 hmx2 zG7 zG8
  revert KX
  k_fill
  intro KX
  (rename Fr _ _ _ _ => F14)
  (rename News _ _ _ _ => N14)
  obtain ⟨top, htop⟩ : ∃ top, top = ((ns.getD (Int.toNat 12) 0).fmod 2 == 0) := ⟨_, rfl⟩
  rw [← htop] at F14
  refine cutMin F14 N14 (List.map (fun x : Nd => (x.n : Int)) (nodesL gs 0) ++ (if top then [] else [((gs.length - 1 : Nat) : Int)])) ?_ ?_
  · refine IfExp_ ?_
    k_steps
    · (rename top = true => ht)
      refine min_list_N rfl F14 N14 (News.isList N14 (.tail _ (.tail _ (.head _)))) hsz hsz0 ?_
      intro h15 g tg tk15 F15 N15 q1 q2
      clear F14 N14
      k_steps
      exact ⟨g, _, _, _, rfl, rfl, F15, N15, by simpa [ht] using q1, by simpa [ht] using q2⟩
    · (rename top = false => ht)
      (rename Fr _ _ _ _ => F15)
      (rename News _ _ _ _ => N15)
      refine cat_lists (vs := szs) (ws := [Value.int _ _]) F15 N15 (News.isList N15 (.tail _ (.tail _ (.tail _ (.head _))))) (News.isList N15 (.head _)) (by simp; omega) ?_
      intro D3 h16 F16 N16 z16
      clear F15 N15
      k_steps
      refine min_list_N rfl F16 N16 (News.isList N16 (.head _)) (snoc hsz (show 2 + (ns.getD (Int.toNat 2) 0).fmod 2 - 1 = ((gs.length - 1 : Nat) : Int) by omega)) (by simp) ?_
      intro h17 g tg tk17 F17 N17 q1 q2
      clear F16 N16
      k_steps
      exact ⟨g, _, _, _, rfl, rfl, F17, fun p hp => N17 p (.tail _ (.tail _ hp)), by simpa [ht] using q1, by simpa [ht] using q2⟩
  intro great tg h15 tk15 F15 N15 hgr1 hgr2
  clear F14 N14
  k_steps
  rename_i zH0 zH1 zH2 zH3 zH4 zH5 zH6 zH7 zH8
  clear h15 zH1 zH4
  revert zA9 zA10 zA11 zA12 zA13 TP zA14 zA15 zA16 zA19 zA32 zA33 zA36 zA38 zA40 zA49 zA50 zA51 zA52 zA53 zA55 zA64 zA68 zA72 zA75 zA84 zA85 zA88 zA92 zA95 hqk hek f4 hfx f2 f3 f5 f6 f7 f8 f9 f10 hl0 hl1 hl2 e0a e0b e1a e1b e2a e2b hft zB6 zB9 zB16 zB23 hW hW2 z1 hIr hrow hIv hvals hlr hlv hgs hgl hend hgn zE0 r5 r4 mrow mvals mplan hplH mR mnest mnodes hnds hmk him hml hmo1 hmo2 hneed hnl9 F10 N10 z10 hsz hszl hsz0 zG5 z12 hmx1 hmx2 KX htop hgr1 hgr2 zH6 zH7
  revert top great tg tk15 zH0 zH2 zH3 zH5 zH8
  exact hCut.out⟩
@[irreducible] noncomputable def tuplH := pk9 cutH.Q rfl (by have := w_ne; have := s_ne; have := a_ne; have := g_ne; have := dr_ne; have := t_ne; infer_instance)
@[irreducible] noncomputable def top := tuplH.1
@[irreducible] noncomputable def great := tuplH.2.1
@[irreducible] noncomputable def tg := tuplH.2.2.1
@[irreducible] noncomputable def tk15 := tuplH.2.2.2.1
@[irreducible] noncomputable def zH0 := tuplH.2.2.2.2.1
@[irreducible] noncomputable def zH2 := tuplH.2.2.2.2.2.1
@[irreducible] noncomputable def zH3 := tuplH.2.2.2.2.2.2.1
@[irreducible] noncomputable def zH5 := tuplH.2.2.2.2.2.2.2.1
@[irreducible] noncomputable def zH8 := tuplH.2.2.2.2.2.2.2.2
noncomputable def QH : Prop := ap9 cutH.Q rfl top great tg tk15 zH0 zH2 zH3 zH5 zH8
theorem backH (h : QH) : cutH.Q := bk9 rfl (by have := w_ne; have := s_ne; have := a_ne; have := g_ne; have := dr_ne; have := t_ne; infer_instance) (by with_unfolding_all exact h)
noncomputable def cutI : Got (QH) := ⟨_, by
  intro hCut
  w_top off
  intro zA9 zA10 zA11 zA12 zA13 TP zA14 zA15 zA16 zA19 zA32 zA33 zA36 zA38 zA40 zA49 zA50 zA51 zA52 zA53 zA55 zA64 zA68 zA72 zA75 zA84 zA85 zA88 zA92 zA95 hqk hek f4 hfx f2 f3 f5 f6 f7 f8 f9 f10 hl0 hl1 hl2 e0a e0b e1a e1b e2a e2b hft zB6 zB9 zB16 zB23 hW hW2 z1 hIr hrow hIv hvals hlr hlv hgs hgl hend hgn zE0 r5 r4 mrow mvals mplan hplH mR mnest mnodes hnds hmk him hml hmo1 hmo2 hneed hnl9 F10 N10 z10 hsz hszl hsz0 zG5 z12 hmx1 hmx2 KX htop hgr1 hgr2 zH6 zH7
  revert KX
  k_fill
  intro KX
  (rename Fr _ _ _ _ => F16)
  (rename News _ _ _ _ => N16)
  have f13 := fm (a := ns.getD (Int.toNat 13) 0) (n := 8) (by decide)
  have f14 := fm (a := ns.getD (Int.toNat 14) 0) (n := 2 + (ns.getD (Int.toNat 2) 0).fmod 2) (by omega)
  obtain ⟨mode, hmode⟩ : ∃ k : Nat, (ns.getD (Int.toNat 13) 0).fmod 8 = (k : Int) := ⟨_, (Int.toNat_of_nonneg f13.1).symm⟩
  obtain ⟨place, hplace⟩ : ∃ k : Nat, (ns.getD (Int.toNat 14) 0).fmod (2 + (ns.getD (Int.toNat 2) 0).fmod 2) = (k : Int) := ⟨_, (Int.toNat_of_nonneg f14.1).symm⟩
  have hpg : place < gs.length := by omega
  rw [hmode, hplace] at F16 ⊢
  refine hurt_spec (nestT row vals gs) mode place nv rest _ _ _ _ _ _ (KX.keeps F16.keep) (TP.keeps F16.keep) rfl (by k_room) (Held.of N16).tail.tail.tail.tail.tail.tail.tail.tail mnest (sm_nest hlr hlv (by omega) 2) (fun ks vs cs e => by cases e; rw [kidsL_length]; exact hpg) ?_
  intro hv hnl h17 tk17 k17 hfr hT
  obtain ⟨rest2, N17, _, q2, q3, r5', r4'⟩ := regroup (pre := [_, _, _]) F16 N16 k17 hfr (by
    intro p hp
    simp only [List.mem_cons, List.not_mem_nil, or_false] at hp
    rcases hp with rfl | rfl | rfl
    · k_ne
    · k_ne
    · exact fun e => z10 _ (.head _) e.symm) (by
    intro p hp
    simp only [List.mem_cons, List.not_mem_nil, or_false] at hp
    rcases hp with rfl | rfl | rfl
    · k_ne
    · k_ne
    · exact fun e => z10 _ (.tail _ (.head _)) e.symm) r5 r4
  have F17 := F16.keeps k17
  have mhurt : TIn rest2 hv (hurtT (nestT row vals gs) mode place) := hT.mono fun p hp => (List.mem_append.mp hp).elim (q2 p) (q3 p)
  replace mrow := q2 _ mrow
  replace mvals := q2 _ mvals
  replace mplan := q2 _ mplan
  replace hplH : ∀ h, Held rest2 h → PlanAt h _ gs := fun h H => hplH h fun p hp => H p (q2 p hp)
  replace mnest := mnest.mono q2
  replace mnodes := q2 _ mnodes
  replace hnds := hnds.mono q2
  clear mR r5 r4 q2 q3 hT hfr k17 F16 N16
  k_steps
  rename_i zI0 zI1 zI2 zI3
  clear hnl h17 tk17
  revert zA9 zA10 zA11 zA12 zA13 TP zA14 zA15 zA16 zA19 zA32 zA33 zA36 zA38 zA40 zA49 zA50 zA51 zA52 zA53 zA55 zA64 zA68 zA72 zA75 zA84 zA85 zA88 zA92 zA95 hqk hek f4 hfx f2 f3 f5 f6 f7 f8 f9 f10 hl0 hl1 hl2 e0a e0b e1a e1b e2a e2b hft zB6 zB9 zB16 zB23 hW hW2 z1 hIr hrow hIv hvals hlr hlv hgs hgl hend hgn zE0 hmk him hml hmo1 hmo2 hneed hnl9 F10 N10 z10 hsz hszl hsz0 zG5 z12 hmx1 hmx2 htop hgr1 hgr2 KX f13 f14 hmode hplace hpg zI0 r5' r4' mhurt mrow mvals mplan hplH mnest mnodes hnds zI2 zI3
  revert mode place hv rest2 zI1 tk
  exact hCut.out⟩
@[irreducible] noncomputable def tuplI := pk6 cutI.Q rfl (by have := w_ne; have := s_ne; have := a_ne; have := g_ne; have := dr_ne; have := t_ne; infer_instance)
@[irreducible] noncomputable def mode := tuplI.1
@[irreducible] noncomputable def place := tuplI.2.1
@[irreducible] noncomputable def hv := tuplI.2.2.1
@[irreducible] noncomputable def rest2 := tuplI.2.2.2.1
@[irreducible] noncomputable def zI1 := tuplI.2.2.2.2.1
@[irreducible] noncomputable def tkI := tuplI.2.2.2.2.2
noncomputable def QI : Prop := ap6 cutI.Q rfl mode place hv rest2 zI1 tkI
theorem backI (h : QI) : cutI.Q := bk6 rfl (by have := w_ne; have := s_ne; have := a_ne; have := g_ne; have := dr_ne; have := t_ne; infer_instance) (by with_unfolding_all exact h)
noncomputable def cutJ : Got (QI) := ⟨_, by
  intro hCut
  w_top off
  intro zA9 zA10 zA11 zA12 zA13 TP zA14 zA15 zA16 zA19 zA32 zA33 zA36 zA38 zA40 zA49 zA50 zA51 zA52 zA53 zA55 zA64 zA68 zA72 zA75 zA84 zA85 zA88 zA92 zA95 hqk hek f4 hfx f2 f3 f5 f6 f7 f8 f9 f10 hl0 hl1 hl2 e0a e0b e1a e1b e2a e2b hft zB6 zB9 zB16 zB23 hW hW2 z1 hIr hrow hIv hvals hlr hlv hgs hgl hend hgn zE0 hmk him hml hmo1 hmo2 hneed hnl9 F10 N10 z10 hsz hszl hsz0 zG5 z12 hmx1 hmx2 htop hgr1 hgr2 KX f13 f14 hmode hplace hpg zI0 r5' r4' mhurt mrow mvals mplan hplH mnest mnodes hnds zI2 zI3
  revert KX
  k_fill
  intro KX
  (rename Fr _ _ _ _ => F18)
  (rename News _ _ _ _ => N18)
  have K1 : Below callerA s₁.heap [] s₁.heap := below_caller _
  have f11 := fm (a := ns.getD (Int.toNat 11) 0) (n := 6) (by decide)
  obtain ⟨dep, hdep⟩ : ∃ k : Nat, (ns.getD (Int.toNat 11) 0).fmod 6 = (k : Int) := ⟨_, (Int.toNat_of_nonneg f11.1).symm⟩
  have hd5 : dep ≤ 5 := by omega
  have hge : decide ((dep : Int) ≥ ((needN gs : Nat) : Int)) = decide (needN gs ≤ dep) := by rw [decide_eq_decide]; omega
  have hu1 : 1 ≤ usedN gs := used_pos (by omega)
  have hu0 : ((usedN gs : Nat) : Int) ≠ 0 := by omega
  rw [hdep, hneed] at F18
  refine For_hold s₁.heap rfl rfl ?_ (hE := by rw [hek]; passes_own)
  k_steps
  (rename Fr _ _ _ _ => F19)
  (rename News _ _ _ _ => N19)
  refine iterRS (n := 5) [Str.ofString "want"] (fun _ => True) rfl (by assumption) rfl rfl F19 N19 trivial ?_ ?_
  · intro i tt u h20 tk20 I oI hi _ hn F20 N20
    k_fold
    clear F19 N19
    replace F20 : Fr s₁.heap s₁.heap.objs.size h20 _ := F20
    replace N20 : News s₁.heap s₁.heap.objs.size h20 _ := N20
    k_steps
    have hfd : (mxs + 2).fdiv 2 = (mxs + 2) / 2 := Int.fdiv_eq_ediv_of_nonneg _ (by omega)
    refine cutVal (fun v => v = .bool (decide ((mxs + 2) / 2 ≤ 2 + (i : Int)) && decide (2 + (i : Int) ≤ great + 1) && decide (mode > 3))) F20 N20 ?_ ?_
    · refine BoolOp_and ?_
      k_steps
      · refine BoolOp_and ?_
        k_steps
        · refine BoolOp_one ?_
          k_steps
          exact ⟨_, _, by (congr 1; rw [Bool.eq_iff_iff]; simp only [Bool.and_eq_true, decide_eq_true_eq, Bool.false_eq_true, false_iff]; omega), rfl, by assumption, by assumption⟩
        · exact ⟨_, _, by (congr 1; rw [Bool.eq_iff_iff]; simp only [Bool.and_eq_true, decide_eq_true_eq, Bool.false_eq_true, false_iff]; omega), rfl, by assumption, by assumption⟩
      · exact ⟨_, _, by (congr 1; rw [Bool.eq_iff_iff]; simp only [Bool.and_eq_true, decide_eq_true_eq, Bool.false_eq_true, false_iff]; omega), rfl, by assumption, by assumption⟩
    rintro v h21 tk21 rfl F21 N21
    clear F20 N20
    k_steps
    (rename Fr _ _ _ _ => F22)
    (rename News _ _ _ _ => N22)
    have hlaw : ∀ d, d = dep → fits (shapeOk d (hurtT (nestT row vals gs) mode place) (2 + (i : Int)) top) (decide ((mxs + 2) / 2 ≤ 2 + (i : Int)) && decide (2 + (i : Int) ≤ great + 1) && decide (mode > 3)) false (decide ((dep : Int) ≥ ((needN gs : Nat) : Int))) = true := by
      rintro d rfl
      rw [hge]
      exact shape_law (by omega) hpg (by omega) (by omega) (by simpa [show ((gs.length - 1 : Nat) : Int) = 2 + (ns.getD (Int.toNat 2) 0).fmod 2 - 1 by omega] using hmx2) (by simpa [show ((gs.length - 1 : Nat) : Int) = 2 + (ns.getD (Int.toNat 2) 0).fmod 2 - 1 by omega] using hmx1) hgr2 hgr1
    replace hlaw := hlaw dep rfl
    refine wshape_spec dep (hurtT (nestT row vals gs) mode place) (2 + (i : Int)) top hv _ _ _ s₁.heap _ _ _ _ (pushX K1 F22 rfl rfl) (dicts_of F22 rfl) KX TP rfl (room_d hd5) (room_u hd5) (mhurt.at (Held.of N22).tail.tail.tail.tail.tail.tail) (sm_hurt hlr hlv (by omega) hpg dep) ?_ ?_
    · intro b h23 tk23 hb tr
      rw [hb] at hlaw
      have F23 := tr.fr F22 rfl
      have N23 := tr.news N22 rfl
      clear F22 N22
      replace F23 : Fr s₁.heap s₁.heap.objs.size h23 _ := F23
      replace N23 : News s₁.heap s₁.heap.objs.size h23 _ := N23
      k_steps
      refine fitsB_spec (some b) _ _ 0 _ _ _ _ (KX.keeps F23.keep) (TP.keeps F23.keep) rfl (by k_room) ?_
      intro h24 tk24 k24
      rw [hlaw]
      have F24 := F23.keeps k24
      have N24 := News.kept N23 k24
      clear F23 N23
      k_steps
      exact turnEnd hn F24 N24 (fun p hp => hp) (fun z h1 h2 => by simp at h2; simp [h1, h2]) trivial
    · intro tk0 h23 tk23 hb tr
      rw [hb] at hlaw
      have F23 := tr.fr F22 rfl
      have N23 := tr.news N22 rfl
      clear F22 N22
      replace F23 : Fr s₁.heap s₁.heap.objs.size h23 _ := F23
      replace N23 : News s₁.heap s₁.heap.objs.size h23 _ := N23
      k_steps
      refine fitsB_spec none _ _ tk0 _ _ _ _ (KX.keeps F23.keep) (TP.keeps F23.keep) rfl (by k_room) ?_
      intro h24 tk24 k24
      rw [hlaw]
      have F24 := F23.keeps k24
      have N24 := News.kept N23 k24
      clear F23 N23
      k_steps
      exact turnEnd hn F24 N24 (fun p hp => hp) (fun z h1 h2 => by simp at h2; simp [h1, h2]) trivial
  intro u h20 tk20 _ F20 N20
  clear F19 N19
  replace F20 : Fr s₁.heap s₁.heap.objs.size h20 _ := F20
  replace N20 : News s₁.heap s₁.heap.objs.size h20 _ := N20
  k_steps
  rename_i zJ0 zJ1 zJ2 zJ3 zJ4 zJ5 zJ6 zJ7 zJ8 zJ9 zJ10 zJ11 zJ12
  clear zJ1 zJ6 zJ7 zJ8
  revert zA9 zA10 zA11 zA12 zA13 TP zA14 zA15 zA16 zA19 zA32 zA33 zA36 zA38 zA40 zA49 zA50 zA51 zA52 zA53 zA55 zA64 zA68 zA72 zA75 zA84 zA85 zA88 zA92 zA95 hqk hek f4 hfx f2 f3 f5 f6 f7 f8 f9 f10 hl0 hl1 hl2 e0a e0b e1a e1b e2a e2b hft zB6 zB9 zB16 zB23 hW hW2 z1 hIr hrow hIv hvals hlr hlv hgs hgl hend hgn zE0 hmk him hml hmo1 hmo2 hneed hnl9 F10 N10 z10 hsz hszl hsz0 zG5 z12 hmx1 hmx2 htop hgr1 hgr2 f13 f14 hmode hplace hpg zI0 r5' r4' mhurt mrow mvals mplan hplH mnest mnodes hnds KX K1 f11 hdep hd5 hge hu1 hu0 zJ5 zJ10 zJ11
  revert dep zJ0 zJ2 zJ3 zJ4 u h20 tk20 zJ9 zJ12
  exact hCut.out⟩
@[irreducible] noncomputable def tuplJ := pk10 cutJ.Q rfl (by have := w_ne; have := s_ne; have := a_ne; have := g_ne; have := dr_ne; have := t_ne; infer_instance)
@[irreducible] noncomputable def dep := tuplJ.1
@[irreducible] noncomputable def zJ0 := tuplJ.2.1
@[irreducible] noncomputable def zJ2 := tuplJ.2.2.1
@[irreducible] noncomputable def zJ3 := tuplJ.2.2.2.1
@[irreducible] noncomputable def zJ4 := tuplJ.2.2.2.2.1
@[irreducible] noncomputable def u := tuplJ.2.2.2.2.2.1
@[irreducible] noncomputable def h20 := tuplJ.2.2.2.2.2.2.1
@[irreducible] noncomputable def tk20 := tuplJ.2.2.2.2.2.2.2.1
@[irreducible] noncomputable def zJ9 := tuplJ.2.2.2.2.2.2.2.2.1
@[irreducible] noncomputable def zJ12 := tuplJ.2.2.2.2.2.2.2.2.2
noncomputable def QJ : Prop := ap10 cutJ.Q rfl dep zJ0 zJ2 zJ3 zJ4 u h20 tk20 zJ9 zJ12
theorem backJ (h : QJ) : cutJ.Q := bk10 rfl (by have := w_ne; have := s_ne; have := a_ne; have := g_ne; have := dr_ne; have := t_ne; infer_instance) (by with_unfolding_all exact h)
noncomputable def cutK : Got (QJ) := ⟨_, by
  intro hCut
  w_top off
  intro zA9 zA10 zA11 zA12 zA13 TP zA14 zA15 zA16 zA19 zA32 zA33 zA36 zA38 zA40 zA49 zA50 zA51 zA52 zA53 zA55 zA64 zA68 zA72 zA75 zA84 zA85 zA88 zA92 zA95 hqk hek f4 hfx f2 f3 f5 f6 f7 f8 f9 f10 hl0 hl1 hl2 e0a e0b e1a e1b e2a e2b hft zB6 zB9 zB16 zB23 hW hW2 z1 hIr hrow hIv hvals hlr hlv hgs hgl hend hgn zE0 hmk him hml hmo1 hmo2 hneed hnl9 F10 N10 z10 hsz hszl hsz0 zG5 z12 hmx1 hmx2 htop hgr1 hgr2 f13 f14 hmode hplace hpg zI0 r5' r4' mhurt mrow mvals mplan hplH mnest mnodes hnds KX K1 f11 hdep hd5 hge hu1 hu0 zJ5 zJ10 zJ11
  revert KX
  k_fill
  intro KX
  (rename Fr _ _ _ _ => F30)
  (rename News _ _ _ _ => N30)
  have f15 := fm (a := ns.getD (Int.toNat 15) 0) (n := ((usedN gs : Nat) : Int)) (by omega)
  obtain ⟨hit, hhit⟩ : ∃ k : Nat, (ns.getD (Int.toNat 15) 0).fmod ((usedN gs : Nat) : Int) = (k : Int) := ⟨_, (Int.toNat_of_nonneg f15.1).symm⟩
  have hhu : hit < usedN gs := by omega
  have hue : usedN gs + 1 = endL gs 0 := by have := endL_pos hgn; unfold usedN; omega
  rw [hhit] at F30
  refine slice_upto hit F30 N30 (Held.list (Held.of N30).tail.tail.tail.tail.tail mrow) hIr hhit (by omega) ?_
  intro B1 w1 h31 F31 N31 z31 i31
  k_lt z31
  clear F30 N30
  k_steps
  revert zA9 zA10 zA11 zA12 zA13 TP zA14 zA15 zA16 zA19 zA32 zA33 zA36 zA38 zA40 zA49 zA50 zA51 zA52 zA53 zA55 zA64 zA68 zA72 zA75 zA84 zA85 zA88 zA92 zA95 hqk hek f4 hfx f2 f3 f5 f6 f7 f8 f9 f10 hl0 hl1 hl2 e0a e0b e1a e1b e2a e2b hft zB6 zB9 zB16 zB23 hW hW2 z1 hIr hrow hIv hvals hlr hlv hgs hgl hend hgn zE0 hmk him hml hmo1 hmo2 hneed hnl9 F10 N10 z10 hsz hszl hsz0 zG5 z12 hmx1 hmx2 htop hgr1 hgr2 f13 f14 hmode hplace hpg zI0 r5' r4' mhurt mrow mvals mplan hplH mnest mnodes hnds K1 f11 hdep hd5 hge hu1 hu0 zJ5 KX f15 hhit hhu hue F31 N31 i31 z31
  revert hit B1 w1 h31
  exact hCut.out⟩
@[irreducible] noncomputable def tuplK := pk4 cutK.Q rfl (by have := w_ne; have := s_ne; have := a_ne; have := g_ne; have := dr_ne; have := t_ne; infer_instance)
@[irreducible] noncomputable def hit := tuplK.1
@[irreducible] noncomputable def B1 := tuplK.2.1
@[irreducible] noncomputable def w1 := tuplK.2.2.1
@[irreducible] noncomputable def h31 := tuplK.2.2.2
noncomputable def QK : Prop := ap4 cutK.Q rfl hit B1 w1 h31
theorem backK (h : QK) : cutK.Q := bk4 rfl (by have := w_ne; have := s_ne; have := a_ne; have := g_ne; have := dr_ne; have := t_ne; infer_instance) (by with_unfolding_all exact h)
noncomputable def cutL : Got (QK) := ⟨_, by
  intro hCut
  w_top off
  intro zA9 zA10 zA11 zA12 zA13 TP zA14 zA15 zA16 zA19 zA32 zA33 zA36 zA38 zA40 zA49 zA50 zA51 zA52 zA53 zA55 zA64 zA68 zA72 zA75 zA84 zA85 zA88 zA92 zA95 hqk hek f4 hfx f2 f3 f5 f6 f7 f8 f9 f10 hl0 hl1 hl2 e0a e0b e1a e1b e2a e2b hft zB6 zB9 zB16 zB23 hW hW2 z1 hIr hrow hIv hvals hlr hlv hgs hgl hend hgn zE0 hmk him hml hmo1 hmo2 hneed hnl9 F10 N10 z10 hsz hszl hsz0 zG5 z12 hmx1 hmx2 htop hgr1 hgr2 f13 f14 hmode hplace hpg zI0 r5' r4' mhurt mrow mvals mplan hplH mnest mnodes hnds K1 f11 hdep hd5 hge hu1 hu0 zJ5 KX f15 hhit hhu hue F31 N31 i31 z31
  revert KX
  k_fill
  intro KX
  refine item_list_ints (Held.list (Held.of N31).tail.tail.tail.tail.tail.tail mrow) hIr (by omega) (by omega) (by omega) ?_
  intro tb
  k_steps
  (rename Fr _ _ _ _ => F32)
  (rename News _ _ _ _ => N32)
  refine cat_lists (vs := w1) (ws := [Value.int _ _]) F32 N32 (News.isList N32 (.tail _ (.head _))) (News.isList N32 (.head _)) (by rw [i31.length]; simp; omega) ?_
  intro B2 h33 F33 N33 z33
  k_lt z33
  clear F32 N32
  have i33 : ∀ t, IntsAre (w1 ++ [Value.int (row.getD (Int.toNat (hit : Int)) 0 + (ns.getD (Int.toNat 16) 0).fmod 7 - 3) t]) (row.take hit ++ [row.getD (Int.toNat (hit : Int)) 0 + (ns.getD (Int.toNat 16) 0).fmod 7 - 3]) := fun t => snoc i31 rfl
  k_steps
  refine slice_from (hit + 1) F33 N33 (Held.list (Held.of N33).tail.tail.tail.tail.tail.tail.tail.tail mrow) hIr (by omega) (by omega) ?_
  intro B3 w3 h34 F34 N34 z34 i34
  k_lt z34
  clear F33 N33
  k_steps
  refine cat_lists (ws := w3) F34 N34 (News.isList N34 (.tail _ (.head _))) (News.isList N34 (.head _)) (by rw [i34.length, List.length_append, i31.length]; simp; omega) ?_
  intro B4 h35 F35 N35 z35
  k_lt z35
  clear F34 N34
  obtain ⟨bent, hbent⟩ : ∃ bent, bent = row.take hit ++ [row.getD (Int.toNat (hit : Int)) 0 + (ns.getD (Int.toNat 16) 0).fmod 7 - 3] ++ row.drop (hit + 1) := ⟨_, rfl⟩
  have i35 : ∀ t, IntsAre (w1 ++ [Value.int (row.getD (Int.toNat (hit : Int)) 0 + (ns.getD (Int.toNat 16) 0).fmod 7 - 3) t] ++ w3) bent := fun t => by rw [hbent]; exact IntsAre.append (i33 t) i34
  have hlb : bent.length = 36 := by rw [hbent]; simp; omega
  k_steps
  (rename Fr _ _ _ _ => F36)
  (rename News _ _ _ _ => N36)
  refine build_spec bent vals gs _ _ _ _ _ _ _ _ _ _ (KX.keeps F36.keep) (TP.keeps F36.keep) rfl (by k_room) (News.isList N36 (.head _)) (i35 _) (Held.list (Held.of N36).tail.tail.tail.tail.tail.tail.tail.tail.tail.tail mvals) hIv (Held.list (Held.of N36).tail.tail.tail.tail.tail.tail.tail.tail.tail.tail mplan) (hplH _ (Held.of N36).tail.tail.tail.tail.tail.tail.tail.tail.tail.tail) hlb hlv hend hgn (by omega) ?_
  intro R2 nl2 h37 tk37 k37 hnl2 hB2
  obtain ⟨cv, cda, cdv, cc0, ctu, cnr, m1, m2, _, _⟩ := hB2
  obtain ⟨rest3, N37, p1, q2, q3, r5, r4⟩ := regroup (pre := [_, _, _, _, _]) F36 N36 k37 hnl2 (by k_all) (by k_all) r5' r4'
  have F37 := F36.keeps k37
  replace mrow := q2 _ mrow
  replace mvals := q2 _ mvals
  replace mplan := q2 _ mplan
  replace hplH : ∀ h, Held rest3 h → PlanAt h _ gs := fun h H => hplH h fun p hp => H p (q2 p hp)
  replace mnest := mnest.mono q2
  replace mnodes := q2 _ mnodes
  replace hnds := hnds.mono q2
  replace mhurt := mhurt.mono q2
  have mbent := p1 _ (.head _)
  have mcrook := m2.mono q3
  have htR := Held.tup (Held.of N37).tail.tail.tail.tail.tail (q3 _ m1)
  clear r5' r4' q2 q3 p1 m1 m2 hnl2 k37 F36 N36
  k_steps
  rename_i zL0 zL1 zL2 zL3 zL4 zL5 zL6 zL7 zL8 zL9 zL10
  clear tb zL0 zL2 h33 h34 h35 zL4 zL5 tk37 cnr
  revert zA9 zA10 zA11 zA12 zA13 TP zA14 zA15 zA16 zA19 zA32 zA33 zA36 zA38 zA40 zA49 zA50 zA51 zA52 zA53 zA55 zA64 zA68 zA72 zA75 zA84 zA85 zA88 zA92 zA95 hqk hek f4 hfx f2 f3 f5 f6 f7 f8 f9 f10 hl0 hl1 hl2 e0a e0b e1a e1b e2a e2b hft zB6 zB9 zB16 zB23 hW hW2 z1 hIr hrow hIv hvals hlr hlv hgs hgl hend hgn zE0 hmk him hml hmo1 hmo2 hneed hnl9 F10 N10 z10 hsz hszl hsz0 zG5 z12 hmx1 hmx2 htop hgr1 hgr2 f13 f14 hmode hplace hpg zI0 K1 f11 hdep hd5 hge hu1 hu0 zJ5 f15 hhit hhu hue i31 z31 KX zL3 z33 i33 i34 z34 z35 hbent i35 hlb zL6 zL7 r5 r4 mrow mvals mplan hplH mnest mnodes hnds mhurt mbent mcrook htR zL9 zL10
  revert zL1 B2 B3 w3 B4 bent R2 nl2 h37 cv cda cdv cc0 ctu rest3 zL8 tk
  exact hCut.out⟩
@[irreducible] noncomputable def tuplL := pk17 cutL.Q rfl (by have := w_ne; have := s_ne; have := a_ne; have := g_ne; have := dr_ne; have := t_ne; infer_instance)
@[irreducible] noncomputable def zL1 := tuplL.1
@[irreducible] noncomputable def B2 := tuplL.2.1
@[irreducible] noncomputable def B3 := tuplL.2.2.1
@[irreducible] noncomputable def w3 := tuplL.2.2.2.1
@[irreducible] noncomputable def B4 := tuplL.2.2.2.2.1
@[irreducible] noncomputable def bent := tuplL.2.2.2.2.2.1
@[irreducible] noncomputable def R2 := tuplL.2.2.2.2.2.2.1
@[irreducible] noncomputable def nl2 := tuplL.2.2.2.2.2.2.2.1
@[irreducible] noncomputable def h37 := tuplL.2.2.2.2.2.2.2.2.1
@[irreducible] noncomputable def cv := tuplL.2.2.2.2.2.2.2.2.2.1
@[irreducible] noncomputable def cda := tuplL.2.2.2.2.2.2.2.2.2.2.1
@[irreducible] noncomputable def cdv := tuplL.2.2.2.2.2.2.2.2.2.2.2.1
@[irreducible] noncomputable def cc0 := tuplL.2.2.2.2.2.2.2.2.2.2.2.2.1
@[irreducible] noncomputable def ctu := tuplL.2.2.2.2.2.2.2.2.2.2.2.2.2.1
@[irreducible] noncomputable def rest3 := tuplL.2.2.2.2.2.2.2.2.2.2.2.2.2.2.1
@[irreducible] noncomputable def zL8 := tuplL.2.2.2.2.2.2.2.2.2.2.2.2.2.2.2.1
@[irreducible] noncomputable def tkL := tuplL.2.2.2.2.2.2.2.2.2.2.2.2.2.2.2.2
noncomputable def QL : Prop := ap17 cutL.Q rfl zL1 B2 B3 w3 B4 bent R2 nl2 h37 cv cda cdv cc0 ctu rest3 zL8 tkL
theorem backL (h : QL) : cutL.Q := bk17 rfl (by have := w_ne; have := s_ne; have := a_ne; have := g_ne; have := dr_ne; have := t_ne; infer_instance) (by with_unfolding_all exact h)
noncomputable def cutM : Got (QL) := ⟨_, by
  intro hCut
  w_top off
  intro zA9 zA10 zA11 zA12 zA13 TP zA14 zA15 zA16 zA19 zA32 zA33 zA36 zA38 zA40 zA49 zA50 zA51 zA52 zA53 zA55 zA64 zA68 zA72 zA75 zA84 zA85 zA88 zA92 zA95 hqk hek f4 hfx f2 f3 f5 f6 f7 f8 f9 f10 hl0 hl1 hl2 e0a e0b e1a e1b e2a e2b hft zB6 zB9 zB16 zB23 hW hW2 z1 hIr hrow hIv hvals hlr hlv hgs hgl hend hgn zE0 hmk him hml hmo1 hmo2 hneed hnl9 F10 N10 z10 hsz hszl hsz0 zG5 z12 hmx1 hmx2 htop hgr1 hgr2 f13 f14 hmode hplace hpg zI0 K1 f11 hdep hd5 hge hu1 hu0 zJ5 f15 hhit hhu hue i31 z31 KX zL3 z33 i33 i34 z34 z35 hbent i35 hlb zL6 zL7 r5 r4 mrow mvals mplan hplH mnest mnodes hnds mhurt mbent mcrook htR zL9 zL10
  revert KX
  k_fill
  intro KX
  (rename Fr _ _ _ _ => F40)
  (rename News _ _ _ _ => N40)
  refine slice_upto (usedN gs) F40 N40 (Held.list (Held.of N40).tail.tail.tail.tail.tail mbent) (i35 _) rfl (by omega) ?_
  intro Ln lv h41 F41 N41 z41 i41
  k_lt z41
  clear F40 N40
  have hll : (bent.take (usedN gs)).length = usedN gs := by rw [List.length_take]; omega
  k_steps
  refine min_list_N rfl (by k_asm) (by k_asm) (News.isList (by k_asm) (.head _)) i41 (by omega) ?_
  intro h42 mn tm1 tk42 F42 N42 hmn1 hmn2
  (try clear F41 N41)
  k_steps
  refine min_list_N rfl (by k_asm) (by k_asm) (News.isList (by k_asm) (.head _)) i41 (by omega) ?_
  intro h43 mn' tm2 tk43 F43 N43 hb1 hb2
  obtain rfl : mn' = mn := Int.le_antisymm (hb2 _ hmn1) (hmn2 _ hb1)
  (try clear F42 N42)
  k_steps
  refine min_list_N rfl (by k_asm) (by k_asm) (News.isList (by k_asm) (.head _)) i41 (by omega) ?_
  intro h44 mn'' tm3 tk44 F44 N44 hb3 hb4
  obtain rfl : mn'' = mn' := Int.le_antisymm (hb4 _ hb1) (hb2 _ hb3)
  (try clear F43 N43)
  k_steps
  rename_i zM0 zM1 zM2 zM3 zM4 zM5 zM6
  clear h41 zM0 h42 tm1 h43 tm2 zM6
  revert zA9 zA10 zA11 zA12 zA13 TP zA14 zA15 zA16 zA19 zA32 zA33 zA36 zA38 zA40 zA49 zA50 zA51 zA52 zA53 zA55 zA64 zA68 zA72 zA75 zA84 zA85 zA88 zA92 zA95 hqk hek f4 hfx f2 f3 f5 f6 f7 f8 f9 f10 hl0 hl1 hl2 e0a e0b e1a e1b e2a e2b hft zB6 zB9 zB16 zB23 hW hW2 z1 hIr hrow hIv hvals hlr hlv hgs hgl hend hgn zE0 hmk him hml hmo1 hmo2 hneed hnl9 F10 N10 z10 hsz hszl hsz0 zG5 z12 hmx1 hmx2 htop hgr1 hgr2 f13 f14 hmode hplace hpg zI0 K1 f11 hdep hd5 hge hu1 hu0 zJ5 f15 hhit hhu hue i31 z31 zL3 z33 i33 i34 z34 z35 hbent i35 hlb zL6 zL7 r5 r4 mrow mvals mplan hplH mnest mnodes hnds mhurt mbent mcrook htR KX i41 z41 hll hb3 hb4 hb1 hb2 hmn1 hmn2 zM3 zM4 zM5
  revert Ln lv tk42 tk43 h44 mn'' tm3 tk44 zM1 zM2
  exact hCut.out⟩
@[irreducible] noncomputable def tuplM := pk10 cutM.Q rfl (by have := w_ne; have := s_ne; have := a_ne; have := g_ne; have := dr_ne; have := t_ne; infer_instance)
@[irreducible] noncomputable def Ln := tuplM.1
@[irreducible] noncomputable def lv := tuplM.2.1
@[irreducible] noncomputable def tk42 := tuplM.2.2.1
@[irreducible] noncomputable def tk43 := tuplM.2.2.2.1
@[irreducible] noncomputable def h44 := tuplM.2.2.2.2.1
@[irreducible] noncomputable def mn'' := tuplM.2.2.2.2.2.1
@[irreducible] noncomputable def tm3 := tuplM.2.2.2.2.2.2.1
@[irreducible] noncomputable def tk44 := tuplM.2.2.2.2.2.2.2.1
@[irreducible] noncomputable def zM1 := tuplM.2.2.2.2.2.2.2.2.1
@[irreducible] noncomputable def zM2 := tuplM.2.2.2.2.2.2.2.2.2
noncomputable def QM : Prop := ap10 cutM.Q rfl Ln lv tk42 tk43 h44 mn'' tm3 tk44 zM1 zM2
theorem backM (h : QM) : cutM.Q := bk10 rfl (by have := w_ne; have := s_ne; have := a_ne; have := g_ne; have := dr_ne; have := t_ne; infer_instance) (by with_unfolding_all exact h)
noncomputable def cutN : Got (QM) := ⟨_, by
  intro hCut
  w_top off
  intro zA9 zA10 zA11 zA12 zA13 TP zA14 zA15 zA16 zA19 zA32 zA33 zA36 zA38 zA40 zA49 zA50 zA51 zA52 zA53 zA55 zA64 zA68 zA72 zA75 zA84 zA85 zA88 zA92 zA95 hqk hek f4 hfx f2 f3 f5 f6 f7 f8 f9 f10 hl0 hl1 hl2 e0a e0b e1a e1b e2a e2b hft zB6 zB9 zB16 zB23 hW hW2 z1 hIr hrow hIv hvals hlr hlv hgs hgl hend hgn zE0 hmk him hml hmo1 hmo2 hneed hnl9 F10 N10 z10 hsz hszl hsz0 zG5 z12 hmx1 hmx2 htop hgr1 hgr2 f13 f14 hmode hplace hpg zI0 K1 f11 hdep hd5 hge hu1 hu0 zJ5 f15 hhit hhu hue i31 z31 zL3 z33 i33 i34 z34 z35 hbent i35 hlb zL6 zL7 r5 r4 mrow mvals mplan hplH mnest mnodes hnds mhurt mbent mcrook htR KX i41 z41 hll hb3 hb4 hb1 hb2 hmn1 hmn2 zM3 zM4 zM5
  revert KX
  k_fill
  intro KX
  (rename Fr _ _ _ _ => F45)
  (rename News _ _ _ _ => N45)
  have f17 := fm (a := ns.getD (Int.toNat 17) 0) (n := 4) (by decide)
  have f18 := fm (a := ns.getD (Int.toNat 18) 0) (n := 4) (by decide)
  refine pick4 (News.isTup N45 (.head _)) f17.1 f17.2 ?_
  intro lo tlo hlo
  have N46 : News _ _ _ _ := fun p hp => N45 p (.tail _ hp)
  clear N45
  k_steps
  refine max_list_N rfl (by k_asm) (by k_asm) (News.isList (by k_asm) (.head _)) i41 (by omega) ?_
  intro h47 mx tx1 tk47 F47 N47 hmxa hmxb
  (try clear F45 N46)
  k_steps
  refine max_list_N rfl (by k_asm) (by k_asm) (News.isList (by k_asm) (.head _)) i41 (by omega) ?_
  intro h48 mx' tx2 tk48 F48 N48 hc1 hc2
  obtain rfl : mx' = mx := Int.le_antisymm (hmxb _ hc1) (hc2 _ hmxa)
  (try clear F47 N47)
  k_steps
  refine max_list_N rfl (by k_asm) (by k_asm) (News.isList (by k_asm) (.head _)) i41 (by omega) ?_
  intro h49 mx'' tx3 tk49 F49 N49 hc3 hc4
  obtain rfl : mx'' = mx' := Int.le_antisymm (hc2 _ hc3) (hc4 _ hc1)
  (try clear F48 N48)
  k_steps
  (rename Fr _ _ _ _ => F50)
  (rename News _ _ _ _ => N50)
  refine pick4 (News.isTup N50 (.head _)) f18.1 f18.2 ?_
  intro hi thi hhi
  have N51 : News _ _ _ _ := fun p hp => N50 p (.tail _ hp)
  clear N50
  k_steps
  rename_i zN0 zN1 zN2 zN3 zN4 zN5 zN6 zN7 zN8 zN9
  clear zN0 zN1 h47 tx1 tk47 h48 tx2 tk48 h49 tx3 tk49 zN3 zN5
  revert zA9 zA10 zA11 zA12 zA13 TP zA14 zA15 zA16 zA19 zA32 zA33 zA36 zA38 zA40 zA49 zA50 zA51 zA52 zA53 zA55 zA64 zA68 zA72 zA75 zA84 zA85 zA88 zA92 zA95 hqk hek f4 hfx f2 f3 f5 f6 f7 f8 f9 f10 hl0 hl1 hl2 e0a e0b e1a e1b e2a e2b hft zB6 zB9 zB16 zB23 hW hW2 z1 hIr hrow hIv hvals hlr hlv hgs hgl hend hgn zE0 hmk him hml hmo1 hmo2 hneed hnl9 F10 N10 z10 hsz hszl hsz0 zG5 z12 hmx1 hmx2 htop hgr1 hgr2 f13 f14 hmode hplace hpg zI0 K1 f11 hdep hd5 hge hu1 hu0 zJ5 f15 hhit hhu hue i31 z31 zL3 z33 i33 i34 z34 z35 hbent i35 hlb zL6 zL7 r5 r4 mrow mvals mplan hplH mnest mnodes hnds mhurt mbent mcrook htR i41 z41 hll hb3 hb4 hb1 hb2 hmn1 hmn2 zM5 KX f17 f18 hlo hc3 hc4 hc1 hc2 hmxa hmxb zN4 hhi zN7 zN8
  revert lo tlo mx'' zN2 hi thi zN6 zN9
  exact hCut.out⟩
@[irreducible] noncomputable def tuplN := pk8 cutN.Q rfl (by have := w_ne; have := s_ne; have := a_ne; have := g_ne; have := dr_ne; have := t_ne; infer_instance)
@[irreducible] noncomputable def lo := tuplN.1
@[irreducible] noncomputable def tlo := tuplN.2.1
@[irreducible] noncomputable def mx'' := tuplN.2.2.1
@[irreducible] noncomputable def zN2 := tuplN.2.2.2.1
@[irreducible] noncomputable def hi := tuplN.2.2.2.2.1
@[irreducible] noncomputable def thi := tuplN.2.2.2.2.2.1
@[irreducible] noncomputable def zN6 := tuplN.2.2.2.2.2.2.1
@[irreducible] noncomputable def zN9 := tuplN.2.2.2.2.2.2.2
noncomputable def QN : Prop := ap8 cutN.Q rfl lo tlo mx'' zN2 hi thi zN6 zN9
theorem backN (h : QN) : cutN.Q := bk8 rfl (by have := w_ne; have := s_ne; have := a_ne; have := g_ne; have := dr_ne; have := t_ne; infer_instance) (by with_unfolding_all exact h)
noncomputable def cutO : Got (QN) := ⟨_, by
  intro hCut
  w_top off
  intro zA9 zA10 zA11 zA12 zA13 TP zA14 zA15 zA16 zA19 zA32 zA33 zA36 zA38 zA40 zA49 zA50 zA51 zA52 zA53 zA55 zA64 zA68 zA72 zA75 zA84 zA85 zA88 zA92 zA95 hqk hek f4 hfx f2 f3 f5 f6 f7 f8 f9 f10 hl0 hl1 hl2 e0a e0b e1a e1b e2a e2b hft zB6 zB9 zB16 zB23 hW hW2 z1 hIr hrow hIv hvals hlr hlv hgs hgl hend hgn zE0 hmk him hml hmo1 hmo2 hneed hnl9 F10 N10 z10 hsz hszl hsz0 zG5 z12 hmx1 hmx2 htop hgr1 hgr2 f13 f14 hmode hplace hpg zI0 K1 f11 hdep hd5 hge hu1 hu0 zJ5 f15 hhit hhu hue i31 z31 zL3 z33 i33 i34 z34 z35 hbent i35 hlb zL6 zL7 r5 r4 mrow mvals mplan hplH mnest mnodes hnds mhurt mbent mcrook htR i41 z41 hll hb3 hb4 hb1 hb2 hmn1 hmn2 zM5 KX f17 f18 hlo hc3 hc4 hc1 hc2 hmxa hmxb zN4 hhi zN7 zN8
  revert KX
  k_fill
  intro KX
  (rename Fr _ _ _ _ => F52)
  (rename News _ _ _ _ => N52)
  refine cutValD (fun v => v = .bool (decide ((bent.take (usedN gs)).Pairwise (· < ·)) && decide (lo ≠ some mn'') && decide (hi ≠ some mx''))) F52 N52 ?_ ?_
  · refine BoolOp_and ?_
    k_steps
    refine set_line rfl F52 N52 (News.isList N52 (.head _)) i41 (by omega) ?_
    intro St h53 tk53 F53 N53 hSt
    clear F52 N52
    k_steps
    refine sorted_line rfl F53 N53 hSt ?_
    intro Sd so ns' h54 tk54 d54 F54 N54 hSd hso hpw
    clear F53 N53 hSt
    k_steps
    refine eq_intsK (News.isList N54 (.head _)) i41 hSd hso (by units_room) ?_
    k_steps
    · have hpw' := hpw.mp (by assumption)
      refine BoolOp_and ?_
      k_steps
      refine min_list_N rfl (by k_asm) (by k_asm) (News.isList (by k_asm) (.head _)) i41 (by omega) ?_
      intro h55 mn3 t3 tk55 F55 N55 hq1 hq2
      have eq3 : mn3 = mn'' := Int.le_antisymm (hq2 _ hmn1) (hmn2 _ hq1)
      rw [eq3]
      (try clear F54 N54)
      k_steps
      refine ne_bnd ?_
      k_steps
      · (rename lo ≠ some mn'' => hlne)
        refine BoolOp_one ?_
        k_steps
        refine max_list_N rfl (by k_asm) (by k_asm) (News.isList (by k_asm) (.head _)) i41 (by omega) ?_
        intro h56 mx3 t4 tk56 F56 N56 hq3 hq4
        have eq4 : mx3 = mx'' := Int.le_antisymm (hmxb _ hq3) (hq4 _ hmxa)
        rw [eq4]
        (try clear F55 N55)
        k_steps
        refine ne_bnd ?_
        k_steps
        exact ⟨_, _, _, by (congr 1; simp [hpw', hlne]), rfl, by assumption, by assumption⟩
      · (rename ¬ (lo ≠ some mn'') => hlne)
        exact ⟨_, _, _, by (congr 1; simp only [hlne, decide_false, Bool.and_false, Bool.false_and]), rfl, by assumption, by assumption⟩
    · (rename ¬ _ = ns' => hne)
      have hpw' : ¬ (bent.take (usedN gs)).Pairwise (· < ·) := fun q => hne (hpw.mpr q)
      exact ⟨_, _, _, by (congr 1; simp [hpw', hne]), rfl, by assumption, by assumption⟩
  rintro v h53 tk53 d53 rfl F53 N53
  clear F52 N52
  k_steps
  rename_i zO0 zO1 zO2
  clear h53
  revert zA9 zA10 zA11 zA12 zA13 TP zA14 zA15 zA16 zA19 zA32 zA33 zA36 zA38 zA40 zA49 zA50 zA51 zA52 zA53 zA55 zA64 zA68 zA72 zA75 zA84 zA85 zA88 zA92 zA95 hqk hek f4 hfx f2 f3 f5 f6 f7 f8 f9 f10 hl0 hl1 hl2 e0a e0b e1a e1b e2a e2b hft zB6 zB9 zB16 zB23 hW hW2 z1 hIr hrow hIv hvals hlr hlv hgs hgl hend hgn zE0 hmk him hml hmo1 hmo2 hneed hnl9 F10 N10 z10 hsz hszl hsz0 zG5 z12 hmx1 hmx2 htop hgr1 hgr2 f13 f14 hmode hplace hpg zI0 K1 f11 hdep hd5 hge hu1 hu0 zJ5 f15 hhit hhu hue i31 z31 zL3 z33 i33 i34 z34 z35 hbent i35 hlb zL6 zL7 r5 r4 mrow mvals mplan hplH mnest mnodes hnds mhurt mbent mcrook htR i41 z41 hll hb3 hb4 hb1 hb2 hmn1 hmn2 zM5 f17 f18 hlo hc3 hc4 hc1 hc2 hmxa hmxb zN4 hhi KX zO1 zO2
  revert tk53 d53 zO0
  exact hCut.out⟩
@[irreducible] noncomputable def tuplO := pk3 cutO.Q rfl (by have := w_ne; have := s_ne; have := a_ne; have := g_ne; have := dr_ne; have := t_ne; infer_instance)
@[irreducible] noncomputable def tk53 := tuplO.1
@[irreducible] noncomputable def d53 := tuplO.2.1
@[irreducible] noncomputable def zO0 := tuplO.2.2
noncomputable def QO : Prop := ap3 cutO.Q rfl tk53 d53 zO0
theorem backO (h : QO) : cutO.Q := bk3 rfl (by have := w_ne; have := s_ne; have := a_ne; have := g_ne; have := dr_ne; have := t_ne; infer_instance) (by with_unfolding_all exact h)
noncomputable def cutP : Got (QO) := ⟨_, by
  intro hCut
  w_top off
  intro zA9 zA10 zA11 zA12 zA13 TP zA14 zA15 zA16 zA19 zA32 zA33 zA36 zA38 zA40 zA49 zA50 zA51 zA52 zA53 zA55 zA64 zA68 zA72 zA75 zA84 zA85 zA88 zA92 zA95 hqk hek f4 hfx f2 f3 f5 f6 f7 f8 f9 f10 hl0 hl1 hl2 e0a e0b e1a e1b e2a e2b hft zB6 zB9 zB16 zB23 hW hW2 z1 hIr hrow hIv hvals hlr hlv hgs hgl hend hgn zE0 hmk him hml hmo1 hmo2 hneed hnl9 F10 N10 z10 hsz hszl hsz0 zG5 z12 hmx1 hmx2 htop hgr1 hgr2 f13 f14 hmode hplace hpg zI0 K1 f11 hdep hd5 hge hu1 hu0 zJ5 f15 hhit hhu hue i31 z31 zL3 z33 i33 i34 z34 z35 hbent i35 hlb zL6 zL7 r5 r4 mrow mvals mplan hplH mnest mnodes hnds mhurt mbent mcrook htR i41 z41 hll hb3 hb4 hb1 hb2 hmn1 hmn2 zM5 f17 f18 hlo hc3 hc4 hc1 hc2 hmxa hmxb zN4 hhi KX zO1 zO2
  revert KX
  k_fill
  intro KX
  (rename Fr _ _ _ _ => F60)
  (rename News _ _ _ _ => N60)
  have hlaw := keys_law (row := bent) (vals := vals) (gs := gs) (d := dep) (lo := lo) (hi := hi) hgn (by omega) (by omega) hmn1 hmn2 hmxa hmxb (fun l e => by rcases hlo with h | h | h | h <;> rw [h] at e <;> cases e <;> omega) (fun l e => by rcases hhi with h | h | h | h <;> rw [h] at e <;> cases e <;> omega)
  rw [← hge] at hlaw
  refine worderM dep (nestT bent vals gs) lo hi cv _ _ _ _ s₁.heap _ _ _ _ (pushX K1 F60 rfl rfl) (dicts_of F60 rfl) KX TP rfl (room_d hd5) (room_u hd5) (mcrook.at (Held.of N60).tail.tail.tail.tail.tail.tail) (sm_nest hlb hlv (by omega) dep) (wf_any hgn (by omega) (by omega) dep) ?_
  intro got tg h61 tk61 hgot tr
  rw [hgot] at hlaw
  have F61 := tr.fr F60 rfl
  have N61 := tr.news N60 rfl
  clear F60 N60 hgot tr
  replace F61 : Fr s₁.heap s₁.heap.objs.size h61 _ := F61
  replace N61 : News s₁.heap s₁.heap.objs.size h61 _ := N61
  k_steps
  refine fitsB_spec got _ _ tg _ _ _ _ (KX.keeps F61.keep) (TP.keeps F61.keep) rfl (by k_room) ?_
  intro h62 tk62 k62
  rw [hlaw]
  have F62 := F61.keeps k62
  have N62 := News.kept N61 k62
  clear F61 N61 hlaw k62
  k_steps
  clear got tg h61 tk61
  revert zA9 zA10 zA11 zA12 zA13 TP zA14 zA15 zA16 zA19 zA32 zA33 zA36 zA38 zA40 zA49 zA50 zA51 zA52 zA53 zA55 zA64 zA68 zA72 zA75 zA84 zA85 zA88 zA92 zA95 hqk hek f4 hfx f2 f3 f5 f6 f7 f8 f9 f10 hl0 hl1 hl2 e0a e0b e1a e1b e2a e2b hft zB6 zB9 zB16 zB23 hW hW2 z1 hIr hrow hIv hvals hlr hlv hgs hgl hend hgn zE0 hmk him hml hmo1 hmo2 hneed hnl9 F10 N10 z10 hsz hszl hsz0 zG5 z12 hmx1 hmx2 htop hgr1 hgr2 f13 f14 hmode hplace hpg zI0 K1 f11 hdep hd5 hge hu1 hu0 zJ5 f15 hhit hhu hue i31 z31 zL3 z33 i33 i34 z34 z35 hbent i35 hlb zL6 zL7 r5 r4 mrow mvals mplan hplH mnest mnodes hnds mhurt mbent mcrook htR i41 z41 hll hb3 hb4 hb1 hb2 hmn1 hmn2 zM5 f17 f18 hlo hc3 hc4 hc1 hc2 hmxa hmxb zN4 hhi KX F62 N62
  revert h62 tk62
  exact hCut.out⟩
@[irreducible] noncomputable def tuplP := pk2 cutP.Q rfl (by have := w_ne; have := s_ne; have := a_ne; have := g_ne; have := dr_ne; have := t_ne; infer_instance)
@[irreducible] noncomputable def h62 := tuplP.1
@[irreducible] noncomputable def tk62 := tuplP.2
noncomputable def QP : Prop := ap2 cutP.Q rfl h62 tk62
theorem backP (h : QP) : cutP.Q := bk2 rfl (by have := w_ne; have := s_ne; have := a_ne; have := g_ne; have := dr_ne; have := t_ne; infer_instance) (by with_unfolding_all exact h)
noncomputable def cutQ : Got (QP) := ⟨_, by
  intro hCut
  w_top off
  intro zA9 zA10 zA11 zA12 zA13 TP zA14 zA15 zA16 zA19 zA32 zA33 zA36 zA38 zA40 zA49 zA50 zA51 zA52 zA53 zA55 zA64 zA68 zA72 zA75 zA84 zA85 zA88 zA92 zA95 hqk hek f4 hfx f2 f3 f5 f6 f7 f8 f9 f10 hl0 hl1 hl2 e0a e0b e1a e1b e2a e2b hft zB6 zB9 zB16 zB23 hW hW2 z1 hIr hrow hIv hvals hlr hlv hgs hgl hend hgn zE0 hmk him hml hmo1 hmo2 hneed hnl9 F10 N10 z10 hsz hszl hsz0 zG5 z12 hmx1 hmx2 htop hgr1 hgr2 f13 f14 hmode hplace hpg zI0 K1 f11 hdep hd5 hge hu1 hu0 zJ5 f15 hhit hhu hue i31 z31 zL3 z33 i33 i34 z34 z35 hbent i35 hlb zL6 zL7 r5 r4 mrow mvals mplan hplH mnest mnodes hnds mhurt mbent mcrook htR i41 z41 hll hb3 hb4 hb1 hb2 hmn1 hmn2 zM5 f17 f18 hlo hc3 hc4 hc1 hc2 hmxa hmxb zN4 hhi KX F62 N62
  revert KX
  k_fill
  intro KX
  (rename Fr _ _ _ _ => F63)
  (rename News _ _ _ _ => N63)
  refine cutVal (fun v => ∃ t, v = .int (levelZ gs) t) F63 N63 ?_ ?_
  · refine IfExp_ ?_
    k_steps
    refine slice_tup_upto (a := W) (by k_asm) (by k_asm) (Fr.tup (by assumption) hft) hW (by simp) ?_
    intro M2 h64 F64 N64 htm
    (try clear F63 N63)
    k_steps
    refine min_tup rfl F64 N64 htm him hml ?_
    intro h65 lst tm tk65 F65 N65 hl1 hl2
    clear F64 N64 htm
    have hlev := level_is hgn hmo1 hmo2 hl1 hl2
    k_steps
    · (rename most = lst => hml')
      exact ⟨_, _, ⟨_, by rw [← hlev, if_pos hml']⟩, rfl, by assumption, by assumption⟩
    · (rename most ≠ lst => hml')
      exact ⟨_, _, ⟨_, by rw [← hlev, if_neg hml']⟩, rfl, by assumption, by assumption⟩
  rintro v h66 tk66 ⟨tlv, rfl⟩ F66 N66
  clear F63 N63
  k_steps
  rename_i zQ0 zQ1 zQ2
  clear h66
  revert zA9 zA10 zA11 zA12 zA13 TP zA14 zA15 zA16 zA19 zA32 zA33 zA36 zA38 zA40 zA49 zA50 zA51 zA52 zA53 zA55 zA64 zA68 zA72 zA75 zA84 zA85 zA88 zA92 zA95 hqk hek f4 hfx f2 f3 f5 f6 f7 f8 f9 f10 hl0 hl1 hl2 e0a e0b e1a e1b e2a e2b hft zB6 zB9 zB16 zB23 hW hW2 z1 hIr hrow hIv hvals hlr hlv hgs hgl hend hgn zE0 hmk him hml hmo1 hmo2 hneed hnl9 F10 N10 z10 hsz hszl hsz0 zG5 z12 hmx1 hmx2 htop hgr1 hgr2 f13 f14 hmode hplace hpg zI0 K1 f11 hdep hd5 hge hu1 hu0 zJ5 f15 hhit hhu hue i31 z31 zL3 z33 i33 i34 z34 z35 hbent i35 hlb zL6 zL7 r5 r4 mrow mvals mplan hplH mnest mnodes hnds mhurt mbent mcrook htR i41 z41 hll hb3 hb4 hb1 hb2 hmn1 hmn2 zM5 f17 f18 hlo hc3 hc4 hc1 hc2 hmxa hmxb zN4 hhi KX zQ1 zQ2
  revert tk66 tlv zQ0
  exact hCut.out⟩
@[irreducible] noncomputable def tuplQ := pk3 cutQ.Q rfl (by have := w_ne; have := s_ne; have := a_ne; have := g_ne; have := dr_ne; have := t_ne; infer_instance)
@[irreducible] noncomputable def tk66 := tuplQ.1
@[irreducible] noncomputable def tlv := tuplQ.2.1
@[irreducible] noncomputable def zQ0 := tuplQ.2.2
noncomputable def QQ : Prop := ap3 cutQ.Q rfl tk66 tlv zQ0
theorem backQ (h : QQ) : cutQ.Q := bk3 rfl (by have := w_ne; have := s_ne; have := a_ne; have := g_ne; have := dr_ne; have := t_ne; infer_instance) (by with_unfolding_all exact h)
noncomputable def cutR : Got (QQ) := ⟨_, by
  intro hCut
  w_top off
  intro zA9 zA10 zA11 zA12 zA13 TP zA14 zA15 zA16 zA19 zA32 zA33 zA36 zA38 zA40 zA49 zA50 zA51 zA52 zA53 zA55 zA64 zA68 zA72 zA75 zA84 zA85 zA88 zA92 zA95 hqk hek f4 hfx f2 f3 f5 f6 f7 f8 f9 f10 hl0 hl1 hl2 e0a e0b e1a e1b e2a e2b hft zB6 zB9 zB16 zB23 hW hW2 z1 hIr hrow hIv hvals hlr hlv hgs hgl hend hgn zE0 hmk him hml hmo1 hmo2 hneed hnl9 F10 N10 z10 hsz hszl hsz0 zG5 z12 hmx1 hmx2 htop hgr1 hgr2 f13 f14 hmode hplace hpg zI0 K1 f11 hdep hd5 hge hu1 hu0 zJ5 f15 hhit hhu hue i31 z31 zL3 z33 i33 i34 z34 z35 hbent i35 hlb zL6 zL7 r5 r4 mrow mvals mplan hplH mnest mnodes hnds mhurt mbent mcrook htR i41 z41 hll hb3 hb4 hb1 hb2 hmn1 hmn2 zM5 f17 f18 hlo hc3 hc4 hc1 hc2 hmxa hmxb zN4 hhi KX zQ1 zQ2
  revert KX
  k_fill
  intro KX
  (rename Fr _ _ _ _ => F70)
  (rename News _ _ _ _ => N70)
  have hlaw := level_law (row := row) (vals := vals) (gs := gs) (d := dep) hgn
  rw [← hge] at hlaw
  refine wlevelM dep (nestT row vals gs) nv _ _ s₁.heap _ _ _ _ (pushX K1 F70 rfl rfl) (dicts_of F70 rfl) KX TP rfl (room_d hd5) (room_u hd5) (mnest.at (Held.of N70).tail.tail.tail.tail.tail.tail) (sm_nest hlr hlv (by omega) dep) ?_
  intro got tg h71 tk71 hgot tr
  rw [hgot] at hlaw
  have F71 := tr.fr F70 rfl
  have N71 := tr.news N70 rfl
  clear F70 N70 hgot tr
  replace F71 : Fr s₁.heap s₁.heap.objs.size h71 _ := F71
  replace N71 : News s₁.heap s₁.heap.objs.size h71 _ := N71
  k_steps
  refine fitsI_spec got _ _ tg _ _ _ _ _ _ (KX.keeps F71.keep) (TP.keeps F71.keep) rfl (by k_room) ?_
  intro h72 tk72 k72
  rw [hlaw]
  have F72 := F71.keeps k72
  have N72 := News.kept N71 k72
  clear F71 N71 hlaw k72
  k_steps
  clear got tg h71 tk71
  revert zA9 zA10 zA11 zA12 zA13 TP zA14 zA15 zA16 zA19 zA32 zA33 zA36 zA38 zA40 zA49 zA50 zA51 zA52 zA53 zA55 zA64 zA68 zA72 zA75 zA84 zA85 zA88 zA92 zA95 hqk hek f4 hfx f2 f3 f5 f6 f7 f8 f9 f10 hl0 hl1 hl2 e0a e0b e1a e1b e2a e2b hft zB6 zB9 zB16 zB23 hW hW2 z1 hIr hrow hIv hvals hlr hlv hgs hgl hend hgn zE0 hmk him hml hmo1 hmo2 hneed hnl9 F10 N10 z10 hsz hszl hsz0 zG5 z12 hmx1 hmx2 htop hgr1 hgr2 f13 f14 hmode hplace hpg zI0 K1 f11 hdep hd5 hge hu1 hu0 zJ5 f15 hhit hhu hue i31 z31 zL3 z33 i33 i34 z34 z35 hbent i35 hlb zL6 zL7 r5 r4 mrow mvals mplan hplH mnest mnodes hnds mhurt mbent mcrook htR i41 z41 hll hb3 hb4 hb1 hb2 hmn1 hmn2 zM5 f17 f18 hlo hc3 hc4 hc1 hc2 hmxa hmxb zN4 hhi KX F72 N72
  revert h72 tk72
  exact hCut.out⟩
@[irreducible] noncomputable def tuplR := pk2 cutR.Q rfl (by have := w_ne; have := s_ne; have := a_ne; have := g_ne; have := dr_ne; have := t_ne; infer_instance)
@[irreducible] noncomputable def h72 := tuplR.1
@[irreducible] noncomputable def tk72 := tuplR.2
noncomputable def QR : Prop := ap2 cutR.Q rfl h72 tk72
theorem backR (h : QR) : cutR.Q := bk2 rfl (by have := w_ne; have := s_ne; have := a_ne; have := g_ne; have := dr_ne; have := t_ne; infer_instance) (by with_unfolding_all exact h)
noncomputable def cutS : Got (QR) := ⟨_, by
  intro hCut
  w_top off
  intro zA9 zA10 zA11 zA12 zA13 TP zA14 zA15 zA16 zA19 zA32 zA33 zA36 zA38 zA40 zA49 zA50 zA51 zA52 zA53 zA55 zA64 zA68 zA72 zA75 zA84 zA85 zA88 zA92 zA95 hqk hek f4 hfx f2 f3 f5 f6 f7 f8 f9 f10 hl0 hl1 hl2 e0a e0b e1a e1b e2a e2b hft zB6 zB9 zB16 zB23 hW hW2 z1 hIr hrow hIv hvals hlr hlv hgs hgl hend hgn zE0 hmk him hml hmo1 hmo2 hneed hnl9 F10 N10 z10 hsz hszl hsz0 zG5 z12 hmx1 hmx2 htop hgr1 hgr2 f13 f14 hmode hplace hpg zI0 K1 f11 hdep hd5 hge hu1 hu0 zJ5 f15 hhit hhu hue i31 z31 zL3 z33 i33 i34 z34 z35 hbent i35 hlb zL6 zL7 r5 r4 mrow mvals mplan hplH mnest mnodes hnds mhurt mbent mcrook htR i41 z41 hll hb3 hb4 hb1 hb2 hmn1 hmn2 zM5 f17 f18 hlo hc3 hc4 hc1 hc2 hmxa hmxb zN4 hhi KX F72 N72
  revert KX
  k_fill
  intro KX
  (rename Fr _ _ _ _ => F73)
  (rename News _ _ _ _ => N73)
  refine cutVal (fun v => ∃ t, v = .int (if levelZ gs > 0 then levelZ gs + 1 else -1) t) F73 N73 ?_ ?_
  · refine IfExp_ ?_
    k_steps
    · (rename 0 < levelZ gs => hlz)
      exact ⟨_, _, ⟨_, by rw [if_pos hlz]⟩, rfl, by assumption, by assumption⟩
    · (rename ¬ 0 < levelZ gs => hlz)
      exact ⟨_, _, ⟨_, by rw [if_neg hlz]⟩, rfl, by assumption, by assumption⟩
  rintro v h74 tk74 ⟨tov, rfl⟩ F74 N74
  clear F73 N73
  k_steps
  rename_i zS0 zS1 zS2 zS3 zS4 zS5 zS6 zS7 zS8 zS9 zS10 zS11 zS12 zS13 zS14 zS15 zS16
  clear h74 zS0 zS2 zS5 zS8 zS11
  revert zA9 zA10 zA11 zA12 zA13 TP zA14 zA15 zA16 zA19 zA32 zA33 zA36 zA38 zA40 zA49 zA50 zA51 zA52 zA53 zA55 zA64 zA68 zA72 zA75 zA84 zA85 zA88 zA92 zA95 hqk hek f4 hfx f2 f3 f5 f6 f7 f8 f9 f10 hl0 hl1 hl2 e0a e0b e1a e1b e2a e2b hft zB6 zB9 zB16 zB23 hW hW2 z1 hIr hrow hIv hvals hlr hlv hgs hgl hend hgn zE0 hmk him hml hmo1 hmo2 hneed hnl9 F10 N10 z10 hsz hszl hsz0 zG5 z12 hmx1 hmx2 htop hgr1 hgr2 f13 f14 hmode hplace hpg zI0 K1 f11 hdep hd5 hge hu1 hu0 zJ5 f15 hhit hhu hue i31 z31 zL3 z33 i33 i34 z34 z35 hbent i35 hlb zL6 zL7 r5 r4 mrow mvals mplan hplH mnest mnodes hnds mhurt mbent mcrook htR i41 z41 hll hb3 hb4 hb1 hb2 hmn1 hmn2 zM5 f17 f18 hlo hc3 hc4 hc1 hc2 hmxa hmxb zN4 hhi KX zS3 zS6 zS9 zS12 zS14 zS15
  revert tk74 tov zS1 zS4 zS7 zS10 zS13 zS16
  exact hCut.out⟩
section
local macro_rules | `(tactic| walk_at "subscriptTail Name Constant ref int") => `(tactic| (plain_pass; refine of_hold ?_))
@[irreducible] noncomputable def tuplS := pk8 cutS.Q rfl (by have := w_ne; have := s_ne; have := a_ne; have := g_ne; have := dr_ne; have := t_ne; infer_instance)
@[irreducible] noncomputable def tk74 := tuplS.1
@[irreducible] noncomputable def tov := tuplS.2.1
@[irreducible] noncomputable def zS1 := tuplS.2.2.1
@[irreducible] noncomputable def zS4 := tuplS.2.2.2.1
@[irreducible] noncomputable def zS7 := tuplS.2.2.2.2.1
@[irreducible] noncomputable def zS10 := tuplS.2.2.2.2.2.1
@[irreducible] noncomputable def zS13 := tuplS.2.2.2.2.2.2.1
@[irreducible] noncomputable def zS16 := tuplS.2.2.2.2.2.2.2
noncomputable def QS : Prop := ap8 cutS.Q rfl tk74 tov zS1 zS4 zS7 zS10 zS13 zS16
theorem backS (h : QS) : cutS.Q := bk8 rfl (by have := w_ne; have := s_ne; have := a_ne; have := g_ne; have := dr_ne; have := t_ne; infer_instance) (by with_unfolding_all exact h)
noncomputable def cutT : Got (QS) := ⟨_, by
  intro hCut
  w_top off
  intro zA9 zA10 zA11 zA12 zA13 TP zA14 zA15 zA16 zA19 zA32 zA33 zA36 zA38 zA40 zA49 zA50 zA51 zA52 zA53 zA55 zA64 zA68 zA72 zA75 zA84 zA85 zA88 zA92 zA95 hqk hek f4 hfx f2 f3 f5 f6 f7 f8 f9 f10 hl0 hl1 hl2 e0a e0b e1a e1b e2a e2b hft zB6 zB9 zB16 zB23 hW hW2 z1 hIr hrow hIv hvals hlr hlv hgs hgl hend hgn zE0 hmk him hml hmo1 hmo2 hneed hnl9 F10 N10 z10 hsz hszl hsz0 zG5 z12 hmx1 hmx2 htop hgr1 hgr2 f13 f14 hmode hplace hpg zI0 K1 f11 hdep hd5 hge hu1 hu0 zJ5 f15 hhit hhu hue i31 z31 zL3 z33 i33 i34 z34 z35 hbent i35 hlb zL6 zL7 r5 r4 mrow mvals mplan hplH mnest mnodes hnds mhurt mbent mcrook htR i41 z41 hll hb3 hb4 hb1 hb2 hmn1 hmn2 zM5 f17 f18 hlo hc3 hc4 hc1 hc2 hmxa hmxb zN4 hhi KX zS3 zS6 zS9 zS12 zS14 zS15
  revert KX
  k_fill
  intro KX
  (rename Fr _ _ _ _ => F75)
  (rename News _ _ _ _ => N75)
  have hlaw := twin_law (row := row) (vals := vals) (gs := gs) (d := dep) hgn
  have hgt : decide ((dep : Int) > ((needN gs : Nat) : Int)) = decide (needN gs < dep) := by rw [decide_eq_decide]; omega
  rw [← hgt] at hlaw
  have mtw := twin_at N75 (mnest.mono fun p hp => .tail _ (.tail _ (.tail _ (.tail _ (.tail _ (.tail _ hp))))))
  refine wlevelM dep (twinT (nestT row vals gs)) _ _ _ s₁.heap _ _ _ _ (pushX K1 F75 rfl rfl) (dicts_of F75 rfl) KX TP rfl (room_d hd5) (room_u hd5) mtw (sm_twin hlr hlv (by omega) dep) ?_
  intro got tg h76 tk76 hgot tr
  rw [hgot] at hlaw
  have F76 := tr.fr F75 rfl
  have N76 := tr.news N75 rfl
  clear F75 N75 hgot tr mtw
  replace F76 : Fr s₁.heap s₁.heap.objs.size h76 _ := F76
  replace N76 : News s₁.heap s₁.heap.objs.size h76 _ := N76
  k_steps
  refine fitsI_spec got _ _ tg _ _ _ _ _ _ (KX.keeps F76.keep) (TP.keeps F76.keep) rfl (by k_room) ?_
  intro h77 tk77 k77
  rw [hlaw]
  have F77 := F76.keeps k77
  have N77 := News.kept N76 k77
  clear F76 N76 hlaw hgt k77
  have hu24 : 2 * ((usedN gs : Nat) : Int) + 4 ≠ 0 := by omega
  k_steps
  clear got tg h76 tk76
  revert zA9 zA10 zA11 zA12 zA13 TP zA14 zA15 zA16 zA19 zA32 zA33 zA36 zA38 zA40 zA49 zA50 zA51 zA52 zA53 zA55 zA64 zA68 zA72 zA75 zA84 zA85 zA88 zA92 zA95 hqk hek f4 hfx f2 f3 f5 f6 f7 f8 f9 f10 hl0 hl1 hl2 e0a e0b e1a e1b e2a e2b hft zB6 zB9 zB16 zB23 hW hW2 z1 hIr hrow hIv hvals hlr hlv hgs hgl hend hgn zE0 hmk him hml hmo1 hmo2 hneed hnl9 F10 N10 z10 hsz hszl hsz0 zG5 z12 hmx1 hmx2 htop hgr1 hgr2 f13 f14 hmode hplace hpg zI0 K1 f11 hdep hd5 hge hu1 hu0 zJ5 f15 hhit hhu hue i31 z31 zL3 z33 i33 i34 z34 z35 hbent i35 hlb zL6 zL7 r5 r4 mrow mvals mplan hplH mnest mnodes hnds mhurt mbent mcrook htR i41 z41 hll hb3 hb4 hb1 hb2 hmn1 hmn2 zM5 f17 f18 hlo hc3 hc4 hc1 hc2 hmxa hmxb zN4 hhi zS3 zS6 zS9 zS12 KX F77 N77 hu24
  revert h77 tk77
  exact hCut.out⟩
end
@[irreducible] noncomputable def tuplT := pk2 cutT.Q rfl (by have := w_ne; have := s_ne; have := a_ne; have := g_ne; have := dr_ne; have := t_ne; infer_instance)
@[irreducible] noncomputable def h77 := tuplT.1
@[irreducible] noncomputable def tk77 := tuplT.2
noncomputable def QT : Prop := ap2 cutT.Q rfl h77 tk77
theorem backT (h : QT) : cutT.Q := bk2 rfl (by have := w_ne; have := s_ne; have := a_ne; have := g_ne; have := dr_ne; have := t_ne; infer_instance) (by with_unfolding_all exact h)
noncomputable def cutU : Got (QT) := ⟨_, by
  intro hCut
  w_top off
  intro zA9 zA10 zA11 zA12 zA13 TP zA14 zA15 zA16 zA19 zA32 zA33 zA36 zA38 zA40 zA49 zA50 zA51 zA52 zA53 zA55 zA64 zA68 zA72 zA75 zA84 zA85 zA88 zA92 zA95 hqk hek f4 hfx f2 f3 f5 f6 f7 f8 f9 f10 hl0 hl1 hl2 e0a e0b e1a e1b e2a e2b hft zB6 zB9 zB16 zB23 hW hW2 z1 hIr hrow hIv hvals hlr hlv hgs hgl hend hgn zE0 hmk him hml hmo1 hmo2 hneed hnl9 F10 N10 z10 hsz hszl hsz0 zG5 z12 hmx1 hmx2 htop hgr1 hgr2 f13 f14 hmode hplace hpg zI0 K1 f11 hdep hd5 hge hu1 hu0 zJ5 f15 hhit hhu hue i31 z31 zL3 z33 i33 i34 z34 z35 hbent i35 hlb zL6 zL7 r5 r4 mrow mvals mplan hplH mnest mnodes hnds mhurt mbent mcrook htR i41 z41 hll hb3 hb4 hb1 hb2 hmn1 hmn2 zM5 f17 f18 hlo hc3 hc4 hc1 hc2 hmxa hmxb zN4 hhi zS3 zS6 zS9 zS12 KX F77 N77 hu24
  revert KX
  k_fill
  intro KX
  (rename Fr _ _ _ _ => F80)
  (rename News _ _ _ _ => N80)
  have N81 : News _ _ _ _ := fun p hp => N80 p (.tail _ (.tail _ (.tail _ (.tail _ (.tail _ hp)))))
  clear N80
  refine item_list_ints (Held.list (Held.of N81).tail.tail.tail.tail.tail mrow) hIr (by omega) (by omega) (by omega) ?_
  intro tr0
  dsimp only at r4 r5
  k_steps
  rename_i zU0 zU1 zU2 zU3 zU4 zU5 zU6 zU7 zU8 zU9 zU10 zU11 zU12 zU13 zU14 zU15
  clear tr0 zU0 zU5 zU10
  revert zA9 zA10 zA11 zA12 zA13 TP zA14 zA15 zA16 zA19 zA32 zA33 zA36 zA38 zA40 zA49 zA50 zA51 zA52 zA53 zA55 zA64 zA68 zA72 zA75 zA84 zA85 zA88 zA92 zA95 hqk hek f4 hfx f2 f3 f5 f6 f7 f8 f9 f10 hl0 hl1 hl2 e0a e0b e1a e1b e2a e2b hft zB6 zB9 zB16 zB23 hW hW2 z1 hIr hrow hIv hvals hlr hlv hgs hgl hend hgn zE0 hmk him hml hmo1 hmo2 hneed hnl9 F10 N10 z10 hsz hszl hsz0 zG5 z12 hmx1 hmx2 htop hgr1 hgr2 f13 f14 hmode hplace hpg zI0 K1 f11 hdep hd5 hge hu1 hu0 zJ5 f15 hhit hhu hue i31 z31 zL3 z33 i33 i34 z34 z35 hbent i35 hlb zL6 zL7 r5 r4 mrow mvals mplan hplH mnest mnodes hnds mhurt mbent mcrook htR i41 z41 hll hb3 hb4 hb1 hb2 hmn1 hmn2 zM5 f17 f18 hlo hc3 hc4 hc1 hc2 hmxa hmxb zN4 hhi zS3 zS6 zS9 zS12 hu24 KX zU3 zU8 zU14 zU15
  revert zU1 zU2 zU4 zU6 zU7 zU9 zU11 zU12 zU13
  exact hCut.out⟩
@[irreducible] noncomputable def tuplU := pk9 cutU.Q rfl (by have := w_ne; have := s_ne; have := a_ne; have := g_ne; have := dr_ne; have := t_ne; infer_instance)
@[irreducible] noncomputable def zU1 := tuplU.1
@[irreducible] noncomputable def zU2 := tuplU.2.1
@[irreducible] noncomputable def zU4 := tuplU.2.2.1
@[irreducible] noncomputable def zU6 := tuplU.2.2.2.1
@[irreducible] noncomputable def zU7 := tuplU.2.2.2.2.1
@[irreducible] noncomputable def zU9 := tuplU.2.2.2.2.2.1
@[irreducible] noncomputable def zU11 := tuplU.2.2.2.2.2.2.1
@[irreducible] noncomputable def zU12 := tuplU.2.2.2.2.2.2.2.1
@[irreducible] noncomputable def zU13 := tuplU.2.2.2.2.2.2.2.2
noncomputable def QU : Prop := ap9 cutU.Q rfl zU1 zU2 zU4 zU6 zU7 zU9 zU11 zU12 zU13
theorem backU (h : QU) : cutU.Q := bk9 rfl (by have := w_ne; have := s_ne; have := a_ne; have := g_ne; have := dr_ne; have := t_ne; infer_instance) (by with_unfolding_all exact h)
noncomputable def cutV : Got (QU) := ⟨_, by
  intro hCut
  w_top off
  intro zA9 zA10 zA11 zA12 zA13 TP zA14 zA15 zA16 zA19 zA32 zA33 zA36 zA38 zA40 zA49 zA50 zA51 zA52 zA53 zA55 zA64 zA68 zA72 zA75 zA84 zA85 zA88 zA92 zA95 hqk hek f4 hfx f2 f3 f5 f6 f7 f8 f9 f10 hl0 hl1 hl2 e0a e0b e1a e1b e2a e2b hft zB6 zB9 zB16 zB23 hW hW2 z1 hIr hrow hIv hvals hlr hlv hgs hgl hend hgn zE0 hmk him hml hmo1 hmo2 hneed hnl9 F10 N10 z10 hsz hszl hsz0 zG5 z12 hmx1 hmx2 htop hgr1 hgr2 f13 f14 hmode hplace hpg zI0 K1 f11 hdep hd5 hge hu1 hu0 zJ5 f15 hhit hhu hue i31 z31 zL3 z33 i33 i34 z34 z35 hbent i35 hlb zL6 zL7 r5 r4 mrow mvals mplan hplH mnest mnodes hnds mhurt mbent mcrook htR i41 z41 hll hb3 hb4 hb1 hb2 hmn1 hmn2 zM5 f17 f18 hlo hc3 hc4 hc1 hc2 hmxa hmxb zN4 hhi zS3 zS6 zS9 zS12 hu24 KX zU3 zU8 zU14 zU15
  revert KX
  k_fill
  intro KX
  (rename Fr _ _ _ _ => F80)
  (rename News _ _ _ _ => N80)
  (rename _ = Data.cell (some (Value.int (_ - 1 + _) _)) => dsp)
  (rename _ = Data.cell (some (Value.int (_ - 2 + _) _)) => dst)
  obtain ⟨lo', tlo', dst'⟩ : ∃ z t, _ = Data.cell (some (Value.int z t)) := ⟨_, _, dst⟩
  obtain ⟨hi', thi', dsp'⟩ : ∃ z t, _ = Data.cell (some (Value.int z t)) := ⟨_, _, dsp⟩
  clear dst dsp
  have f21 := fm (a := ns.getD (Int.toNat 21) 0) (n := 4) (by decide)
  obtain ⟨bud, hbud⟩ : ∃ k : Nat, (ns.getD (Int.toNat 21) 0).fmod 4 = (k : Int) := ⟨_, (Int.toNat_of_nonneg f21.1).symm⟩
  have hb3 : bud ≤ 3 := by omega
  rw [hbud] at F80
  refine For_turns F80 ?_ (by intro _; rfl) (by rw [hek]; passes_own)
  walk1
  refine iterTC [Str.ofString "at", Str.ofString "left", Str.ofString "right", Str.ofString "n"] (Str.ofString "reach") (fun i => ((reachN row (usedN gs) lo' hi' ((nodesL gs 0).take i) : Nat) : Int)) rfl (List.Mem.tail _ (.tail _ (.tail _ (.tail _ (.tail _ mnodes))))) rfl rfl F80 N80 ⟨_, rfl⟩ ?_ ?_
  · intro i v u tkp h81 tk81 I oI hv hn F81 N81
    k_fold
    clear F80 N80
    replace F81 : Fr s₁.heap s₁.heap.objs.size h81 _ := F81
    replace N81 : News s₁.heap s₁.heap.objs.size h81 _ := N81
    obtain ⟨x, hx, hxi⟩ := hnds.get i v hv
    obtain ⟨xa, xn, y1, y2, y3, y4, rfl, hxm⟩ := id hxi
    have hxb := nodes_bound gs 0 x (List.mem_of_getElem? hx)
    have hrn := reach_next (row := row) (used := usedN gs) (lo := lo') (hi := hi') hx
    refine unpackN_ F81 N81 (Held.tup (Held.of N81) (.tail _ (.tail _ (.tail _ (.tail _ (.tail _ (.tail _ hxm))))))) rfl rfl rfl ?_
    intro h82 F82 N82
    clear F81 N81
    k_steps
    (rename Fr _ _ _ _ => F82)
    (rename News _ _ _ _ => N82)
    refine cutIf (metN row (usedN gs) lo' hi' x) F82 N82 ?_ ?_
    · have e1 : row.getD ((x.left : Int) - 1).toNat 0 = row.getD (x.left - 1) 0 := by rw [show ((x.left : Int) - 1).toNat = x.left - 1 by omega]
      have e2 : row.getD (x.right : Int).toNat 0 = row.getD x.right 0 := by rw [show (x.right : Int).toNat = x.right by omega]
      k_steps
      all_goals first
        | exact Same.intro (by assumption) (by assumption) (fun p hp => hp)
        | exact (metN_iff.mpr ⟨by omega, by omega, by omega⟩).symm
        | exact (Bool.eq_false_iff.mpr fun q => by have := metN_iff.mp q; omega).symm
        | skip
      · refine item_list_ints (Held.list (Held.of (by assumption)).tail.tail.tail.tail.tail.tail mrow) hIr (by omega) (by omega) (by omega) ?_
        intro ti
        k_steps
        all_goals first
          | exact Same.intro (by assumption) (by assumption) (fun p hp => hp)
          | exact (metN_iff.mpr ⟨by omega, by omega, by omega⟩).symm
          | exact (Bool.eq_false_iff.mpr fun q => by have := metN_iff.mp q; omega).symm
      · refine item_list_ints (Held.list (Held.of (by assumption)).tail.tail.tail.tail.tail.tail mrow) hIr (by omega) (by omega) (by omega) ?_
        intro ti
        k_steps
        all_goals first
          | exact Same.intro (by assumption) (by assumption) (fun p hp => hp)
          | exact (metN_iff.mpr ⟨by omega, by omega, by omega⟩).symm
          | exact (Bool.eq_false_iff.mpr fun q => by have := metN_iff.mp q; omega).symm
          | skip
        refine item_list_ints (Held.list (Held.of (by assumption)).tail.tail.tail.tail.tail.tail mrow) hIr (by omega) (by omega) (by omega) ?_
        intro ti
        k_steps
        all_goals first
          | exact Same.intro (by assumption) (by assumption) (fun p hp => hp)
          | exact (metN_iff.mpr ⟨by omega, by omega, by omega⟩).symm
          | exact (Bool.eq_false_iff.mpr fun q => by have := metN_iff.mp q; omega).symm
    · intro h83 tk83 F83 N83
      clear F82 N82
      cases hm : metN row (usedN gs) lo' hi' x with
      | false =>
        rw [hm, if_neg Bool.false_ne_true] at hrn
        k_steps
        exact turnEndA F83 N83 (fun p hp => hp) hn (fun z h1 h2 => by simp at h1; simp [h1, h2]) (by show some (Value.int _ _) = _; rw [hrn]) rfl
      | true =>
        rw [hm, if_pos rfl] at hrn
        k_steps
        refine max2 rfl (by k_asm) (by k_asm) ?_
        intro h84 t84 tk84 F84 N84
        (try clear F83 N83)
        k_steps
        exact turnEndA (by assumption) (by assumption) (fun p hp => hp) hn (fun z h1 h2 => by simp at h1; simp [h1, h2]) (by show some (Value.int _ _) = _; rw [hrn]; congr 2; omega) rfl
  intro u85 tkp h85 tk85 F85 N85
  clear F80 N80
  replace F85 : Fr s₁.heap s₁.heap.objs.size h85 _ := F85
  replace N85 : News s₁.heap s₁.heap.objs.size h85 _ := N85
  have hvl : ndv.length = (nodesL gs 0).length := hnds.length
  rw [hvl, List.take_length] at F85
  k_steps
  rename_i zV0
  revert zA9 zA10 zA11 zA12 zA13 TP zA14 zA15 zA16 zA19 zA32 zA33 zA36 zA38 zA40 zA49 zA50 zA51 zA52 zA53 zA55 zA64 zA68 zA72 zA75 zA84 zA85 zA88 zA92 zA95 hqk hek f4 hfx f2 f3 f5 f6 f7 f8 f9 f10 hl0 hl1 hl2 e0a e0b e1a e1b e2a e2b hft zB6 zB9 zB16 zB23 hW hW2 z1 hIr hrow hIv hvals hlr hlv hgs hgl hend hgn zE0 hmk him hml hmo1 hmo2 hneed hnl9 F10 N10 z10 hsz hszl hsz0 zG5 z12 hmx1 hmx2 htop hgr1 hgr2 f13 f14 hmode hplace hpg zI0 K1 f11 hdep hd5 hge hu1 hu0 zJ5 f15 hhit hhu hue i31 z31 zL3 z33 i33 i34 z34 z35 hbent i35 hlb zL6 zL7 r5 r4 mrow mvals mplan hplH mnest mnodes hnds mhurt mbent mcrook htR i41 z41 hll zV0 hb4 hb1 hb2 hmn1 hmn2 zM5 f17 f18 hlo hc3 hc4 hc1 hc2 hmxa hmxb zN4 hhi zS3 zS6 zS9 zS12 hu24 KX dst' dsp' f21 hbud hb3 F85 N85 hvl
  revert lo' tlo' hi' thi' bud u85 tkp h85 tk85
  exact hCut.out⟩
@[irreducible] noncomputable def tuplV := pk9 cutV.Q rfl (by have := w_ne; have := s_ne; have := a_ne; have := g_ne; have := dr_ne; have := t_ne; infer_instance)
@[irreducible] noncomputable def lo' := tuplV.1
@[irreducible] noncomputable def tlo' := tuplV.2.1
@[irreducible] noncomputable def hi' := tuplV.2.2.1
@[irreducible] noncomputable def thi' := tuplV.2.2.2.1
@[irreducible] noncomputable def bud := tuplV.2.2.2.2.1
@[irreducible] noncomputable def u85 := tuplV.2.2.2.2.2.1
@[irreducible] noncomputable def tkp := tuplV.2.2.2.2.2.2.1
@[irreducible] noncomputable def h85 := tuplV.2.2.2.2.2.2.2.1
@[irreducible] noncomputable def tk85 := tuplV.2.2.2.2.2.2.2.2
noncomputable def QV : Prop := ap9 cutV.Q rfl lo' tlo' hi' thi' bud u85 tkp h85 tk85
theorem backV (h : QV) : cutV.Q := bk9 rfl (by have := w_ne; have := s_ne; have := a_ne; have := g_ne; have := dr_ne; have := t_ne; infer_instance) (by with_unfolding_all exact h)
noncomputable def cutW : Got (QV) := ⟨_, by
  intro hCut
  w_top off
  intro zA9 zA10 zA11 zA12 zA13 TP zA14 zA15 zA16 zA19 zA32 zA33 zA36 zA38 zA40 zA49 zA50 zA51 zA52 zA53 zA55 zA64 zA68 zA72 zA75 zA84 zA85 zA88 zA92 zA95 hqk hek f4 hfx f2 f3 f5 f6 f7 f8 f9 f10 hl0 hl1 hl2 e0a e0b e1a e1b e2a e2b hft zB6 zB9 zB16 zB23 hW hW2 z1 hIr hrow hIv hvals hlr hlv hgs hgl hend hgn zE0 hmk him hml hmo1 hmo2 hneed hnl9 F10 N10 z10 hsz hszl hsz0 zG5 z12 hmx1 hmx2 htop hgr1 hgr2 f13 f14 hmode hplace hpg zI0 K1 f11 hdep hd5 hge hu1 hu0 zJ5 f15 hhit hhu hue i31 z31 zL3 z33 i33 i34 z34 z35 hbent i35 hlb zL6 zL7 r5 r4 mrow mvals mplan hplH mnest mnodes hnds mhurt mbent mcrook htR i41 z41 hll zV0 hb4 hb1 hb2 hmn1 hmn2 zM5 f17 f18 hlo hc3 hc4 hc1 hc2 hmxa hmxb zN4 hhi zS3 zS6 zS9 zS12 hu24 KX dst' dsp' f21 hbud hb3 F85 N85 hvl
  revert KX
  k_fill
  intro KX
  (rename Fr _ _ _ _ => F90)
  (rename News _ _ _ _ => N90)
  refine LCt.Assign_ListComp_T (F₀ := F90) (by rfl) (by with_unfolding_all rfl) (by with_unfolding_all rfl) (by decide) (by rfl) (by decide) (by rfl) (by rfl) (by rfl) ?_
  k_steps
  (rename IsRange _ _ 0 _ _ _ _ _ => hrg)
  (rename Fr _ _ _ _ => F91)
  (rename News _ _ _ _ => N91)
  refine LCt.CompSrcT.range (n := usedN gs) rfl F91 N91 hrg (range_small (by omega)) (range_size (by omega)) (by rw [sizeLine_eq]; omega) ?_
  intro g91
  refine rest_due (fun i => dueL row vals i lo' hi') rfl ?_ ?_
  · intro k i ys rest' hin hsub hpr ih
    refine LCt.CompRestT.succ ?_
    intro v I oI C oC D m₂ h92 tk92 E' hv hC hx F92 N92 off ne
    obtain ⟨t, rfl⟩ := hv
    clear F91 N91 hrg
    have ei : row.getD (0 + (i : Int)).toNat 0 = row.getD i 0 := by rw [show (0 + (i : Int)).toNat = i by omega]
    have ev : vals.getD (0 + (i : Int)).toNat 0 = vals.getD i 0 := by rw [show (0 + (i : Int)).toNat = i by omega]
    k_steps
    refine item_list_ints (Held.list (Held.of (by assumption)).tail.tail.tail.tail.tail.tail.tail.tail (hsub _ mrow)) hIr (by omega) (by omega) (by omega) ?_
    intro ti1
    k_steps
    · refine item_list_ints (Held.list (Held.of (by assumption)).tail.tail.tail.tail.tail.tail.tail.tail (hsub _ mrow)) hIr (by omega) (by omega) (by omega) ?_
      intro ti2
      k_steps
      · refine item_list_ints (Held.list (Held.of (by assumption)).tail.tail.tail.tail.tail.tail.tail.tail (hsub _ mrow)) hIr (by omega) (by omega) (by omega) ?_
        intro ti3
        k_steps
        refine item_list_ints (Held.list (Held.of (by assumption)).tail.tail.tail.tail.tail.tail.tail.tail (hsub _ mvals)) hIv (by omega) (by omega) (by omega) ?_
        intro ti4
        k_steps
        (rename I < _ ∧ _ => l1)
        obtain ⟨la, lb, lc, _⟩ := l1
        exact due_end (by assumption) (by assumption) off la lb lc trivial (ih _ _ (fun p hp => .tail _ (hsub p hp)) (by rw [due_yes ⟨by omega, by omega⟩]; exact due_pair hpr ei ev))
      · exact LCg.CompEnd.intro (by assumption) (by assumption) _ (fun p hp => hp) off trivial (ih ys rest' hsub (by rw [due_no (by omega)]; exact hpr))
    · exact LCg.CompEnd.intro (by assumption) (by assumption) _ (fun p hp => hp) off trivial (ih ys rest' hsub (by rw [due_no (by omega)]; exact hpr))
  intro ys rest' hsub hpr D h93 tk93 F93 N93 off
  clear F91 N91 hrg
  refine cutTwoN [Str.ofString "due"] F93 N93 ?_ ?_
  · have hrl := range_law (row := row) (vals := vals) (gs := gs) (lo := lo') (hi := hi') (b := bud) (by omega) (by rw [hrow]; exact row_up _) (by omega) (by omega)
    k_steps
    · (rename (bud : Int) < _ => hbr)
      (rename Fr _ _ _ _ => F95)
      (rename News _ _ _ _ => N95)
      rw [if_pos (by omega)] at hrl
      refine wrange_spec bud (nestT row vals gs) lo' hi' nv _ _ _ _ s₁.heap _ _ _ _ (pushX K1 F95 rfl rfl) (dicts_of F95 rfl) KX TP rfl (room_d (by omega)) (room_u (by omega)) ((mnest.mono hsub).at (Held.of N95).tail.tail.tail.tail.tail.tail) (sm_nest hlr hlv (by omega) bud) (wf_any hgn (by omega) (by omega) bud) hb3 ?_ ?_
      · intro l Dr pvs c nl h96 tk96 e
        rw [hrl] at e
        cases e
      · intro tk0 h96 tk96 _ tr
        have F96 := tr.fr F95 rfl
        have N96 := tr.news N95 rfl
        clear F95 N95 tr
        replace F96 : Fr s₁.heap s₁.heap.objs.size h96 _ := F96
        replace N96 : News s₁.heap s₁.heap.objs.size h96 _ := N96
        k_steps
        exact Turned.intro (by assumption) (fun z hz => by simp at hz; simp [hz]) (fun p hp => N96 p (.tail _ hp)) rfl
    · (rename ¬ (bud : Int) < _ => hbr)
      (rename Fr _ _ _ _ => F95)
      (rename News _ _ _ _ => N95)
      rw [if_neg (by omega)] at hrl
      refine wrange_spec bud (nestT row vals gs) lo' hi' nv _ _ _ _ s₁.heap _ _ _ _ (pushX K1 F95 rfl rfl) (dicts_of F95 rfl) KX TP rfl (room_d (by omega)) (room_u (by omega)) ((mnest.mono hsub).at (Held.of N95).tail.tail.tail.tail.tail.tail) (sm_nest hlr hlv (by omega) bud) (wf_any hgn (by omega) (by omega) bud) hb3 ?_ ?_
      · intro l Dr pvs c nl h96 tk96 e tr hnl hDr hprs
        rw [hrl] at e
        obtain rfl := Option.some.inj e
        have F96 := tr.fr F95 rfl
        have N96 := tr.news N95 rfl
        clear F95 N95 tr
        replace F96 : Fr s₁.heap s₁.heap.objs.size h96 _ := F96
        replace N96 : News s₁.heap s₁.heap.objs.size h96 _ := N96
        have HA : Held nl h96 := fun p hp => (hnl p hp).1
        k_steps
        refine ne_pairs HA (Held.of N96).tail.tail.tail.tail.tail.tail (Held.list HA hDr) (News.isList N96 (.head _)) hprs hpr (by units_room) ?_
        k_steps
        exact Turned.intro (by assumption) (fun z hz => by simp at hz; simp [hz]) (fun p hp => N96 p (.tail _ hp)) rfl
      · intro tk0 h96 tk96 e
        rw [hrl] at e
        cases e
  intro h94 tk94 u94 F94 N94
  clear F93 N93
  replace F94 : Fr s₁.heap s₁.heap.objs.size h94 _ := F94
  replace N94 : News s₁.heap s₁.heap.objs.size h94 _ := N94
  k_steps
  rename_i zW0 zW1 zW2 zW3 zW4 zW5 zW6 zW7
  clear zW2 zW3 zW4 zW5 zW6 zW7 g91 h93 tk93
  revert zA9 zA10 zA11 zA12 zA13 TP zA14 zA15 zA16 zA19 zA32 zA33 zA36 zA38 zA40 zA49 zA50 zA51 zA52 zA53 zA55 zA64 zA68 zA72 zA75 zA84 zA85 zA88 zA92 zA95 hqk hek f4 hfx f2 f3 f5 f6 f7 f8 f9 f10 hl0 hl1 hl2 e0a e0b e1a e1b e2a e2b hft zB6 zB9 zB16 zB23 hW hW2 z1 hIr hrow hIv hvals hlr hlv hgs hgl hend hgn zE0 hmk him hml hmo1 hmo2 hneed hnl9 F10 N10 z10 hsz hszl hsz0 zG5 z12 hmx1 hmx2 htop hgr1 hgr2 f13 f14 hmode hplace hpg zI0 K1 f11 hdep hd5 hge hu1 hu0 zJ5 f15 hhit hhu hue i31 z31 zL3 z33 i33 i34 z34 z35 hbent i35 hlb zL6 zL7 r5 r4 mrow mvals mplan hplH mnest mnodes hnds mhurt mbent mcrook htR i41 z41 hll zV0 hb4 hb1 hb2 hmn1 hmn2 zM5 f17 f18 hlo hc3 hc4 hc1 hc2 hmxa hmxb zN4 hhi zS3 zS6 zS9 zS12 hu24 dst' dsp' f21 hbud hb3 zW0 zW1 hvl KX hsub hpr off F94 N94
  revert ys rest' D h94 tk94 u94
  exact hCut.out⟩
@[irreducible] noncomputable def tuplW := pk6 cutW.Q rfl (by have := w_ne; have := s_ne; have := a_ne; have := g_ne; have := dr_ne; have := t_ne; infer_instance)
@[irreducible] noncomputable def ysW := tuplW.1
@[irreducible] noncomputable def rest' := tuplW.2.1
@[irreducible] noncomputable def DW := tuplW.2.2.1
@[irreducible] noncomputable def h94 := tuplW.2.2.2.1
@[irreducible] noncomputable def tk94 := tuplW.2.2.2.2.1
@[irreducible] noncomputable def u94 := tuplW.2.2.2.2.2
noncomputable def QW : Prop := ap6 cutW.Q rfl ysW rest' DW h94 tk94 u94
theorem backW (h : QW) : cutW.Q := bk6 rfl (by have := w_ne; have := s_ne; have := a_ne; have := g_ne; have := dr_ne; have := t_ne; infer_instance) (by with_unfolding_all exact h)
theorem finX : QW := by
  w_top off
  intro zA9 zA10 zA11 zA12 zA13 TP zA14 zA15 zA16 zA19 zA32 zA33 zA36 zA38 zA40 zA49 zA50 zA51 zA52 zA53 zA55 zA64 zA68 zA72 zA75 zA84 zA85 zA88 zA92 zA95 hqk hek f4 hfx f2 f3 f5 f6 f7 f8 f9 f10 hl0 hl1 hl2 e0a e0b e1a e1b e2a e2b hft zB6 zB9 zB16 zB23 hW hW2 z1 hIr hrow hIv hvals hlr hlv hgs hgl hend hgn zE0 hmk him hml hmo1 hmo2 hneed hnl9 F10 N10 z10 hsz hszl hsz0 zG5 z12 hmx1 hmx2 htop hgr1 hgr2 f13 f14 hmode hplace hpg zI0 K1 f11 hdep hd5 hge hu1 hu0 zJ5 f15 hhit hhu hue i31 z31 zL3 z33 i33 i34 z34 z35 hbent i35 hlb zL6 zL7 r5 r4 mrow mvals mplan hplH mnest mnodes hnds mhurt mbent mcrook htR i41 z41 hll zV0 hb4 hb1 hb2 hmn1 hmn2 zM5 f17 f18 hlo hc3 hc4 hc1 hc2 hmxa hmxb zN4 hhi zS3 zS6 zS9 zS12 hu24 dst' dsp' f21 hbud hb3 zW0 zW1 hvl KX hsub hpr off F94 N94
  revert KX
  k_fill
  intro KX
  (rename Fr _ _ _ _ => F100)
  (rename News _ _ _ _ => N100)
  have H100 := (Held.of N100).tail.tail.tail.tail.tail
  refine build_spec row vals gs _ _ _ _ _ _ _ _ _ _ (KX.keeps F100.keep) (TP.keeps F100.keep) rfl (by k_room) (Held.list H100 (hsub _ mrow)) hIr (Held.list H100 (hsub _ mvals)) hIv (Held.list H100 (hsub _ mplan)) (hplH _ fun p hp => H100 p (hsub p hp)) hlr hlv hend hgn (by omega) ?_
  intro R3 nl3 h101 tk101 k101 hnl3 hB3
  obtain ⟨av, ada, adv, ac0, atu, anr, m1, m2, _, _⟩ := hB3
  obtain ⟨rest4, N101, _, q2, q3⟩ := regroup' (pre := []) F100 N100 k101 hnl3
  have F101 := F100.keeps k101
  have magain := m2.mono q3
  have htR3 := Held.tup (Held.of N101).tail.tail.tail.tail.tail (q3 _ m1)
  have hs4 : ∀ p ∈ rest3, p ∈ rest4 := fun p hp => q2 p (hsub p hp)
  clear F100 N100 k101 hnl3 H100 m1 m2 q2 q3
  k_steps
  (rename Fr _ _ _ _ => F102)
  (rename News _ _ _ _ => N102)
  refine cutIf false F102 N102 ?_ ?_
  · k_steps
    have H102 := (Held.of N102).tail.tail.tail.tail.tail
    have hn3 : needN gs ≤ 3 := by unfold needN; split <;> omega
    refine ne_same ((mnest.mono hs4).at H102) (magain.at H102) ((fits_nest row vals hgn 3).mpr hn3) (by units_room) ?_
    k_steps
    refine hurt_spec (nestT row vals gs) mode place av rest4 _ _ _ _ _ _ (KX.keeps F102.keep) (TP.keeps F102.keep) rfl (by k_room) H102 magain (sm_nest hlr hlv (by omega) 2) (fun ks vs cs e => by cases e; rw [kidsL_length]; exact hpg) ?_
    intro hv2 hnl2 h103 tk103 k103 hfr2 hT2
    have HB : Held (rest4 ++ hnl2) h103 := fun p hp => (List.mem_append.mp hp).elim (fun q => k103 _ _ (H102 p q)) fun q => (hfr2 p q).1
    have F103 := F102.keeps k103
    have N103 := News.kept N102 k103
    clear F102 N102
    k_steps
    refine ne_same ((mhurt.mono fun p hp => List.mem_append_left _ (hs4 p hp)).at HB) (hT2.at HB) (fits_hurt hgn hpg hn3) (by units_room) ?_
    k_steps
    exact Same.intro (by assumption) (by assumption) (fun p hp => hp)
  intro h105 tk105 F105 N105
  clear F102 N102
  k_steps
  have H105 := (Held.of N105).tail.tail.tail.tail.tail
  refine build_spec bent vals gs _ _ _ _ _ _ _ _ _ _ (KX.keeps F105.keep) (TP.keeps F105.keep) rfl (by k_room) (Held.list H105 (hs4 _ mbent)) (i35 _) (Held.list H105 (hs4 _ mvals)) hIv (Held.list H105 (hs4 _ mplan)) (hplH _ fun p hp => H105 p (hs4 p hp)) hlb hlv hend hgn (by omega) ?_
  intro R4 nl4 h106 tk106 k106 hnl4 hB4
  obtain ⟨bv, bda, bdv, bc0, btu, bnr, m1, m2, _, _⟩ := hB4
  obtain ⟨rest5, N106, _, q2, q3⟩ := regroup' (pre := []) F105 N105 k106 hnl4
  have F106 := F105.keeps k106
  have mcr2 := m2.mono q3
  have htR4 := Held.tup (Held.of N106).tail.tail.tail.tail.tail (q3 _ m1)
  have hs5 : ∀ p ∈ rest3, p ∈ rest5 := fun p hp => q2 p (hs4 p hp)
  clear F105 N105 k106 hnl4 H105 m1 m2 q2 q3
  k_steps
  have H106 := (Held.of N106).tail.tail.tail.tail.tail
  have hn3 : needN gs ≤ 3 := by unfold needN; split <;> omega
  refine ne_same ((mcrook.mono hs5).at H106) (mcr2.at H106) ((fits_nest bent vals hgn 3).mpr hn3) (by units_room) ?_
  k_steps
  rw [hqk]
  dsimp only
  k_steps
theorem law_holds : PySem.Challenge.rw_sx_zcanopy_6.Holds := cutA.k ⟨backA (cutB.k ⟨backB (cutC.k ⟨backC (cutD.k ⟨backD (cutE.k ⟨backE (cutF.k ⟨backF (cutG.k ⟨backG (cutH.k ⟨backH (cutI.k ⟨backI (cutJ.k ⟨backJ (cutK.k ⟨backK (cutL.k ⟨backL (cutM.k ⟨backM (cutN.k ⟨backN (cutO.k ⟨backO (cutP.k ⟨backP (cutQ.k ⟨backQ (cutR.k ⟨backR (cutS.k ⟨backS (cutT.k ⟨backT (cutU.k ⟨backU (cutV.k ⟨backV (cutW.k ⟨backW (finX)⟩)⟩)⟩)⟩)⟩)⟩)⟩)⟩)⟩)⟩)⟩)⟩)⟩)⟩)⟩)⟩)⟩)⟩)⟩)⟩)⟩)⟩)⟩
end Mine
end
theorem PySem.Challenge.cw_sx_zcanopy_6_holds : PySem.Challenge.rw_sx_zcanopy_6.Holds :=
  Mine.law_holds
