import PyProof.Rows.All
import Wide.All
import OpenK.AllK
import Wide.FinOn
import HandS.ForMost
import HandS.Evl
import HandS.Walk
import HandS.Deep
import HandS.SetFor
import HandS.SortInts
import HandS.IsInst
import HandS.Wide
import HandS.TupAny
import HandS.Flow
import HandS.Rev
import HandS.Strs
import HandS.Conv
import KE.GoesMore
import PyProof.WalkInts
import HandS.RevTup
import PySem.Challenge.RW_claspwork_k48_whole_score_by_crossing_ti
set_option Elab.async false
set_option linter.all false
set_option maxRecDepth 100000
set_option maxHeartbeats 4000000
/-! Part A: a finite tree given by the lists of neighbours and by the sides of its edges; thinning it to its knots; the legs. -/
namespace KA

/-- side u v x: x lies on the side of v, seen from u -/
structure Tree (M : Nat) (links : Nat → List Nat) (side : Nat → Nat → Nat → Prop) : Prop where
  nodup : ∀ u, u < M → (links u).Nodup
  lt : ∀ u v, u < M → v ∈ links u → v < M
  sym : ∀ u v, u < M → v ∈ links u → u ∈ links v
  irr : ∀ u v x, u < M → v ∈ links u → side u v x → x ≠ u
  ex : ∀ u x, u < M → x < M → x ≠ u → ∃ v, v ∈ links u ∧ side u v x
  uq : ∀ u v w x, u < M → x < M → v ∈ links u → w ∈ links u → side u v x → side u w x → v = w
  opp : ∀ u v x, u < M → v ∈ links u → x < M → (side u v x ↔ ¬ side v u x)

section
variable {M : Nat} {links : Nat → List Nat} {side : Nat → Nat → Nat → Prop}

theorem Tree.self (T : Tree M links side) {u v : Nat} (hu : u < M) (hv : v ∈ links u) : side u v v := by
  have hvM := T.lt u v hu hv
  rw [T.opp u v v hu hv hvM]
  intro h
  exact T.irr v u v hvM (T.sym u v hu hv) h rfl

theorem Tree.ne (T : Tree M links side) {u v : Nat} (hu : u < M) (hv : v ∈ links u) : v ≠ u :=
  T.irr u v v hu hv (T.self hu hv)

theorem Tree.sub (T : Tree M links side) {u v w x : Nat} (hu : u < M) (hx : x < M) (hv : v ∈ links u) (hw : w ∈ links v) (hne : w ≠ u)
    (h : side v w x) : side u v x := by
  have hvM := T.lt u v hu hv
  rw [T.opp u v x hu hv hx]
  intro h2
  exact hne (T.uq v w u x hvM hx hw (T.sym u v hu hv) h h2)

theorem Tree.next (T : Tree M links side) {u v x : Nat} (hu : u < M) (hx : x < M) (hv : v ∈ links u) (h : side u v x) (hne : x ≠ v) :
    ∃ w, w ∈ links v ∧ w ≠ u ∧ side v w x := by
  have hvM := T.lt u v hu hv
  obtain ⟨w, hw, hs⟩ := T.ex v x hvM hx hne
  refine ⟨w, hw, ?_, hs⟩
  intro e
  subst e
  exact (T.opp w v x hu hv hx).mp h hs

/-- how many lie on a side -/
noncomputable def sz (M : Nat) (side : Nat → Nat → Nat → Prop) (u v : Nat) : Nat :=
  (List.range M).countP (fun x => @decide (side u v x) (Classical.propDecidable _))

theorem countP_lt {p q : Nat → Bool} (l : List Nat) (h : ∀ x ∈ l, p x = true → q x = true) (a : Nat) (ha : a ∈ l) (hq : q a = true) (hp : p a = false) :
    l.countP p < l.countP q := by
  induction l with
  | nil => cases ha
  | cons b r ih =>
    rw [List.countP_cons, List.countP_cons]
    have hle : r.countP p ≤ r.countP q := List.countP_mono_left (fun x hx => h x (List.mem_cons_of_mem _ hx))
    rcases List.mem_cons.mp ha with e | e
    · subst e
      simp only [hp, hq]
      simp
      omega
    · have := ih (fun x hx => h x (List.mem_cons_of_mem _ hx)) e
      have hb := h b (List.mem_cons_self)
      cases hpb : p b <;> cases hqb : q b <;> simp_all <;> omega

theorem Tree.sz_lt (T : Tree M links side) {u v w : Nat} (hu : u < M) (hv : v ∈ links u) (hw : w ∈ links v) (hne : w ≠ u) :
    sz M side v w < sz M side u v := by
  have hvM := T.lt u v hu hv
  apply countP_lt _ _ v (List.mem_range.mpr hvM)
  · simp [T.self hu hv]
  · simp
    intro h
    exact T.irr v w v hvM hw h rfl
  · intro x hx h
    simp at h ⊢
    exact T.sub hu (List.mem_range.mp hx) hv hw hne h

/-- neighbours lie on one side -/
theorem Tree.adj (T : Tree M links side) : ∀ (n : Nat) {u v a c : Nat}, sz M side u v ≤ n → u < M → v ∈ links u → a < M → c ∈ links a → c ≠ u → side u v a → side u v c := by
  intro n
  induction n with
  | zero =>
    intro u v a c hn hu hv ha hc hne h
    exfalso
    have : 0 < sz M side u v := by
      unfold sz
      rw [List.countP_pos_iff]
      exact ⟨a, List.mem_range.mpr ha, by simp [h]⟩
    omega
  | succ n ih =>
    intro u v a c hn hu hv ha hc hne h
    have hvM := T.lt u v hu hv
    have hcM := T.lt a c ha hc
    by_cases e : a = v
    · subst e
      exact T.sub hu hcM hv hc hne (T.self hvM hc)
    · obtain ⟨w, hw, hwu, hs⟩ := T.next hu ha hv h e
      by_cases e2 : c = v
      · subst e2
        exact T.self hu hv
      · have hlt := T.sz_lt hu hv hw hwu
        exact T.sub hu hcM hv hw hwu (ih (by omega) hvM hw ha hc e2 hs)

/-- what does not lie on a's side of z lies on z's side of a -/
theorem Tree.sep (T : Tree M links side) : ∀ (n : Nat) {z a v c x : Nat}, sz M side a c ≤ n → z < M → a < M → v ∈ links z → c ∈ links a →
    side z v a → side a c z → x < M → ¬ side z v x → side a c x := by
  intro n
  induction n with
  | zero =>
    intro z a v c x hn hz ha hv hc h1 h2 hx h3
    exfalso
    have : 0 < sz M side a c := by
      unfold sz
      rw [List.countP_pos_iff]
      exact ⟨z, List.mem_range.mpr hz, by simp [h2]⟩
    omega
  | succ n ih =>
    intro z a v c x hn hz ha hv hc h1 h2 hx h3
    have hcM := T.lt a c ha hc
    by_cases exz : x = z
    · subst exz
      exact h2
    by_cases e : z = c
    · subst e
      have hza := T.sym a z ha hc
      obtain ⟨v', hv', hs'⟩ := T.ex z x hz hx exz
      refine T.sub ha hx hc hv' ?_ hs'
      intro e2
      subst e2
      exact h3 (by rw [T.uq z v v' v' hz ha hv hv' h1 (T.self hz hv')]; exact hs')
    · obtain ⟨w, hw, hwa, hs⟩ := T.next ha hz hc h2 e
      have hlt := T.sz_lt ha hc hw hwa
      have h1c : side z v c := T.adj _ (Nat.le_refl _) hz hv ha hc (Ne.symm e) h1
      exact T.sub ha hx hc hw hwa (ih (by omega) hz hcM hv hw h1c hs hx h3)

/-! ### thinning -/

/-- what was taken away hides no knot -/
structure Good (M : Nat) (links : Nat → List Nat) (side : Nat → Nat → Nat → Prop) (kn al : Nat → Bool) : Prop where
  keep : ∀ u, u < M → kn u = true → al u = true
  hide : ∀ u v, u < M → v ∈ links u → al u = true → al v = false → ∀ x, x < M → kn x = true → ¬ side u v x

theorem two_mem {l : List Nat} {a b : Nat} (ha : a ∈ l) (hb : b ∈ l) (hne : a ≠ b) : 2 ≤ l.length := by
  match l, ha, hb with
  | [x], ha, hb => simp at ha hb; omega
  | x :: y :: r, _, _ => simp

theorem good_start (kn : Nat → Bool) : Good M links side kn (fun _ => true) :=
  ⟨fun _ _ _ => rfl, fun _ _ _ _ _ h => by cases h⟩

theorem good_step (T : Tree M links side) {kn al : Nat → Bool} (G : Good M links side kn al) {v : Nat} (hv : v < M) (hal : al v = true) (hk : kn v = false)
    (hd : ((links v).filter al).length < 2) : Good M links side kn (fun u => if u = v then false else al u) := by
  constructor
  · intro u hu hku
    have : u ≠ v := by
      intro e
      subst e
      rw [hk] at hku
      cases hku
    simp [this, G.keep u hu hku]
  · intro u w hu hw h1 h2 x hx hkx hs
    have huv : u ≠ v := by
      intro e
      simp [e] at h1
    simp only [huv, if_false] at h1
    by_cases hwv : w = v
    · subst hwv
      have hxw : x ≠ w := by
        intro e
        subst e
        rw [hk] at hkx
        cases hkx
      obtain ⟨w', hw', hne, hs'⟩ := T.next hu hx hw hs hxw
      cases hal' : al w' with
      | true =>
        have m1 : u ∈ (links w).filter al := List.mem_filter.mpr ⟨T.sym u w hu hw, h1⟩
        have m2 : w' ∈ (links w).filter al := List.mem_filter.mpr ⟨hw', hal'⟩
        have := two_mem m1 m2 hne.symm
        omega
      | false => exact G.hide w w' hv hw' hal hal' x hx hkx hs'
    · simp only [hwv, if_false] at h2
      exact G.hide u w hu hw h1 h2 x hx hkx hs

/-- nothing more can be taken away -/
def Done (M : Nat) (links : Nat → List Nat) (kn al : Nat → Bool) : Prop :=
  ∀ v, v < M → al v = true → kn v = false → 2 ≤ ((links v).filter al).length

theorem other_mem {l : List Nat} (hn : l.Nodup) (h2 : 2 ≤ l.length) (u : Nat) : ∃ w, w ∈ l ∧ w ≠ u := by
  match l, hn, h2 with
  | x :: y :: r, hn, _ =>
    by_cases e : x = u
    · refine ⟨y, by simp, ?_⟩
      intro e2
      subst e e2
      simp at hn
    · exact ⟨x, by simp, e⟩

theorem alive_knot (T : Tree M links side) {kn al : Nat → Bool} (D : Done M links kn al) : ∀ (n : Nat) {u v : Nat}, sz M side u v ≤ n →
    u < M → v ∈ links u → al v = true → ∃ x, x < M ∧ kn x = true ∧ side u v x := by
  intro n
  induction n with
  | zero =>
    intro u v hn hu hv ha
    exfalso
    have : 0 < sz M side u v := by
      unfold sz
      rw [List.countP_pos_iff]
      exact ⟨v, List.mem_range.mpr (T.lt u v hu hv), by simp [T.self hu hv]⟩
    omega
  | succ n ih =>
    intro u v hn hu hv ha
    have hvM := T.lt u v hu hv
    cases hk : kn v with
    | true => exact ⟨v, hvM, hk, T.self hu hv⟩
    | false =>
      obtain ⟨w, hw, hne⟩ := other_mem ((T.nodup v hvM).filter al) (D v hvM ha hk) u
      obtain ⟨hw1, hw2⟩ := List.mem_filter.mp hw
      have hlt := T.sz_lt hu hv hw1 hne
      obtain ⟨x, hx, hkx, hs⟩ := ih (by omega) hvM hw1 hw2
      exact ⟨x, hx, hkx, T.sub hu hx hv hw1 hne hs⟩

/-- all other knots lie on one side -/
def Leaf (M : Nat) (links : Nat → List Nat) (side : Nat → Nat → Nat → Prop) (kn : Nat → Bool) (K : Nat) : Prop :=
  ∀ X Y v w, X < M → Y < M → kn X = true → kn Y = true → X ≠ K → Y ≠ K → v ∈ links K → w ∈ links K → side K v X → side K w Y → v = w

theorem leaf_iff (T : Tree M links side) {kn al : Nat → Bool} (G : Good M links side kn al) (D : Done M links kn al) {K : Nat} (hK : K < M) (hk : kn K = true) :
    ((links K).filter al).length < 2 ↔ Leaf M links side kn K := by
  have haK := G.keep K hK hk
  constructor
  · intro h X Y v w hX hY kX kY nX nY hv hw sX sY
    apply Classical.byContradiction
    intro hne
    have av : al v = true := by
      cases e : al v with
      | true => rfl
      | false => exact absurd sX (G.hide K v hK hv haK e X hX kX)
    have aw : al w = true := by
      cases e : al w with
      | true => rfl
      | false => exact absurd sY (G.hide K w hK hw haK e Y hY kY)
    have := two_mem (List.mem_filter.mpr ⟨hv, av⟩) (List.mem_filter.mpr ⟨hw, aw⟩) hne
    omega
  · intro h
    apply Classical.byContradiction
    intro h2
    have hnd := (T.nodup K hK).filter al
    obtain ⟨v, hv, _⟩ := other_mem hnd (by omega) K
    obtain ⟨w, hw, hne⟩ := other_mem hnd (by omega) v
    obtain ⟨hv1, hv2⟩ := List.mem_filter.mp hv
    obtain ⟨hw1, hw2⟩ := List.mem_filter.mp hw
    obtain ⟨X, hX, kX, sX⟩ := alive_knot T D _ (Nat.le_refl _) hK hv1 hv2
    obtain ⟨Y, hY, kY, sY⟩ := alive_knot T D _ (Nat.le_refl _) hK hw1 hw2
    exact hne (h X Y v w hX hY kX kY (T.irr K v X hK hv1 sX) (T.irr K w Y hK hw1 sY) hv1 hw1 sX sY).symm

/-! ### legs -/

/-- z becomes a leaf where the knot k is taken away -/
def NewLeaf (M : Nat) (links : Nat → List Nat) (side : Nat → Nat → Nat → Prop) (kn : Nat → Bool) (K Z : Nat) : Prop :=
  Z < M ∧ kn Z = true ∧ Z ≠ K ∧ ¬ Leaf M links side kn Z ∧ Leaf M links side (fun u => kn u && (u != K)) Z

/-- on the way from the leaf K: `b` behind, `a` ahead -/
structure Leg (M : Nat) (links : Nat → List Nat) (side : Nat → Nat → Nat → Prop) (kn al : Nat → Bool) (K many b a : Nat) : Prop where
  hb : b < M
  ha : a ∈ links b
  alb : al b = true
  ala : al a = true
  pos : 1 ≤ many
  has : side a b K
  one : many = 1 → ∀ x, x < M → kn x = true → side a b x → x = K
  more : 2 ≤ many → ∃ Z, NewLeaf M links side kn K Z
  none : ∀ x, x < M → kn x = true → side a b x → Leaf M links side kn x → x = K

theorem leg_first (T : Tree M links side) {kn al : Nat → Bool} (G : Good M links side kn al) {K a : Nat} (hK : K < M) (hk : kn K = true)
    (hd : ((links K).filter al).length < 2) (ha : a ∈ (links K).filter al) : Leg M links side kn al K 1 K a := by
  obtain ⟨ha1, ha2⟩ := List.mem_filter.mp ha
  have haM := T.lt K a hK ha1
  have hone : ∀ x, x < M → kn x = true → side a K x → x = K := by
    intro x hx kx hs
    apply Classical.byContradiction
    intro hne
    obtain ⟨w, hw, hwa, hs'⟩ := T.next haM hx (T.sym K a hK ha1) hs hne
    have aw : al w = true := by
      cases e : al w with
      | true => rfl
      | false => exact absurd hs' (G.hide K w hK hw (G.keep K hK hk) e x hx kx)
    have := two_mem ha (List.mem_filter.mpr ⟨hw, aw⟩) hwa.symm
    omega
  exact ⟨hK, ha1, G.keep K hK hk, ha2, Nat.le_refl _, T.self haM (T.sym K a hK ha1), fun _ => hone, fun h => by omega, fun x hx kx hs _ => hone x hx kx hs⟩

/-- of at most two alive neighbours, one behind and one ahead -/
theorem two_only {l : List Nat} {a b c : Nat} (hn : l.Nodup) (h : l.length < 3) (ha : a ∈ l) (hb : b ∈ l) (hc : c ∈ l) (hab : a ≠ b) : c = a ∨ c = b := by
  match l, hn, h with
  | [x], _, _ => simp at ha hb hc; omega
  | [x, y], _, _ =>
    simp at ha hb hc
    omega

theorem behind (T : Tree M links side) {kn al : Nat → Bool} (G : Good M links side kn al) {b a a' : Nat} (hb : b < M) (ha : a ∈ links b) (alb : al b = true) (ala : al a = true)
    (hd : ((links a).filter al).length < 3) (ha' : a' ∈ (links a).filter al) (hne : a' ≠ b) {x : Nat} (hx : x < M) (kx : kn x = true) (hs : side a' a x) :
    x = a ∨ side a b x := by
  have haM := T.lt b a hb ha
  obtain ⟨ha1, ha2⟩ := List.mem_filter.mp ha'
  have ha'M := T.lt a a' haM ha1
  by_cases e : x = a
  · exact .inl e
  · right
    obtain ⟨w, hw, hwa, hs'⟩ := T.next ha'M hx (T.sym a a' haM ha1) hs e
    have aw : al w = true := by
      cases e : al w with
      | true => rfl
      | false => exact absurd hs' (G.hide a w haM hw ala e x hx kx)
    have hbm : b ∈ (links a).filter al := List.mem_filter.mpr ⟨T.sym b a hb ha, alb⟩
    rcases two_only ((T.nodup a haM).filter al) hd ha' hbm (List.mem_filter.mpr ⟨hw, aw⟩) hne with e1 | e1
    · exact absurd e1 hwa
    · rw [e1] at hs'
      exact hs'

theorem leg_next (T : Tree M links side) {kn al : Nat → Bool} (G : Good M links side kn al) (D : Done M links kn al) {K many b a a' : Nat} (hK : K < M) (hk : kn K = true)
    (L : Leg M links side kn al K many b a) (hd : ((links a).filter al).length < 3) (ha' : a' ∈ (links a).filter al) (hne : a' ≠ b) :
    Leg M links side kn al K (many + (if kn a = true then 1 else 0)) a a' := by
  obtain ⟨hb, ha, alb, ala, pos, has, one, more, non⟩ := L
  have haM := T.lt b a hb ha
  have hba := T.sym b a hb ha
  obtain ⟨ha1, ha2⟩ := List.mem_filter.mp ha'
  have ha'M := T.lt a a' haM ha1
  have hKa : K ≠ a := T.irr a b K haM hba has
  have hbh : ∀ x, x < M → kn x = true → side a' a x → x = a ∨ side a b x := fun x hx kx hs => behind T G hb ha alb ala hd ha' hne hx kx hs
  obtain ⟨Y, hY, kY, sY⟩ := alive_knot T D _ (Nat.le_refl _) haM ha1 ha2
  have hYa : Y ≠ a := T.irr a a' Y haM ha1 sY
  have notleaf : ¬ Leaf M links side kn a := fun h => hne (h K Y b a' hK hY hk kY hKa hYa hba ha1 has sY).symm
  refine ⟨haM, ha1, ala, ha2, by omega, T.sub ha'M hK (T.sym a a' haM ha1) hba hne.symm has, ?_, ?_, ?_⟩
  · intro h x hx kx hs
    cases ka : kn a with
    | true =>
      simp [ka] at h
      omega
    | false =>
      simp [ka] at h
      rcases hbh x hx kx hs with e | e
      · subst e
        rw [ka] at kx
        cases kx
      · exact one h x hx kx e
  · intro h
    cases ka : kn a with
    | false =>
      simp [ka] at h
      exact more h
    | true =>
      by_cases h2 : 2 ≤ many
      · exact more h2
      · have hm : many = 1 := by omega
        refine ⟨a, haM, ka, hKa.symm, notleaf, ?_⟩
        intro X Y' v w hX hY' kX kY' nX nY' hv hw sX sY'
        have key : ∀ X v, X < M → (kn X && (X != K)) = true → v ∈ links a → side a v X → v = a' := by
          intro X v hX kX hv sX
          simp at kX
          have av : al v = true := by
            cases e : al v with
            | true => rfl
            | false => exact absurd sX (G.hide a v haM hv ala e X hX kX.1)
          have hbm : b ∈ (links a).filter al := List.mem_filter.mpr ⟨hba, alb⟩
          rcases two_only ((T.nodup a haM).filter al) hd ha' hbm (List.mem_filter.mpr ⟨hv, av⟩) hne with e1 | e1
          · exact e1
          · subst e1
            exact absurd (one hm X hX kX.1 sX) kX.2
        rw [key X v hX kX hv sX, key Y' w hY' kY' hw sY']
  · intro x hx kx hs hl
    rcases hbh x hx kx hs with e | e
    · subst e
      exact absurd hl notleaf
    · exact non x hx kx e hl

/-- nothing ahead: there are no three leaves -/
theorem leg_stop (T : Tree M links side) {kn al : Nat → Bool} (G : Good M links side kn al) {K many b a : Nat}
    (L : Leg M links side kn al K many b a) (hd : ∀ c, c ∈ (links a).filter al → c = b) {x : Nat} (hx : x < M) (kx : kn x = true) (hl : Leaf M links side kn x) :
    x = K ∨ x = a := by
  obtain ⟨hb, ha, alb, ala, pos, has, one, more, non⟩ := L
  have haM := T.lt b a hb ha
  by_cases e : x = a
  · exact .inr e
  · left
    obtain ⟨w, hw, hs⟩ := T.ex a x haM hx e
    have aw : al w = true := by
      cases e : al w with
      | true => rfl
      | false => exact absurd hs (G.hide a w haM hw ala e x hx kx)
    have := hd w (List.mem_filter.mpr ⟨hw, aw⟩)
    subst this
    exact non x hx kx hs hl

theorem three_other {l : List Nat} (hn : l.Nodup) (h3 : 3 ≤ l.length) (u v : Nat) : ∃ w, w ∈ l ∧ w ≠ u ∧ w ≠ v := by
  match l, hn, h3 with
  | x :: y :: z :: r, hn, _ =>
    simp at hn
    by_cases e1 : x = u ∨ x = v
    · by_cases e2 : y = u ∨ y = v
      · refine ⟨z, by simp, ?_⟩
        omega
      · exact ⟨y, by simp, by omega, by omega⟩
    · exact ⟨x, by simp, by omega, by omega⟩

/-- the leg ends at a crossing behind one knot alone: nothing becomes a leaf -/
theorem leg_fork (T : Tree M links side) {kn al : Nat → Bool} (G : Good M links side kn al) (D : Done M links kn al) {K b a : Nat} (hK : K < M) (hk : kn K = true)
    (L : Leg M links side kn al K 1 b a) (hd : 3 ≤ ((links a).filter al).length) : ¬ ∃ Z, NewLeaf M links side kn K Z := by
  rintro ⟨Z, hZ, kZ, nZ, nl, lf⟩
  obtain ⟨hb, ha, alb, ala, pos, has, one, more, non⟩ := L
  have one := one rfl
  have haM := T.lt b a hb ha
  have hba := T.sym b a hb ha
  have hnd := (T.nodup a haM).filter al
  -- the side of Z on which K lies bears K alone
  obtain ⟨vK, hvK, sK⟩ := T.ex Z K hZ hK nZ.symm
  have only : ∀ X, X < M → kn X = true → X ≠ Z → side Z vK X → X = K := by
    intro X hX kX nX sX
    apply Classical.byContradiction
    intro hXK
    apply nl
    intro X' Y' v w hX' hY' kX' kY' nX' nY' hv hw sX' sY'
    have key : ∀ X' v, X' < M → kn X' = true → X' ≠ Z → v ∈ links Z → side Z v X' → v = vK := by
      intro X' v hX' kX' nX' hv sX'
      by_cases e : X' = K
      · subst e
        exact T.uq Z v vK X' hZ hX' hv hvK sX' sK
      · exact lf X' X v vK hX' hX (by simp [kX', e]) (by simp [kX, hXK]) nX' nX hv hvK sX' sX
    rw [key X' v hX' kX' nX' hv sX', key Y' w hY' kY' nY' hw sY']
  by_cases eaZ : a = Z
  · -- Z itself is the crossing
    subst eaZ
    obtain ⟨c, hc, hcb, hcv⟩ := three_other hnd hd b b
    obtain ⟨d, hd1, hdb, hdc⟩ := three_other hnd hd b c
    obtain ⟨hc1, hc2⟩ := List.mem_filter.mp hc
    obtain ⟨hd1, hd2⟩ := List.mem_filter.mp hd1
    obtain ⟨X, hX, kX, sX⟩ := alive_knot T D _ (Nat.le_refl _) haM hc1 hc2
    obtain ⟨Y, hY, kY, sY⟩ := alive_knot T D _ (Nat.le_refl _) haM hd1 hd2
    have nXK : X ≠ K := by
      intro e
      subst e
      exact hcb (T.uq a c b X haM hX hc1 hba sX has)
    have nYK : Y ≠ K := by
      intro e
      subst e
      exact hdb (T.uq a d b Y haM hY hd1 hba sY has)
    exact hdc (lf X Y c d hX hY (by simp [kX, nXK]) (by simp [kY, nYK]) (T.irr a c X haM hc1 sX) (T.irr a d Y haM hd1 sY) hc1 hd1 sX sY).symm
  · -- Z lies beyond the crossing
    obtain ⟨c', hc', sZ⟩ := T.ex a Z haM hZ (Ne.symm eaZ)
    have hc'b : c' ≠ b := by
      intro e
      subst e
      exact nZ (one Z hZ kZ sZ)
    obtain ⟨c, hc, hcb, hcc⟩ := three_other hnd hd b c'
    obtain ⟨hc1, hc2⟩ := List.mem_filter.mp hc
    obtain ⟨X, hX, kX, sX⟩ := alive_knot T D _ (Nat.le_refl _) haM hc1 hc2
    have nXK : X ≠ K := by
      intro e
      subst e
      exact hcb (T.uq a c b X haM hX hc1 hba sX has)
    have nXZ : X ≠ Z := by
      intro e
      subst e
      exact hcc (T.uq a c c' X haM hX hc1 hc' sX sZ)
    obtain ⟨v, hv, sa⟩ := T.ex Z a hZ haM eaZ
    have sideZ : ∀ x d, x < M → d ∈ links a → d ≠ c' → side a d x → side Z v x := by
      intro x d hx hd hne hs
      apply Classical.byContradiction
      intro hno
      have := T.sep _ (Nat.le_refl _) hZ haM hv hc' sa sZ hx hno
      exact hne (T.uq a d c' x haM hx hd hc' hs this)
    have e1 : v = vK := T.uq Z v vK K hZ hK hv hvK (sideZ K b hK hba hc'b.symm has) sK
    have := sideZ X c hX hc1 hcc sX
    rw [e1] at this
    exact nXK (only X hX kX nXZ this)

end
end KA
/-! Part A2: the states of the walk along a leg; leaves; the cost. -/
namespace KA

section
variable {M : Nat} {links : Nat → List Nat} {side : Nat → Nat → Nat → Prop}

/-- a state of the walk along the leg of K -/
def LegSt (M : Nat) (links : Nat → List Nat) (side : Nat → Nat → Nat → Prop) (kn al : Nat → Bool) (K many : Nat) (before at_ : Option Nat) : Prop :=
  (many = 0 ∧ before = none ∧ at_ = some K) ∨
  (∃ b a, before = some b ∧ at_ = some a ∧ Leg M links side kn al K many b a) ∨
  (∃ a, before = some a ∧ at_ = none ∧ 1 ≤ many ∧ ∀ x, x < M → kn x = true → Leaf M links side kn x → x = K ∨ x = a)

/-- the number that falls -/
noncomputable def legMeas (M : Nat) (side : Nat → Nat → Nat → Prop) (before at_ : Option Nat) : Nat :=
  match at_ with
  | none => 0
  | some a => match before with
    | none => M + 2
    | some b => sz M side b a + 1

theorem sz_le (u v : Nat) : sz M side u v ≤ M := by
  unfold sz
  have := List.countP_le_length (p := fun x => @decide (side u v x) (Classical.propDecidable _)) (l := List.range M)
  rw [List.length_range] at this
  exact this

theorem LegSt.lt (T : Tree M links side) {kn al : Nat → Bool} {K many a : Nat} {before : Option Nat} (hK : K < M)
    (S : LegSt M links side kn al K many before (some a)) (G : Good M links side kn al) (hk : kn K = true) : a < M ∧ al a = true := by
  rcases S with ⟨_, _, e⟩ | ⟨b, a', _, e, L⟩ | ⟨_, _, e, _⟩
  · cases e
    exact ⟨hK, G.keep K hK hk⟩
  · cases e
    exact ⟨T.lt b a L.hb L.ha, L.ala⟩
  · cases e

theorem legSt_step (T : Tree M links side) {kn al : Nat → Bool} (G : Good M links side kn al) (D : Done M links kn al) {K many a : Nat} {before : Option Nat} (hK : K < M) (hk : kn K = true)
    (hlf : ((links K).filter al).length < 2) (S : LegSt M links side kn al K many before (some a)) (hd : ((links a).filter al).length < 3) :
    LegSt M links side kn al K (many + (if kn a = true then 1 else 0)) (some a) ((((links a).filter al).filter (fun o => some o != before)).head?) ∧
    legMeas M side (some a) ((((links a).filter al).filter (fun o => some o != before)).head?) < legMeas M side before (some a) := by
  rcases S with ⟨e0, e1, e2⟩ | ⟨b, a', e1, e2, L⟩ | ⟨_, _, e, _⟩
  · cases e2
    subst e0 e1
    have hf : ((links K).filter al).filter (fun o => some o != none) = (links K).filter al := by
      rw [List.filter_eq_self]
      intro x _
      simp
    rw [hf]
    simp only [hk, if_true, Nat.zero_add]
    cases e : (links K).filter al with
    | nil =>
      simp only [List.head?_nil]
      refine ⟨.inr (.inr ⟨K, rfl, rfl, Nat.le_refl _, ?_⟩), ?_⟩
      · intro x hx kx _
        left
        apply Classical.byContradiction
        intro hne
        obtain ⟨w, hw, hs⟩ := T.ex K x hK hx hne
        cases aw : al w with
        | true =>
          have := List.mem_filter.mpr ⟨hw, aw⟩
          rw [e] at this
          cases this
        | false => exact G.hide K w hK hw (G.keep K hK hk) aw x hx kx hs
      · simp [legMeas]
    | cons c r =>
      simp only [List.head?_cons]
      have hc : c ∈ (links K).filter al := by rw [e]; simp
      refine ⟨.inr (.inl ⟨K, c, rfl, rfl, leg_first T G hK hk hlf hc⟩), ?_⟩
      simp only [legMeas]
      have := sz_le (M := M) (side := side) K c
      omega
  · cases e2
    subst e1
    cases e : ((links a).filter al).filter (fun o => some o != some b) with
    | nil =>
      simp only [List.head?_nil]
      refine ⟨.inr (.inr ⟨a, rfl, rfl, by have := L.pos; omega, ?_⟩), ?_⟩
      · intro x hx kx hl
        refine leg_stop T G L ?_ hx kx hl
        intro c hc
        apply Classical.byContradiction
        intro hne
        have : c ∈ ((links a).filter al).filter (fun o => some o != some b) := List.mem_filter.mpr ⟨hc, by simp [hne]⟩
        rw [e] at this
        cases this
      · simp [legMeas]
    | cons c r =>
      simp only [List.head?_cons]
      have hc : c ∈ ((links a).filter al).filter (fun o => some o != some b) := by rw [e]; simp
      obtain ⟨hc1, hc2⟩ := List.mem_filter.mp hc
      have hcb : c ≠ b := by simpa using hc2
      refine ⟨.inr (.inl ⟨a, c, rfl, rfl, leg_next T G D hK hk L hd hc1 hcb⟩), ?_⟩
      simp only [legMeas]
      have := T.sz_lt L.hb L.ha (List.mem_filter.mp hc1).1 hcb
      omega
  · cases e

/-- three leaves -/
def Three (M : Nat) (links : Nat → List Nat) (side : Nat → Nat → Nat → Prop) (kn : Nat → Bool) : Prop :=
  ∃ x y z, (x < M ∧ kn x = true ∧ Leaf M links side kn x) ∧ (y < M ∧ kn y = true ∧ Leaf M links side kn y) ∧ (z < M ∧ kn z = true ∧ Leaf M links side kn z) ∧ x ≠ y ∧ y ≠ z ∧ x ≠ z

/-- what the walk along the leg of K tells -/
def LegRes (M : Nat) (links : Nat → List Nat) (side : Nat → Nat → Nat → Prop) (kn : Nat → Bool) (K many : Nat) : Prop :=
  Three M links side kn → (many = 1 ↔ ¬ ∃ Z, NewLeaf M links side kn K Z)

theorem legSt_end (T : Tree M links side) {kn al : Nat → Bool} (G : Good M links side kn al) (D : Done M links kn al) {K many : Nat} {before at_ : Option Nat} (hK : K < M) (hk : kn K = true)
    (hlf : ((links K).filter al).length < 2) (S : LegSt M links side kn al K many before at_) (h : ∀ a, at_ = some a → ¬ ((links a).filter al).length < 3) :
    LegRes M links side kn K many := by
  intro T3
  rcases S with ⟨e0, e1, e2⟩ | ⟨b, a, e1, e2, L⟩ | ⟨a, e1, e2, hp, hl⟩
  · exact absurd hlf (by have := h K e2; omega)
  · have hd := h a e2
    constructor
    · intro hm
      subst hm
      exact leg_fork T G D hK hk L (by omega)
    · intro hn
      apply Classical.byContradiction
      intro hm
      have := L.pos
      exact hn (L.more (by omega))
  · exfalso
    obtain ⟨x, y, z, ⟨hx, kx, lx⟩, ⟨hy, ky, ly⟩, ⟨hz, kz, lz⟩, n1, n2, n3⟩ := T3
    have hx := hl x hx kx lx
    have hy := hl y hy ky ly
    have hz := hl z hz kz lz
    omega

/-- on a side with a knot there is a leaf -/
theorem leaf_in (T : Tree M links side) {kn : Nat → Bool} : ∀ (n : Nat) {u v x : Nat}, sz M side u v ≤ n → u < M → v ∈ links u → x < M → kn x = true → side u v x →
    ∃ y, y < M ∧ kn y = true ∧ Leaf M links side kn y ∧ side u v y := by
  intro n
  induction n with
  | zero =>
    intro u v x hn hu hv hx kx hs
    exfalso
    have : 0 < sz M side u v := by
      unfold sz
      rw [List.countP_pos_iff]
      exact ⟨x, List.mem_range.mpr hx, by simp [hs]⟩
    omega
  | succ n ih =>
    intro u v x hn hu hv hx kx hs
    have hvM := T.lt u v hu hv
    by_cases e : ∃ w y, w ∈ links v ∧ w ≠ u ∧ y < M ∧ kn y = true ∧ side v w y
    · obtain ⟨w, y, hw, hwu, hy, ky, sy⟩ := e
      have hlt := T.sz_lt hu hv hw hwu
      obtain ⟨z, hz, kz, lz, sz'⟩ := ih (by omega) hvM hw hy ky sy
      exact ⟨z, hz, kz, lz, T.sub hu hz hv hw hwu sz'⟩
    · have exv : x = v := by
        apply Classical.byContradiction
        intro hne
        obtain ⟨w, hw, hwu, hs'⟩ := T.next hu hx hv hs hne
        exact e ⟨w, x, hw, hwu, hx, kx, hs'⟩
      subst exv
      refine ⟨x, hx, kx, ?_, hs⟩
      intro X Y v w hX hY kX kY nX nY hv' hw' sX sY
      have key : ∀ X v, X < M → kn X = true → v ∈ links x → side x v X → v = u := by
        intro X v hX kX hv' sX
        apply Classical.byContradiction
        intro hne
        exact e ⟨v, X, hv', hne, hX, kX, sX⟩
      rw [key X v hX kX hv' sX, key Y w hY kY hw' sY]

/-- where a knot becomes a leaf, there are two leaves -/
theorem new_two (T : Tree M links side) {kn : Nat → Bool} {K Z : Nat} (hK : K < M) (h : NewLeaf M links side kn K Z) :
    ∃ y, y < M ∧ kn y = true ∧ Leaf M links side kn y ∧ y ≠ K := by
  obtain ⟨hZ, kZ, nZ, nl, lf⟩ := h
  obtain ⟨v, hv, sK⟩ := T.ex Z K hZ hK nZ.symm
  have : ∃ w X, w ∈ links Z ∧ w ≠ v ∧ X < M ∧ kn X = true ∧ side Z w X := by
    apply Classical.byContradiction
    intro hno
    apply nl
    intro X Y v' w' hX hY kX kY nX nY hv' hw' sX sY
    have key : ∀ X v', X < M → kn X = true → v' ∈ links Z → side Z v' X → v' = v := by
      intro X v' hX kX hv' sX
      apply Classical.byContradiction
      intro hne
      exact hno ⟨v', X, hv', hne, hX, kX, sX⟩
    rw [key X v' hX kX hv' sX, key Y w' hY kY hw' sY]
  obtain ⟨w, X, hw, hwv, hX, kX, sX⟩ := this
  obtain ⟨y, hy, ky, ly, sy⟩ := leaf_in T _ (Nat.le_refl _) hZ hw hX kX sX
  refine ⟨y, hy, ky, ly, ?_⟩
  intro e
  subst e
  exact hwv (T.uq Z w v y hZ hy hw hv sy sK)

end

/-- the cost of legs -/
def cost (legs : List Nat) : Nat :=
  if 1 < legs.length ∧ legs.length % 2 = 1 ∧ 1 ∉ legs then legs.length + 1 else legs.length

/-- two lists of one length: the leaves' legs and the hurdles -/
theorem cost_eq {M : Nat} {links : Nat → List Nat} {side : Nat → Nat → Nat → Prop} (T : Tree M links side) {kn : Nat → Bool}
    {E legs : List Nat} {α : Type} {Hs : List α} {new : α → Prop} [DecidablePred new]
    (hE : E.Nodup) (mE : ∀ K, K ∈ E ↔ K < M ∧ kn K = true ∧ Leaf M links side kn K)
    (hl : legs.length = E.length) (hL : ∀ (i K m : Nat), E[i]? = some K → legs[i]? = some m → LegRes M links side kn K m)
    (hH : Hs.length = E.length) (h1 : ∀ K, K ∈ E → ∃ h, h ∈ Hs ∧ (new h ↔ ∃ Z, NewLeaf M links side kn K Z))
    (h2 : ∀ h, h ∈ Hs → ∃ K, K ∈ E ∧ (new h ↔ ∃ Z, NewLeaf M links side kn K Z)) :
    cost legs = if ∃ h, h ∈ Hs ∧ ¬ new h then Hs.length else Hs.length + Hs.length % 2 := by
  unfold cost
  rw [hl, hH]
  by_cases hodd : E.length % 2 = 1
  · by_cases hone : E.length = 1
    · rw [if_neg (by omega), if_pos]
      match E, hone with
      | [K], _ =>
        obtain ⟨h, hh, hn⟩ := h1 K (by simp)
        refine ⟨h, hh, ?_⟩
        rw [hn]
        rintro ⟨Z, hZ⟩
        obtain ⟨hKM, _, _⟩ := (mE K).mp (by simp)
        obtain ⟨y, hy, ky, ly, ny⟩ := new_two T hKM hZ
        have := (mE y).mpr ⟨hy, ky, ly⟩
        simp at this
        exact ny this
    · have T3 : Three M links side kn := by
        match E, hE, mE, hodd, hone with
        | x :: y :: z :: r, hE, mE, _, _ =>
          simp at hE
          refine ⟨x, y, z, (mE x).mp (by simp), (mE y).mp (by simp), (mE z).mp (by simp), by omega, by omega, by omega⟩
        | [], _, _, h, _ => simp at h
        | [_], _, _, _, h => simp at h
        | [_, _], _, _, h, _ => simp at h
      have key : (1 ∉ legs) ↔ ¬ ∃ h, h ∈ Hs ∧ ¬ new h := by
        constructor
        · rintro hno ⟨h, hh, hn⟩
          obtain ⟨K, hK, hKn⟩ := h2 h hh
          obtain ⟨i, hi⟩ := List.getElem?_of_mem hK
          have hil : i < legs.length := by
            rw [hl]
            exact (List.getElem?_eq_some_iff.mp hi).1
          have := hL i K legs[i] hi (List.getElem?_eq_getElem hil) T3
          apply hno
          have e : legs[i] = 1 := this.mpr (fun hz => hn (hKn.mpr hz))
          rw [← e]
          exact List.getElem_mem _
        · intro hno hm
          obtain ⟨i, hi⟩ := List.getElem?_of_mem hm
          have hil : i < E.length := by
            rw [← hl]
            exact (List.getElem?_eq_some_iff.mp hi).1
          have hK : E[i] ∈ E := List.getElem_mem _
          have := (hL i E[i] 1 (List.getElem?_eq_getElem hil) hi T3).mp rfl
          obtain ⟨h, hh, hn⟩ := h1 _ hK
          exact hno ⟨h, hh, fun hz => this (hn.mp hz)⟩
      by_cases hc : ∃ h, h ∈ Hs ∧ ¬ new h
      · rw [if_pos hc, if_neg]
        rintro ⟨_, _, h⟩
        exact (key.mp h) hc
      · rw [if_neg hc, if_pos ⟨by omega, hodd, key.mpr hc⟩]
        omega
  · rw [if_neg (by omega)]
    split <;> omega

end KA
/-! Part B: things that lie within one another make up a tree. -/
namespace KB
open KA

structure Forest (M : Nat) (le : Nat → Nat → Prop) (up : Nat → Option Nat) (siz : Nat → Nat) : Prop where
  refl : ∀ x, le x x
  trans : ∀ x y z, le x y → le y z → le x z
  anti : ∀ x y, x < M → y < M → le x y → le y x → x = y
  up_some : ∀ x y, x < M → up x = some y → y < M ∧ le x y ∧ x ≠ y ∧ ∀ z, z < M → le x z → z ≠ x → le y z
  up_none : ∀ x, x < M → up x = none → ∀ z, z < M → le z x
  siz : ∀ x y, x < M → y < M → le x y → x ≠ y → siz x < siz y

/-- the sides by what lies within what -/
def sideOf (le : Nat → Nat → Prop) (up : Nat → Option Nat) (u v x : Nat) : Prop :=
  if up v = some u then le x v else ¬ le x u

structure Linked (M : Nat) (up : Nat → Option Nat) (links : Nat → List Nat) : Prop where
  nodup : ∀ u, u < M → (links u).Nodup
  mem : ∀ u v, u < M → (v ∈ links u ↔ v < M ∧ (up u = some v ∨ up v = some u))

variable {M : Nat} {le : Nat → Nat → Prop} {up : Nat → Option Nat} {siz : Nat → Nat} {links : Nat → List Nat}

theorem Forest.child (F : Forest M le up siz) : ∀ (n : Nat) {u x : Nat}, siz u - siz x ≤ n → u < M → x < M → le x u → x ≠ u →
    ∃ v, v < M ∧ up v = some u ∧ le x v := by
  intro n
  induction n with
  | zero =>
    intro u x hn hu hx hle hne
    have := F.siz x u hx hu hle hne
    omega
  | succ n ih =>
    intro u x hn hu hx hle hne
    cases e : up x with
    | none =>
      have := F.up_none x hx e u hu
      exact absurd (F.anti x u hx hu hle this) hne
    | some y =>
      obtain ⟨hy, hxy, nxy, hmin⟩ := F.up_some x y hx e
      by_cases eyu : y = u
      · subst eyu
        exact ⟨x, hx, e, F.refl x⟩
      · have hyu : le y u := hmin u hu hle hne.symm
        have h1 := F.siz x y hx hy hxy nxy
        have h2 := F.siz y u hy hu hyu eyu
        obtain ⟨v, hv, hvu, hyv⟩ := ih (by omega) hu hy hyu eyu
        exact ⟨v, hv, hvu, F.trans x y v hxy hyv⟩

/-- what lies within two things: one of these lies within the other -/
theorem Forest.chain (F : Forest M le up siz) : ∀ (n : Nat) {x v w : Nat}, siz v - siz x ≤ n → x < M → v < M → w < M → le x v → le x w → le v w ∨ le w v := by
  intro n
  induction n with
  | zero =>
    intro x v w hn hx hv hw h1 h2
    by_cases e : x = v
    · subst e
      exact .inl h2
    · have := F.siz x v hx hv h1 e
      omega
  | succ n ih =>
    intro x v w hn hx hv hw h1 h2
    by_cases e : x = v
    · subst e
      exact .inl h2
    by_cases e2 : x = w
    · subst e2
      exact .inr h1
    cases eu : up x with
    | none => exact absurd (F.anti x v hx hv h1 (F.up_none x hx eu v hv)) e
    | some y =>
      obtain ⟨hy, hxy, nxy, hmin⟩ := F.up_some x y hx eu
      have a1 := hmin v hv h1 (Ne.symm e)
      have a2 := hmin w hw h2 (Ne.symm e2)
      have b1 := F.siz x y hx hy hxy nxy
      by_cases e3 : y = v
      · subst e3
        exact .inl a2
      · have b2 := F.siz y v hy hv a1 e3
        exact ih (by omega) hy hv hw a1 a2

theorem Forest.tree (F : Forest M le up siz) (L : Linked M up links) : Tree M links (sideOf le up) := by
  have noboth : ∀ u v, u < M → v < M → up u = some v → up v = some u → False := by
    intro u v hu hv h1 h2
    obtain ⟨_, a1, a2, _⟩ := F.up_some u v hu h1
    obtain ⟨_, b1, b2, _⟩ := F.up_some v u hv h2
    exact a2 (F.anti u v hu hv a1 b1)
  constructor
  · exact L.nodup
  · intro u v hu hv
    exact ((L.mem u v hu).mp hv).1
  · intro u v hu hv
    obtain ⟨h1, h2⟩ := (L.mem u v hu).mp hv
    exact (L.mem v u h1).mpr ⟨hu, h2.symm⟩
  · intro u v x hu hv hs e
    subst e
    obtain ⟨h1, h2⟩ := (L.mem x v hu).mp hv
    unfold sideOf at hs
    split at hs
    · next h =>
      obtain ⟨_, a1, a2, _⟩ := F.up_some v x h1 h
      exact a2 (F.anti v x h1 hu a1 hs)
    · exact hs (F.refl x)
  · intro u x hu hx hne
    by_cases hle : le x u
    · obtain ⟨v, hv, hvu, hxv⟩ := F.child _ (Nat.le_refl _) hu hx hle hne
      refine ⟨v, (L.mem u v hu).mpr ⟨hv, .inr hvu⟩, ?_⟩
      unfold sideOf
      rw [if_pos hvu]
      exact hxv
    · cases e : up u with
      | none => exact absurd (F.up_none u hu e x hx) hle
      | some v =>
        obtain ⟨hv, _⟩ := F.up_some u v hu e
        refine ⟨v, (L.mem u v hu).mpr ⟨hv, .inl e⟩, ?_⟩
        unfold sideOf
        rw [if_neg (fun h => noboth u v hu hv e h)]
        exact hle
  · intro u v w x hu hx hv hw sv sw
    obtain ⟨hvM, h1⟩ := (L.mem u v hu).mp hv
    obtain ⟨hwM, h2⟩ := (L.mem u w hu).mp hw
    unfold sideOf at sv sw
    by_cases cv : up v = some u
    · rw [if_pos cv] at sv
      obtain ⟨_, v1, v2, v3⟩ := F.up_some v u hvM cv
      by_cases cw : up w = some u
      · rw [if_pos cw] at sw
        obtain ⟨_, w1, w2, w3⟩ := F.up_some w u hwM cw
        apply Classical.byContradiction
        intro hne
        rcases F.chain _ (Nat.le_refl _) hx hvM hwM sv sw with h | h
        · exact w2 (F.anti w u hwM hu w1 (v3 w hwM h (Ne.symm hne)))
        · exact v2 (F.anti v u hvM hu v1 (w3 v hvM h hne))
      · rw [if_neg cw] at sw
        exact absurd (F.trans x v u sv v1) sw
    · rw [if_neg cv] at sv
      by_cases cw : up w = some u
      · rw [if_pos cw] at sw
        obtain ⟨_, w1, w2, w3⟩ := F.up_some w u hwM cw
        exact absurd (F.trans x w u sw w1) sv
      · have e1 : up u = some v := by rcases h1 with h | h; exact h; exact absurd h cv
        have e2 : up u = some w := by rcases h2 with h | h; exact h; exact absurd h cw
        rw [e1] at e2
        exact Option.some.inj e2
  · intro u v x hu hv hx
    obtain ⟨hvM, h1⟩ := (L.mem u v hu).mp hv
    unfold sideOf
    by_cases cv : up v = some u
    · rw [if_pos cv, if_neg (fun h => noboth u v hu hvM h cv)]
      exact Classical.not_not.symm
    · have e1 : up u = some v := by rcases h1 with h | h; exact h; exact absurd h cv
      rw [if_neg cv, if_pos e1]

end KB
/-! Part C: stretches of gaps that are shut under the ties; kins; owners. -/
namespace KC

/-- no tie leads out of the gaps from a up to the one ahead of b -/
def Cl (N : Nat) (h f : Nat → Nat) (a b : Nat) : Prop := ∀ k, k < N → ((a ≤ h k ∧ h k < b) ↔ (a ≤ f k ∧ f k < b))

structure Kin (N : Nat) (h f : Nat → Nat) (a b : Nat) : Prop where
  lt : a < b
  le : b ≤ N
  cl : Cl N h f a b
  whole : ∀ c, a < c → c < b → ¬ (Cl N h f a c ∧ Cl N h f c b)

section
variable {N : Nat} {h f : Nat → Nat}

theorem Cl.inter {a b c d : Nat} (h1 : Cl N h f a b) (h2 : Cl N h f c d) (e1 : a ≤ c) (e2 : c ≤ b) (e3 : b ≤ d) : Cl N h f c b := by
  intro k hk
  have := h1 k hk
  have := h2 k hk
  omega

theorem Cl.left {a b c d : Nat} (h1 : Cl N h f a b) (h2 : Cl N h f c d) (e1 : a ≤ c) (e2 : c ≤ b) (e3 : b ≤ d) : Cl N h f a c := by
  intro k hk
  have := h1 k hk
  have := h2 k hk
  omega

theorem Cl.right {a b c d : Nat} (h1 : Cl N h f a b) (h2 : Cl N h f c d) (e1 : a ≤ c) (e2 : c ≤ b) (e3 : b ≤ d) : Cl N h f b d := by
  intro k hk
  have := h1 k hk
  have := h2 k hk
  omega

theorem Cl.top (hh : ∀ k, k < N → h k < N) (hf : ∀ k, k < N → f k < N) : Cl N h f 0 N := by
  intro k hk
  have := hh k hk
  have := hf k hk
  omega

/-- two kins: one, or apart, or one strictly within the other -/
theorem Kin.two {a b c d : Nat} (h1 : Kin N h f a b) (h2 : Kin N h f c d) : (a = c ∧ b = d) ∨ b ≤ c ∨ d ≤ a ∨ (a < c ∧ d < b) ∨ (c < a ∧ b < d) := by
  apply Classical.byContradiction
  intro hno
  have l1 := h1.lt
  have l2 := h2.lt
  by_cases e1 : a < c
  · by_cases e2 : b ≤ d
    · exact h1.whole c e1 (by omega) ⟨h1.cl.left h2.cl (by omega) (by omega) e2, h1.cl.inter h2.cl (by omega) (by omega) e2⟩
    · omega
  · by_cases e3 : c < a
    · by_cases e2 : d ≤ b
      · exact h2.whole a e3 (by omega) ⟨h2.cl.left h1.cl (by omega) (by omega) e2, h2.cl.inter h1.cl (by omega) (by omega) e2⟩
      · omega
    · have e : a = c := by omega
      subst e
      by_cases e4 : b < d
      · exact h2.whole b (by omega) e4 ⟨h1.cl, h1.cl.right h2.cl (by omega) (by omega) (by omega)⟩
      · exact h1.whole d (by omega) (by omega) ⟨h2.cl, h2.cl.right h1.cl (by omega) (by omega) (by omega)⟩

/-- the owner of a gap -/
structure Own (N : Nat) (h f : Nat → Nat) (p a b : Nat) : Prop where
  kin : Kin N h f a b
  le : a ≤ p
  lt : p < b
  least : ∀ c d, Cl N h f c d → c ≤ p → p < d → d ≤ N → c ≤ a ∧ b ≤ d

theorem own_of_min {p a b : Nat} (hab : b ≤ N) (hc : Cl N h f a b) (h1 : a ≤ p) (h2 : p < b)
    (hm : ∀ c d, Cl N h f c d → c ≤ p → p < d → d ≤ N → b - a ≤ d - c) : Own N h f p a b := by
  refine ⟨⟨by omega, hab, hc, ?_⟩, h1, h2, ?_⟩
  · rintro c e1 e2 ⟨c1, c2⟩
    by_cases e : p < c
    · have := hm a c c1 h1 e (by omega)
      omega
    · have := hm c b c2 (by omega) h2 hab
      omega
  · intro c d hcd e1 e2 e3
    by_cases x1 : c ≤ a
    · by_cases x2 : b ≤ d
      · exact ⟨x1, x2⟩
      · have := hm a d (hcd.inter hc x1 (by omega) (by omega)) h1 e2 e3
        omega
    · by_cases x2 : b ≤ d
      · have := hm c b (hc.inter hcd (by omega) (by omega) x2) e1 h2 hab
        omega
      · have := hm c d hcd e1 e2 e3
        omega

theorem exists_min_cl (hh : ∀ k, k < N → h k < N) (hf : ∀ k, k < N → f k < N) {p : Nat} (hp : p < N) :
    ∃ a b, Cl N h f a b ∧ a ≤ p ∧ p < b ∧ b ≤ N ∧ ∀ c d, Cl N h f c d → c ≤ p → p < d → d ≤ N → b - a ≤ d - c := by
  have key : ∀ m, (∃ a b, Cl N h f a b ∧ a ≤ p ∧ p < b ∧ b ≤ N ∧ b - a ≤ m) →
      ∃ a b, Cl N h f a b ∧ a ≤ p ∧ p < b ∧ b ≤ N ∧ ∀ c d, Cl N h f c d → c ≤ p → p < d → d ≤ N → b - a ≤ d - c := by
    intro m
    induction m with
    | zero =>
      rintro ⟨a, b, h1, h2, h3, h4, h5⟩
      omega
    | succ m ih =>
      intro hex
      by_cases hs : ∃ a b, Cl N h f a b ∧ a ≤ p ∧ p < b ∧ b ≤ N ∧ b - a ≤ m
      · exact ih hs
      · obtain ⟨a, b, h1, h2, h3, h4, h5⟩ := hex
        refine ⟨a, b, h1, h2, h3, h4, ?_⟩
        intro c d g1 g2 g3 g4
        apply Classical.byContradiction
        intro hlt
        exact hs ⟨c, d, g1, g2, g3, g4, by omega⟩
  exact key N ⟨0, N, Cl.top hh hf, by omega, hp, Nat.le_refl _, by omega⟩

theorem own_ex (hh : ∀ k, k < N → h k < N) (hf : ∀ k, k < N → f k < N) {p : Nat} (hp : p < N) : ∃ a b, Own N h f p a b := by
  obtain ⟨a, b, h1, h2, h3, h4, h5⟩ := exists_min_cl hh hf hp
  exact ⟨a, b, own_of_min h4 h1 h2 h3 h5⟩

theorem Own.uq {p a b c d : Nat} (h1 : Own N h f p a b) (h2 : Own N h f p c d) : a = c ∧ b = d := by
  have x1 := h1.least c d h2.kin.cl h2.le h2.lt h2.kin.le
  have x2 := h2.least a b h1.kin.cl h1.le h1.lt h1.kin.le
  omega

/-- a kin owns its first gap -/
theorem Kin.first (hh : ∀ k, k < N → h k < N) (hf : ∀ k, k < N → f k < N) {a b : Nat} (hk : Kin N h f a b) : Own N h f a a b := by
  have := hk.lt
  have := hk.le
  obtain ⟨c, d, ho⟩ := own_ex hh hf (p := a) (by omega)
  have h1 := ho.least a b hk.cl (Nat.le_refl _) hk.lt hk.le
  have h2 := ho.le
  have h3 := ho.lt
  have e : c = a := by omega
  subst e
  by_cases e : d = b
  · subst e
    exact ho
  · exact absurd ⟨ho.kin.cl, ho.kin.cl.right hk.cl (by omega) (by omega) (by omega)⟩ (hk.whole d (by omega) (by omega))

/-- and its last one -/
theorem Kin.last (hh : ∀ k, k < N → h k < N) (hf : ∀ k, k < N → f k < N) {a b : Nat} (hk : Kin N h f a b) : Own N h f (b - 1) a b := by
  have := hk.lt
  have := hk.le
  obtain ⟨c, d, ho⟩ := own_ex hh hf (p := b - 1) (by omega)
  have h1 := ho.least a b hk.cl (by omega) (by omega) hk.le
  have h2 := ho.le
  have h3 := ho.lt
  have e : d = b := by omega
  subst e
  by_cases e : c = a
  · subst e
    exact ho
  · exact absurd ⟨hk.cl.left ho.kin.cl (by omega) (by omega) (by omega), ho.kin.cl⟩ (hk.whole c (by omega) (by omega))

/-- the owner lies within each kin that bears the gap -/
theorem Own.within {p a b c d : Nat} (h1 : Own N h f p a b) (h2 : Kin N h f c d) (e1 : c ≤ p) (e2 : p < d) : (a = c ∧ b = d) ∨ (c < a ∧ b < d) := by
  have x := h1.least c d h2.cl e1 e2 h2.le
  have l := h1.kin.lt
  rcases h1.kin.two h2 with y | y | y | y | y <;> omega

/-- the two gaps of a tie have one owner -/
theorem own_tie {k a b : Nat} (hk : k < N) (h1 : Own N h f (h k) a b) : Own N h f (f k) a b := by
  have x := (h1.kin.cl k hk).mp ⟨h1.le, h1.lt⟩
  refine ⟨h1.kin, x.1, x.2, ?_⟩
  intro c d hcd e1 e2 e3
  have y := (hcd k hk).mpr ⟨e1, e2⟩
  exact h1.least c d hcd y.1 y.2 e3

end
end KC
/-! Part D: the chains of kins, and the web as a tree. -/
namespace KD
open KC KB KA

abbrev SL := List (Nat × Nat)
def st (S : SL) (i : Nat) : Nat := (S.getD i (0, 0)).1
def en (S : SL) (i : Nat) : Nat := (S.getD i (0, 0)).2

structure Spans (N : Nat) (h f : Nat → Nat) (S : SL) : Prop where
  hh : ∀ k, k < N → h k < N
  hf : ∀ k, k < N → f k < N
  kin : ∀ i, i < S.length → Kin N h f (st S i) (en S i)
  all : ∀ a b, Kin N h f a b → ∃ i, i < S.length ∧ st S i = a ∧ en S i = b
  asc : ∀ i j, i < j → j < S.length → st S i < st S j

section
variable {N : Nat} {h f : Nat → Nat} {S : SL}

theorem Spans.st_inj (P : Spans N h f S) {i j : Nat} (hi : i < S.length) (hj : j < S.length) (e : st S i = st S j) : i = j := by
  apply Classical.byContradiction
  intro hne
  rcases Nat.lt_or_gt_of_ne hne with g | g
  · have := P.asc i j g hj
    omega
  · have := P.asc j i g hi
    omega

theorem Spans.lt (P : Spans N h f S) {i : Nat} (hi : i < S.length) : st S i < en S i := (P.kin i hi).lt

theorem Spans.two (P : Spans N h f S) {i j : Nat} (hi : i < S.length) (hj : j < S.length) :
    i = j ∨ en S i ≤ st S j ∨ en S j ≤ st S i ∨ (st S i < st S j ∧ en S j < en S i) ∨ (st S j < st S i ∧ en S i < en S j) := by
  rcases (P.kin i hi).two (P.kin j hj) with ⟨e, _⟩ | e | e | e | e
  · exact .inl (P.st_inj hi hj e)
  · exact .inr (.inl e)
  · exact .inr (.inr (.inl e))
  · exact .inr (.inr (.inr (.inl e)))
  · exact .inr (.inr (.inr (.inr e)))

theorem Spans.en_inj (P : Spans N h f S) {i j : Nat} (hi : i < S.length) (hj : j < S.length) (e : en S i = en S j) : i = j := by
  have := P.lt hi
  have := P.lt hj
  rcases P.two hi hj with g | g | g | g | g <;> omega

/-! ### chains -/
def endOf (S : SL) (c : List Nat) : Nat := en S (c.getLastD 0)
def begOf (S : SL) (c : List Nat) : Nat := st S (c.headD 0)
def chainStep (S : SL) (C : List (List Nat)) (i : Nat) : List (List Nat) :=
  if C.any (fun c => endOf S c == st S i) = true then C.map (fun c => if endOf S c = st S i then c ++ [i] else c) else C ++ [[i]]
def chainsOf (S : SL) : List (List Nat) := (List.range S.length).foldl (chainStep S) []

structure J (S : SL) (i : Nat) (C : List (List Nat)) : Prop where
  ne : ∀ c, c ∈ C → c ≠ []
  lt : ∀ c, c ∈ C → ∀ x, x ∈ c → x < i
  cov : ∀ x, x < i → ∃ (p : Nat) (c : List Nat), C[p]? = some c ∧ x ∈ c
  uq : ∀ (p q : Nat) (c d : List Nat) (x : Nat), C[p]? = some c → C[q]? = some d → x ∈ c → x ∈ d → p = q
  nd : ∀ c, c ∈ C → c.Nodup
  touch : ∀ c, c ∈ C → ∀ l r x y, c = l ++ x :: y :: r → en S x = st S y
  max : ∀ x y, x < i → y < i → en S x = st S y → ∃ c, c ∈ C ∧ ∃ l r, c = l ++ x :: y :: r

theorem last_split {c : List Nat} (h : c ≠ []) : ∃ l, c = l ++ [c.getLastD 0] := by
  refine ⟨c.dropLast, ?_⟩
  have := List.dropLast_concat_getLast h
  rw [List.getLastD_eq_getLast?, List.getLast?_eq_getLast h]
  exact this.symm

theorem snoc_split {c l r : List Nat} {x y i : Nat} (e : c ++ [i] = l ++ x :: y :: r) :
    (∃ r', r = r' ++ [i] ∧ c = l ++ x :: y :: r') ∨ (r = [] ∧ y = i ∧ c = l ++ [x]) := by
  rcases List.eq_nil_or_concat r with hr | ⟨r', z, hr⟩
  · right
    subst hr
    have : c ++ [i] = (l ++ [x]) ++ [y] := by
      rw [e]
      simp
    obtain ⟨e1, e2⟩ := List.append_inj' this rfl
    simp at e2
    exact ⟨rfl, e2.symm, e1⟩
  · left
    rw [List.concat_eq_append] at hr
    subst hr
    have : c ++ [i] = (l ++ x :: y :: r') ++ [z] := by
      rw [e]
      simp
    obtain ⟨e1, e2⟩ := List.append_inj' this rfl
    simp at e2
    subst e2
    exact ⟨r', rfl, e1⟩

theorem j_start : J S 0 [] := by
  constructor
  · intro c hc; cases hc
  · intro c hc; cases hc
  · intro x hx; omega
  · intro p q c d x h1; simp at h1
  · intro c hc; cases hc
  · intro c hc; cases hc
  · intro x y hx; omega

theorem j_step (P : Spans N h f S) {i : Nat} {C : List (List Nat)} (hi : i < S.length) (H : J S i C) : J S (i + 1) (chainStep S C i) := by
  have hend : ∀ c, c ∈ C → ∃ l, c = l ++ [c.getLastD 0] ∧ c.getLastD 0 ∈ c ∧ c.getLastD 0 < i := by
    intro c hc
    obtain ⟨l, e⟩ := last_split (H.ne c hc)
    have hm : c.getLastD 0 ∈ c := by
      rw [e]
      simp
    exact ⟨l, e, hm, H.lt c hc _ hm⟩
  by_cases hany : C.any (fun c => endOf S c == st S i) = true
  · -- joined
    unfold chainStep
    rw [if_pos hany]
    have hgm : ∀ c, c ∈ C.map (fun c => if endOf S c = st S i then c ++ [i] else c) → ∃ d, d ∈ C ∧ ((endOf S d = st S i ∧ c = d ++ [i]) ∨ (endOf S d ≠ st S i ∧ c = d)) := by
      intro c hc
      obtain ⟨d, hd, e⟩ := List.mem_map.mp hc
      refine ⟨d, hd, ?_⟩
      split at e
      · next h1 => exact .inl ⟨h1, e.symm⟩
      · next h1 => exact .inr ⟨h1, e.symm⟩
    have hgp : ∀ (p : Nat) c, (C.map (fun c => if endOf S c = st S i then c ++ [i] else c))[p]? = some c → ∃ d, C[p]? = some d ∧ d ∈ C ∧ ((endOf S d = st S i ∧ c = d ++ [i]) ∨ (endOf S d ≠ st S i ∧ c = d)) := by
      intro p c hc
      rw [List.getElem?_map] at hc
      cases e : C[p]? with
      | none => rw [e] at hc; cases hc
      | some d =>
        rw [e] at hc
        have hc := Option.some.inj hc
        refine ⟨d, rfl, List.mem_of_getElem? e, ?_⟩
        simp only at hc
        split at hc
        · next h1 => exact .inl ⟨h1, hc.symm⟩
        · next h1 => exact .inr ⟨h1, hc.symm⟩
    constructor
    · intro c hc
      obtain ⟨d, hd, ⟨_, e⟩ | ⟨_, e⟩⟩ := hgm c hc
      · rw [e]; simp
      · rw [e]; exact H.ne d hd
    · intro c hc x hx
      obtain ⟨d, hd, ⟨_, e⟩ | ⟨_, e⟩⟩ := hgm c hc
      · rw [e] at hx
        rcases List.mem_append.mp hx with g | g
        · have := H.lt d hd x g
          omega
        · simp at g
          omega
      · rw [e] at hx
        have := H.lt d hd x hx
        omega
    · intro x hx
      by_cases e : x < i
      · obtain ⟨p, c, hp, hm⟩ := H.cov x e
        refine ⟨p, if endOf S c = st S i then c ++ [i] else c, by rw [List.getElem?_map, hp]; rfl, ?_⟩
        split
        · exact List.mem_append_left _ hm
        · exact hm
      · have e : x = i := by omega
        subst e
        obtain ⟨c, hc, he⟩ := List.any_eq_true.mp hany
        obtain ⟨p, hp⟩ := List.getElem?_of_mem hc
        simp at he
        refine ⟨p, c ++ [x], by rw [List.getElem?_map, hp]; simp [he], by simp⟩
    · intro p q c d x hp hq hxc hxd
      obtain ⟨c0, hc0, hcC, hc⟩ := hgp p c hp
      obtain ⟨d0, hd0, hdC, hd⟩ := hgp q d hq
      by_cases e : x = i
      · subst e
        have key : ∀ c c0, c0 ∈ C → ((endOf S c0 = st S x ∧ c = c0 ++ [x]) ∨ (endOf S c0 ≠ st S x ∧ c = c0)) → x ∈ c → endOf S c0 = st S x := by
          intro c c0 hcC hc hxc
          rcases hc with ⟨g, _⟩ | ⟨_, g⟩
          · exact g
          · rw [g] at hxc
            have := H.lt c0 hcC x hxc
            omega
        have k1 := key c c0 hcC hc hxc
        have k2 := key d d0 hdC hd hxd
        obtain ⟨_, _, m1, l1⟩ := hend c0 hcC
        obtain ⟨_, _, m2, l2⟩ := hend d0 hdC
        have := P.en_inj (i := c0.getLastD 0) (j := d0.getLastD 0) (by omega) (by omega) (by unfold endOf at k1 k2; omega)
        rw [this] at m1
        exact H.uq p q c0 d0 _ hc0 hd0 m1 m2
      · have key : ∀ c c0, ((endOf S c0 = st S i ∧ c = c0 ++ [i]) ∨ (endOf S c0 ≠ st S i ∧ c = c0)) → x ∈ c → x ∈ c0 := by
          intro c c0 hc hxc
          rcases hc with ⟨_, g⟩ | ⟨_, g⟩
          · rw [g] at hxc
            rcases List.mem_append.mp hxc with g | g
            · exact g
            · simp at g
              omega
          · rw [g] at hxc
            exact hxc
        exact H.uq p q c0 d0 x hc0 hd0 (key c c0 hc hxc) (key d d0 hd hxd)
    · intro c hc
      obtain ⟨d, hd, ⟨_, e⟩ | ⟨_, e⟩⟩ := hgm c hc
      · rw [e, List.nodup_append]
        refine ⟨H.nd d hd, by simp, ?_⟩
        intro a ha b hb
        simp at hb
        have := H.lt d hd a ha
        omega
      · rw [e]; exact H.nd d hd
    · intro c hc l r x y e
      obtain ⟨d, hd, ⟨g, e2⟩ | ⟨_, e2⟩⟩ := hgm c hc
      · rw [e2] at e
        rcases snoc_split e with ⟨r', _, e3⟩ | ⟨_, e3, e4⟩
        · exact H.touch d hd l r' x y e3
        · subst e3
          rw [← g]
          unfold endOf
          rw [e4]
          simp
      · rw [e2] at e
        exact H.touch d hd l r x y e
    · intro x y hx hy e
      by_cases hyi : y < i
      · by_cases hxi : x < i
        · obtain ⟨c, hc, l, r, hlr⟩ := H.max x y hxi hyi e
          by_cases g : endOf S c = st S i
          · refine ⟨c ++ [i], List.mem_map.mpr ⟨c, hc, by simp [g]⟩, l, r ++ [i], ?_⟩
            rw [hlr]
            simp
          · exact ⟨c, List.mem_map.mpr ⟨c, hc, by simp [g]⟩, l, r, hlr⟩
        · have e1 : x = i := by omega
          subst e1
          have := P.lt hi
          have := P.asc y x hyi hi
          omega
      · have e1 : y = i := by omega
        subst e1
        have hxi : x < y := by
          apply Classical.byContradiction
          intro hh
          have e1 : x = y := by omega
          subst e1
          have := P.lt hi
          omega
        obtain ⟨p, c, hp, hm⟩ := H.cov x hxi
        have hcC := List.mem_of_getElem? hp
        obtain ⟨l, r, hlr⟩ := List.append_of_mem hm
        cases r with
        | nil =>
          have g : endOf S c = st S y := by
            unfold endOf
            rw [hlr]
            simp
            exact e
          refine ⟨c ++ [y], List.mem_map.mpr ⟨c, hcC, by simp [g]⟩, l, [], ?_⟩
          rw [hlr]
          simp
        | cons z r =>
          have t := H.touch c hcC l r x z hlr
          have hz := H.lt c hcC z (by rw [hlr]; simp)
          have := P.asc z y hz hi
          omega
  · -- a chain of its own
    unfold chainStep
    rw [if_neg hany]
    have hno : ∀ c, c ∈ C → endOf S c ≠ st S i := by
      intro c hc e
      apply hany
      rw [List.any_eq_true]
      exact ⟨c, hc, by simp [e]⟩
    have hgp : ∀ (p : Nat) c, (C ++ [[i]])[p]? = some c → C[p]? = some c ∨ (p = C.length ∧ c = [i]) := by
      intro p c hc
      rw [List.getElem?_append] at hc
      split at hc
      · exact .inl hc
      · next hlt =>
        right
        cases e : p - C.length with
        | zero =>
          rw [e] at hc
          simp at hc
          exact ⟨by omega, hc.symm⟩
        | succ m =>
          rw [e] at hc
          simp at hc
    constructor
    · intro c hc
      rcases List.mem_append.mp hc with g | g
      · exact H.ne c g
      · simp at g
        rw [g]
        simp
    · intro c hc x hx
      rcases List.mem_append.mp hc with g | g
      · have := H.lt c g x hx
        omega
      · simp at g
        rw [g] at hx
        simp at hx
        omega
    · intro x hx
      by_cases e : x < i
      · obtain ⟨p, c, hp, hm⟩ := H.cov x e
        refine ⟨p, c, ?_, hm⟩
        rw [List.getElem?_append_left (List.getElem?_eq_some_iff.mp hp).1]
        exact hp
      · have e : x = i := by omega
        subst e
        exact ⟨C.length, [x], by simp, by simp⟩
    · intro p q c d x hp hq hxc hxd
      rcases hgp p c hp with g1 | ⟨g1, g1'⟩
      · have l1 := H.lt c (List.mem_of_getElem? g1) x hxc
        rcases hgp q d hq with g2 | ⟨g2, g2'⟩
        · exact H.uq p q c d x g1 g2 hxc hxd
        · rw [g2'] at hxd
          simp at hxd
          omega
      · rw [g1'] at hxc
        simp at hxc
        rcases hgp q d hq with g2 | ⟨g2, g2'⟩
        · have l2 := H.lt d (List.mem_of_getElem? g2) x hxd
          omega
        · omega
    · intro c hc
      rcases List.mem_append.mp hc with g | g
      · exact H.nd c g
      · simp at g
        rw [g]
        simp
    · intro c hc l r x y e
      rcases List.mem_append.mp hc with g | g
      · exact H.touch c g l r x y e
      · simp at g
        rw [g] at e
        have := congrArg List.length e
        simp at this
        omega
    · intro x y hx hy e
      by_cases hyi : y < i
      · by_cases hxi : x < i
        · obtain ⟨c, hc, l, r, hlr⟩ := H.max x y hxi hyi e
          exact ⟨c, List.mem_append_left _ hc, l, r, hlr⟩
        · have e1 : x = i := by omega
          subst e1
          have := P.lt hi
          have := P.asc y x hyi hi
          omega
      · have e1 : y = i := by omega
        subst e1
        have hxi : x < y := by
          apply Classical.byContradiction
          intro hh
          have e1 : x = y := by omega
          subst e1
          have := P.lt hi
          omega
        obtain ⟨p, c, hp, hm⟩ := H.cov x hxi
        have hcC := List.mem_of_getElem? hp
        obtain ⟨l, r, hlr⟩ := List.append_of_mem hm
        cases r with
        | nil =>
          exfalso
          apply hno c hcC
          unfold endOf
          rw [hlr]
          simp
          exact e
        | cons z r =>
          have t := H.touch c hcC l r x z hlr
          have hz := H.lt c hcC z (by rw [hlr]; simp)
          have := P.asc z y hz hi
          omega

theorem j_all (P : Spans N h f S) : J S S.length (chainsOf S) := by
  have key : ∀ i, i ≤ S.length → J S i ((List.range i).foldl (chainStep S) []) := by
    intro i
    induction i with
    | zero => intro _; exact j_start
    | succ i ih =>
      intro hi
      rw [List.range_succ, List.foldl_append]
      exact j_step P (by omega) (ih (by omega))
  exact key _ (Nat.le_refl _)

/-! ### what a chain covers -/
theorem touch_tail {x : Nat} {c : List Nat} (t : ∀ l r a b, x :: c = l ++ a :: b :: r → en S a = st S b) : ∀ l r a b, c = l ++ a :: b :: r → en S a = st S b := by
  intro l r a b e
  exact t (x :: l) r a b (by rw [e]; rfl)

theorem beg_cons (x : Nat) (c : List Nat) : begOf S (x :: c) = st S x := rfl
theorem end_cons (x y : Nat) (c : List Nat) : endOf S (x :: y :: c) = endOf S (y :: c) := by
  unfold endOf
  simp [List.getLastD_eq_getLast?]
theorem end_one (x : Nat) : endOf S [x] = en S x := rfl

theorem chain_mem (P : Spans N h f S) : ∀ (c : List Nat), c ≠ [] → (∀ x, x ∈ c → x < S.length) → (∀ l r a b, c = l ++ a :: b :: r → en S a = st S b) →
    ∀ x, x ∈ c → begOf S c ≤ st S x ∧ en S x ≤ endOf S c := by
  intro c
  induction c with
  | nil => intro h; exact absurd rfl h
  | cons a r ih =>
    intro _ hl ht x hx
    have la := P.lt (hl a (by simp))
    cases r with
    | nil =>
      simp at hx
      subst hx
      exact ⟨Nat.le_refl _, Nat.le_refl _⟩
    | cons b r =>
      have e := ht [] r a b rfl
      have ih := ih (by simp) (fun x hx => hl x (List.mem_cons_of_mem _ hx)) (touch_tail ht)
      rw [beg_cons, end_cons]
      have hb := ih b (by simp)
      have lb := P.lt (hl b (by simp))
      rcases List.mem_cons.mp hx with g | g
      · subst g
        omega
      · have := ih x g
        rw [beg_cons] at this
        omega

theorem chain_cover (P : Spans N h f S) : ∀ (c : List Nat), c ≠ [] → (∀ x, x ∈ c → x < S.length) → (∀ l r a b, c = l ++ a :: b :: r → en S a = st S b) →
    ∀ g, begOf S c ≤ g → g < endOf S c → ∃ x, x ∈ c ∧ st S x ≤ g ∧ g < en S x := by
  intro c
  induction c with
  | nil => intro h; exact absurd rfl h
  | cons a r ih =>
    intro _ hl ht g h1 h2
    cases r with
    | nil => exact ⟨a, by simp, h1, h2⟩
    | cons b r =>
      have e := ht [] r a b rfl
      by_cases hg : g < en S a
      · exact ⟨a, by simp, h1, hg⟩
      · rw [end_cons] at h2
        obtain ⟨x, hx, h3⟩ := ih (by simp) (fun x hx => hl x (List.mem_cons_of_mem _ hx)) (touch_tail ht) g (by rw [beg_cons]; omega) h2
        exact ⟨x, List.mem_cons_of_mem _ hx, h3⟩

theorem strict_next (P : Spans N h f S) {z x y : Nat} (hz : z < S.length) (hx : x < S.length) (hy : y < S.length) (e : en S x = st S y) :
    (st S z < st S x ∧ en S x < en S z) ↔ (st S z < st S y ∧ en S y < en S z) := by
  have l1 := P.lt hz
  have l2 := P.lt hx
  have l3 := P.lt hy
  rcases P.two hz hx with g | g | g | g | g
  · subst g
    rcases P.two hz hy with g | g | g | g | g <;> omega
  all_goals
    rcases P.two hz hy with g | g | g | g | g
    · subst g; omega
    all_goals omega

theorem chain_strict (P : Spans N h f S) {z : Nat} (hz : z < S.length) : ∀ (c : List Nat), c ≠ [] → (∀ x, x ∈ c → x < S.length) → (∀ l r a b, c = l ++ a :: b :: r → en S a = st S b) →
    (∃ x, x ∈ c ∧ st S z < st S x ∧ en S x < en S z) → st S z < begOf S c ∧ endOf S c < en S z ∧ ∀ x, x ∈ c → st S z < st S x ∧ en S x < en S z := by
  intro c
  induction c with
  | nil => intro h; exact absurd rfl h
  | cons a r ih =>
    intro _ hl ht hex
    cases r with
    | nil =>
      obtain ⟨x, hx, h1⟩ := hex
      simp at hx
      subst hx
      refine ⟨h1.1, h1.2, ?_⟩
      intro y hy
      simp at hy
      subst hy
      exact h1
    | cons b r =>
      have e := ht [] r a b rfl
      have nx := strict_next P hz (hl a (by simp)) (hl b (by simp)) e
      have ih := ih (by simp) (fun x hx => hl x (List.mem_cons_of_mem _ hx)) (touch_tail ht)
      have hb : ∃ x, x ∈ b :: r ∧ st S z < st S x ∧ en S x < en S z := by
        obtain ⟨x, hx, h1⟩ := hex
        rcases List.mem_cons.mp hx with g | g
        · subst g
          exact ⟨b, by simp, nx.mp h1⟩
        · exact ⟨x, g, h1⟩
      obtain ⟨i1, i2, i3⟩ := ih hb
      have ha := nx.mpr (i3 b (by simp))
      rw [beg_cons, end_cons]
      refine ⟨ha.1, i2, ?_⟩
      intro x hx
      rcases List.mem_cons.mp hx with g | g
      · subst g
        exact ha
      · exact i3 x g

end
end KD
/-! Part E: the web of kins and chains is a tree. -/
namespace KE1
open KC KB KA KD

section
variable {N : Nat} {h f : Nat → Nat} {S : SL}

/-- the kin at z lies around the chain c -/
def isAround (S : SL) (c : List Nat) (z : Nat) : Bool := decide (st S z < begOf S c ∧ endOf S c < en S z)
def better (S : SL) (best : Option Nat) (z : Nat) : Option Nat :=
  match best with
  | none => some z
  | some b => if en S z - st S z < en S b - st S b then some z else some b
/-- the shortest kin around a chain -/
def around (S : SL) (c : List Nat) : Option Nat := ((List.range S.length).filter (isAround S c)).foldl (better S) none

theorem better_fold (l : List Nat) : ∀ (b : Option Nat), match l.foldl (better S) b with
    | none => b = none ∧ l = []
    | some a => (a ∈ l ∨ b = some a) ∧ (∀ z, z ∈ l → en S a - st S a ≤ en S z - st S z) ∧ ∀ z, b = some z → en S a - st S a ≤ en S z - st S z := by
  induction l with
  | nil =>
    intro b
    cases b with
    | none => simp
    | some b => exact ⟨.inr rfl, (fun z hz => by cases hz), fun z hz => by cases hz; omega⟩
  | cons x r ih =>
    intro b
    rw [List.foldl_cons]
    have := ih (better S b x)
    revert this
    cases r.foldl (better S) (better S b x) with
    | none =>
      rintro ⟨h1, _⟩
      cases b with
      | none => cases h1
      | some b =>
        simp only [better] at h1
        split at h1 <;> cases h1
    | some a =>
      rintro ⟨h1, h2, h3⟩
      cases b with
      | none =>
        simp only [better] at h1 h3
        have h3 := h3 x rfl
        refine ⟨?_, ?_, ?_⟩
        · rcases h1 with g | g
          · exact .inl (List.mem_cons_of_mem _ g)
          · cases g
            exact .inl (by simp)
        · intro z hz
          rcases List.mem_cons.mp hz with g | g
          · subst g; exact h3
          · exact h2 z g
        · intro z hz; cases hz
      | some b =>
        by_cases hlt : en S x - st S x < en S b - st S b
        · simp only [better, if_pos hlt] at h1 h3
          have h3 := h3 x rfl
          refine ⟨?_, ?_, ?_⟩
          · rcases h1 with g | g
            · exact .inl (List.mem_cons_of_mem _ g)
            · cases g
              exact .inl (by simp)
          · intro z hz
            rcases List.mem_cons.mp hz with g | g
            · subst g; exact h3
            · exact h2 z g
          · intro z hz
            cases hz
            omega
        · simp only [better, if_neg hlt] at h1 h3
          have h3 := h3 b rfl
          refine ⟨?_, ?_, ?_⟩
          · rcases h1 with g | g
            · exact .inl (List.mem_cons_of_mem _ g)
            · exact .inr g
          · intro z hz
            rcases List.mem_cons.mp hz with g | g
            · subst g; omega
            · exact h2 z g
          · intro z hz
            cases hz
            exact h3

theorem around_none {c : List Nat} (e : around S c = none) : ∀ z, z < S.length → ¬ (st S z < begOf S c ∧ endOf S c < en S z) := by
  have := better_fold (S := S) ((List.range S.length).filter (isAround S c)) none
  unfold around at e
  rw [e] at this
  intro z hz hh
  have hm : z ∈ (List.range S.length).filter (isAround S c) := List.mem_filter.mpr ⟨List.mem_range.mpr hz, by simp [isAround, hh]⟩
  rw [this.2] at hm
  cases hm

theorem around_some {c : List Nat} {a : Nat} (e : around S c = some a) : a < S.length ∧ (st S a < begOf S c ∧ endOf S c < en S a) ∧
    ∀ z, z < S.length → (st S z < begOf S c ∧ endOf S c < en S z) → en S a - st S a ≤ en S z - st S z := by
  have := better_fold (S := S) ((List.range S.length).filter (isAround S c)) none
  unfold around at e
  rw [e] at this
  obtain ⟨h1, h2, _⟩ := this
  rcases h1 with h1 | h1
  · obtain ⟨g1, g2⟩ := List.mem_filter.mp h1
    refine ⟨List.mem_range.mp g1, by simpa [isAround] using g2, ?_⟩
    intro z hz hh
    exact h2 z (List.mem_filter.mpr ⟨List.mem_range.mpr hz, by simp [isAround, hh]⟩)
  · cases h1

/-- what is the shortest around is told by `around` -/
theorem around_eq (P : Spans N h f S) {c : List Nat} {a : Nat} (hbe : begOf S c < endOf S c) (ha : a < S.length) (h1 : st S a < begOf S c ∧ endOf S c < en S a)
    (h2 : ∀ z, z < S.length → (st S z < begOf S c ∧ endOf S c < en S z) → en S a - st S a ≤ en S z - st S z) : around S c = some a := by
  cases e : around S c with
  | none => exact absurd h1 (around_none e a ha)
  | some b =>
    obtain ⟨hb, h3, h4⟩ := around_some e
    have x1 := h2 b hb h3
    have x2 := h4 a ha h1
    have l1 := P.lt ha
    have l2 := P.lt hb
    rcases P.two ha hb with g | g | g | g | g
    · rw [g]
    all_goals omega

theorem around_none_of {c : List Nat} (hno : ∀ z, z < S.length → ¬ (st S z < begOf S c ∧ endOf S c < en S z)) : around S c = none := by
  cases e : around S c with
  | none => rfl
  | some b =>
    obtain ⟨hb, h3, _⟩ := around_some e
    exact absurd h3 (hno b hb)

/-! ### the web -/
def chAt (S : SL) (p : Nat) : List Nat := (chainsOf S).getD p []
def cidx (S : SL) (x : Nat) : Nat := (chainsOf S).findIdx (fun c => decide (x ∈ c))
def webM (S : SL) : Nat := S.length + (chainsOf S).length
def lo (S : SL) (u : Nat) : Nat := if u < S.length then 2 * st S u + 1 else 2 * begOf S (chAt S (u - S.length))
def hi (S : SL) (u : Nat) : Nat := if u < S.length then 2 * en S u - 1 else 2 * endOf S (chAt S (u - S.length))
def le (S : SL) (x v : Nat) : Prop := lo S v ≤ lo S x ∧ hi S x ≤ hi S v
def up (S : SL) (u : Nat) : Option Nat := if u < S.length then some (S.length + cidx S u) else around S (chAt S (u - S.length))
/-- the kins of a chain, and the kin around it -/
def mine (S : SL) (p : Nat) : List Nat := chAt S p ++ (around S (chAt S p)).toList
def links (S : SL) (u : Nat) : List Nat :=
  if u < S.length then ((List.range (chainsOf S).length).filter (fun p => decide (u ∈ mine S p))).map (S.length + ·) else mine S (u - S.length)

theorem ch_get {p : Nat} (hp : p < (chainsOf S).length) : (chainsOf S)[p]? = some (chAt S p) := by
  unfold chAt
  rw [List.getD_eq_getElem?_getD, List.getElem?_eq_getElem hp]
  rfl

theorem ch_mem {p : Nat} (hp : p < (chainsOf S).length) : chAt S p ∈ chainsOf S := List.mem_of_getElem? (ch_get hp)

structure Chain (S : SL) (c : List Nat) : Prop where
  ne : c ≠ []
  lt : ∀ x, x ∈ c → x < S.length
  touch : ∀ l r a b, c = l ++ a :: b :: r → en S a = st S b
  nd : c.Nodup

theorem chain_of (P : Spans N h f S) {p : Nat} (hp : p < (chainsOf S).length) : Chain S (chAt S p) := by
  have H := j_all P
  have hm := ch_mem hp
  exact ⟨H.ne _ hm, H.lt _ hm, H.touch _ hm, H.nd _ hm⟩

theorem cidx_of (P : Spans N h f S) {p x : Nat} (hp : p < (chainsOf S).length) (hx : x ∈ chAt S p) : cidx S x = p := by
  have H := j_all P
  have hlt : cidx S x < (chainsOf S).length := by
    unfold cidx
    rw [List.findIdx_lt_length]
    exact ⟨_, ch_mem hp, by simpa using hx⟩
  have hq := List.findIdx_getElem (p := fun c => decide (x ∈ c)) (w := hlt)
  simp at hq
  exact H.uq _ _ _ _ x (List.getElem?_eq_getElem hlt) (ch_get hp) hq hx

theorem cidx_mem (P : Spans N h f S) {x : Nat} (hx : x < S.length) : cidx S x < (chainsOf S).length ∧ x ∈ chAt S (cidx S x) := by
  obtain ⟨p, c, hp, hm⟩ := (j_all P).cov x hx
  have hpl := (List.getElem?_eq_some_iff.mp hp).1
  have : chAt S p = c := by
    rw [ch_get hpl] at hp
    exact Option.some.inj hp
  rw [← this] at hm
  rw [cidx_of P hpl hm]
  exact ⟨hpl, hm⟩

theorem Chain.mem (P : Spans N h f S) {c : List Nat} (H : Chain S c) {x : Nat} (hx : x ∈ c) : begOf S c ≤ st S x ∧ en S x ≤ endOf S c :=
  chain_mem P c H.ne H.lt H.touch x hx
theorem Chain.cover (P : Spans N h f S) {c : List Nat} (H : Chain S c) {g : Nat} (h1 : begOf S c ≤ g) (h2 : g < endOf S c) : ∃ x, x ∈ c ∧ st S x ≤ g ∧ g < en S x :=
  chain_cover P c H.ne H.lt H.touch g h1 h2
theorem Chain.strict (P : Spans N h f S) {c : List Nat} (H : Chain S c) {z x : Nat} (hz : z < S.length) (hx : x ∈ c) (h1 : st S z < st S x ∧ en S x < en S z) :
    st S z < begOf S c ∧ endOf S c < en S z := by
  have := chain_strict P hz c H.ne H.lt H.touch ⟨x, hx, h1⟩
  exact ⟨this.1, this.2.1⟩
theorem Chain.lt_ (P : Spans N h f S) {c : List Nat} (H : Chain S c) : begOf S c < endOf S c := by
  match c, H with
  | x :: r, H =>
    have := H.mem P (x := x) (by simp)
    have := P.lt (H.lt x (by simp))
    omega
theorem Chain.head_mem {c : List Nat} (H : Chain S c) : c.headD 0 ∈ c := by
  match c, H with
  | x :: r, H => simp
  | [], H => exact absurd rfl H.ne
theorem Chain.last_mem {c : List Nat} (H : Chain S c) : c.getLastD 0 ∈ c := by
  obtain ⟨l, e⟩ := last_split H.ne
  rw [e]
  simp

/-- a kin within a chain's stretch: one of its kins, or strictly within one -/
theorem within_chain (P : Spans N h f S) {c : List Nat} (H : Chain S c) {x : Nat} (hx : x < S.length) (h1 : begOf S c ≤ st S x) (h2 : en S x ≤ endOf S c) :
    ∃ y, y ∈ c ∧ (x = y ∨ (st S y < st S x ∧ en S x < en S y)) := by
  have lx := P.lt hx
  obtain ⟨y, hy, h3, h4⟩ := H.cover P h1 (by omega)
  have hyl := H.lt y hy
  refine ⟨y, hy, ?_⟩
  rcases P.two hx hyl with g | g | g | g | g
  · exact .inl g
  · omega
  · omega
  · have := H.strict P hx hy g
    omega
  · exact .inr g

theorem nodup_head {c l r : List Nat} {y d : Nat} (hd : c.headD 0 = d) (e : c = l ++ y :: d :: r) (hn : c.Nodup) : False := by
  cases l with
  | nil =>
    rw [e] at hd hn
    simp at hd hn
    omega
  | cons a l =>
    rw [e] at hd hn
    simp at hd hn
    omega

theorem nodup_last {c l r : List Nat} {y d : Nat} (hd : c.getLastD 0 = d) (e : c = l ++ d :: y :: r) (hn : c.Nodup) : False := by
  have e4 : d ∈ y :: r := by
    have h1 : c.getLast? = (y :: r).getLast? := by
      rw [e, List.getLast?_append, List.getLast?_cons_cons, List.getLast?_eq_some_getLast (List.cons_ne_nil y r)]
      rfl
    rw [← hd, List.getLastD_eq_getLast?, h1, List.getLast?_eq_some_getLast (List.cons_ne_nil y r)]
    exact List.getLast_mem _
  rw [e, List.nodup_append] at hn
  have h2 := hn.2.1
  rw [List.nodup_cons] at h2
  exact h2.1 e4

/-- no kin ends where a chain begins, and none begins where it ends -/
theorem chain_free (P : Spans N h f S) {p : Nat} (hp : p < (chainsOf S).length) {y : Nat} (hy : y < S.length) : en S y ≠ begOf S (chAt S p) ∧ st S y ≠ endOf S (chAt S p) := by
  have H := chain_of P hp
  have HJ := j_all P
  constructor
  · intro e
    have hx := H.head_mem
    have hxl := H.lt _ hx
    obtain ⟨c, hc, l, r, hlr⟩ := HJ.max y ((chAt S p).headD 0) hy hxl e
    obtain ⟨q, hq⟩ := List.getElem?_of_mem hc
    have hxc : (chAt S p).headD 0 ∈ c := by rw [hlr]; simp
    have := HJ.uq q p c (chAt S p) _ hq (ch_get hp) hxc hx
    subst this
    have e2 : c = chAt S q := by
      rw [ch_get hp] at hq
      exact (Option.some.inj hq).symm
    subst e2
    exact nodup_head rfl hlr H.nd
  · intro e
    have hx := H.last_mem
    have hxl := H.lt _ hx
    obtain ⟨c, hc, l, r, hlr⟩ := HJ.max ((chAt S p).getLastD 0) y hxl hy e.symm
    obtain ⟨q, hq⟩ := List.getElem?_of_mem hc
    have hxc : (chAt S p).getLastD 0 ∈ c := by rw [hlr]; simp
    have := HJ.uq q p c (chAt S p) _ hq (ch_get hp) hxc hx
    subst this
    have e2 : c = chAt S q := by
      rw [ch_get hp] at hq
      exact (Option.some.inj hq).symm
    subst e2
    exact nodup_last rfl hlr H.nd

theorem lo_kin {u : Nat} (hu : u < S.length) : lo S u = 2 * st S u + 1 := by unfold lo; rw [if_pos hu]
theorem hi_kin {u : Nat} (hu : u < S.length) : hi S u = 2 * en S u - 1 := by unfold hi; rw [if_pos hu]
theorem lo_ch {p : Nat} : lo S (S.length + p) = 2 * begOf S (chAt S p) := by unfold lo; rw [if_neg (by omega), Nat.add_sub_cancel_left]
theorem hi_ch {p : Nat} : hi S (S.length + p) = 2 * endOf S (chAt S p) := by unfold hi; rw [if_neg (by omega), Nat.add_sub_cancel_left]
theorem up_kin {u : Nat} (hu : u < S.length) : up S u = some (S.length + cidx S u) := by unfold up; rw [if_pos hu]
theorem up_ch {p : Nat} : up S (S.length + p) = around S (chAt S p) := by unfold up; rw [if_neg (by omega), Nat.add_sub_cancel_left]

theorem node_cases {u : Nat} (hu : u < webM S) : u < S.length ∨ ∃ p, p < (chainsOf S).length ∧ u = S.length + p := by
  unfold webM at hu
  by_cases e : u < S.length
  · exact .inl e
  · exact .inr ⟨u - S.length, by omega, by omega⟩

theorem same_head (P : Spans N h f S) {p q : Nat} (hp : p < (chainsOf S).length) (hq : q < (chainsOf S).length) (e : begOf S (chAt S p) = begOf S (chAt S q)) : p = q := by
  have H1 := chain_of P hp
  have H2 := chain_of P hq
  have := P.st_inj (H1.lt _ H1.head_mem) (H2.lt _ H2.head_mem) e
  have e1 := cidx_of P hp H1.head_mem
  have e2 := cidx_of P hq H2.head_mem
  rw [this] at e1
  omega

theorem web_forest (P : Spans N h f S) : Forest (webM S) (le S) (up S) (fun u => hi S u - lo S u) := by
  have around_le : ∀ (c : List Nat), Chain S c → ∀ a, around S c = some a → ∀ z, z < S.length → st S z < begOf S c ∧ endOf S c < en S z → z = a ∨ (st S z < st S a ∧ en S a < en S z) := by
    intro c H a ha z hz h1
    obtain ⟨hal, h2, h3⟩ := around_some ha
    have := h3 z hz h1
    have lc := H.lt_ P
    have l1 := P.lt hz
    have l2 := P.lt hal
    rcases P.two hz hal with g | g | g | g | g
    · exact .inl g
    · omega
    · omega
    · exact .inr g
    · omega
  have lohi : ∀ x, x < webM S → lo S x ≤ hi S x := by
    intro x hx
    rcases node_cases hx with h1 | ⟨p, hp, rfl⟩
    · rw [lo_kin h1, hi_kin h1]
      have := P.lt h1
      omega
    · rw [lo_ch, hi_ch]
      have := (chain_of P hp).lt_ P
      omega
  have anti : ∀ x y, x < webM S → y < webM S → le S x y → le S y x → x = y := by
    rintro x y hx hy ⟨a1, a2⟩ ⟨b1, b2⟩
    rcases node_cases hx with h1 | ⟨p, hp, rfl⟩
    · rcases node_cases hy with h2 | ⟨q, hq, rfl⟩
      · rw [lo_kin h1, lo_kin h2] at a1 b1
        exact P.st_inj h1 h2 (by omega)
      · rw [lo_kin h1, lo_ch] at a1 b1
        omega
    · rcases node_cases hy with h2 | ⟨q, hq, rfl⟩
      · rw [lo_kin h2, lo_ch] at a1 b1
        omega
      · rw [lo_ch, lo_ch] at a1 b1
        rw [same_head P hp hq (by omega)]
  constructor
  · intro x
    exact ⟨Nat.le_refl _, Nat.le_refl _⟩
  · rintro x y z ⟨a1, a2⟩ ⟨b1, b2⟩
    exact ⟨by omega, by omega⟩
  · exact anti
  · intro x y hx hxy
    rcases node_cases hx with h1 | ⟨p, hp, rfl⟩
    · -- a kin and its chain
      rw [up_kin h1] at hxy
      have hxy := (Option.some.inj hxy).symm
      subst hxy
      obtain ⟨hc, hm⟩ := cidx_mem P h1
      have H := chain_of P hc
      have hr := H.mem P hm
      refine ⟨by unfold webM; omega, ⟨?_, ?_⟩, by omega, ?_⟩
      · rw [lo_ch, lo_kin h1]; omega
      · rw [hi_ch, hi_kin h1]; omega
      · rintro z hz ⟨z1, z2⟩ hne
        have lx := P.lt h1
        rcases node_cases hz with g1 | ⟨q, hq, rfl⟩
        · rw [lo_kin h1, lo_kin g1] at z1
          rw [hi_kin h1, hi_kin g1] at z2
          have lz := P.lt g1
          have hs : st S z < st S x ∧ en S x < en S z := by
            rcases P.two g1 h1 with g | g | g | g | g
            · exact absurd g hne
            all_goals omega
          have := H.strict P g1 hm hs
          refine ⟨?_, ?_⟩
          · rw [lo_kin g1, lo_ch]; omega
          · rw [hi_kin g1, hi_ch]; omega
        · rw [lo_kin h1, lo_ch] at z1
          rw [hi_kin h1, hi_ch] at z2
          have Hq := chain_of P hq
          obtain ⟨y, hy, g | g⟩ := within_chain P Hq h1 (by omega) (by omega)
          · subst g
            rw [cidx_of P hq hy]
            exact ⟨Nat.le_refl _, Nat.le_refl _⟩
          · have yl := Hq.lt y hy
            have s1 := H.strict P yl hm g
            have s2 := Hq.mem P hy
            refine ⟨?_, ?_⟩
            · rw [lo_ch, lo_ch]; omega
            · rw [hi_ch, hi_ch]; omega
    · -- a chain and the kin around it
      rw [up_ch] at hxy
      have H := chain_of P hp
      obtain ⟨hyl, h2, h3⟩ := around_some hxy
      refine ⟨by unfold webM; omega, ⟨?_, ?_⟩, by omega, ?_⟩
      · rw [lo_ch, lo_kin hyl]; omega
      · rw [hi_ch, hi_kin hyl]; omega
      · have kinCase : ∀ z, z < S.length → st S z < begOf S (chAt S p) ∧ endOf S (chAt S p) < en S z → st S z ≤ st S y ∧ en S y ≤ en S z := by
          intro z hz h1
          rcases around_le _ H y hxy z hz h1 with g | g
          · subst g
            omega
          · omega
        rintro z hz ⟨z1, z2⟩ hne
        rcases node_cases hz with g1 | ⟨q, hq, rfl⟩
        · rw [lo_ch, lo_kin g1] at z1
          rw [hi_ch, hi_kin g1] at z2
          have l1 := P.lt g1
          have := kinCase z g1 ⟨by omega, by omega⟩
          refine ⟨?_, ?_⟩
          · rw [lo_kin g1, lo_kin hyl]; omega
          · rw [hi_kin g1, hi_kin hyl]; omega
        · rw [lo_ch, lo_ch] at z1
          rw [hi_ch, hi_ch] at z2
          have Hq := chain_of P hq
          have hx := H.head_mem
          have hxl := H.lt _ hx
          have hr := H.mem P hx
          obtain ⟨m, hm, g | g⟩ := within_chain P Hq hxl (by omega) (by omega)
          · exfalso
            have e1 := cidx_of P hp hx
            have e2 := cidx_of P hq hm
            rw [← g] at e2
            omega
          · have ml := Hq.lt m hm
            have := kinCase m ml (H.strict P ml hx g)
            have s2 := Hq.mem P hm
            refine ⟨?_, ?_⟩
            · rw [lo_ch, lo_kin hyl]; omega
            · rw [hi_ch, hi_kin hyl]; omega
  · intro x hx hxn z hz
    rcases node_cases hx with h1 | ⟨p, hp, rfl⟩
    · rw [up_kin h1] at hxn
      cases hxn
    · rw [up_ch] at hxn
      have hno := around_none hxn
      have H := chain_of P hp
      have lc := H.lt_ P
      have hx := H.head_mem
      have hxl := H.lt _ hx
      have hy := H.last_mem
      have hyl := H.lt _ hy
      have kl := (P.kin _ hyl).le
      -- it begins at the first gap and ends at the last one
      have e0 : begOf S (chAt S p) = 0 := by
        apply Classical.byContradiction
        intro hne
        obtain ⟨a, b, ho⟩ := own_ex P.hh P.hf (p := begOf S (chAt S p) - 1) (by unfold endOf at lc; omega)
        obtain ⟨z, hz, z1, z2⟩ := P.all a b ho.kin
        have q1 := ho.le
        have q2 := ho.lt
        have l1 := P.lt hxl
        have l2 := P.lt hz
        have q0 : begOf S (chAt S p) = st S ((chAt S p).headD 0) := rfl
        rcases P.two hz hxl with g | g | g | g | g
        · subst g; omega
        · exact (chain_free P hp hz).1 (by omega)
        · omega
        · exact hno z hz (H.strict P hz hx g)
        · omega
      have e1 : endOf S (chAt S p) = N := by
        apply Classical.byContradiction
        intro hne
        have q0 : endOf S (chAt S p) = en S ((chAt S p).getLastD 0) := rfl
        obtain ⟨a, b, ho⟩ := own_ex P.hh P.hf (p := endOf S (chAt S p)) (by omega)
        obtain ⟨z, hz, z1, z2⟩ := P.all a b ho.kin
        have q1 := ho.le
        have q2 := ho.lt
        have l1 := P.lt hyl
        have l2 := P.lt hz
        rcases P.two hz hyl with g | g | g | g | g
        · rw [g] at z2
          omega
        · omega
        · exact (chain_free P hp hz).2 (by omega)
        · exact hno z hz (H.strict P hz hy g)
        · omega
      refine ⟨by rw [lo_ch]; omega, ?_⟩
      rw [hi_ch, e1]
      rcases node_cases hz with g1 | ⟨q, hq, rfl⟩
      · rw [hi_kin g1]
        have := (P.kin z g1).le
        omega
      · rw [hi_ch]
        have Hq := chain_of P hq
        have : endOf S (chAt S q) = en S ((chAt S q).getLastD 0) := rfl
        have := (P.kin _ (Hq.lt _ Hq.last_mem)).le
        omega
  · rintro x y hx hy ⟨a1, a2⟩ hne
    have l1 := lohi x hx
    have l2 := lohi y hy
    show hi S x - lo S x < hi S y - lo S y
    apply Classical.byContradiction
    intro hh
    exact hne (anti x y hx hy ⟨a1, a2⟩ ⟨by omega, by omega⟩)

theorem mine_iff (P : Spans N h f S) {p v : Nat} (hp : p < (chainsOf S).length) : v ∈ mine S p ↔ v < S.length ∧ (cidx S v = p ∨ up S (S.length + p) = some v) := by
  have H := chain_of P hp
  unfold mine
  rw [List.mem_append, up_ch]
  constructor
  · rintro (g | g)
    · exact ⟨H.lt v g, .inl (cidx_of P hp g)⟩
    · rw [Option.mem_toList] at g
      have g : around S (chAt S p) = some v := g
      exact ⟨(around_some g).1, .inr g⟩
  · rintro ⟨hv, g | g⟩
    · subst g
      exact .inl (cidx_mem P hv).2
    · exact .inr (by rw [Option.mem_toList]; exact g)

theorem web_linked (P : Spans N h f S) : Linked (webM S) (up S) (links S) := by
  constructor
  · intro u hu
    rcases node_cases hu with h1 | ⟨p, hp, rfl⟩
    · unfold links
      rw [if_pos h1]
      unfold List.Nodup
      rw [List.pairwise_map]
      exact (List.nodup_range.filter (fun p => decide (u ∈ mine S p))).imp (fun hab e => hab (by omega))
    · unfold links
      rw [if_neg (by omega), Nat.add_sub_cancel_left]
      have H := chain_of P hp
      unfold mine
      rw [List.nodup_append]
      refine ⟨H.nd, ?_, ?_⟩
      · cases around S (chAt S p) <;> simp
      · intro a ha b hb e
        subst e
        rw [Option.mem_toList] at hb
        have hb : around S (chAt S p) = some a := hb
        obtain ⟨_, h2, _⟩ := around_some hb
        have := H.mem P ha
        omega
  · intro u v hu
    rcases node_cases hu with h1 | ⟨p, hp, rfl⟩
    · unfold links
      rw [if_pos h1, List.mem_map]
      constructor
      · rintro ⟨p, hp, rfl⟩
        obtain ⟨hp1, hp2⟩ := List.mem_filter.mp hp
        have hp1 := List.mem_range.mp hp1
        refine ⟨by unfold webM; omega, ?_⟩
        have hp2 : u ∈ mine S p := by simpa using hp2
        rcases ((mine_iff P hp1).mp hp2).2 with g | g
        · left
          rw [up_kin h1, g]
        · exact .inr g
      · rintro ⟨hv, g | g⟩
        · rw [up_kin h1] at g
          have g := Option.some.inj g
          obtain ⟨hc, _⟩ := cidx_mem P h1
          refine ⟨cidx S u, List.mem_filter.mpr ⟨List.mem_range.mpr hc, ?_⟩, g⟩
          simp
          exact (mine_iff P hc).mpr ⟨h1, .inl rfl⟩
        · rcases node_cases hv with g1 | ⟨p, hp, rfl⟩
          · rw [up_kin g1] at g
            have g := Option.some.inj g
            omega
          · refine ⟨p, List.mem_filter.mpr ⟨List.mem_range.mpr hp, ?_⟩, rfl⟩
            simp
            exact (mine_iff P hp).mpr ⟨h1, .inr g⟩
    · unfold links
      rw [if_neg (by omega), Nat.add_sub_cancel_left, mine_iff P hp]
      constructor
      · rintro ⟨hv, g | g⟩
        · refine ⟨by unfold webM; omega, .inr ?_⟩
          rw [up_kin hv, g]
        · exact ⟨by unfold webM; omega, .inl g⟩
      · rintro ⟨hv, g | g⟩
        · have := g
          rw [up_ch] at this
          exact ⟨(around_some this).1, .inr g⟩
        · rcases node_cases hv with g1 | ⟨q, hq, rfl⟩
          · rw [up_kin g1] at g
            have g := Option.some.inj g
            exact ⟨g1, .inl (by omega)⟩
          · rw [up_ch] at g
            have := (around_some g).1
            omega

theorem web_tree (P : Spans N h f S) : Tree (webM S) (links S) (sideOf (le S) (up S)) := (web_forest P).tree (web_linked P)

end
end KE1
/-! Part F: a knot is a leaf of the web just where no four gaps going round tell that it stands between others. -/
namespace KF
open KC KB KA KD KE1

section
variable {N : Nat} {h f : Nat → Nat} {S : SL}

/-- o tells for each gap the place of its owner -/
def Ow (N : Nat) (h f : Nat → Nat) (S : SL) (o : Nat → Nat) : Prop := ∀ g, g < N → o g < S.length ∧ Own N h f g (st S (o g)) (en S (o g))

def PatG (N : Nat) (o : Nat → Nat) (kn : Nat → Bool) (K : Nat) : Prop :=
  ∃ g1 g2 g3 g4, g1 < g2 ∧ g2 < g3 ∧ g3 < g4 ∧ g4 < N ∧ kn (o g1) = true ∧ kn (o g2) = true ∧ kn (o g3) = true ∧ kn (o g4) = true ∧
    ((o g1 = K ∧ o g2 ≠ K ∧ o g3 = K ∧ o g4 ≠ K) ∨ (o g1 ≠ K ∧ o g2 = K ∧ o g3 ≠ K ∧ o g4 = K))

theorem Ow.of {o : Nat → Nat} (P : Spans N h f S) (O : Ow N h f S o) {g K : Nat} (hK : K < S.length) (h1 : Own N h f g (st S K) (en S K)) (hg : g < N) : o g = K := by
  obtain ⟨a, b⟩ := O g hg
  exact P.st_inj a hK (b.uq h1).1

theorem Ow.first {o : Nat → Nat} (P : Spans N h f S) (O : Ow N h f S o) {K : Nat} (hK : K < S.length) : o (st S K) = K := by
  have k := P.kin K hK
  have := k.lt
  have := k.le
  exact O.of P hK (k.first P.hh P.hf) (by omega)

theorem Ow.last {o : Nat → Nat} (P : Spans N h f S) (O : Ow N h f S o) {K : Nat} (hK : K < S.length) : o (en S K - 1) = K := by
  have k := P.kin K hK
  have := k.lt
  have := k.le
  exact O.of P hK (k.last P.hh P.hf) (by omega)

/-- where a gap lies in a kin, its owner does -/
theorem Ow.within {o : Nat → Nat} (P : Spans N h f S) (O : Ow N h f S o) {g K : Nat} (hg : g < N) (hK : K < S.length) (h1 : st S K ≤ g) (h2 : g < en S K) :
    o g = K ∨ (st S K < st S (o g) ∧ en S (o g) < en S K) := by
  obtain ⟨a, b⟩ := O g hg
  rcases b.within (P.kin K hK) h1 h2 with g | g
  · exact .inl (P.st_inj a hK g.1)
  · exact .inr g

theorem le_kin {x K : Nat} (P : Spans N h f S) (hx : x < S.length) (hK : K < S.length) (hne : x ≠ K) : le S x K ↔ (st S K < st S x ∧ en S x < en S K) := by
  unfold KE1.le
  rw [lo_kin hx, hi_kin hx, lo_kin hK, hi_kin hK]
  have l1 := P.lt hx
  have l2 := P.lt hK
  constructor
  · rintro ⟨a, b⟩
    rcases P.two hx hK with g | g | g | g | g
    · exact absurd g hne
    all_goals omega
  · omega

theorem le_ch {x p : Nat} (P : Spans N h f S) (hx : x < S.length) : le S x (S.length + p) ↔ (begOf S (chAt S p) ≤ st S x ∧ en S x ≤ endOf S (chAt S p)) := by
  unfold KE1.le
  rw [lo_kin hx, hi_kin hx, lo_ch, hi_ch]
  have l1 := P.lt hx
  omega

/-- what leads from a kin: the chain that it is of, or a chain that it lies around -/
theorem link_cases (P : Spans N h f S) {K v : Nat} (hK : K < S.length) (hv : v ∈ links S K) :
    (v = S.length + cidx S K ∧ up S v ≠ some K) ∨ ∃ p, p < (chainsOf S).length ∧ v = S.length + p ∧ around S (chAt S p) = some K := by
  have hKM : K < webM S := by unfold webM; omega
  obtain ⟨h1, h2⟩ := ((web_linked P).mem K v hKM).mp hv
  by_cases e : up S v = some K
  · right
    rcases node_cases h1 with g | ⟨p, hp, rfl⟩
    · rw [up_kin g] at e
      have := Option.some.inj e
      omega
    · rw [up_ch] at e
      exact ⟨p, hp, rfl, e⟩
  · left
    rcases h2 with g | g
    · rw [up_kin hK] at g
      exact ⟨(Option.some.inj g).symm, e⟩
    · exact absurd g e

/-- two chains around which one kin is the shortest lie apart -/
theorem chains_apart (P : Spans N h f S) {p q K : Nat} (hp : p < (chainsOf S).length) (hq : q < (chainsOf S).length) (hne : p ≠ q)
    (h1 : around S (chAt S p) = some K) (h2 : around S (chAt S q) = some K) : endOf S (chAt S p) ≤ begOf S (chAt S q) ∨ endOf S (chAt S q) ≤ begOf S (chAt S p) := by
  apply Classical.byContradiction
  intro hno
  have Hp := chain_of P hp
  have Hq := chain_of P hq
  have lp := Hp.lt_ P
  have lq := Hq.lt_ P
  obtain ⟨g, g1, g2, g3, g4⟩ : ∃ g, begOf S (chAt S p) ≤ g ∧ g < endOf S (chAt S p) ∧ begOf S (chAt S q) ≤ g ∧ g < endOf S (chAt S q) := by
    by_cases e : begOf S (chAt S p) ≤ begOf S (chAt S q)
    · exact ⟨begOf S (chAt S q), by omega⟩
    · exact ⟨begOf S (chAt S p), by omega⟩
  obtain ⟨x, hx, x1, x2⟩ := Hp.cover P g1 g2
  obtain ⟨y, hy, y1, y2⟩ := Hq.cover P g3 g4
  have xl := Hp.lt x hx
  have yl := Hq.lt y hy
  obtain ⟨_, a1, a2⟩ := around_some h1
  obtain ⟨_, b1, b2⟩ := around_some h2
  have mx := Hp.mem P hx
  have my := Hq.mem P hy
  rcases P.two xl yl with e | e | e | e | e
  · subst e
    have e1 := cidx_of P hp hx
    have e2 := cidx_of P hq hy
    omega
  · omega
  · omega
  · have := b2 x xl (Hq.strict P xl hy e)
    omega
  · have := a2 y yl (Hp.strict P yl hx e)
    omega

/-- the gap where a chain ends belongs to the kin around it -/
theorem gap_behind {o : Nat → Nat} (P : Spans N h f S) (O : Ow N h f S o) {p K : Nat} (hp : p < (chainsOf S).length) (h1 : around S (chAt S p) = some K) :
    endOf S (chAt S p) < N ∧ o (endOf S (chAt S p)) = K := by
  have Hp := chain_of P hp
  have lp := Hp.lt_ P
  obtain ⟨hK, a1, a2⟩ := around_some h1
  have kK := P.kin K hK
  have kle := kK.le
  have hN : endOf S (chAt S p) < N := by omega
  refine ⟨hN, ?_⟩
  rcases O.within P hN hK (by omega) (by omega) with g | g
  · exact g
  · exfalso
    obtain ⟨zl, zo⟩ := O _ hN
    have z1 := zo.le
    have z2 := zo.lt
    have yl := Hp.lt _ Hp.last_mem
    have ye : endOf S (chAt S p) = en S ((chAt S p).getLastD 0) := rfl
    have ylt := P.lt yl
    rcases P.two zl yl with e | e | e | e | e
    · rw [e] at z2
      omega
    · omega
    · exact (chain_free P hp zl).2 (by omega)
    · have := a2 _ zl (Hp.strict P zl Hp.last_mem e)
      omega
    · omega

theorem leaf_pat {o : Nat → Nat} (P : Spans N h f S) (O : Ow N h f S o) {kn : Nat → Bool} (hkn : ∀ u, kn u = true → u < S.length) {K : Nat} (kK : kn K = true) :
    Leaf (webM S) (links S) (sideOf (le S) (up S)) kn K ↔ ¬ PatG N o kn K := by
  have hK := hkn K kK
  have hKM : K < webM S := by unfold webM; omega
  have T := web_tree P
  have KK := P.kin K hK
  have Klt := KK.lt
  have Kle := KK.le
  have par : ∀ v X, v ∈ links S K → X < S.length → X ≠ K → sideOf (le S) (up S) K v X → ¬ (st S K < st S X ∧ en S X < en S K) → v = S.length + cidx S K := by
    intro v X hv hX nX sX hno
    rcases link_cases P hK hv with ⟨e, _⟩ | ⟨p, hp, rfl, ha⟩
    · exact e
    · exfalso
      unfold sideOf at sX
      rw [up_ch, if_pos ha] at sX
      rw [le_ch P hX] at sX
      obtain ⟨_, a1, _⟩ := around_some ha
      omega
  have chi : ∀ v X, v ∈ links S K → X < S.length → X ≠ K → sideOf (le S) (up S) K v X → (st S K < st S X ∧ en S X < en S K) →
      ∃ p, p < (chainsOf S).length ∧ v = S.length + p ∧ around S (chAt S p) = some K ∧ begOf S (chAt S p) ≤ st S X ∧ en S X ≤ endOf S (chAt S p) := by
    intro v X hv hX nX sX hin
    rcases link_cases P hK hv with ⟨_, e⟩ | ⟨p, hp, rfl, ha⟩
    · exfalso
      unfold sideOf at sX
      rw [if_neg e, le_kin P hX hK nX] at sX
      exact sX hin
    · unfold sideOf at sX
      rw [up_ch, if_pos ha, le_ch P hX] at sX
      exact ⟨p, hp, rfl, ha, sX⟩
  constructor
  · -- four gaps: not a leaf
    rintro L ⟨g1, g2, g3, g4, l1, l2, l3, l4, k1, k2, k3, k4, hc⟩
    have nogap : ∀ p g, p < (chainsOf S).length → around S (chAt S p) = some K → begOf S (chAt S p) ≤ g → g < endOf S (chAt S p) → g < N → o g ≠ K := by
      intro p g hp ha e1 e2 hg e
      have Hp := chain_of P hp
      obtain ⟨m, hm, m1, m2⟩ := Hp.cover P e1 e2
      have ml := Hp.lt m hm
      have mr := Hp.mem P hm
      obtain ⟨_, a1, _⟩ := around_some ha
      have := O.within P hg ml m1 m2
      rw [e] at this
      rcases this with q | q
      · subst q
        omega
      · omega
    have hin : ∀ g, g < N → o g ≠ K → st S K ≤ g → g < en S K → st S K < st S (o g) ∧ en S (o g) < en S K := by
      intro g hg hne e1 e2
      rcases O.within P hg hK e1 e2 with q | q
      · exact absurd q hne
      · exact q
    have run : ∀ ga gb gm, ga < N → gb < N → gm < N → kn (o ga) = true → kn (o gb) = true → o ga ≠ K → o gb ≠ K → o gm = K → st S K ≤ ga → ga < en S K →
        (ga < gm ∧ gm < gb) ∨ (gb < gm ∧ gm < ga) → False := by
      intro ga gb gm ha hb hm ka kb na nb em e1 e2 hbt
      have hXl := hkn _ ka
      have hYl := hkn _ kb
      have hXM : o ga < webM S := by unfold webM; omega
      have hYM : o gb < webM S := by unfold webM; omega
      obtain ⟨v, hv, sv⟩ := T.ex K (o ga) hKM hXM na
      obtain ⟨w, hw, sw⟩ := T.ex K (o gb) hKM hYM nb
      have e := L (o ga) (o gb) v w hXM hYM ka kb na nb hv hw sv sw
      subst e
      obtain ⟨p, hp, rfl, har, r1, r2⟩ := chi v (o ga) hv hXl na sv (hin ga ha na e1 e2)
      have sw' := sw
      unfold sideOf at sw'
      rw [up_ch, if_pos har, le_ch P hYl] at sw'
      have oa := (O ga ha).2
      have ob := (O gb hb).2
      have a1 := oa.le
      have a2 := oa.lt
      have b1 := ob.le
      have b2 := ob.lt
      exact nogap p gm hp har (by omega) (by omega) hm em
    rcases hc with ⟨c1, c2, c3, c4⟩ | ⟨c1, c2, c3, c4⟩
    · have o1 := (O g1 (by omega)).2
      have o3 := (O g3 (by omega)).2
      rw [c1] at o1
      rw [c3] at o3
      have := o1.le
      have := o3.lt
      exact run g2 g4 g3 (by omega) l4 (by omega) k2 k4 c2 c4 c3 (by omega) (by omega) (.inl ⟨l2, l3⟩)
    · have o2 := (O g2 (by omega)).2
      have o4 := (O g4 (by omega)).2
      rw [c2] at o2
      rw [c4] at o4
      have := o2.le
      have := o4.lt
      exact run g3 g1 g2 (by omega) (by omega) (by omega) k3 k1 c3 c1 c2 (by omega) (by omega) (.inr ⟨l1, l2⟩)
  · -- not a leaf: four gaps
    intro hno X Y v w hX hY kX kY nX nY hv hw sX sY
    apply Classical.byContradiction
    intro hne
    apply hno
    have hXl := hkn X kX
    have hYl := hkn Y kY
    have kinX := P.kin X hXl
    have kinY := P.kin Y hYl
    have x1 := kinX.lt
    have x2 := kinX.le
    have y1 := kinY.lt
    have y2 := kinY.le
    have oX := O.first P hXl
    have oY := O.first P hYl
    have oK := O.first P hK
    have oK2 := O.last P hK
    -- two chains within K
    have both : ∀ X Y v w, X < S.length → Y < S.length → kn X = true → kn Y = true → X ≠ K → Y ≠ K → v ∈ links S K → w ∈ links S K → v ≠ w →
        sideOf (le S) (up S) K v X → sideOf (le S) (up S) K w Y → (st S K < st S X ∧ en S X < en S K) → (st S K < st S Y ∧ en S Y < en S K) → PatG N o kn K := by
      intro X Y v w hXl hYl kX kY nX nY hv hw hne sX sY iX iY
      obtain ⟨p, hp, rfl, ap, p1, p2⟩ := chi v X hv hXl nX sX iX
      obtain ⟨q, hq, rfl, aq, q1, q2⟩ := chi w Y hw hYl nY sY iY
      have lX := P.lt hXl
      have lY := P.lt hYl
      have fin : ∀ X Y p q, X < S.length → Y < S.length → kn X = true → kn Y = true → X ≠ K → Y ≠ K → p < (chainsOf S).length → q < (chainsOf S).length →
          around S (chAt S p) = some K → around S (chAt S q) = some K → begOf S (chAt S p) ≤ st S X → en S X ≤ endOf S (chAt S p) → begOf S (chAt S q) ≤ st S Y → en S Y ≤ endOf S (chAt S q) →
          endOf S (chAt S p) ≤ begOf S (chAt S q) → PatG N o kn K := by
        intro X Y p q hXl hYl kX kY nX nY hp hq ap aq p1 p2 q1 q2 hd
        have lX := P.lt hXl
        have lY := P.lt hYl
        have eY := (P.kin Y hYl).le
        obtain ⟨hN, ow⟩ := gap_behind P O hp ap
        obtain ⟨_, a1, _⟩ := around_some ap
        obtain ⟨_, b1, _⟩ := around_some aq
        have Hq := chain_of P hq
        have hne : endOf S (chAt S p) ≠ begOf S (chAt S q) := by
          intro e
          have hm := Hq.head_mem
          have hml := Hq.lt _ hm
          have e2 := O.first P hml
          have e3 : begOf S (chAt S q) = st S ((chAt S q).headD 0) := rfl
          rw [← e3, ← e, ow] at e2
          have := Hq.mem P hm
          rw [← e2] at this
          omega
        refine ⟨st S K, st S X, endOf S (chAt S p), st S Y, by omega, by omega, by omega, by omega, ?_, ?_, ?_, ?_, .inl ⟨oK, ?_, ow, ?_⟩⟩
        · rw [oK]; exact kK
        · rw [O.first P hXl]; exact kX
        · rw [ow]; exact kK
        · rw [O.first P hYl]; exact kY
        · rw [O.first P hXl]; exact nX
        · rw [O.first P hYl]; exact nY
      rcases chains_apart P hp hq (fun e => hne (by rw [e])) ap aq with hd | hd
      · exact fin X Y p q hXl hYl kX kY nX nY hp hq ap aq p1 p2 q1 q2 hd
      · exact fin Y X q p hYl hXl kY kX nY nX hq hp aq ap q1 q2 p1 p2 hd
    -- one within K and one not
    have one : ∀ X Y, X < S.length → Y < S.length → kn X = true → kn Y = true → X ≠ K → Y ≠ K → (st S K < st S X ∧ en S X < en S K) → ¬ (st S K < st S Y ∧ en S Y < en S K) → PatG N o kn K := by
      intro X Y hXl hYl kX kY nX nY iX iY
      have lX := P.lt hXl
      have lY := P.lt hYl
      have eY := (P.kin Y hYl).le
      have oX := O.first P hXl
      have oY := O.first P hYl
      have hout : ¬ (st S K ≤ st S Y ∧ st S Y < en S K) := by
        rintro ⟨a, b⟩
        have := O.within P (g := st S Y) (by omega) hK a b
        rw [oY] at this
        rcases this with q | q
        · exact nY q
        · exact iY q
      by_cases e : st S Y < st S K
      · refine ⟨st S Y, st S K, st S X, en S K - 1, e, by omega, by omega, by omega, ?_, ?_, ?_, ?_, .inr ⟨?_, oK, ?_, oK2⟩⟩
        · rw [oY]; exact kY
        · rw [oK]; exact kK
        · rw [oX]; exact kX
        · rw [oK2]; exact kK
        · rw [oY]; exact nY
        · rw [oX]; exact nX
      · refine ⟨st S K, st S X, en S K - 1, st S Y, by omega, by omega, by omega, by omega, ?_, ?_, ?_, ?_, .inl ⟨oK, ?_, oK2, ?_⟩⟩
        · rw [oK]; exact kK
        · rw [oX]; exact kX
        · rw [oK2]; exact kK
        · rw [oY]; exact kY
        · rw [oX]; exact nX
        · rw [oY]; exact nY
    by_cases iX : st S K < st S X ∧ en S X < en S K
    · by_cases iY : st S K < st S Y ∧ en S Y < en S K
      · exact both X Y v w hXl hYl kX kY nX nY hv hw hne sX sY iX iY
      · exact one X Y hXl hYl kX kY nX nY iX iY
    · by_cases iY : st S K < st S Y ∧ en S Y < en S K
      · exact one Y X hYl hXl kY kX nY nX iY iX
      · exact absurd ((par v X hv hXl nX sX iX).trans (par w Y hw hYl nY sY iY).symm) hne

end
end KF
/-! Part G: the ends of the ties on a line of points; shut stretches of it; the kinds of crossing ties are the kins. -/
namespace KG
open KC

structure Sys (N : Nat) (pos : Nat → Nat) : Prop where
  one : 1 ≤ N
  inj : ∀ v w, v < 2 * N → w < 2 * N → pos v = pos w → v = w
  lt : ∀ v, v < 2 * N → pos v < 2 * N
  sur : ∀ x, x < 2 * N → ∃ v, v < 2 * N ∧ pos v = x
  zero : pos 0 = 0
  last : pos (2 * N - 1) = 2 * N - 1
  place : ∀ m, 1 ≤ m → m < N → ∃ s, 1 ≤ s ∧ s < N ∧ ((pos (2 * m - 1) = 2 * s - 1 ∧ pos (2 * m) = 2 * s) ∨ (pos (2 * m - 1) = 2 * s ∧ pos (2 * m) = 2 * s - 1))

def gh (pos : Nat → Nat) (k : Nat) : Nat := pos (2 * k) / 2
def gf (pos : Nat → Nat) (k : Nat) : Nat := pos (2 * k + 1) / 2

section
variable {N : Nat} {pos : Nat → Nat}

theorem const_up {A : Nat → Prop} {i : Nat} : ∀ j, i ≤ j → (∀ m, i < m → m ≤ j → (A (m - 1) ↔ A m)) → (A i ↔ A j) := by
  intro j
  induction j with
  | zero =>
    intro h _
    have : i = 0 := by omega
    rw [this]
  | succ j ih =>
    intro h hm
    by_cases e : i = j + 1
    · rw [e]
    · have h1 := ih (by omega) (fun m a b => hm m a (by omega))
      have h2 := hm (j + 1) (by omega) (Nat.le_refl _)
      rw [Nat.add_sub_cancel] at h2
      exact h1.trans h2

/-- the points from i to e are shut under the ties -/
def ClP (N : Nat) (pos : Nat → Nat) (i e : Nat) : Prop := ∀ k, k < N → ((i ≤ pos (2 * k) ∧ pos (2 * k) ≤ e) ↔ (i ≤ pos (2 * k + 1) ∧ pos (2 * k + 1) ≤ e))

/-- an amount whose two points are not parted by the stretch -/
theorem no_part (Y : Sys N pos) {i e : Nat} (C : ClP N pos i e) {m : Nat} (h1 : 1 ≤ m) (h2 : m < N) (hi : ¬ (pos (2 * m - 1) = i ∨ pos (2 * m) = i) ∨ i % 2 = 1)
    (he : ¬ (pos (2 * m - 1) = e ∨ pos (2 * m) = e) ∨ e % 2 = 0) : (i ≤ pos (2 * (m - 1)) ∧ pos (2 * (m - 1)) ≤ e) ↔ (i ≤ pos (2 * m) ∧ pos (2 * m) ≤ e) := by
  have c := C (m - 1) (by omega)
  have em : 2 * (m - 1) + 1 = 2 * m - 1 := by omega
  rw [em] at c
  rw [c]
  obtain ⟨s, s1, s2, s3⟩ := Y.place m h1 h2
  omega

/-- the amount at one end of a shut stretch -/
theorem align (Y : Sys N pos) {i e : Nat} (C : ClP N pos i e) (hie : i ≤ e) (hlt : e < 2 * N) : i % 2 = 0 ∧ e % 2 = 1 := by
  have h1 := Y.one
  -- what is in at the first and the last tie
  have a0 : (i ≤ pos (2 * 0) ∧ pos (2 * 0) ≤ e) ↔ i = 0 := by
    have := Y.zero
    rw [show 2 * 0 = 0 from rfl, this]
    omega
  have aN : (i ≤ pos (2 * (N - 1)) ∧ pos (2 * (N - 1)) ≤ e) ↔ e = 2 * N - 1 := by
    rw [C (N - 1) (by omega), show 2 * (N - 1) + 1 = 2 * N - 1 by omega, Y.last]
    omega
  obtain ⟨vi, hvi, pvi⟩ := Y.sur i (by omega)
  -- some tie is in
  have some_in : ∃ k, k < N ∧ (i ≤ pos (2 * k) ∧ pos (2 * k) ≤ e) := by
    refine ⟨vi / 2, by omega, ?_⟩
    by_cases ev : vi % 2 = 0
    · rw [show 2 * (vi / 2) = vi by omega, pvi]
      omega
    · rw [C (vi / 2) (by omega), show 2 * (vi / 2) + 1 = vi by omega, pvi]
      omega
  -- one amount alone may be parted
  have single : ∀ x, i ≤ x → x ≤ e → 1 ≤ x → x ≠ 2 * N - 1 → i ≠ 0 → e ≠ 2 * N - 1 →
      (∀ m, 1 ≤ m → m < N → ¬ (pos (2 * m - 1) = x ∨ pos (2 * m) = x) → ((i ≤ pos (2 * (m - 1)) ∧ pos (2 * (m - 1)) ≤ e) ↔ (i ≤ pos (2 * m) ∧ pos (2 * m) ≤ e))) → False := by
    intro x hix hxe hx1 hxN hi0 heN hno
    obtain ⟨v, hv, pv⟩ := Y.sur x (by omega)
    have hv0 : v ≠ 0 := by
      intro e0
      rw [e0, Y.zero] at pv
      omega
    have hvN : v ≠ 2 * N - 1 := by
      intro e0
      rw [e0, Y.last] at pv
      omega
    have low := const_up (A := fun k => i ≤ pos (2 * k) ∧ pos (2 * k) ≤ e) (i := 0) ((v + 1) / 2 - 1) (by omega) (by
      intro m m1 m2
      refine hno m (by omega) (by omega) ?_
      rintro (q | q)
      · have := Y.inj _ _ (by omega) hv (q.trans pv.symm)
        omega
      · have := Y.inj _ _ (by omega) hv (q.trans pv.symm)
        omega)
    have high := const_up (A := fun k => i ≤ pos (2 * k) ∧ pos (2 * k) ≤ e) (i := (v + 1) / 2) (N - 1) (by omega) (by
      intro m m1 m2
      refine hno m (by omega) (by omega) ?_
      rintro (q | q)
      · have := Y.inj _ _ (by omega) hv (q.trans pv.symm)
        omega
      · have := Y.inj _ _ (by omega) hv (q.trans pv.symm)
        omega)
    have low := low.symm.trans a0
    have high := high.trans aN
    have c := C ((v + 1) / 2 - 1) (by omega)
    by_cases hvv : v % 2 = 0
    · rw [show 2 * ((v + 1) / 2) = v by omega, pv] at high
      exact heN (high.mp ⟨hix, hxe⟩)
    · rw [show 2 * ((v + 1) / 2 - 1) + 1 = v by omega, pv] at c
      exact hi0 (low.mp (c.mpr ⟨hix, hxe⟩))
  by_cases ei : i % 2 = 0
  · by_cases ee : e % 2 = 1
    · exact ⟨ei, ee⟩
    · exfalso
      by_cases i0 : i = 0
      · -- nothing is parted
        have := const_up (A := fun k => i ≤ pos (2 * k) ∧ pos (2 * k) ≤ e) (i := 0) (N - 1) (by omega) (by
          intro m m1 m2
          refine no_part Y C (by omega) (by omega) ?_ (.inr (by omega))
          left
          obtain ⟨s, s1, s2, s3⟩ := Y.place m (by omega) (by omega)
          omega)
        have := a0.symm.trans (this.trans aN)
        omega
      · refine single i (by omega) hie (by omega) (by omega) i0 (by omega) ?_
        intro m m1 m2 hno
        exact no_part Y C m1 m2 (.inl hno) (.inr (by omega))
  · exfalso
    by_cases ee : e % 2 = 1
    · by_cases eN : e = 2 * N - 1
      · have := const_up (A := fun k => i ≤ pos (2 * k) ∧ pos (2 * k) ≤ e) (i := 0) (N - 1) (by omega) (by
          intro m m1 m2
          refine no_part Y C (by omega) (by omega) (.inr (by omega)) ?_
          left
          obtain ⟨s, s1, s2, s3⟩ := Y.place m (by omega) (by omega)
          omega)
        have := a0.symm.trans (this.trans aN)
        omega
      · refine single e hie (by omega) (by omega) eN (by omega) eN ?_
        intro m m1 m2 hno
        exact no_part Y C m1 m2 (.inr (by omega)) (.inl hno)
    · obtain ⟨k, hk, hin⟩ := some_in
      have hall : ∀ k, k < N → ((i ≤ pos (2 * 0) ∧ pos (2 * 0) ≤ e) ↔ (i ≤ pos (2 * k) ∧ pos (2 * k) ≤ e)) := by
        intro k hk
        exact const_up (A := fun k => i ≤ pos (2 * k) ∧ pos (2 * k) ≤ e) (i := 0) k (by omega) (by
          intro m m1 m2
          exact no_part Y C (by omega) (by omega) (.inr (by omega)) (.inr (by omega)))
      have := ((hall k hk).mpr hin)
      rw [a0] at this
      omega

theorem clP_of_cl {a b : Nat} (hab : a < b) (C : Cl N (gh pos) (gf pos) a b) : ClP N pos (2 * a) (2 * b - 1) := by
  intro k hk
  have := C k hk
  unfold gh gf at this
  omega

theorem cl_of_clP {i e : Nat} (hi : i % 2 = 0) (he : e % 2 = 1) (C : ClP N pos i e) : Cl N (gh pos) (gf pos) (i / 2) ((e + 1) / 2) := by
  intro k hk
  have := C k hk
  unfold gh gf
  omega

/-- what is kept from tie to tie but at two amounts, and is at both ends as told, is a stretch of ties -/
theorem stretch {N a b x y : Nat} {A : Nat → Prop} (a0 : A 0 ↔ a = 0) (hxN : x < N) (hyN : y ≤ N) (hy1 : 1 ≤ y)
    (hkeep : ∀ m, 1 ≤ m → m < N → m ≠ x → m ≠ y → (A (m - 1) ↔ A m)) (x1 : A x) (x2 : 1 ≤ x → ¬ A (x - 1)) (y1 : A (y - 1)) (y2 : y < N → ¬ A y)
    (hx0 : x ≠ 0 → a ≠ 0) (hxy : x ≠ y) : x < y ∧ ∀ k, k < N → (A k ↔ (x ≤ k ∧ k < y)) := by
  have hlt : x < y := by
    apply Classical.byContradiction
    intro hge
    have := const_up (A := A) (i := 0) (y - 1) (by omega) (by
      intro m m1 m2
      exact hkeep m (by omega) (by omega) (by omega) (by omega))
    have := a0.mp (this.mpr y1)
    exact hx0 (by omega) this
  refine ⟨hlt, ?_⟩
  intro k hk
  by_cases k1 : k < x
  · have := const_up (A := A) (i := k) (x - 1) (by omega) (by
      intro m m1 m2
      exact hkeep m (by omega) (by omega) (by omega) (by omega))
    constructor
    · intro q
      exact absurd (this.mp q) (x2 (by omega))
    · omega
  · by_cases k2 : k < y
    · have := const_up (A := A) (i := x) k (by omega) (by
        intro m m1 m2
        exact hkeep m (by omega) (by omega) (by omega) (by omega))
      constructor
      · omega
      · intro _
        exact this.mp x1
    · have := const_up (A := A) (i := y) k (by omega) (by
        intro m m1 m2
        exact hkeep m (by omega) (by omega) (by omega) (by omega))
      constructor
      · intro q
        exact absurd (this.mpr q) (y2 (by omega))
      · omega

/-- at the ends u and w of a shut stretch, by what is in -/
theorem shape_ab {N a b u w : Nat} {A : Nat → Prop} (hab : a < b) (hb : b ≤ N) (hu : u < 2 * N) (hw : w < 2 * N) (a0 : A 0 ↔ a = 0)
    (keep : ∀ m, 1 ≤ m → m < N → m ≠ (u + 1) / 2 → m ≠ (w + 1) / 2 → (A (m - 1) ↔ A m))
    (eu0 : u % 2 = 0 → A (u / 2) ∧ (1 ≤ u → ¬ A (u / 2 - 1))) (eu1 : u % 2 = 1 → A (u / 2) ∧ (u / 2 + 1 < N → ¬ A (u / 2 + 1)))
    (ew0 : w % 2 = 0 → A (w / 2) ∧ (1 ≤ w → ¬ A (w / 2 - 1))) (ew1 : w % 2 = 1 → A (w / 2) ∧ (w / 2 + 1 < N → ¬ A (w / 2 + 1)))
    (huw : (u + 1) / 2 ≠ (w + 1) / 2 ∨ u = 0 ∨ w = 2 * N - 1) (hne : u ≠ w) (u0 : u = 0 ↔ a = 0) (wN : w = 2 * N - 1 ↔ b = N) (w0 : w ≠ 0) (uN : u ≠ 2 * N - 1) :
    ∃ x y, x < y ∧ y ≤ N ∧ (∀ k, k < N → (A k ↔ (x ≤ k ∧ k < y))) ∧ ((2 * x = u ∧ 2 * y - 1 = w) ∨ (2 * x = w ∧ 2 * y - 1 = u)) := by
  by_cases pu2 : u % 2 = 0
  · obtain ⟨u1, u2⟩ := eu0 pu2
    by_cases pw2 : w % 2 = 0
    · exfalso
      obtain ⟨w1, w2⟩ := ew0 pw2
      by_cases hlt : u < w
      · have := const_up (A := A) (i := u / 2) (w / 2 - 1) (by omega) (by
          intro m m1 m2
          exact keep m (by omega) (by omega) (by omega) (by omega))
        exact w2 (by omega) (this.mp u1)
      · have := const_up (A := A) (i := w / 2) (u / 2 - 1) (by omega) (by
          intro m m1 m2
          exact keep m (by omega) (by omega) (by omega) (by omega))
        exact u2 (by omega) (this.mp w1)
    · obtain ⟨w1, w2⟩ := ew1 (by omega)
      obtain ⟨f1, f2⟩ := stretch (A := A) (x := u / 2) (y := w / 2 + 1) (N := N) (a := a) (b := b) a0 (by omega) (by omega) (by omega) (by
        intro m m1 m2 m3 m4
        exact keep m m1 m2 (by omega) (by omega)) u1 (fun q => u2 (by omega)) (by rw [Nat.add_sub_cancel]; exact w1) w2 (by omega) (by omega)
      exact ⟨u / 2, w / 2 + 1, f1, by omega, f2, .inl ⟨by omega, by omega⟩⟩
  · obtain ⟨u1, u2⟩ := eu1 (by omega)
    by_cases pw2 : w % 2 = 0
    · obtain ⟨w1, w2⟩ := ew0 pw2
      obtain ⟨f1, f2⟩ := stretch (A := A) (x := w / 2) (y := u / 2 + 1) (N := N) (a := a) (b := b) a0 (by omega) (by omega) (by omega) (by
        intro m m1 m2 m3 m4
        exact keep m m1 m2 (by omega) (by omega)) w1 (fun q => w2 (by omega)) (by rw [Nat.add_sub_cancel]; exact u1) u2 (by omega) (by omega)
      exact ⟨w / 2, u / 2 + 1, f1, by omega, f2, .inr ⟨by omega, by omega⟩⟩
    · exfalso
      obtain ⟨w1, w2⟩ := ew1 (by omega)
      by_cases hlt : u < w
      · have := const_up (A := A) (i := u / 2 + 1) (w / 2) (by omega) (by
          intro m m1 m2
          exact keep m (by omega) (by omega) (by omega) (by omega))
        exact u2 (by omega) (this.mpr w1)
      · have := const_up (A := A) (i := w / 2 + 1) (u / 2) (by omega) (by
          intro m m1 m2
          exact keep m (by omega) (by omega) (by omega) (by omega))
        exact w2 (by omega) (this.mpr u1)

/-- a value at an end: its tie is in, the other one of its amount is not -/
theorem end_in (Y : Sys N pos) {a b : Nat} (hab : a < b) (C : ClP N pos (2 * a) (2 * b - 1)) {v x : Nat} (hv : v < 2 * N) (pv : pos v = x) (hx : x = 2 * a ∨ x = 2 * b - 1) :
    (v % 2 = 0 → (2 * a ≤ pos (2 * (v / 2)) ∧ pos (2 * (v / 2)) ≤ 2 * b - 1) ∧ (1 ≤ v → ¬ (2 * a ≤ pos (2 * (v / 2 - 1)) ∧ pos (2 * (v / 2 - 1)) ≤ 2 * b - 1))) ∧
    (v % 2 = 1 → (2 * a ≤ pos (2 * (v / 2)) ∧ pos (2 * (v / 2)) ≤ 2 * b - 1) ∧ (v / 2 + 1 < N → ¬ (2 * a ≤ pos (2 * (v / 2 + 1)) ∧ pos (2 * (v / 2 + 1)) ≤ 2 * b - 1))) := by
  constructor
  · intro hev
    refine ⟨by rw [show 2 * (v / 2) = v by omega, pv]; omega, ?_⟩
    intro hv1
    rw [C (v / 2 - 1) (by omega), show 2 * (v / 2 - 1) + 1 = 2 * (v / 2) - 1 by omega]
    obtain ⟨s, s1, s2, s3⟩ := Y.place (v / 2) (by omega) (by omega)
    rw [show 2 * (v / 2) = v by omega] at s3 ⊢
    rw [pv] at s3
    omega
  · intro hodd
    refine ⟨by rw [C (v / 2) (by omega), show 2 * (v / 2) + 1 = v by omega, pv]; omega, ?_⟩
    intro hv1
    obtain ⟨s, s1, s2, s3⟩ := Y.place (v / 2 + 1) (by omega) (by omega)
    rw [show 2 * (v / 2 + 1) - 1 = v by omega, pv] at s3
    omega

/-- the shape of a shut stretch of gaps: its ties are those from x on, up to the one ahead of y -/
theorem shape (Y : Sys N pos) {a b : Nat} (hab : a < b) (hb : b ≤ N) (C : Cl N (gh pos) (gf pos) a b) :
    ∃ x y, x < y ∧ y ≤ N ∧ (∀ k, k < N → ((2 * a ≤ pos (2 * k) ∧ pos (2 * k) ≤ 2 * b - 1) ↔ (x ≤ k ∧ k < y))) ∧
      ((pos (2 * x) = 2 * a ∧ pos (2 * y - 1) = 2 * b - 1) ∨ (pos (2 * x) = 2 * b - 1 ∧ pos (2 * y - 1) = 2 * a)) := by
  have h1 := Y.one
  have C := clP_of_cl hab C
  have a0 : (2 * a ≤ pos (2 * 0) ∧ pos (2 * 0) ≤ 2 * b - 1) ↔ a = 0 := by
    have := Y.zero
    rw [show 2 * 0 = 0 from rfl, this]
    omega
  obtain ⟨u, hu, pu⟩ := Y.sur (2 * a) (by omega)
  obtain ⟨w, hw, pw⟩ := Y.sur (2 * b - 1) (by omega)
  have hne : u ≠ w := by
    intro e0
    rw [e0, pw] at pu
    omega
  have u0 : u = 0 ↔ a = 0 := by
    constructor
    · intro q
      rw [q, Y.zero] at pu
      omega
    · intro q
      refine Y.inj _ _ hu (by omega) ?_
      rw [pu, Y.zero, q]
  have wN : w = 2 * N - 1 ↔ b = N := by
    constructor
    · intro q
      rw [q, Y.last] at pw
      omega
    · intro q
      refine Y.inj _ _ hw (by omega) ?_
      rw [pw, Y.last, q]
  have w0 : w ≠ 0 := by
    intro e0
    rw [e0, Y.zero] at pw
    omega
  have uN : u ≠ 2 * N - 1 := by
    intro e0
    rw [e0, Y.last] at pu
    omega
  have huw : (u + 1) / 2 ≠ (w + 1) / 2 ∨ u = 0 ∨ w = 2 * N - 1 := by
    apply Classical.byContradiction
    intro hno
    have q1 : (u + 1) / 2 = (w + 1) / 2 := by omega
    obtain ⟨s, s1, s2, s3⟩ := Y.place ((u + 1) / 2) (by omega) (by omega)
    have hcase : (2 * ((u + 1) / 2) = u ∧ 2 * ((u + 1) / 2) - 1 = w) ∨ (2 * ((u + 1) / 2) = w ∧ 2 * ((u + 1) / 2) - 1 = u) := by omega
    rcases hcase with ⟨q, r⟩ | ⟨q, r⟩
    · rw [r, q, pu, pw] at s3
      omega
    · rw [r, q, pu, pw] at s3
      omega
  have keep : ∀ m, 1 ≤ m → m < N → m ≠ (u + 1) / 2 → m ≠ (w + 1) / 2 →
      ((2 * a ≤ pos (2 * (m - 1)) ∧ pos (2 * (m - 1)) ≤ 2 * b - 1) ↔ (2 * a ≤ pos (2 * m) ∧ pos (2 * m) ≤ 2 * b - 1)) := by
    intro m m1 m2 m3 m4
    refine no_part Y C m1 m2 (.inl ?_) (.inl ?_)
    · rintro (q | q)
      · have := Y.inj _ _ (by omega) hu (q.trans pu.symm)
        omega
      · have := Y.inj _ _ (by omega) hu (q.trans pu.symm)
        omega
    · rintro (q | q)
      · have := Y.inj _ _ (by omega) hw (q.trans pw.symm)
        omega
      · have := Y.inj _ _ (by omega) hw (q.trans pw.symm)
        omega
  have eu := end_in Y hab C hu pu (.inl rfl)
  have ew := end_in Y hab C hw pw (.inr rfl)
  obtain ⟨x, y, e1, e2, e3, e4⟩ := shape_ab (A := fun k => 2 * a ≤ pos (2 * k) ∧ pos (2 * k) ≤ 2 * b - 1) hab hb hu hw a0 keep eu.1 eu.2 ew.1 ew.2 huw hne u0 wN w0 uN
  refine ⟨x, y, e1, e2, e3, ?_⟩
  rcases e4 with ⟨q, r⟩ | ⟨q, r⟩
  · left
    rw [q, r]
    exact ⟨pu, pw⟩
  · right
    rw [q, r]
    exact ⟨pw, pu⟩

end
end KG
/-! Part H: the kinds of crossing ties are the kins; the signs within a kin. -/
namespace KH
open KC KD KE1 KF KG KA

def tlo (pos : Nat → Nat) (k : Nat) : Nat := min (pos (2 * k)) (pos (2 * k + 1))
def thi (pos : Nat → Nat) (k : Nat) : Nat := max (pos (2 * k)) (pos (2 * k + 1))
def Crs (pos : Nat → Nat) (j k : Nat) : Prop :=
  (tlo pos j < tlo pos k ∧ tlo pos k < thi pos j ∧ thi pos j < thi pos k) ∨ (tlo pos k < tlo pos j ∧ tlo pos j < thi pos k ∧ thi pos k < thi pos j)

structure Kinds {α : Type} (N : Nat) (pos : Nat → Nat) (mk : Nat → α) : Prop where
  cross : ∀ j k, j < N → k < N → Crs pos j k → mk j = mk k
  least : ∀ P : Nat → Prop, (∀ j k, j < N → k < N → Crs pos j k → (P j ↔ P k)) → ∀ j k, j < N → k < N → mk j = mk k → (P j ↔ P k)

section
variable {α : Type} {N : Nat} {pos : Nat → Nat} {mk : Nat → α}

/-- ties of one kind lie in the same shut stretches -/
theorem Kinds.shut (H : Kinds N pos mk) {a b j k : Nat} (hab : a < b) (C : Cl N (gh pos) (gf pos) a b) (hj : j < N) (hk : k < N) (e : mk j = mk k) :
    (a ≤ gh pos j ∧ gh pos j < b) ↔ (a ≤ gh pos k ∧ gh pos k < b) := by
  have C := clP_of_cl hab C
  have key := H.least (fun k => 2 * a ≤ pos (2 * k) ∧ pos (2 * k) ≤ 2 * b - 1) (by
    intro j k hj hk hc
    have c1 := C j hj
    have c2 := C k hk
    unfold Crs tlo thi at hc
    omega) j k hj hk e
  unfold gh
  omega

theorem Kinds.owner (H : Kinds N pos mk) {a b j k : Nat} (hj : j < N) (hk : k < N) (e : mk j = mk k) (ho : Own N (gh pos) (gf pos) (gh pos j) a b) :
    Own N (gh pos) (gf pos) (gh pos k) a b := by
  have x := (H.shut ho.kin.lt ho.kin.cl hj hk e).mp ⟨ho.le, ho.lt⟩
  refine ⟨ho.kin, x.1, x.2, ?_⟩
  intro c d hcd e1 e2 e3
  have y := (H.shut (by omega) hcd hj hk e).mpr ⟨e1, e2⟩
  exact ho.least c d hcd y.1 y.2 e3

theorem min_ex {n : Nat} {p : Nat → Prop} {F : Nat → Nat} : ∀ m, (∃ k, k < n ∧ p k ∧ F k ≤ m) → ∃ k, k < n ∧ p k ∧ ∀ j, j < n → p j → F k ≤ F j := by
  intro m
  induction m with
  | zero =>
    rintro ⟨k, h1, h2, h3⟩
    exact ⟨k, h1, h2, fun j _ _ => by omega⟩
  | succ m ih =>
    intro h
    by_cases e : ∃ k, k < n ∧ p k ∧ F k ≤ m
    · exact ih e
    · obtain ⟨k, h1, h2, h3⟩ := h
      refine ⟨k, h1, h2, fun j j1 j2 => ?_⟩
      apply Classical.byContradiction
      intro hlt
      exact e ⟨j, j1, j2, by omega⟩

theorem max_ex {n B : Nat} {p : Nat → Prop} {F : Nat → Nat} (hB : ∀ k, k < n → F k ≤ B) (h : ∃ k, k < n ∧ p k) : ∃ k, k < n ∧ p k ∧ ∀ j, j < n → p j → F j ≤ F k := by
  obtain ⟨k, h1, h2⟩ := h
  obtain ⟨k, k1, k2, k3⟩ := min_ex (n := n) (p := p) (F := fun k => B - F k) (B - F k) ⟨k, h1, h2, Nat.le_refl _⟩
  refine ⟨k, k1, k2, fun j j1 j2 => ?_⟩
  have := k3 j j1 j2
  have := hB j j1
  have := hB k k1

  omega

/-- a kind's stretch of points is shut -/
theorem Kinds.extent (Y : Sys N pos) (H : Kinds N pos mk) {j k0 k1 : Nat} (h0 : k0 < N) (h1 : k1 < N) (e0 : mk k0 = mk j) (e1 : mk k1 = mk j)
    (m0 : ∀ k, k < N → mk k = mk j → tlo pos k0 ≤ tlo pos k) (m1 : ∀ k, k < N → mk k = mk j → thi pos k ≤ thi pos k1) : ClP N pos (tlo pos k0) (thi pos k1) := by
  have main : ∀ c x y, c < N → ((x = pos (2 * c) ∧ y = pos (2 * c + 1)) ∨ (x = pos (2 * c + 1) ∧ y = pos (2 * c))) → tlo pos k0 ≤ x → x ≤ thi pos k1 → tlo pos k0 ≤ y ∧ y ≤ thi pos k1 := by
    intro c x y hc hxy hx1 hx2
    apply Classical.byContradiction
    intro hno
    have hcj : mk c ≠ mk j := by
      intro e
      have a1 := m0 c hc e
      have a2 := m1 c hc e
      unfold tlo at a1
      unfold thi at a2
      unfold tlo thi at hno
      unfold tlo at hx1
      unfold thi at hx2
      omega
    -- x is no end of a tie of the kind
    have hend : ∀ k, k < N → mk k = mk j → pos (2 * k) ≠ x ∧ pos (2 * k + 1) ≠ x := by
      intro k hk e
      have hkc : k ≠ c := by
        intro q
        rw [q] at e
        exact hcj e
      constructor
      · intro q
        rcases hxy with ⟨r, _⟩ | ⟨r, _⟩
        · have := Y.inj _ _ (by omega) (by omega) (q.trans r)
          omega
        · have := Y.inj _ _ (by omega) (by omega) (q.trans r)
          omega
      · intro q
        rcases hxy with ⟨r, _⟩ | ⟨r, _⟩
        · have := Y.inj _ _ (by omega) (by omega) (q.trans r)
          omega
        · have := Y.inj _ _ (by omega) (by omega) (q.trans r)
          omega
    -- some tie of the kind is over x
    have hover : ∃ d, d < N ∧ mk d = mk j ∧ tlo pos d < x ∧ x < thi pos d := by
      apply Classical.byContradiction
      intro hov
      have side : ∀ k, k < N → mk k = mk j → thi pos k < x ∨ x < tlo pos k := by
        intro k hk e
        have q := hend k hk e
        apply Classical.byContradiction
        intro hh
        apply hov
        refine ⟨k, hk, e, ?_⟩
        unfold tlo thi at hh ⊢
        omega
      have key := H.least (fun k => mk k = mk j ∧ thi pos k < x) (by
        intro a b ha hb hc
        have e := H.cross a b ha hb hc
        constructor
        · rintro ⟨p1, p2⟩
          have q : mk b = mk j := e.symm.trans p1
          refine ⟨q, ?_⟩
          have := side b hb q
          unfold Crs tlo thi at hc
          unfold tlo thi at this
          unfold thi at p2 ⊢
          omega
        · rintro ⟨p1, p2⟩
          have q : mk a = mk j := e.trans p1
          refine ⟨q, ?_⟩
          have := side a ha q
          unfold Crs tlo thi at hc
          unfold tlo thi at this
          unfold thi at p2 ⊢
          omega) k0 k1 h0 h1 (e0.trans e1.symm)
      have q0 := side k0 h0 e0
      have q1 := side k1 h1 e1
      have l0 : thi pos k0 < x := by
        rcases q0 with q | q
        · exact q
        · omega
      have l1 : ¬ thi pos k1 < x := by omega
      exact l1 (key.mp ⟨e0, l0⟩).2
    obtain ⟨d, hd, ed, d1, d2⟩ := hover
    have a1 := m0 d hd ed
    have a2 := m1 d hd ed
    have hcr : Crs pos c d := by
      have : (tlo pos c = x ∧ thi pos c = y) ∨ (tlo pos c = y ∧ thi pos c = x) := by
        unfold tlo thi
        omega
      unfold Crs
      have l : tlo pos c ≤ thi pos c := by unfold tlo thi; omega
      omega
    exact hcj ((H.cross c d hc hd hcr).trans ed)
  intro c hc
  constructor
  · rintro ⟨a, b⟩
    exact main c _ _ hc (.inl ⟨rfl, rfl⟩) a b
  · rintro ⟨a, b⟩
    exact main c _ _ hc (.inr ⟨rfl, rfl⟩) a b

/-- of a kin, the tie that meets its first point is of the kind of each of its ties -/
theorem Kinds.front (Y : Sys N pos) (H : Kinds N pos mk) {a b j t : Nat} (hj : j < N) (ht : t < N) (ho : Own N (gh pos) (gf pos) (gh pos j) a b)
    (et : pos (2 * t) = 2 * a ∨ pos (2 * t + 1) = 2 * a) : mk t = mk j := by
  obtain ⟨k0, h0, e0, m0⟩ := min_ex (n := N) (p := fun k => mk k = mk j) (F := tlo pos) (tlo pos j) ⟨j, hj, rfl, Nat.le_refl _⟩
  obtain ⟨k1, h1, e1, m1⟩ := max_ex (n := N) (B := 2 * N) (p := fun k => mk k = mk j) (F := thi pos) (by
    intro k hk
    have := Y.lt (2 * k) (by omega)
    have := Y.lt (2 * k + 1) (by omega)
    unfold thi
    omega) ⟨j, hj, rfl⟩
  have C := H.extent Y h0 h1 e0 e1 m0 m1
  have j0 := m0 j hj rfl
  have j1 := m1 j hj rfl
  have l : tlo pos j ≤ thi pos j := by unfold tlo thi; omega
  have hl1 : thi pos k1 < 2 * N := by
    have := Y.lt (2 * k1) (by omega)
    have := Y.lt (2 * k1 + 1) (by omega)
    unfold thi
    omega
  obtain ⟨p0, p1⟩ := align Y C (by omega) hl1
  have C2 := cl_of_clP p0 p1 C
  have hgj : tlo pos k0 / 2 ≤ gh pos j ∧ gh pos j < (thi pos k1 + 1) / 2 := by
    unfold gh
    have : tlo pos j ≤ pos (2 * j) ∧ pos (2 * j) ≤ thi pos j := by unfold tlo thi; omega
    omega
  have hin := ho.least _ _ C2 hgj.1 hgj.2 (by omega)
  -- the kind lies within the kin
  have o0 := H.owner hj h0 e0.symm ho
  have t0 := own_tie h0 o0
  have q1 := o0.le
  have q2 := t0.le
  have ea : tlo pos k0 = 2 * a := by
    unfold gh at q1
    unfold gf at q2
    have : tlo pos k0 = pos (2 * k0) ∨ tlo pos k0 = pos (2 * k0 + 1) := by unfold tlo; omega
    omega
  have : t = k0 := by
    have : tlo pos k0 = pos (2 * k0) ∨ tlo pos k0 = pos (2 * k0 + 1) := by unfold tlo; omega
    rcases this with q | q <;> rcases et with r | r
    · have := Y.inj _ _ (by omega) (by omega) ((q.symm.trans ea).trans r.symm)
      omega
    · have := Y.inj _ _ (by omega) (by omega) ((q.symm.trans ea).trans r.symm)
      omega
    · have := Y.inj _ _ (by omega) (by omega) ((q.symm.trans ea).trans r.symm)
      omega
    · have := Y.inj _ _ (by omega) (by omega) ((q.symm.trans ea).trans r.symm)
      omega
  rw [this]
  exact e0

/-- ties of one kin are of one kind -/
theorem Kinds.same (Y : Sys N pos) (H : Kinds N pos mk) {a b j k : Nat} (hj : j < N) (hk : k < N) (h1 : Own N (gh pos) (gf pos) (gh pos j) a b)
    (h2 : Own N (gh pos) (gf pos) (gh pos k) a b) : mk j = mk k := by
  have l := h1.kin.lt
  have l2 := h1.kin.le
  obtain ⟨v, hv, pv⟩ := Y.sur (2 * a) (by omega)
  have et : pos (2 * (v / 2)) = 2 * a ∨ pos (2 * (v / 2) + 1) = 2 * a := by
    by_cases e : v % 2 = 0
    · left
      rw [show 2 * (v / 2) = v by omega]
      exact pv
    · right
      rw [show 2 * (v / 2) + 1 = v by omega]
      exact pv
  exact ((H.front Y hj (by omega) h1 et).symm).trans (H.front Y hk (by omega) h2 et)

/-! ### signs -/
/-- whether the number of which the point is has a minus -/
def neg (pos : Nat → Nat) (v : Nat) : Bool := decide (pos v % 2 ≠ v % 2)
def sg (N : Nat) (pos : Nat → Nat) (m : Nat) : Bool := if m < N then neg pos (2 * m) else neg pos (2 * m - 1)

theorem sg_low (Y : Sys N pos) {m : Nat} (h1 : 1 ≤ m) (h2 : m ≤ N) : neg pos (2 * m - 1) = sg N pos m := by
  unfold sg
  split
  · next h =>
    obtain ⟨s, s1, s2, s3⟩ := Y.place m h1 h
    unfold neg
    rw [decide_eq_decide]
    omega
  · rfl

theorem chain_cl {h f : Nat → Nat} {S : SL} (P : Spans N h f S) : ∀ (c : List Nat), c ≠ [] → (∀ x, x ∈ c → x < S.length) → (∀ l r a b, c = l ++ a :: b :: r → en S a = st S b) →
    Cl N h f (begOf S c) (endOf S c) := by
  intro c
  induction c with
  | nil => intro h; exact absurd rfl h
  | cons a r ih =>
    intro _ hl ht
    cases r with
    | nil => exact (P.kin a (hl a (by simp))).cl
    | cons b r =>
      have e := ht [] r a b rfl
      have i1 := ih (by simp) (fun x hx => hl x (List.mem_cons_of_mem _ hx)) (touch_tail ht)
      have k1 := P.kin a (hl a (by simp))
      have m := chain_mem P (b :: r) (by simp) (fun x hx => hl x (List.mem_cons_of_mem _ hx)) (touch_tail ht) b (by simp)
      have lb := P.lt (hl b (by simp))
      have l := k1.lt
      rw [beg_cons] at i1 m
      rw [beg_cons, end_cons]
      intro k hk
      have := i1 k hk
      have := k1.cl k hk
      omega

theorem signs {S : SL} {o : Nat → Nat} (Y : Sys N pos) (P : Spans N (gh pos) (gf pos) S) (O : Ow N (gh pos) (gf pos) S o) {K : Nat} (hK : K < S.length)
    (hu : ∀ k, k < N → o (gh pos k) = K → neg pos (2 * k) = neg pos (2 * k + 1)) :
    ∃ s, ∀ v, v < 2 * N → o (pos v / 2) = K → neg pos v = s := by
  have T := web_tree P
  have kk := P.kin K hK
  have kl := kk.lt
  have kle := kk.le
  have hKM : K < webM S := by unfold webM; omega
  obtain ⟨x, y, xy, yN, sh, _⟩ := shape Y kl kle kk.cl
  have inK : ∀ k, k < N → ((x ≤ k ∧ k < y) ↔ (st S K ≤ gh pos k ∧ gh pos k < en S K)) := by
    intro k hk
    rw [← sh k hk]
    unfold gh
    omega
  -- a tie of the kin's stretch is its own or of a chain within
  have child : ∀ k, k < N → x ≤ k → k < y → o (gh pos k) = K ∨ ∃ p, p < (chainsOf S).length ∧ around S (chAt S p) = some K ∧ begOf S (chAt S p) ≤ gh pos k ∧ gh pos k < endOf S (chAt S p) := by
    intro k hk h1 h2
    have g := (inK k hk).mp ⟨h1, h2⟩
    have gN : gh pos k < N := by
      have := Y.lt (2 * k) (by omega)
      unfold gh
      omega
    rcases O.within P gN hK g.1 g.2 with q | q
    · exact .inl q
    · right
      obtain ⟨Xl, Xo⟩ := O _ gN
      have nX : o (gh pos k) ≠ K := by
        intro e
        rw [e] at q
        omega
      obtain ⟨v, hv, sv⟩ := T.ex K (o (gh pos k)) hKM (by unfold webM; omega) nX
      rcases link_cases P hK hv with ⟨_, e⟩ | ⟨p, hp, rfl, ha⟩
      · exfalso
        unfold KB.sideOf at sv
        rw [if_neg e, le_kin P Xl hK nX] at sv
        exact sv q
      · unfold KB.sideOf at sv
        rw [up_ch, if_pos ha, le_ch P Xl] at sv
        have a1 := Xo.le
        have a2 := Xo.lt
        exact ⟨p, hp, ha, by omega, by omega⟩
  have notown : ∀ k p, k < N → p < (chainsOf S).length → around S (chAt S p) = some K → begOf S (chAt S p) ≤ gh pos k → gh pos k < endOf S (chAt S p) → o (gh pos k) ≠ K := by
    intro k p hk hp ha e1 e2 e
    have Hp := chain_of P hp
    have gN : gh pos k < N := by
      have := Y.lt (2 * k) (by omega)
      unfold gh
      omega
    obtain ⟨m, hm, m1, m2⟩ := Hp.cover P e1 e2
    have ml := Hp.lt m hm
    have mr := Hp.mem P hm
    obtain ⟨_, a1, _⟩ := around_some ha
    have := O.within P gN ml m1 m2
    rw [e] at this
    rcases this with q | q
    · subst q
      omega
    · omega
  have key : ∀ n j, j ≤ n → x ≤ j → j ≤ y → (∀ p, p < (chainsOf S).length → around S (chAt S p) = some K → 1 ≤ j → j < N →
      ¬ ((begOf S (chAt S p) ≤ gh pos (j - 1) ∧ gh pos (j - 1) < endOf S (chAt S p)) ∧ (begOf S (chAt S p) ≤ gh pos j ∧ gh pos j < endOf S (chAt S p)))) → sg N pos j = sg N pos x := by
    intro n
    induction n with
    | zero =>
      intro j h1 h2 _ _
      rw [show j = x by omega]
    | succ n ih =>
      intro j h1 h2 h3 hb
      by_cases ex : j = x
      · rw [ex]
      · rcases child (j - 1) (by omega) (by omega) (by omega) with q | ⟨p, hp, ha, p1, p2⟩
        · have i1 := ih (j - 1) (by omega) (by omega) (by omega) (by
            intro p hp ha _ _ hh
            exact notown (j - 1) p (by omega) hp ha hh.2.1 hh.2.2 q)
          rw [← i1]
          have u := hu (j - 1) (by omega) q
          rw [show 2 * (j - 1) + 1 = 2 * j - 1 by omega, sg_low Y (by omega) (by omega)] at u
          rw [← u]
          unfold sg
          rw [if_pos (by omega)]
        · have Hp := chain_of P hp
          obtain ⟨_, a1, a2⟩ := around_some ha
          have lp := Hp.lt_ P
          have Cp := chain_cl P _ Hp.ne Hp.lt Hp.touch
          obtain ⟨x', y', xy', yN', sh', form⟩ := shape Y lp (by omega) Cp
          have inp : ∀ k, k < N → ((x' ≤ k ∧ k < y') ↔ (begOf S (chAt S p) ≤ gh pos k ∧ gh pos k < endOf S (chAt S p))) := by
            intro k hk
            rw [← sh' k hk]
            unfold gh
            omega
          have j1 := (inp (j - 1) (by omega)).mpr ⟨p1, p2⟩
          have ey : y' = j := by
            by_cases jN : j < N
            · have := hb p hp ha (by omega) jN
              have j2 := inp j jN
              apply Classical.byContradiction
              intro hne
              exact this ⟨⟨p1, p2⟩, j2.mp ⟨by omega, by omega⟩⟩
            · omega
          have xx' : x ≤ x' := by
            have q1 := (inp x' (by omega)).mp ⟨Nat.le_refl _, xy'⟩
            have q2 := (inK x' (by omega)).mpr ⟨by omega, by omega⟩
            exact q2.1
          have i1 := ih x' (by omega) xx' (by omega) (by
            intro q hq haq h4 h5 hh
            have q1 := (inp x' (by omega)).mp ⟨Nat.le_refl _, xy'⟩
            have epq : p = q := by
              apply Classical.byContradiction
              intro hne
              have := chains_apart P hp hq hne ha haq
              omega
            subst epq
            have := (inp (x' - 1) (by omega)).mpr hh.1
            omega)
          rw [← i1, ← ey]
          have s1 : sg N pos y' = neg pos (2 * y' - 1) := (sg_low Y (by omega) yN').symm
          have s2 : sg N pos x' = neg pos (2 * x') := by
            unfold sg
            rw [if_pos (by omega)]
          rw [s1, s2]
          unfold neg
          rw [decide_eq_decide]
          rcases form with ⟨f1, f2⟩ | ⟨f1, f2⟩
          · rw [f1, f2]; omega
          · rw [f1, f2]; omega
  refine ⟨sg N pos x, ?_⟩
  intro v hv ov
  have hk : v / 2 < N := by omega
  have gN : gh pos (v / 2) < N := by
    have := Y.lt (2 * (v / 2)) (by omega)
    unfold gh
    omega
  have own : o (gh pos (v / 2)) = K := by
    by_cases e : v % 2 = 0
    · unfold gh
      rw [show 2 * (v / 2) = v by omega]
      exact ov
    · obtain ⟨Xl, Xo⟩ := O _ gN
      have t := own_tie hk Xo
      have e2 : gf pos (v / 2) = pos v / 2 := by
        unfold gf
        rw [show 2 * (v / 2) + 1 = v by omega]
      rw [e2] at t
      have := Y.lt v hv
      exact (O.of P Xl t (by omega)).symm.trans ov
  obtain ⟨Kl, Ko⟩ := O _ gN
  rw [own] at Ko
  have rng := (inK (v / 2) hk).mpr ⟨Ko.le, Ko.lt⟩
  have i1 := key (v / 2) (v / 2) (Nat.le_refl _) rng.1 (by omega) (by
    intro p hp ha _ _ hh
    exact notown (v / 2) p hk hp ha hh.2.1 hh.2.2 own)
  have s2 : sg N pos (v / 2) = neg pos (2 * (v / 2)) := by
    unfold sg
    rw [if_pos hk]
  rw [← i1, s2]
  by_cases e : v % 2 = 0
  · rw [show 2 * (v / 2) = v by omega]
  · rw [hu (v / 2) hk own, show 2 * (v / 2) + 1 = v by omega]

end
end KH
/-! Part I: words of labels: blocks going round, and four places that tell a label apart. -/
namespace KI

def blocksF (w : List Int) : List Int := w.foldl (fun d l => if d = [] ∨ d.getLast? ≠ some l then d ++ [l] else d) []
def blocks (w : List Int) : List Int :=
  if 1 < (blocksF w).length ∧ (blocksF w).head? = (blocksF w).getLast? then (blocksF w).dropLast else blocksF w
def hur (w : List Int) (x : Int) : Prop := (blocks w).count x = 1
def newH (w : List Int) (h : Int) : Prop := ∃ x, hur (w.filter (fun l => decide (l ≠ h))) x ∧ ¬ hur w x

def Pat (w : List Int) (x : Int) : Prop := ∃ y z, y ≠ x ∧ z ≠ x ∧ ([x, y, x, z].Sublist w ∨ [y, x, z, x].Sublist w)
/-- no two neighbours are alike -/
def AD (s : List Int) : Prop := ∀ u v a b, s = u ++ a :: b :: v → a ≠ b

theorem snoc_split {c l r : List Int} {x y i : Int} (e : c ++ [i] = l ++ x :: y :: r) :
    (∃ r', r = r' ++ [i] ∧ c = l ++ x :: y :: r') ∨ (r = [] ∧ y = i ∧ c = l ++ [x]) := by
  rcases List.eq_nil_or_concat r with hr | ⟨r', z, hr⟩
  · right
    subst hr
    have : c ++ [i] = (l ++ [x]) ++ [y] := by
      rw [e]
      simp
    obtain ⟨e1, e2⟩ := List.append_inj' this rfl
    simp at e2
    exact ⟨rfl, e2.symm, e1⟩
  · left
    rw [List.concat_eq_append] at hr
    subst hr
    have : c ++ [i] = (l ++ x :: y :: r') ++ [z] := by
      rw [e]
      simp
    obtain ⟨e1, e2⟩ := List.append_inj' this rfl
    simp at e2
    subst e2
    exact ⟨r', rfl, e1⟩

theorem sub_snoc {s d : List Int} {l : Int} (h : s.Sublist (d ++ [l])) : s.Sublist d ∨ ∃ s', s = s' ++ [l] ∧ s'.Sublist d := by
  obtain ⟨l1, l2, e, h1, h2⟩ := List.sublist_append_iff.mp h
  cases h2 with
  | cons _ h3 =>
    cases h3
    left
    rw [e, List.append_nil]
    exact h1
  | cons_cons _ h3 =>
    cases h3
    right
    exact ⟨l1, e, h1⟩

structure Ded (w d : List Int) : Prop where
  sub : d.Sublist w
  ad : AD d
  all : ∀ s, AD s → s.Sublist w → s.Sublist d

theorem ad_init {s : List Int} {l : Int} (h : AD (s ++ [l])) : AD s := by
  intro u v a b e
  refine h u (v ++ [l]) a b ?_
  rw [e]
  simp

theorem ded_step {w d : List Int} (l : Int) (D : Ded w d) : Ded (w ++ [l]) (if d = [] ∨ d.getLast? ≠ some l then d ++ [l] else d) := by
  split
  · next hc =>
    constructor
    · exact D.sub.append (List.Sublist.refl _)
    · intro u v a b e
      rcases snoc_split e with ⟨r', _, e2⟩ | ⟨_, e2, e3⟩
      · exact D.ad u r' a b e2
      · intro q
        rcases hc with hc | hc
        · rw [hc] at e3
          simp at e3
        · apply hc
          rw [e3, ← e2, ← q]
          simp
    · intro s hs h
      rcases sub_snoc h with h | ⟨s', e, h⟩
      · exact (D.all s hs h).trans (List.sublist_append_left _ _)
      · rw [e] at hs ⊢
        exact (D.all s' (ad_init hs) h).append (List.Sublist.refl _)
  · next hc =>
    have hd : d ≠ [] := fun e => hc (.inl e)
    have hl : d.getLast? = some l := by
      apply Classical.byContradiction
      intro e
      exact hc (.inr e)
    obtain ⟨d0, ed⟩ : ∃ d0, d = d0 ++ [l] := by
      refine ⟨d.dropLast, ?_⟩
      rw [List.getLast?_eq_some_getLast hd] at hl
      have := List.dropLast_concat_getLast hd
      rw [Option.some.inj hl] at this
      exact this.symm
    constructor
    · exact D.sub.trans (List.sublist_append_left _ _)
    · exact D.ad
    · intro s hs h
      rcases sub_snoc h with h | ⟨s', e, h⟩
      · exact D.all s hs h
      · rw [e] at hs ⊢
        have := D.all s' (ad_init hs) h
        rw [ed] at this ⊢
        rcases sub_snoc this with g | ⟨s2, e2, g⟩
        · exact g.append (List.Sublist.refl _)
        · exfalso
          rw [e2] at hs
          exact hs s2 [] l l (by simp) rfl

theorem ded_blocks (w : List Int) : Ded w (blocksF w) := by
  have key : ∀ (v w d : List Int), Ded w d → Ded (w ++ v) (v.foldl (fun d l => if d = [] ∨ d.getLast? ≠ some l then d ++ [l] else d) d) := by
    intro v
    induction v with
    | nil =>
      intro w d D
      rw [List.append_nil]
      exact D
    | cons l v ih =>
      intro w d D
      rw [List.foldl_cons]
      have := ih (w ++ [l]) _ (ded_step l D)
      rw [List.append_assoc] at this
      exact this
  refine key w [] [] ⟨List.Sublist.refl _, ?_, fun s _ h => h⟩
  intro u v a b e
  simp at e

theorem two_split {d : List Int} {x : Int} (h : 2 ≤ d.count x) : ∃ m1 m3 m4, d = m1 ++ x :: (m3 ++ x :: m4) := by
  have hm : x ∈ d := List.count_pos_iff.mp (by omega)
  obtain ⟨m1, m2, e⟩ := List.append_of_mem hm
  rw [e, List.count_append, List.count_cons_self] at h
  by_cases h2 : x ∈ m2
  · obtain ⟨m3, m4, e2⟩ := List.append_of_mem h2
    exact ⟨m1, m3, m4, by rw [e, e2]⟩
  · have h0 : m2.count x = 0 := List.count_eq_zero.mpr h2
    have h1 : x ∈ m1 := List.count_pos_iff.mp (by omega)
    obtain ⟨m3, m4, e2⟩ := List.append_of_mem h1
    exact ⟨m3, m4, m2, by rw [e, e2]; simp⟩

theorem two_between {d : List Int} {x : Int} (hd : AD d) (h : 2 ≤ d.count x) : ∃ m1 y m3 m4, y ≠ x ∧ d = m1 ++ x :: y :: (m3 ++ x :: m4) := by
  obtain ⟨m1, m3, m4, e⟩ := two_split h
  cases m3 with
  | nil => exact absurd rfl (hd m1 m4 x x (by rw [e]; rfl))
  | cons y m3 =>
    refine ⟨m1, y, m3, m4, ?_, by rw [e]; rfl⟩
    exact fun q => hd m1 (m3 ++ x :: m4) x y (by rw [e]; rfl) q.symm

theorem cnt1 {x y z : Int} (hy : y ≠ x) (hz : z ≠ x) : [x, y, x, z].count x = 2 := by simp [hy, hz]
theorem cnt2 {x y z : Int} (hy : y ≠ x) (hz : z ≠ x) : [y, x, z, x].count x = 2 := by simp [hy, hz]
theorem cnt3 {x z : Int} (hz : z ≠ x) : [x, z, x].count x = 2 := by simp [hz]

theorem pat_two {d : List Int} {x : Int} (h : Pat d x) : 2 ≤ d.count x := by
  obtain ⟨y, z, hy, hz, h | h⟩ := h
  · have := h.count_le x
    rw [cnt1 hy hz] at this
    exact this
  · have := h.count_le x
    rw [cnt2 hy hz] at this
    exact this

theorem one_sub {a : Int} {l : List Int} (h : a ∈ l) : [a].Sublist l := List.singleton_sublist.mpr h

/-- going round, a label stands in one block just where no four places tell it apart -/
theorem count_one {d : List Int} (hd : AD d) (x : Int) :
    (if 1 < d.length ∧ d.head? = d.getLast? then d.dropLast else d).count x = 1 ↔ x ∈ d ∧ ¬ Pat d x := by
  by_cases hlen : d.length ≤ 1
  · rw [if_neg (by omega)]
    match d, hlen with
    | [], _ => simp
    | [a], _ =>
      have np : ¬ Pat [a] x := by
        intro h
        have h1 := pat_two h
        have h2 := List.count_le_length (a := x) (l := [a])
        simp only [List.length_singleton] at h2
        omega
      by_cases e : a = x
      · subst e
        simp [np]
      · have : x ≠ a := fun q => e q.symm
        simp [e, this]
  · obtain ⟨a, m, b, ed⟩ : ∃ a m b, d = a :: (m ++ [b]) := by
      match d, hlen with
      | a :: c :: r, _ =>
        obtain ⟨m, b, e⟩ : ∃ m b, c :: r = m ++ [b] := by
          rcases List.eq_nil_or_concat (c :: r) with h | ⟨m, b, h⟩
          · cases h
          · exact ⟨m, b, by rw [h, List.concat_eq_append]⟩
        exact ⟨a, m, b, by rw [e]⟩
      | [], h => simp at h
      | [_], h => simp at h
    subst ed
    have hh : (a :: (m ++ [b])).head? = some a := rfl
    have hl : (a :: (m ++ [b])).getLast? = some b := by
      rw [← List.cons_append, List.getLast?_append]
      rfl
    have hdl : (a :: (m ++ [b])).dropLast = a :: m := by
      rw [← List.cons_append, List.dropLast_concat]
    rw [hh, hl, hdl]
    by_cases eab : a = b
    · subst eab
      rw [if_pos ⟨by simp, rfl⟩]
      by_cases exa : x = a
      · subst exa
        rw [List.count_cons_self]
        have hiff : Pat (x :: (m ++ [x])) x ↔ x ∈ m := by
          constructor
          · rintro ⟨y, z, hy, hz, h | h⟩
            · rw [← List.cons_append] at h
              rcases sub_snoc h with g | ⟨s', e, _⟩
              · have := g.count_le x
                rw [cnt1 hy hz, List.count_cons_self] at this
                exact List.count_pos_iff.mp (by omega)
              · exfalso
                have := congrArg List.getLast? e
                simp at this
                exact hz this
            · cases h with
              | cons _ h3 =>
                have := h3.count_le x
                rw [cnt2 hy hz, List.count_append] at this
                have h1 : [x].count x = 1 := by simp
                exact List.count_pos_iff.mp (by omega)
              | cons_cons _ h3 => exact absurd rfl hy
          · intro hm
            obtain ⟨m1, m2, e⟩ := List.append_of_mem hm
            subst e
            cases m1 with
            | nil => exact absurd rfl (hd [] (m2 ++ [x]) x x (by simp))
            | cons y m1 =>
              have hy : x ≠ y := hd [] (m1 ++ x :: (m2 ++ [x])) x y (by simp)
              cases m2 with
              | nil => exact absurd rfl (hd (x :: y :: m1) [] x x (by simp))
              | cons z m2 =>
                have hz : x ≠ z := hd (x :: y :: m1) (m2 ++ [x]) x z (by simp)
                refine ⟨y, z, hy.symm, hz.symm, .inl ?_⟩
                simp only [List.cons_append]
                refine List.Sublist.cons_cons _ (List.Sublist.cons_cons _ ?_)
                rw [List.append_assoc]
                refine List.Sublist.trans ?_ (List.sublist_append_right m1 _)
                exact List.Sublist.cons_cons _ (List.Sublist.cons_cons _ (List.nil_sublist _))
        rw [hiff]
        constructor
        · intro h
          refine ⟨by simp, ?_⟩
          exact List.count_eq_zero.mp (by omega)
        · rintro ⟨_, h⟩
          rw [List.count_eq_zero.mpr h]
      · have hne : a ≠ x := fun q => exa q.symm
        have hc : (a :: m).count x = m.count x := by
          rw [List.count_cons_of_ne hne]
        have hc2 : (a :: (m ++ [a])).count x = m.count x := by
          rw [List.count_cons_of_ne hne, List.count_append]
          simp [hne]
        rw [hc]
        constructor
        · intro h
          refine ⟨?_, ?_⟩
          · have : x ∈ m := List.count_pos_iff.mp (by omega)
            simp [this]
          · intro hp
            have := pat_two hp
            omega
        · rintro ⟨hx, hp⟩
          have h1 : 0 < m.count x := by
            rw [← hc2]
            exact List.count_pos_iff.mpr hx
          apply Classical.byContradiction
          intro hne1
          apply hp
          obtain ⟨m1, y, m3, m4, hy, e⟩ := two_between hd (x := x) (by omega)
          refine ⟨a, y, hne, hy, .inr ?_⟩
          cases m1 with
          | nil =>
            simp at e
            exact absurd e.1 hne
          | cons c m1 =>
            simp only [List.cons_append, List.cons.injEq] at e
            obtain ⟨e1, e2⟩ := e
            rw [e2]
            refine List.Sublist.cons_cons _ ?_
            refine List.Sublist.trans ?_ (List.sublist_append_right m1 _)
            refine List.Sublist.cons_cons _ (List.Sublist.cons_cons _ ?_)
            exact one_sub (by simp)
    · rw [if_neg (by rintro ⟨_, q⟩; exact eab (Option.some.inj q))]
      constructor
      · intro h
        refine ⟨List.count_pos_iff.mp (by omega), ?_⟩
        intro hp
        have := pat_two hp
        omega
      · rintro ⟨hx, hp⟩
        have h1 := List.count_pos_iff.mpr hx
        apply Classical.byContradiction
        intro hne1
        apply hp
        obtain ⟨m1, y, m3, m4, hy, e⟩ := two_between hd (x := x) (by omega)
        by_cases exa : a = x
        · have hbx : b ≠ x := by
            intro q
            exact eab (exa.trans q.symm)
          refine ⟨y, b, hy, hbx, .inl ?_⟩
          have hlast : (m1 ++ x :: y :: (m3 ++ x :: m4)).getLast? = some b := by
            rw [← e]
            exact hl
          rw [e]
          cases h4 : m4.getLast? with
          | none =>
            have : m4 = [] := List.getLast?_eq_none_iff.mp h4
            subst this
            have : (m1 ++ x :: y :: (m3 ++ [x])).getLast? = some x := by
              rw [show m1 ++ x :: y :: (m3 ++ [x]) = (m1 ++ x :: y :: m3) ++ [x] by simp, List.getLast?_append]
              rfl
            rw [this] at hlast
            exact absurd (Option.some.inj hlast).symm hbx
          | some c =>
            have : (m1 ++ x :: y :: (m3 ++ x :: m4)).getLast? = some c := by
              rw [show m1 ++ x :: y :: (m3 ++ x :: m4) = (m1 ++ x :: y :: (m3 ++ [x])) ++ m4 by simp, List.getLast?_append, h4]
              rfl
            rw [this] at hlast
            have ecb := Option.some.inj hlast
            have hbm : b ∈ m4 := by
              rw [← ecb]
              exact List.mem_of_getLast? h4
            refine List.Sublist.trans ?_ (List.sublist_append_right m1 _)
            refine List.Sublist.cons_cons _ (List.Sublist.cons_cons _ ?_)
            refine List.Sublist.trans ?_ (List.sublist_append_right m3 _)
            exact List.Sublist.cons_cons _ (one_sub hbm)
        · refine ⟨a, y, exa, hy, .inr ?_⟩
          cases m1 with
          | nil =>
            simp at e
            exact absurd e.1 exa
          | cons c m1 =>
            simp only [List.cons_append, List.cons.injEq] at e
            obtain ⟨e1, e2⟩ := e
            rw [e2]
            refine List.Sublist.cons_cons _ ?_
            refine List.Sublist.trans ?_ (List.sublist_append_right m1 _)
            refine List.Sublist.cons_cons _ (List.Sublist.cons_cons _ ?_)
            exact one_sub (by simp)

theorem hur_iff (w : List Int) (x : Int) : hur w x ↔ x ∈ w ∧ ¬ Pat w x := by
  have D := ded_blocks w
  unfold hur blocks
  rw [count_one D.ad x]
  have hmem : x ∈ blocksF w ↔ x ∈ w := by
    constructor
    · exact fun h => D.sub.subset h
    · intro h
      refine (D.all [x] ?_ (one_sub h)).subset (by simp)
      intro u v a b e
      have := congrArg List.length e
      simp at this
      omega
  have hpat : Pat (blocksF w) x ↔ Pat w x := by
    constructor
    · rintro ⟨y, z, hy, hz, h | h⟩
      · exact ⟨y, z, hy, hz, .inl (h.trans D.sub)⟩
      · exact ⟨y, z, hy, hz, .inr (h.trans D.sub)⟩
    · have ad4 : ∀ a b c d : Int, a ≠ b → b ≠ c → c ≠ d → AD [a, b, c, d] := by
        intro a b c d h1 h2 h3 u v p q e
        match u, e with
        | [], e =>
          simp at e
          obtain ⟨rfl, rfl, _⟩ := e
          exact h1
        | [_], e =>
          simp at e
          obtain ⟨_, rfl, rfl, _⟩ := e
          exact h2
        | [_, _], e =>
          simp at e
          obtain ⟨_, _, rfl, rfl, _⟩ := e
          exact h3
        | _ :: _ :: _ :: u, e =>
          have := congrArg List.length e
          simp at this
          omega
      rintro ⟨y, z, hy, hz, h | h⟩
      · exact ⟨y, z, hy, hz, .inl (D.all _ (ad4 _ _ _ _ hy.symm hy hz.symm) h)⟩
      · exact ⟨y, z, hy, hz, .inr (D.all _ (ad4 _ _ _ _ hy hz.symm hz) h)⟩
  rw [hmem, hpat]

end KI
/-! Part J: the word of the labels along the line: its hurdles are the leaves of the web; the cost. -/
namespace KJ
open KC KD KE1 KF KA KI

theorem sub_cons_iff {g : Nat → Option Int} {a : Int} {t : List Int} : ∀ (n s : Nat), (a :: t).Sublist ((List.range' s n).filterMap g) ↔
    ∃ i, s ≤ i ∧ i < s + n ∧ g i = some a ∧ t.Sublist ((List.range' (i + 1) (s + n - (i + 1))).filterMap g) := by
  intro n
  induction n with
  | zero =>
    intro s
    constructor
    · intro h
      simp at h
    · rintro ⟨i, h1, h2, _⟩
      omega
  | succ n ih =>
    intro s
    rw [List.range'_succ, List.filterMap_cons]
    have e1 : s + (n + 1) - (s + 1) = n := by omega
    have rest : (a :: t).Sublist ((List.range' (s + 1) n).filterMap g) ↔ ∃ i, s + 1 ≤ i ∧ i < s + (n + 1) ∧ g i = some a ∧ t.Sublist ((List.range' (i + 1) (s + (n + 1) - (i + 1))).filterMap g) := by
      rw [ih (s + 1)]
      constructor
      · rintro ⟨i, h1, h2, h3, h4⟩
        refine ⟨i, h1, by omega, h3, ?_⟩
        rw [show s + (n + 1) - (i + 1) = s + 1 + n - (i + 1) by omega]
        exact h4
      · rintro ⟨i, h1, h2, h3, h4⟩
        refine ⟨i, h1, by omega, h3, ?_⟩
        rw [show s + 1 + n - (i + 1) = s + (n + 1) - (i + 1) by omega]
        exact h4
    cases hg : g s with
    | none =>
      simp only
      rw [rest]
      constructor
      · rintro ⟨i, h1, h2, h3, h4⟩
        exact ⟨i, by omega, h2, h3, h4⟩
      · rintro ⟨i, h1, h2, h3, h4⟩
        refine ⟨i, ?_, h2, h3, h4⟩
        by_cases e : i = s
        · rw [e, hg] at h3
          cases h3
        · omega
    | some b =>
      simp only
      constructor
      · intro h
        cases h with
        | cons _ h =>
          obtain ⟨i, h1, h2, h3, h4⟩ := rest.mp h
          exact ⟨i, by omega, h2, h3, h4⟩
        | cons_cons _ h =>
          refine ⟨s, Nat.le_refl _, by omega, hg, ?_⟩
          rw [e1]
          exact h
      · rintro ⟨i, h1, h2, h3, h4⟩
        by_cases e : i = s
        · subst e
          rw [hg] at h3
          cases h3
          rw [e1] at h4
          exact h4.cons_cons _
        · exact (rest.mpr ⟨i, by omega, h2, h3, h4⟩).cons _

/-- the labels of the points from the first one on, but for those without -/
def word (N : Nat) (g : Nat → Option Int) : List Int := (List.range' 0 (2 * N)).filterMap g

theorem mem_word {N : Nat} {g : Nat → Option Int} {a : Int} : a ∈ word N g ↔ ∃ x, x < 2 * N ∧ g x = some a := by
  unfold word
  rw [List.mem_filterMap]
  constructor
  · rintro ⟨x, h1, h2⟩
    rw [List.mem_range'_1] at h1
    exact ⟨x, by omega, h2⟩
  · rintro ⟨x, h1, h2⟩
    exact ⟨x, by rw [List.mem_range'_1]; omega, h2⟩

theorem four_iff {N : Nat} {g : Nat → Option Int} {a b c d : Int} : [a, b, c, d].Sublist (word N g) ↔
    ∃ i j k l, i < j ∧ j < k ∧ k < l ∧ l < 2 * N ∧ g i = some a ∧ g j = some b ∧ g k = some c ∧ g l = some d := by
  unfold word
  constructor
  · intro h
    obtain ⟨i, _, i2, i3, h⟩ := (sub_cons_iff _ _).mp h
    obtain ⟨j, j1, j2, j3, h⟩ := (sub_cons_iff _ _).mp h
    obtain ⟨k, k1, k2, k3, h⟩ := (sub_cons_iff _ _).mp h
    obtain ⟨l, l1, l2, l3, _⟩ := (sub_cons_iff _ _).mp h
    exact ⟨i, j, k, l, by omega, by omega, by omega, by omega, i3, j3, k3, l3⟩
  · rintro ⟨i, j, k, l, h1, h2, h3, h4, gi, gj, gk, gl⟩
    refine (sub_cons_iff _ _).mpr ⟨i, by omega, by omega, gi, ?_⟩
    refine (sub_cons_iff _ _).mpr ⟨j, by omega, by omega, gj, ?_⟩
    refine (sub_cons_iff _ _).mpr ⟨k, by omega, by omega, gk, ?_⟩
    exact (sub_cons_iff _ _).mpr ⟨l, by omega, by omega, gl, List.nil_sublist _⟩

structure Lab (N : Nat) (o : Nat → Nat) (kn : Nat → Bool) (g : Nat → Option Int) : Prop where
  is : ∀ x l, x < 2 * N → g x = some l → kn (o (x / 2)) = true
  has : ∀ x, x < 2 * N → kn (o (x / 2)) = true → ∃ l, g x = some l
  same : ∀ x y l m, x < 2 * N → y < 2 * N → g x = some l → g y = some m → (l = m ↔ o (x / 2) = o (y / 2))

/-- l is the label of K -/
def LabOf (N : Nat) (o : Nat → Nat) (g : Nat → Option Int) (K : Nat) (l : Int) : Prop := ∃ x, x < 2 * N ∧ g x = some l ∧ o (x / 2) = K

section
variable {N : Nat} {o : Nat → Nat} {kn : Nat → Bool} {g : Nat → Option Int}

theorem Lab.of (L : Lab N o kn g) {K : Nat} {l : Int} (h : LabOf N o g K l) {x : Nat} {m : Int} (hx : x < 2 * N) (hm : g x = some m) : m = l ↔ o (x / 2) = K := by
  obtain ⟨y, hy, gy, oy⟩ := h
  rw [L.same x y m l hx hy hm gy, oy]

theorem Lab.pat (L : Lab N o kn g) {K : Nat} {l : Int} (h : LabOf N o g K l) : Pat (word N g) l ↔ PatG N o kn K := by
  constructor
  · rintro ⟨y, z, hy, hz, hs | hs⟩
    · obtain ⟨a, b, c, d, h1, h2, h3, h4, ga, gb, gc, gd⟩ := four_iff.mp hs
      have ka := L.is a l (by omega) ga
      have kb := L.is b y (by omega) gb
      have kc := L.is c l (by omega) gc
      have kd := L.is d z (by omega) gd
      have oa := (L.of h (by omega) ga).mp rfl
      have ob : o (b / 2) ≠ K := fun q => hy ((L.of h (by omega) gb).mpr q)
      have oc := (L.of h (by omega) gc).mp rfl
      have od : o (d / 2) ≠ K := fun q => hz ((L.of h (by omega) gd).mpr q)
      have n1 : a / 2 ≠ b / 2 := fun q => ob (by rw [← q]; exact oa)
      have n2 : b / 2 ≠ c / 2 := fun q => ob (by rw [q]; exact oc)
      have n3 : c / 2 ≠ d / 2 := fun q => od (by rw [← q]; exact oc)
      exact ⟨a / 2, b / 2, c / 2, d / 2, by omega, by omega, by omega, by omega, ka, kb, kc, kd, .inl ⟨oa, ob, oc, od⟩⟩
    · obtain ⟨a, b, c, d, h1, h2, h3, h4, ga, gb, gc, gd⟩ := four_iff.mp hs
      have ka := L.is a y (by omega) ga
      have kb := L.is b l (by omega) gb
      have kc := L.is c z (by omega) gc
      have kd := L.is d l (by omega) gd
      have oa : o (a / 2) ≠ K := fun q => hy ((L.of h (by omega) ga).mpr q)
      have ob := (L.of h (by omega) gb).mp rfl
      have oc : o (c / 2) ≠ K := fun q => hz ((L.of h (by omega) gc).mpr q)
      have od := (L.of h (by omega) gd).mp rfl
      have n1 : a / 2 ≠ b / 2 := fun q => oa (by rw [q]; exact ob)
      have n2 : b / 2 ≠ c / 2 := fun q => oc (by rw [← q]; exact ob)
      have n3 : c / 2 ≠ d / 2 := fun q => oc (by rw [q]; exact od)
      exact ⟨a / 2, b / 2, c / 2, d / 2, by omega, by omega, by omega, by omega, ka, kb, kc, kd, .inr ⟨oa, ob, oc, od⟩⟩
  · rintro ⟨a, b, c, d, h1, h2, h3, h4, ka, kb, kc, kd, hc⟩
    have q : ∀ x : Nat, 2 * x / 2 = x := fun x => by omega
    obtain ⟨la, ga⟩ := L.has (2 * a) (by omega) (by rw [q]; exact ka)
    obtain ⟨lb, gb⟩ := L.has (2 * b) (by omega) (by rw [q]; exact kb)
    obtain ⟨lc, gc⟩ := L.has (2 * c) (by omega) (by rw [q]; exact kc)
    obtain ⟨ld, gd⟩ := L.has (2 * d) (by omega) (by rw [q]; exact kd)
    have xa := L.of h (by omega) ga
    have xb := L.of h (by omega) gb
    have xc := L.of h (by omega) gc
    have xd := L.of h (by omega) gd
    rw [q] at xa xb xc xd
    rcases hc with ⟨c1, c2, c3, c4⟩ | ⟨c1, c2, c3, c4⟩
    · have ea := xa.mpr c1
      have ec := xc.mpr c3
      subst ea
      subst ec
      exact ⟨lb, ld, fun e => c2 (xb.mp e), fun e => c4 (xd.mp e), .inl (four_iff.mpr ⟨2 * a, 2 * b, 2 * c, 2 * d, by omega, by omega, by omega, by omega, ga, gb, gc, gd⟩)⟩
    · have eb := xb.mpr c2
      have ed := xd.mpr c4
      subst eb
      subst ed
      exact ⟨la, lc, fun e => c1 (xa.mp e), fun e => c3 (xc.mp e), .inr (four_iff.mpr ⟨2 * a, 2 * b, 2 * c, 2 * d, by omega, by omega, by omega, by omega, ga, gb, gc, gd⟩)⟩

/-- without the label -/
def gOut (g : Nat → Option Int) (l : Int) (x : Nat) : Option Int := if g x = some l then none else g x

theorem word_out (l : Int) : (word N g).filter (fun m => decide (m ≠ l)) = word N (gOut g l) := by
  unfold word
  rw [List.filter_filterMap]
  congr 1
  funext x
  unfold gOut
  cases e : g x with
  | none => simp
  | some m =>
    by_cases q : m = l
    · subst q
      simp [Option.filter]
    · simp [Option.filter, q]

theorem Lab.out (L : Lab N o kn g) {H : Nat} {l : Int} (h : LabOf N o g H l) : Lab N o (fun u => kn u && (u != H)) (gOut g l) := by
  have hg : ∀ x m, x < 2 * N → gOut g l x = some m → g x = some m ∧ m ≠ l := by
    intro x m hx hm
    unfold gOut at hm
    split at hm
    · cases hm
    · next hne => exact ⟨hm, fun q => hne (by rw [hm, q])⟩
  constructor
  · intro x m hx hm
    obtain ⟨h1, h2⟩ := hg x m hx hm
    have := L.of h hx h1
    have h3 : o (x / 2) ≠ H := fun q => h2 (this.mpr q)
    simp [L.is x m hx h1, h3]
  · intro x hx hk
    simp at hk
    obtain ⟨m, hm⟩ := L.has x hx hk.1
    refine ⟨m, ?_⟩
    have := L.of h hx hm
    unfold gOut
    rw [if_neg]
    · exact hm
    · rw [hm]
      intro q
      exact hk.2 (this.mp (Option.some.inj q))
  · intro x y a b hx hy ha hb
    exact L.same x y a b hx hy (hg x a hx ha).1 (hg y b hy hb).1

end

section
variable {N : Nat} {h f : Nat → Nat} {S : SL} {o : Nat → Nat} {kn : Nat → Bool} {g : Nat → Option Int}

theorem hur_leaf (P : Spans N h f S) (O : Ow N h f S o) (hkn : ∀ u, kn u = true → u < S.length) (L : Lab N o kn g) {K : Nat} (kK : kn K = true) {l : Int} (hl : LabOf N o g K l) :
    hur (word N g) l ↔ Leaf (webM S) (links S) (KB.sideOf (le S) (up S)) kn K := by
  rw [hur_iff, L.pat hl, leaf_pat P O hkn kK]
  constructor
  · exact fun q => q.2
  · intro q
    obtain ⟨x, hx, gx, _⟩ := hl
    exact ⟨mem_word.mpr ⟨x, hx, gx⟩, q⟩

/-- each knot has a label -/
theorem lab_ex (P : Spans N h f S) (O : Ow N h f S o) (hkn : ∀ u, kn u = true → u < S.length) (L : Lab N o kn g) {K : Nat} (kK : kn K = true) : ∃ l, LabOf N o g K l := by
  have hK := hkn K kK
  have k := P.kin K hK
  have := k.lt
  have := k.le
  have e : o (2 * st S K / 2) = K := by
    rw [show 2 * st S K / 2 = st S K by omega]
    exact O.first P hK
  obtain ⟨l, hl⟩ := L.has (2 * st S K) (by omega) (by rw [e]; exact kK)
  exact ⟨l, 2 * st S K, by omega, hl, e⟩

theorem new_iff (P : Spans N h f S) (O : Ow N h f S o) (hkn : ∀ u, kn u = true → u < S.length) (L : Lab N o kn g) {H : Nat} {l : Int} (hl : LabOf N o g H l) :
    newH (word N g) l ↔ ∃ Z, NewLeaf (webM S) (links S) (KB.sideOf (le S) (up S)) kn H Z := by
  have L2 := L.out hl
  have hkn2 : ∀ u, (kn u && (u != H)) = true → u < S.length := fun u q => by
    simp at q
    exact hkn u q.1
  unfold newH
  rw [word_out]
  constructor
  · rintro ⟨x, h1, h2⟩
    obtain ⟨p, hp, gp⟩ := mem_word.mp ((hur_iff _ _).mp h1).1
    have kZ := L2.is p x hp gp
    have gp1 : g p = some x := by
      unfold gOut at gp
      split at gp
      · cases gp
      · exact gp
    have a1 : LabOf N o (gOut g l) (o (p / 2)) x := ⟨p, hp, gp, rfl⟩
    have a2 : LabOf N o g (o (p / 2)) x := ⟨p, hp, gp1, rfl⟩
    have kZ' := kZ
    simp at kZ'
    have hZ := hkn _ kZ'.1
    refine ⟨o (p / 2), by unfold webM; omega, kZ'.1, kZ'.2, ?_, ?_⟩
    · rw [← hur_leaf P O hkn L kZ'.1 a2]
      exact h2
    · rw [← hur_leaf P O hkn2 L2 kZ a1]
      exact h1
  · rintro ⟨Z, hZ, kZ, nZ, h1, h2⟩
    have kZ2 : (kn Z && (Z != H)) = true := by simp [kZ, nZ]
    obtain ⟨x, hx⟩ := lab_ex P O hkn2 L2 kZ2
    refine ⟨x, (hur_leaf P O hkn2 L2 kZ2 hx).mpr h2, ?_⟩
    obtain ⟨p, hp, gp, op⟩ := hx
    have gp1 : g p = some x := by
      unfold gOut at gp
      split at gp
      · cases gp
      · exact gp
    rw [hur_leaf P O hkn L kZ ⟨p, hp, gp1, op⟩]
    exact h1

theorem len_le {α β : Type} [DecidableEq β] (R : α → β → Prop) : ∀ (l : List α) (l' : List β), l.Nodup → (∀ a, a ∈ l → ∃ b, b ∈ l' ∧ R a b) →
    (∀ a a' b, a ∈ l → a' ∈ l → R a b → R a' b → a = a') → l.length ≤ l'.length := by
  intro l
  induction l with
  | nil => intro l' _ _ _; simp
  | cons a r ih =>
    intro l' hn hex hinj
    obtain ⟨b, hb, hab⟩ := hex a (by simp)
    rw [List.nodup_cons] at hn
    have := ih (l'.erase b) hn.2 (by
      intro c hc
      obtain ⟨d, hd, hcd⟩ := hex c (List.mem_cons_of_mem _ hc)
      refine ⟨d, ?_, hcd⟩
      refine (List.mem_erase_of_ne ?_).mpr hd
      intro q
      subst q
      have := hinj a c d (by simp) (List.mem_cons_of_mem _ hc) hab hcd
      subst this
      exact hn.1 hc) (fun a a' b h1 h2 => hinj a a' b (List.mem_cons_of_mem _ h1) (List.mem_cons_of_mem _ h2))
    rw [List.length_erase_of_mem hb] at this
    have hpos := List.length_pos_of_mem hb
    simp only [List.length_cons]
    omega

open Classical in
/-- what the law reckons of the hurdles -/
noncomputable def lawCost (w : List Int) (Hs : List Int) : Nat := if ∃ x, x ∈ Hs ∧ ¬ newH w x then Hs.length else Hs.length + Hs.length % 2

theorem cost_law (P : Spans N h f S) (O : Ow N h f S o) (hkn : ∀ u, kn u = true → u < S.length) (L : Lab N o kn g)
    {E legs : List Nat} (hE : E.Nodup) (mE : ∀ K, K ∈ E ↔ kn K = true ∧ Leaf (webM S) (links S) (KB.sideOf (le S) (up S)) kn K)
    (hl : legs.length = E.length) (hL : ∀ (i K m : Nat), E[i]? = some K → legs[i]? = some m → LegRes (webM S) (links S) (KB.sideOf (le S) (up S)) kn K m)
    {Hs : List Int} (hH : Hs.Nodup) (mH : ∀ x, x ∈ Hs ↔ hur (word N g) x) : cost legs = lawCost (word N g) Hs := by
  classical
  have T := web_tree P
  have mem1 : ∀ K, K ∈ E → ∃ x, x ∈ Hs ∧ LabOf N o g K x := by
    intro K hK
    obtain ⟨kK, lf⟩ := (mE K).mp hK
    obtain ⟨x, hx⟩ := lab_ex P O hkn L kK
    exact ⟨x, (mH x).mpr ((hur_leaf P O hkn L kK hx).mpr lf), hx⟩
  have mem2 : ∀ x, x ∈ Hs → ∃ K, K ∈ E ∧ LabOf N o g K x := by
    intro x hx
    have h1 := (mH x).mp hx
    obtain ⟨p, hp, gp⟩ := mem_word.mp ((hur_iff _ _).mp h1).1
    have kK := L.is p x hp gp
    have hx : LabOf N o g (o (p / 2)) x := ⟨p, hp, gp, rfl⟩
    exact ⟨_, (mE _).mpr ⟨kK, (hur_leaf P O hkn L kK hx).mp h1⟩, hx⟩
  have inj1 : ∀ K K' x, LabOf N o g K x → LabOf N o g K' x → K = K' := by
    rintro K K' x h1 ⟨y, hy, gy, oy⟩
    rw [← oy]
    exact ((L.of h1 hy gy).mp rfl).symm
  have inj2 : ∀ K x x', LabOf N o g K x → LabOf N o g K x' → x = x' := by
    rintro K x x' ⟨y, hy, gy, oy⟩ h2
    exact (L.of h2 hy gy).mpr oy
  have len : Hs.length = E.length := by
    have l1 := len_le (fun x K => LabOf N o g K x) Hs E hH mem2 (fun a a' b _ _ h1 h2 => inj2 b a a' h1 h2)
    have l2 := len_le (fun K x => LabOf N o g K x) E Hs hE mem1 (fun a a' b _ _ h1 h2 => inj1 a a' b h1 h2)
    omega
  have := cost_eq T (kn := kn) (E := E) (legs := legs) (Hs := Hs) (new := newH (word N g)) hE (by
    intro K
    rw [mE K]
    constructor
    · rintro ⟨a, b⟩
      have := hkn K a
      exact ⟨by unfold webM; omega, a, b⟩
    · rintro ⟨_, a, b⟩
      exact ⟨a, b⟩) hl hL len (by
    intro K hK
    obtain ⟨x, hx, lx⟩ := mem1 K hK
    exact ⟨x, hx, new_iff P O hkn L lx⟩) (by
    intro x hx
    obtain ⟨K, hK, lx⟩ := mem2 x hx
    exact ⟨K, hK, new_iff P O hkn L lx⟩)
  rw [this]
  unfold lawCost
  rfl

end
end KJ
/-! Part K: what hangs together: classes by marks that are merged, and by a search; the count of rings. -/
namespace KK
open KJ

/-- a and b hang together by steps of the relation -/
def Conn (n : Nat) (adj : Nat → Nat → Prop) (j k : Nat) : Prop := ∀ P : Nat → Prop, (∀ a b, a < n → b < n → adj a b → (P a ↔ P b)) → (P j ↔ P k)

section
variable {n : Nat} {adj : Nat → Nat → Prop}

theorem Conn.refl (j : Nat) : Conn n adj j j := fun _ _ => Iff.rfl
theorem Conn.symm {j k : Nat} (h : Conn n adj j k) : Conn n adj k j := fun P hP => (h P hP).symm
theorem Conn.trans {j k l : Nat} (h : Conn n adj j k) (h2 : Conn n adj k l) : Conn n adj j l := fun P hP => (h P hP).trans (h2 P hP)
theorem Conn.one {j k : Nat} (hj : j < n) (hk : k < n) (h : adj j k) : Conn n adj j k := fun _ hP => hP j k hj hk h
theorem Conn.mono {adj' : Nat → Nat → Prop} {j k : Nat} (h : Conn n adj j k) (hm : ∀ a b, a < n → b < n → adj a b → Conn n adj' a b) : Conn n adj' j k :=
  fun P hP => h P (fun a b ha hb hab => hm a b ha hb hab P hP)

/-- marks that are alike just where things hang together -/
structure Marks (n : Nat) (adj : Nat → Nat → Prop) (mk : Nat → Int) : Prop where
  resp : ∀ a b, a < n → b < n → adj a b → mk a = mk b
  min : ∀ a b, a < n → b < n → mk a = mk b → Conn n adj a b

theorem Marks.iff {mk : Nat → Int} (H : Marks n adj mk) {a b : Nat} (ha : a < n) (hb : b < n) : mk a = mk b ↔ Conn n adj a b := by
  refine ⟨H.min a b ha hb, fun h => ?_⟩
  have := (h (fun c => mk c = mk a) (fun c d hc hd hcd => by
    show mk c = mk a ↔ mk d = mk a
    rw [H.resp c d hc hd hcd])).mp rfl
  exact this.symm

theorem marks_start (n : Nat) : Marks n (fun _ _ => False) (fun k => (k : Int)) :=
  ⟨fun _ _ _ _ h => h.elim, fun a b _ _ h => by
    have : a = b := by omega
    subst this
    exact Conn.refl a⟩

/-- marks behind a merging: the one of b goes over into the one of a -/
theorem marks_merge {mk : Nat → Int} (H : Marks n adj mk) {a b : Nat} (ha : a < n) (hb : b < n) :
    Marks n (fun c d => adj c d ∨ (c = a ∧ d = b)) (fun c => if mk c = mk b then mk a else mk c) := by
  constructor
  · rintro c d hc hd (h | ⟨rfl, rfl⟩)
    · simp only [H.resp c d hc hd h]
    · simp
  · intro c d hc hd h
    have up : ∀ x y, Conn n adj x y → Conn n (fun c d => adj c d ∨ (c = a ∧ d = b)) x y := fun x y q => q.mono (fun u v hu hv huv => Conn.one hu hv (.inl huv))
    have ab : Conn n (fun c d => adj c d ∨ (c = a ∧ d = b)) a b := Conn.one ha hb (.inr ⟨rfl, rfl⟩)
    by_cases e1 : mk c = mk b
    · have c1 := up c b (H.min c b hc hb e1)
      by_cases e2 : mk d = mk b
      · exact c1.trans (up d b (H.min d b hd hb e2)).symm
      · rw [if_pos e1, if_neg e2] at h
        exact (c1.trans ab.symm).trans (up a d (H.min a d ha hd h))
    · by_cases e2 : mk d = mk b
      · rw [if_neg e1, if_pos e2] at h
        exact ((up c a (H.min c a hc ha h)).trans ab).trans (up d b (H.min d b hd hb e2)).symm
      · rw [if_neg e1, if_neg e2] at h
        exact up c d (H.min c d hc hd h)

/-- where the two hang together already nothing is to be merged -/
theorem marks_skip {mk : Nat → Int} (H : Marks n adj mk) {a b : Nat} (ha : a < n) (hb : b < n) (e : mk a = mk b) :
    Marks n (fun c d => adj c d ∨ (c = a ∧ d = b)) mk := by
  constructor
  · rintro c d hc hd (h | ⟨rfl, rfl⟩)
    · exact H.resp c d hc hd h
    · exact e
  · intro c d hc hd h
    exact (H.min c d hc hd h).mono (fun u v hu hv huv => Conn.one hu hv (.inl huv))

theorem marks_congr {adj' : Nat → Nat → Prop} {mk : Nat → Int} (H : Marks n adj mk) (h1 : ∀ a b, a < n → b < n → adj' a b → Conn n adj a b)
    (h2 : ∀ a b, a < n → b < n → adj a b → Conn n adj' a b) : Marks n adj' mk := by
  constructor
  · intro a b ha hb h
    exact (H.iff ha hb).mpr (h1 a b ha hb h)
  · intro a b ha hb h
    exact (H.min a b ha hb h).mono h2

/-! ### counting classes -/
open Classical in
/-- the least of each class, of the first i things -/
noncomputable def reps (adj : Nat → Nat → Prop) (n i : Nat) : List Nat := (List.range i).filter (fun k => decide (∀ j, j < k → ¬ Conn n adj j k))

theorem mem_reps {i k : Nat} : k ∈ reps adj n i ↔ k < i ∧ ∀ j, j < k → ¬ Conn n adj j k := by
  unfold reps
  rw [List.mem_filter, List.mem_range]
  simp

theorem reps_nodup (i : Nat) : (reps adj n i).Nodup := by
  unfold reps
  exact List.nodup_range.filter _

theorem reps_succ_new {i : Nat} (h : ∀ j, j < i → ¬ Conn n adj j i) : (reps adj n (i + 1)).length = (reps adj n i).length + 1 := by
  unfold reps
  rw [List.range_succ, List.filter_append, List.length_append, List.filter_cons_of_pos (by simpa using h)]
  rfl

theorem reps_succ_old {i : Nat} (h : ¬ ∀ j, j < i → ¬ Conn n adj j i) : (reps adj n (i + 1)).length = (reps adj n i).length := by
  unfold reps
  rw [List.range_succ, List.filter_append, List.length_append, List.filter_cons_of_neg (by simpa using h)]
  rfl

/-- each thing has a least one with which it hangs together -/
theorem rep_ex (k : Nat) : ∃ j, j ≤ k ∧ Conn n adj j k ∧ ∀ i, i < j → ¬ Conn n adj i j := by
  induction k using Nat.strongRecOn with
  | ind k ih =>
    by_cases h : ∃ j, j < k ∧ Conn n adj j k
    · obtain ⟨j, hj, hc⟩ := h
      obtain ⟨i, hi, c1, c2⟩ := ih j hj
      exact ⟨i, by omega, c1.trans hc, c2⟩
    · exact ⟨k, Nat.le_refl _, Conn.refl _, fun i hi hc => h ⟨i, hi, hc⟩⟩

theorem reps_inj {i a b : Nat} (ha : a ∈ reps adj n i) (hb : b ∈ reps adj n i) (h : Conn n adj a b) : a = b := by
  have h1 := (mem_reps.mp ha).2
  have h2 := (mem_reps.mp hb).2
  rcases Nat.lt_trichotomy a b with q | q | q
  · exact absurd h (h2 a q)
  · exact q
  · exact absurd h.symm (h1 b q)

/-- as many different marks as classes, over a map that hits each class -/
theorem count_marks {m : Nat} {adj' : Nat → Nat → Prop} {mk : Nat → Int} (H : Marks m adj' mk) (F : Nat → Nat) (hF : ∀ k, k < n → F k < m)
    (h1 : ∀ j k, j < n → k < n → (Conn n adj j k ↔ Conn m adj' (F j) (F k))) (h2 : ∀ p, p < m → ∃ k, k < n ∧ Conn m adj' (F k) p)
    (L : List Int) (hL : L.Nodup) (mL : ∀ x, x ∈ L ↔ ∃ p, p < m ∧ mk p = x) : L.length = (reps adj n n).length := by
  have l1 := len_le (fun x k => mk (F k) = x) L (reps adj n n) hL (by
    intro x hx
    obtain ⟨p, hp, e⟩ := (mL x).mp hx
    obtain ⟨k, hk, c⟩ := h2 p hp
    obtain ⟨j, hj, c1, c2⟩ := rep_ex (n := n) (adj := adj) k
    refine ⟨j, mem_reps.mpr ⟨by omega, c2⟩, ?_⟩
    rw [← e]
    exact (H.iff (hF j (by omega)) hp).mpr (((h1 j k (by omega) hk).mp c1).trans c)) (by
    intro a a' b _ _ e1 e2
    rw [← e1, ← e2])
  have l2 := len_le (fun k x => mk (F k) = x) (reps adj n n) L (reps_nodup n) (by
    intro k hk
    exact ⟨mk (F k), (mL _).mpr ⟨F k, hF k (mem_reps.mp hk).1, rfl⟩, rfl⟩) (by
    intro a a' b ha ha' e1 e2
    have ka := (mem_reps.mp ha).1
    have kb := (mem_reps.mp ha').1
    exact reps_inj ha ha' ((h1 a a' ka kb).mpr ((H.iff (hF a ka) (hF a' kb)).mp (e1.trans e2.symm))))
  omega

/-! ### the search -/
/-- within the search from i: `pl` is placed, `wt` waits, `ring` was placed in this search -/
structure Search (n : Nat) (adj : Nat → Nat → Prop) (i : Nat) (pl : Nat → Bool) (wt ring : List Nat) : Prop where
  wlt : ∀ k, k ∈ wt → k < n
  wcon : ∀ k, k ∈ wt → Conn n adj i k
  start : pl i = true ∨ i ∈ wt
  rcon : ∀ k, k ∈ ring → k < n ∧ Conn n adj i k
  plc : ∀ k, k < n → (pl k = true ↔ k ∈ ring ∨ ∃ j, j < i ∧ Conn n adj j k)
  clo : ∀ k l, k ∈ ring → l < n → adj k l → pl l = true ∨ l ∈ wt
  one : ring ≠ [] → ∀ j, j < i → ¬ Conn n adj j i

theorem search_start {i : Nat} (hi : i < n) {pl : Nat → Bool} (hpl : ∀ k, k < n → (pl k = true ↔ ∃ j, j < i ∧ Conn n adj j k)) : Search n adj i pl [i] [] := by
  refine ⟨?_, ?_, .inr (by simp), fun k hk => absurd hk List.not_mem_nil, ?_, fun k l hk => absurd hk List.not_mem_nil, fun h => absurd rfl h⟩
  · intro k hk
    simp at hk
    rw [hk]
    exact hi
  · intro k hk
    simp at hk
    rw [hk]
    exact Conn.refl i
  · intro k hk
    rw [hpl k hk]
    simp

/-- the one that is taken is placed already -/
theorem search_skip {i k : Nat} {pl : Nat → Bool} {wt ring : List Nat} (S : Search n adj i pl (wt ++ [k]) ring) (hk : pl k = true) : Search n adj i pl wt ring := by
  refine ⟨fun l hl => S.wlt l (List.mem_append_left _ hl), fun l hl => S.wcon l (List.mem_append_left _ hl), ?_, S.rcon, S.plc, ?_, S.one⟩
  · rcases S.start with h | h
    · exact .inl h
    · rcases List.mem_append.mp h with h | h
      · exact .inr h
      · simp at h
        rw [h]
        exact .inl hk
  · intro a l ha hl hal
    rcases S.clo a l ha hl hal with h | h
    · exact .inl h
    · rcases List.mem_append.mp h with h | h
      · exact .inr h
      · simp at h
        rw [h]
        exact .inl hk

theorem search_take {i k : Nat} {pl : Nat → Bool} {wt ring more : List Nat} (hadj : ∀ a b, adj a b → adj b a) (S : Search n adj i pl (wt ++ [k]) ring) (hk : pl k = false)
    (hm : ∀ l, l ∈ more ↔ l < n ∧ adj k l) : Search n adj i (fun l => if l = k then true else pl l) (wt ++ more) (ring ++ [k]) := by
  have kn := S.wlt k (by simp)
  have kc := S.wcon k (by simp)
  have hno : ∀ j, j < i → ¬ Conn n adj j i := by
    intro j hj hc
    have := (S.plc k kn).mpr (.inr ⟨j, hj, hc.trans kc⟩)
    rw [hk] at this
    cases this
  refine ⟨?_, ?_, ?_, ?_, ?_, ?_, fun _ => hno⟩
  · intro l hl
    rcases List.mem_append.mp hl with h | h
    · exact S.wlt l (List.mem_append_left _ h)
    · exact ((hm l).mp h).1
  · intro l hl
    rcases List.mem_append.mp hl with h | h
    · exact S.wcon l (List.mem_append_left _ h)
    · obtain ⟨h1, h2⟩ := (hm l).mp h
      exact kc.trans (Conn.one kn h1 h2)
  · by_cases e : i = k
    · left
      simp [e]
    · rcases S.start with h | h
      · left
        simp [e, h]
      · rcases List.mem_append.mp h with h | h
        · exact .inr (List.mem_append_left _ h)
        · simp at h
          exact absurd h e
  · intro l hl
    rcases List.mem_append.mp hl with h | h
    · exact S.rcon l h
    · simp at h
      rw [h]
      exact ⟨kn, kc⟩
  · intro l hl
    by_cases e : l = k
    · subst e
      simp
    · simp only [e, if_false]
      rw [S.plc l hl]
      simp [e]
  · intro a l ha hl hal
    rcases List.mem_append.mp ha with h | h
    · rcases S.clo a l h hl hal with h | h
      · left
        by_cases e : l = k
        · simp [e]
        · simp [e, h]
      · rcases List.mem_append.mp h with h | h
        · exact .inr (List.mem_append_left _ h)
        · simp at h
          left
          simp [h]
    · simp at h
      subst h
      exact .inr (List.mem_append_right _ ((hm l).mpr ⟨hl, hal⟩))

/-- nothing waits: what hangs together with i is placed; a ring was found just where i was not placed before -/
theorem search_end {i : Nat} {pl : Nat → Bool} {ring : List Nat} (hi : i < n) (hadj : ∀ a b, adj a b → adj b a) (S : Search n adj i pl [] ring) :
    (∀ k, k < n → (pl k = true ↔ ∃ j, j < i + 1 ∧ Conn n adj j k)) ∧ (ring ≠ [] ↔ ∀ j, j < i → ¬ Conn n adj j i) := by
  have pli : pl i = true := by
    rcases S.start with h | h
    · exact h
    · cases h
  have inv : ∀ a b, a < n → b < n → adj a b → pl a = true → pl b = true := by
    intro a b ha hb hab h
    rcases (S.plc a ha).mp h with h | ⟨j, hj, hc⟩
    · rcases S.clo a b h hb hab with h | h
      · exact h
      · cases h
    · exact (S.plc b hb).mpr (.inr ⟨j, hj, hc.trans (Conn.one ha hb hab)⟩)
  constructor
  · intro k hk
    constructor
    · intro h
      rcases (S.plc k hk).mp h with h | ⟨j, hj, hc⟩
      · exact ⟨i, by omega, (S.rcon k h).2⟩
      · exact ⟨j, by omega, hc⟩
    · rintro ⟨j, hj, hc⟩
      by_cases e : j = i
      · subst e
        exact (hc (fun k => pl k = true) (fun a b ha hb hab => ⟨inv a b ha hb hab, inv b a hb ha (hadj a b hab)⟩)).mp pli
      · exact (S.plc k hk).mpr (.inr ⟨j, by omega, hc⟩)
  · constructor
    · exact S.one
    · intro h e
      rcases (S.plc i hi).mp pli with h2 | ⟨j, hj, hc⟩
      · rw [e] at h2
        cases h2
      · exact h j hj hc

end
end KK
/-! Part L: signed rows: the framed row, the places of the amounts, the points on the line. -/
namespace KL
open KC KJ KG KH

def nums (r : List Int) : List Int := 0 :: (r ++ [(r.length : Int) + 1])
def amts (r : List Int) : List Nat := (nums r).map Int.natAbs
def numAt (r : List Int) (p : Nat) : Int := (nums r).getD p 0
def place (r : List Int) (m : Nat) : Nat := (amts r).idxOf m
structure IsRow (r : List Int) : Prop where
  rng : ∀ x, x ∈ r → 1 ≤ x.natAbs ∧ x.natAbs ≤ r.length
  nd : (r.map Int.natAbs).Nodup

section
variable {r : List Int}

theorem nums_len : (nums r).length = r.length + 2 := by simp [nums]
theorem amts_len : (amts r).length = r.length + 2 := by simp [amts, nums_len]

theorem amts_eq : amts r = 0 :: (r.map Int.natAbs ++ [r.length + 1]) := by
  unfold amts nums
  simp
  omega

theorem amts_nodup (R : IsRow r) : (amts r).Nodup := by
  rw [amts_eq, List.nodup_cons, List.nodup_append]
  refine ⟨?_, R.nd, by simp, ?_⟩
  · intro h
    rcases List.mem_append.mp h with h | h
    · obtain ⟨x, hx, e⟩ := List.mem_map.mp h
      have := (R.rng x hx).1
      omega
    · simp at h
  · intro a ha b hb
    obtain ⟨x, hx, e⟩ := List.mem_map.mp ha
    have := (R.rng x hx).2
    simp at hb
    omega

theorem amts_lt (R : IsRow r) {m : Nat} (h : m ∈ amts r) : m < r.length + 2 := by
  rw [amts_eq] at h
  rcases List.mem_cons.mp h with h | h
  · omega
  · rcases List.mem_append.mp h with h | h
    · obtain ⟨x, hx, e⟩ := List.mem_map.mp h
      have := (R.rng x hx).2
      omega
    · simp at h
      omega

theorem amts_all (R : IsRow r) {m : Nat} (h : m < r.length + 2) : m ∈ amts r := by
  apply Classical.byContradiction
  intro hno
  have := len_le (fun a b => a = b) (m :: amts r) (List.range (r.length + 2)) (by
    rw [List.nodup_cons]
    exact ⟨hno, amts_nodup R⟩) (by
    intro a ha
    refine ⟨a, List.mem_range.mpr ?_, rfl⟩
    rcases List.mem_cons.mp ha with e | e
    · omega
    · exact amts_lt R e) (by
    intro a a' b _ _ h1 h2
    omega)
  rw [List.length_cons, amts_len, List.length_range] at this
  omega

theorem place_lt (R : IsRow r) {m : Nat} (h : m < r.length + 2) : place r m < r.length + 2 := by
  have := List.idxOf_lt_length_of_mem (amts_all R h)
  rw [amts_len] at this
  exact this

theorem numAt_get {p : Nat} (h : p < r.length + 2) : (nums r)[p]? = some (numAt r p) := by
  unfold numAt
  rw [List.getD_eq_getElem?_getD, List.getElem?_eq_getElem (by rw [nums_len]; exact h)]
  rfl

theorem amts_get {p : Nat} (h : p < r.length + 2) : (amts r)[p]? = some (numAt r p).natAbs := by
  unfold amts
  rw [List.getElem?_map, numAt_get h]
  rfl

theorem place_abs (R : IsRow r) {m : Nat} (h : m < r.length + 2) : (numAt r (place r m)).natAbs = m := by
  have h1 := place_lt R h
  have h2 := amts_get h1
  have h3 : (amts r)[place r m]? = some m := by
    rw [List.getElem?_eq_getElem (by rw [amts_len]; exact h1)]
    unfold place
    rw [List.getElem_idxOf]
  rw [h2] at h3
  exact Option.some.inj h3

theorem abs_lt (R : IsRow r) {p : Nat} (h : p < r.length + 2) : (numAt r p).natAbs < r.length + 2 :=
  amts_lt R (List.mem_of_getElem? (amts_get h))

theorem abs_place (R : IsRow r) {p : Nat} (h : p < r.length + 2) : place r (numAt r p).natAbs = p := by
  have h2 := amts_get h
  have hp : p < (amts r).length := by rw [amts_len]; exact h
  rw [List.getElem?_eq_getElem hp] at h2
  unfold place
  rw [← Option.some.inj h2]
  exact (amts_nodup R).idxOf_getElem p hp

theorem place_inj (R : IsRow r) {a b : Nat} (ha : a < r.length + 2) (hb : b < r.length + 2) (e : place r a = place r b) : a = b := by
  rw [← place_abs R ha, ← place_abs R hb, e]

theorem num_zero : numAt r 0 = 0 := rfl
theorem num_last : numAt r (r.length + 1) = (r.length : Int) + 1 := by
  unfold numAt nums
  rw [List.getD_eq_getElem?_getD, List.getElem?_cons_succ, List.getElem?_append_right (Nat.le_refl _), Nat.sub_self]
  rfl

theorem place_zero (R : IsRow r) : place r 0 = 0 := by
  have := abs_place R (p := 0) (by omega)
  rw [num_zero] at this
  exact this

theorem place_last (R : IsRow r) : place r (r.length + 1) = r.length + 1 := by
  have := abs_place R (p := r.length + 1) (by omega)
  rw [num_last] at this
  rw [show ((r.length : Int) + 1).natAbs = r.length + 1 by omega] at this
  exact this

/-- the place of a point on the line -/
def pos (r : List Int) (v : Nat) : Nat :=
  if v % 2 = 0 then (if numAt r (place r (v / 2)) < 0 then 2 * place r (v / 2) - 1 else 2 * place r (v / 2))
  else (if numAt r (place r (v / 2 + 1)) < 0 then 2 * place r (v / 2 + 1) else 2 * place r (v / 2 + 1) - 1)

theorem pos_even {k : Nat} : pos r (2 * k) = if numAt r (place r k) < 0 then 2 * place r k - 1 else 2 * place r k := by
  unfold pos
  rw [if_pos (by omega), show 2 * k / 2 = k by omega]
theorem pos_odd {k : Nat} : pos r (2 * k + 1) = if numAt r (place r (k + 1)) < 0 then 2 * place r (k + 1) else 2 * place r (k + 1) - 1 := by
  unfold pos
  rw [if_neg (by omega), show (2 * k + 1) / 2 + 1 = k + 1 by omega]

theorem place_pos (R : IsRow r) {m : Nat} (h1 : 1 ≤ m) (h2 : m < r.length + 2) : 1 ≤ place r m := by
  apply Classical.byContradiction
  intro hno
  have e : place r m = place r 0 := by rw [place_zero R]; omega
  have := place_inj R h2 (by omega) e
  omega

theorem place_mid (R : IsRow r) {m : Nat} (h2 : m < r.length + 1) : place r m < r.length + 1 := by
  have := place_lt R (m := m) (by omega)
  apply Classical.byContradiction
  intro hno
  have e : place r m = place r (r.length + 1) := by rw [place_last R]; omega
  have := place_inj R (by omega) (by omega) e
  omega

theorem neg_last {p : Nat} (h : numAt r p < 0) : p ≠ r.length + 1 ∧ p ≠ 0 := by
  constructor
  · intro e
    rw [e, num_last] at h
    omega
  · intro e
    rw [e, num_zero] at h
    omega

theorem sys (R : IsRow r) : Sys (r.length + 1) (pos r) := by
  have cases2 : ∀ v, v < 2 * (r.length + 1) → (∃ k, k < r.length + 1 ∧ v = 2 * k) ∨ (∃ k, k < r.length + 1 ∧ v = 2 * k + 1) := by
    intro v hv
    by_cases e : v % 2 = 0
    · exact .inl ⟨v / 2, by omega, by omega⟩
    · exact .inr ⟨v / 2, by omega, by omega⟩
  constructor
  · omega
  · intro v w hv hw e
    rcases cases2 v hv with ⟨j, hj, rfl⟩ | ⟨j, hj, rfl⟩ <;> rcases cases2 w hw with ⟨k, hk, rfl⟩ | ⟨k, hk, rfl⟩
    · rw [pos_even, pos_even] at e
      have a := place_mid R hj
      have b := place_mid R hk
      have nj := @neg_last r (place r j)
      have nk := @neg_last r (place r k)
      have : place r j = place r k := by
        split at e <;> split at e <;> omega
      have := place_inj R (by omega) (by omega) this
      omega
    · rw [pos_even, pos_odd] at e
      have a := place_mid R hj
      have nj := @neg_last r (place r j)
      have b := place_pos R (m := k + 1) (by omega) (by omega)
      have : place r j = place r (k + 1) := by
        split at e <;> split at e <;> omega
      rw [this] at e
      split at e <;> omega
    · rw [pos_even, pos_odd] at e
      have a := place_mid R hk
      have nk := @neg_last r (place r k)
      have b := place_pos R (m := j + 1) (by omega) (by omega)
      have : place r k = place r (j + 1) := by
        split at e <;> split at e <;> omega
      rw [this] at e
      split at e <;> omega
    · rw [pos_odd, pos_odd] at e
      have a := place_pos R (m := j + 1) (by omega) (by omega)
      have b := place_pos R (m := k + 1) (by omega) (by omega)
      have : place r (j + 1) = place r (k + 1) := by
        split at e <;> split at e <;> omega
      have := place_inj R (by omega) (by omega) this
      omega
  · intro v hv
    rcases cases2 v hv with ⟨j, hj, rfl⟩ | ⟨j, hj, rfl⟩
    · rw [pos_even]
      have a := place_mid R hj
      split <;> omega
    · rw [pos_odd]
      have a := place_lt R (m := j + 1) (by omega)
      have n := @neg_last r (place r (j + 1))
      split <;> omega
  · intro x hx
    by_cases e : x % 2 = 0
    · have hp : x / 2 < r.length + 2 := by omega
      have al := abs_lt R hp
      have ap := abs_place R hp
      have hnl : (numAt r (x / 2)).natAbs ≠ r.length + 1 := by
        intro q
        rw [q, place_last R] at ap
        omega
      by_cases hn : numAt r (x / 2) < 0
      · refine ⟨2 * ((numAt r (x / 2)).natAbs - 1) + 1, by omega, ?_⟩
        rw [pos_odd, show (numAt r (x / 2)).natAbs - 1 + 1 = (numAt r (x / 2)).natAbs by omega, ap, if_pos hn]
        omega
      · refine ⟨2 * (numAt r (x / 2)).natAbs, by omega, ?_⟩
        rw [pos_even, ap, if_neg hn]
        omega
    · have hp : (x + 1) / 2 < r.length + 2 := by omega
      have al := abs_lt R hp
      have ap := abs_place R hp
      have h0 : (numAt r ((x + 1) / 2)).natAbs ≠ 0 := by
        intro q
        rw [q, place_zero R] at ap
        omega
      by_cases hn : numAt r ((x + 1) / 2) < 0
      · have hl := (neg_last hn).1
        have hnl : (numAt r ((x + 1) / 2)).natAbs ≠ r.length + 1 := by
          intro q
          rw [q, place_last R] at ap
          omega
        refine ⟨2 * (numAt r ((x + 1) / 2)).natAbs, by omega, ?_⟩
        rw [pos_even, ap, if_pos hn]
        omega
      · refine ⟨2 * ((numAt r ((x + 1) / 2)).natAbs - 1) + 1, by omega, ?_⟩
        rw [pos_odd, show (numAt r ((x + 1) / 2)).natAbs - 1 + 1 = (numAt r ((x + 1) / 2)).natAbs by omega, ap, if_neg hn]
        omega
  · show pos r (2 * 0) = 0
    rw [pos_even, place_zero R, num_zero]
    simp
  · rw [show 2 * (r.length + 1) - 1 = 2 * r.length + 1 by omega, pos_odd, place_last R, num_last, if_neg (by omega)]
    omega
  · intro m h1 h2
    have p1 := place_pos R h1 (by omega)
    have p2 := place_mid R h2
    refine ⟨place r m, p1, p2, ?_⟩
    rw [show 2 * m - 1 = 2 * (m - 1) + 1 by omega, pos_odd, show m - 1 + 1 = m by omega, pos_even]
    by_cases hn : numAt r (place r m) < 0
    · rw [if_pos hn, if_pos hn]
      exact .inr ⟨rfl, rfl⟩
    · rw [if_neg hn, if_neg hn]
      exact .inl ⟨rfl, rfl⟩

/-- the gaps that a tie meets -/
def hinder (r : List Int) (k : Nat) : Nat := if numAt r (place r k) < 0 then place r k - 1 else place r k
def fore (r : List Int) (k : Nat) : Nat := if numAt r (place r (k + 1)) < 0 then place r (k + 1) else place r (k + 1) - 1

theorem gh_eq (R : IsRow r) {k : Nat} (hk : k < r.length + 1) : gh (pos r) k = hinder r k := by
  have n := @neg_last r (place r k)
  unfold gh hinder
  rw [pos_even]
  split <;> omega

theorem gf_eq (R : IsRow r) {k : Nat} (hk : k < r.length + 1) : gf (pos r) k = fore r k := by
  have := place_pos R (m := k + 1) (by omega) (by omega)
  unfold gf fore
  rw [pos_odd]
  split <;> omega

/-- of the number at a place, its sign is that of its points -/
theorem neg_even (R : IsRow r) {k : Nat} (hk : k < r.length + 1) : neg (pos r) (2 * k) = decide (numAt r (place r k) < 0) := by
  have n := @neg_last r (place r k)
  unfold neg
  rw [pos_even, decide_eq_decide]
  split <;> omega

theorem neg_odd (R : IsRow r) {k : Nat} (hk : k < r.length + 1) : neg (pos r) (2 * k + 1) = decide (numAt r (place r (k + 1)) < 0) := by
  have := place_pos R (m := k + 1) (by omega) (by omega)
  unfold neg
  rw [pos_odd, decide_eq_decide]
  split <;> omega

/-- the place of the point's amount -/
theorem pos_place (R : IsRow r) {v p : Nat} (hv : v < 2 * (r.length + 1)) (h : pos r v = 2 * p ∨ (1 ≤ p ∧ pos r v = 2 * p - 1)) :
    neg (pos r) v = decide (numAt r p < 0) := by
  by_cases e : v % 2 = 0
  · have hk : v / 2 < r.length + 1 := by omega
    have ev : 2 * (v / 2) = v := by omega
    have n1 := neg_even R hk
    have n2 := @neg_last r (place r (v / 2))
    have hp := @pos_even r (v / 2)
    rw [ev] at n1 hp
    rw [n1]
    have : place r (v / 2) = p := by
      split at hp <;> omega
    rw [this]
  · have hk : v / 2 < r.length + 1 := by omega
    have ev : 2 * (v / 2) + 1 = v := by omega
    have n1 := neg_odd R hk
    have n2 := place_pos R (m := v / 2 + 1) (by omega) (by omega)
    have hp := @pos_odd r (v / 2)
    rw [ev] at n1 hp
    rw [n1]
    have : place r (v / 2 + 1) = p := by
      split at hp <;> omega
    rw [this]

/-- a gap is shut where both its points are of one tie -/
theorem shut_iff (R : IsRow r) {g : Nat} (hg : g < r.length + 1) : numAt r (g + 1) = numAt r g + 1 ↔
    ∃ k, k < r.length + 1 ∧ ((pos r (2 * k) = 2 * g ∧ pos r (2 * k + 1) = 2 * g + 1) ∨ (pos r (2 * k) = 2 * g + 1 ∧ pos r (2 * k + 1) = 2 * g)) := by
  have a1 := abs_place R (p := g) (by omega)
  have a2 := abs_place R (p := g + 1) (by omega)
  have l1 := abs_lt R (p := g) (by omega)
  have l2 := abs_lt R (p := g + 1) (by omega)
  constructor
  · intro h
    by_cases hn : numAt r g < 0
    · have nl := neg_last hn
      have hm : (numAt r (g + 1)).natAbs + 1 = (numAt r g).natAbs := by omega
      have h0 : (numAt r (g + 1)).natAbs ≠ 0 := by
        intro q
        rw [q, place_zero R] at a2
        omega
      have hn2 : numAt r (g + 1) < 0 := by omega
      have hnl : (numAt r g).natAbs ≠ r.length + 1 := by
        intro q
        rw [q, place_last R] at a1
        omega
      refine ⟨(numAt r (g + 1)).natAbs, by omega, .inr ⟨?_, ?_⟩⟩
      · rw [pos_even, a2, if_pos hn2]
        omega
      · rw [pos_odd, hm, a1, if_pos hn]
    · have hm : (numAt r g).natAbs + 1 = (numAt r (g + 1)).natAbs := by omega
      refine ⟨(numAt r g).natAbs, by omega, .inl ⟨?_, ?_⟩⟩
      · rw [pos_even, a1, if_neg hn]
      · rw [pos_odd, hm, a2, if_neg (by omega)]
        omega
  · rintro ⟨k, hk, ⟨h1, h2⟩ | ⟨h1, h2⟩⟩
    · rw [pos_even] at h1
      rw [pos_odd] at h2
      have p1 := place_abs R (m := k) (by omega)
      have p2 := place_abs R (m := k + 1) (by omega)
      have q2 := place_pos R (m := k + 1) (by omega) (by omega)
      have n1 := @neg_last r (place r k)
      split at h1
      · omega
      · split at h2
        · omega
        · have e1 : place r k = g := by omega
          have e2 : place r (k + 1) = g + 1 := by omega
          rw [e1] at p1
          rw [e2] at p2
          rename_i x y
          rw [e1] at x
          rw [e2] at y
          omega
    · rw [pos_even] at h1
      rw [pos_odd] at h2
      have p1 := place_abs R (m := k) (by omega)
      have p2 := place_abs R (m := k + 1) (by omega)
      have q2 := place_pos R (m := k + 1) (by omega) (by omega)
      split at h1
      · split at h2
        · have e1 : place r k = g + 1 := by omega
          have e2 : place r (k + 1) = g := by omega
          rw [e1] at p1
          rw [e2] at p2
          rename_i x y
          rw [e1] at x
          rw [e2] at y
          omega
        · omega
      · omega

end
end KL
/-! Part M: whole stretches are the shut ones; the list of the kins; owners. -/
namespace KM
open KC KD KJ KG KH KL KF

/-- the least and the greatest amount from the place f on, over d more places -/
def lst (r : List Int) (f : Nat) : Nat → Nat
  | 0 => (numAt r f).natAbs
  | d + 1 => min (lst r f d) (numAt r (f + d + 1)).natAbs
def mst (r : List Int) (f : Nat) : Nat → Nat
  | 0 => (numAt r f).natAbs
  | d + 1 => max (mst r f d) (numAt r (f + d + 1)).natAbs

def whole1 (r : List Int) (f l : Nat) : Bool :=
  decide (mst r f (l - f) - lst r f (l - f) = l - f ∧ numAt r f = (lst r f (l - f) : Int) ∧ numAt r l = (mst r f (l - f) : Int))
def whole2 (r : List Int) (f l : Nat) : Bool :=
  decide (mst r f (l - f) - lst r f (l - f) = l - f ∧ numAt r f = 0 - (mst r f (l - f) : Int) ∧ numAt r l = 0 - (lst r f (l - f) : Int))

section
variable {r : List Int}

theorem lst_le (f : Nat) : ∀ d p, f ≤ p → p ≤ f + d → lst r f d ≤ (numAt r p).natAbs := by
  intro d
  induction d with
  | zero =>
    intro p h1 h2
    rw [show p = f by omega]
    exact Nat.le_refl _
  | succ d ih =>
    intro p h1 h2
    unfold lst
    by_cases e : p = f + d + 1
    · rw [e]; omega
    · have := ih p h1 (by omega)
      omega

theorem le_mst (f : Nat) : ∀ d p, f ≤ p → p ≤ f + d → (numAt r p).natAbs ≤ mst r f d := by
  intro d
  induction d with
  | zero =>
    intro p h1 h2
    rw [show p = f by omega]
    exact Nat.le_refl _
  | succ d ih =>
    intro p h1 h2
    unfold mst
    by_cases e : p = f + d + 1
    · rw [e]; omega
    · have := ih p h1 (by omega)
      omega

theorem lst_is (f : Nat) : ∀ d, ∃ p, f ≤ p ∧ p ≤ f + d ∧ lst r f d = (numAt r p).natAbs := by
  intro d
  induction d with
  | zero => exact ⟨f, by omega, by omega, rfl⟩
  | succ d ih =>
    obtain ⟨p, h1, h2, h3⟩ := ih
    unfold lst
    by_cases e : lst r f d ≤ (numAt r (f + d + 1)).natAbs
    · exact ⟨p, h1, by omega, by omega⟩
    · exact ⟨f + d + 1, by omega, by omega, by omega⟩

theorem mst_is (f : Nat) : ∀ d, ∃ p, f ≤ p ∧ p ≤ f + d ∧ mst r f d = (numAt r p).natAbs := by
  intro d
  induction d with
  | zero => exact ⟨f, by omega, by omega, rfl⟩
  | succ d ih =>
    obtain ⟨p, h1, h2, h3⟩ := ih
    unfold mst
    by_cases e : (numAt r (f + d + 1)).natAbs ≤ mst r f d
    · exact ⟨p, h1, by omega, by omega⟩
    · exact ⟨f + d + 1, by omega, by omega, by omega⟩

/-- the amounts of the places f to l, where they are as many as from the least to the greatest one -/
theorem all_between (R : IsRow r) {f l x y : Nat} (hfl : f ≤ l) (hl : l < r.length + 2) (hd : y = x + (l - f)) (hin : ∀ p, f ≤ p → p ≤ l → x ≤ (numAt r p).natAbs ∧ (numAt r p).natAbs ≤ y) :
    ∀ m, x ≤ m → m ≤ y → m < r.length + 2 ∧ f ≤ place r m ∧ place r m ≤ l := by
  intro m h1 h2
  apply Classical.byContradiction
  intro hno
  have hno2 : ∀ p, f ≤ p → p ≤ l → (numAt r p).natAbs ≠ m := by
    intro p p1 p2 e
    apply hno
    have := abs_lt R (p := p) (by omega)
    have ap := abs_place R (p := p) (by omega)
    rw [e] at this ap
    omega
  have := len_le (fun p a => (numAt r p).natAbs = a) (List.range' f (l - f + 1)) ((List.range' x (l - f + 1)).erase m) (List.nodup_range') (by
    intro p hp
    rw [List.mem_range'_1] at hp
    have q := hin p hp.1 (by omega)
    refine ⟨_, (List.mem_erase_of_ne (hno2 p hp.1 (by omega))).mpr ?_, rfl⟩
    rw [List.mem_range'_1]
    omega) (by
    intro a a' b ha ha' e1 e2
    rw [List.mem_range'_1] at ha ha'
    have q1 := abs_place R (p := a) (by omega)
    have q2 := abs_place R (p := a') (by omega)
    rw [e1] at q1
    rw [e2] at q2
    omega)
  rw [List.length_erase_of_mem (by rw [List.mem_range'_1]; omega), List.length_range', List.length_range'] at this
  omega

theorem at_last {f l x y k p : Nat} (hb : f ≤ p → p ≤ l → x ≤ k ∧ k ≤ y) (ha : x ≤ k → k ≤ y → f ≤ p ∧ p ≤ l) (e : k = y ↔ p = l) :
    (f ≤ p ∧ p < l) ↔ (x ≤ k ∧ k < y) := by omega
theorem at_first {f l x y k p : Nat} (hp : 1 ≤ p) (hb : f ≤ p → p ≤ l → x ≤ k ∧ k ≤ y) (ha : x ≤ k → k ≤ y → f ≤ p ∧ p ≤ l) (e : k = y ↔ p = f) :
    (f ≤ p - 1 ∧ p - 1 < l) ↔ (x ≤ k ∧ k < y) := by omega
theorem at_none {f l x y k p : Nat} (hb : f ≤ p → p ≤ l → x ≤ k ∧ k ≤ y) (ha : x ≤ k → k ≤ y → f ≤ p ∧ p ≤ l) (e1 : k ≠ x) (e2 : k ≠ y) (e3 : p ≠ f) (e4 : p ≠ l) :
    ((f ≤ p ∧ p < l) ↔ (x ≤ k ∧ k < y)) ∧ ((f ≤ p ∧ p < l) ↔ (x < k ∧ k ≤ y)) := by omega
theorem at_none1 {f l x y k p : Nat} (hp : 1 ≤ p) (hb : f ≤ p → p ≤ l → x ≤ k ∧ k ≤ y) (ha : x ≤ k → k ≤ y → f ≤ p ∧ p ≤ l) (e1 : k ≠ x) (e2 : k ≠ y) (e3 : p ≠ f) (e4 : p ≠ l) :
    ((f ≤ p - 1 ∧ p - 1 < l) ↔ (x ≤ k ∧ k < y)) ∧ ((f ≤ p - 1 ∧ p - 1 < l) ↔ (x < k ∧ k ≤ y)) := by omega
theorem lo_last {f l x y k p : Nat} (hb : f ≤ p → p ≤ l → x ≤ k ∧ k ≤ y) (ha : x ≤ k → k ≤ y → f ≤ p ∧ p ≤ l) (e : k = x ↔ p = l) :
    (f ≤ p ∧ p < l) ↔ (x < k ∧ k ≤ y) := by omega
theorem lo_first {f l x y k p : Nat} (hp : 1 ≤ p) (hb : f ≤ p → p ≤ l → x ≤ k ∧ k ≤ y) (ha : x ≤ k → k ≤ y → f ≤ p ∧ p ≤ l) (e : k = x ↔ p = f) :
    (f ≤ p - 1 ∧ p - 1 < l) ↔ (x < k ∧ k ≤ y) := by omega

theorem whole_cl (R : IsRow r) {f l : Nat} (hfl : f < l) (hl : l < r.length + 2) (h : whole1 r f l = true ∨ whole2 r f l = true) :
    Cl (r.length + 1) (gh (pos r)) (gf (pos r)) f l := by
  have hlow := fun p (h1 : f ≤ p) (h2 : p ≤ l) => lst_le (r := r) f (l - f) p h1 (by omega)
  have hupp := fun p (h1 : f ≤ p) (h2 : p ≤ l) => le_mst (r := r) f (l - f) p h1 (by omega)
  have hlm : lst r f (l - f) ≤ mst r f (l - f) := Nat.le_trans (hlow f (Nat.le_refl _) (by omega)) (hupp f (Nat.le_refl _) (by omega))
  have hd : mst r f (l - f) = lst r f (l - f) + (l - f) := by
    rcases h with h | h
    · unfold whole1 at h
      have := of_decide_eq_true h
      omega
    · unfold whole2 at h
      have := of_decide_eq_true h
      omega
  have hall := all_between R (by omega) hl hd (fun p h1 h2 => ⟨hlow p h1 h2, hupp p h1 h2⟩)
  have hback : ∀ m, m < r.length + 2 → f ≤ place r m → place r m ≤ l → lst r f (l - f) ≤ m ∧ m ≤ mst r f (l - f) := by
    intro m hm h1 h2
    have := hlow _ h1 h2
    have := hupp _ h1 h2
    rw [place_abs R hm] at *
    omega
  have pf := abs_place R (p := f) (by omega)
  have pl := abs_place R (p := l) (by omega)
  have al := abs_lt R (p := l) hl
  have af := abs_lt R (p := f) (by omega)
  -- where an amount stands, by the amount of a place
  have isat : ∀ p a m, place r a = p → a < r.length + 2 → m < r.length + 2 → (m = a ↔ place r m = p) := by
    intro p a m h1 h2 h3
    constructor
    · intro e
      rw [e, h1]
    · intro e
      exact place_inj R h3 h2 (e.trans h1.symm)
  intro k hk
  rw [gh_eq R hk, gf_eq R hk]
  unfold hinder fore
  have b1 := hback k (by omega)
  have b2 := hback (k + 1) (by omega)
  have a1 := fun h1 h2 => (hall k h1 h2).2
  have a2 := fun h1 h2 => (hall (k + 1) h1 h2).2
  have n1 := @neg_last r (place r k)
  have n2 := place_pos R (m := k + 1) (by omega) (by omega)
  rcases h with h | h
  · unfold whole1 at h
    obtain ⟨h1, h2, h3⟩ := of_decide_eq_true h
    rw [show (numAt r f).natAbs = lst r f (l - f) by omega] at pf af
    rw [show (numAt r l).natAbs = mst r f (l - f) by omega] at pl al
    have key1 : (f ≤ (if numAt r (place r k) < 0 then place r k - 1 else place r k) ∧ (if numAt r (place r k) < 0 then place r k - 1 else place r k) < l) ↔ (lst r f (l - f) ≤ k ∧ k < mst r f (l - f)) := by
      have i1 := isat f _ k pf af (by omega)
      have i2 := isat l _ k pl al (by omega)
      by_cases hn : numAt r (place r k) < 0
      · have nf : place r k ≠ f := by
          intro e
          rw [e, h2] at hn
          clear b1 b2 a1 a2 hall hback hlow hupp
          omega
        have nl : place r k ≠ l := by
          intro e
          rw [e, h3] at hn
          clear b1 b2 a1 a2 hall hback hlow hupp
          omega
        have p1 : 1 ≤ place r k := by
          have := (n1 hn).2
          clear b1 b2 a1 a2 hall hback hlow hupp
          omega
        rw [if_pos hn]
        exact (at_none1 p1 b1 a1 (fun e => nf (i1.mp e)) (fun e => nl (i2.mp e)) nf nl).1
      · rw [if_neg hn]
        exact at_last b1 a1 i2
    have key2 : (f ≤ (if numAt r (place r (k + 1)) < 0 then place r (k + 1) else place r (k + 1) - 1) ∧ (if numAt r (place r (k + 1)) < 0 then place r (k + 1) else place r (k + 1) - 1) < l) ↔ (lst r f (l - f) < k + 1 ∧ k + 1 ≤ mst r f (l - f)) := by
      have i1 := isat f _ (k + 1) pf af (by omega)
      have i2 := isat l _ (k + 1) pl al (by omega)
      by_cases hn : numAt r (place r (k + 1)) < 0
      · have nf : place r (k + 1) ≠ f := by
          intro e
          rw [e, h2] at hn
          clear b1 b2 a1 a2 hall hback hlow hupp
          omega
        have nl : place r (k + 1) ≠ l := by
          intro e
          rw [e, h3] at hn
          clear b1 b2 a1 a2 hall hback hlow hupp
          omega
        rw [if_pos hn]
        exact (at_none b2 a2 (fun e => nf (i1.mp e)) (fun e => nl (i2.mp e)) nf nl).2
      · rw [if_neg hn]
        exact lo_first n2 b2 a2 i1
    rw [key1, key2]
    clear b1 b2 a1 a2 hall hback hlow hupp key1 key2
    omega
  · unfold whole2 at h
    obtain ⟨h1, h2, h3⟩ := of_decide_eq_true h
    rw [show (numAt r f).natAbs = mst r f (l - f) by omega] at pf af
    rw [show (numAt r l).natAbs = lst r f (l - f) by omega] at pl al
    have x0 : lst r f (l - f) ≠ 0 := by
      intro e
      rw [e, place_zero R] at pl
      omega
    have key1 : (f ≤ (if numAt r (place r k) < 0 then place r k - 1 else place r k) ∧ (if numAt r (place r k) < 0 then place r k - 1 else place r k) < l) ↔ (lst r f (l - f) ≤ k ∧ k < mst r f (l - f)) := by
      have i1 := isat f _ k pf af (by omega)
      have i2 := isat l _ k pl al (by omega)
      by_cases hn : numAt r (place r k) < 0
      · have p1 : 1 ≤ place r k := by
          have := (n1 hn).2
          clear b1 b2 a1 a2 hall hback hlow hupp
          omega
        rw [if_pos hn]
        exact at_first p1 b1 a1 i1
      · have nf : place r k ≠ f := by
          intro e
          rw [e, h2] at hn
          clear b1 b2 a1 a2 hall hback hlow hupp
          omega
        have nl : place r k ≠ l := by
          intro e
          rw [e, h3] at hn
          clear b1 b2 a1 a2 hall hback hlow hupp
          omega
        rw [if_neg hn]
        exact (at_none b1 a1 (fun e => nl (i2.mp e)) (fun e => nf (i1.mp e)) nf nl).1
    have key2 : (f ≤ (if numAt r (place r (k + 1)) < 0 then place r (k + 1) else place r (k + 1) - 1) ∧ (if numAt r (place r (k + 1)) < 0 then place r (k + 1) else place r (k + 1) - 1) < l) ↔ (lst r f (l - f) < k + 1 ∧ k + 1 ≤ mst r f (l - f)) := by
      have i1 := isat f _ (k + 1) pf af (by omega)
      have i2 := isat l _ (k + 1) pl al (by omega)
      by_cases hn : numAt r (place r (k + 1)) < 0
      · rw [if_pos hn]
        exact lo_last b2 a2 i2
      · have nf : place r (k + 1) ≠ f := by
          intro e
          rw [e, h2] at hn
          clear b1 b2 a1 a2 hall hback hlow hupp
          omega
        have nl : place r (k + 1) ≠ l := by
          intro e
          rw [e, h3] at hn
          clear b1 b2 a1 a2 hall hback hlow hupp
          omega
        rw [if_neg hn]
        exact (at_none1 n2 b2 a2 (fun e => nl (i2.mp e)) (fun e => nf (i1.mp e)) nf nl).2
    rw [key1, key2]
    clear b1 b2 a1 a2 hall hback hlow hupp key1 key2
    omega

theorem cl_whole (R : IsRow r) {f l : Nat} (hfl : f < l) (hl : l < r.length + 2) (C : Cl (r.length + 1) (gh (pos r)) (gf (pos r)) f l) :
    whole1 r f l = true ∨ whole2 r f l = true := by
  have Y := sys R
  obtain ⟨x, y, xy, yN, sh, form⟩ := shape Y hfl (by omega) C
  have CP := clP_of_cl hfl C
  -- the ends
  have ends : ((place r x = f ∧ ¬ numAt r f < 0) ∧ (place r y = l ∧ ¬ numAt r l < 0)) ∨ ((place r x = l ∧ numAt r l < 0) ∧ (place r y = f ∧ numAt r f < 0)) := by
    have e1 := @pos_even r x
    have e2 := @pos_odd r (y - 1)
    rw [show 2 * (y - 1) + 1 = 2 * y - 1 by omega, show y - 1 + 1 = y by omega] at e2
    have n1 := @neg_last r (place r x)
    have n2 := place_pos R (m := y) (by omega) (by omega)
    rcases form with ⟨f1, f2⟩ | ⟨f1, f2⟩
    · left
      rw [f1] at e1
      rw [f2] at e2
      by_cases h1 : numAt r (place r x) < 0
      · rw [if_pos h1] at e1
        omega
      · rw [if_neg h1] at e1
        by_cases h2 : numAt r (place r y) < 0
        · rw [if_pos h2] at e2
          omega
        · rw [if_neg h2] at e2
          have p1 : place r x = f := by omega
          have p2 : place r y = l := by omega
          rw [p1] at h1
          rw [p2] at h2
          exact ⟨⟨p1, h1⟩, ⟨p2, h2⟩⟩
    · right
      rw [f1] at e1
      rw [f2] at e2
      by_cases h1 : numAt r (place r x) < 0
      · rw [if_pos h1] at e1
        by_cases h2 : numAt r (place r y) < 0
        · rw [if_pos h2] at e2
          have p1 : place r x = l := by omega
          have p2 : place r y = f := by omega
          rw [p1] at h1
          rw [p2] at h2
          exact ⟨⟨p1, h1⟩, ⟨p2, h2⟩⟩
        · rw [if_neg h2] at e2
          omega
      · rw [if_neg h1] at e1
        omega
  have ax := place_abs R (m := x) (by omega)
  have ay := place_abs R (m := y) (by omega)
  -- the amounts strictly between stand at the places between
  have btw : ∀ m, x < m → m < y → f ≤ place r m ∧ place r m ≤ l := by
    intro m h1 h2
    have q := (sh m (by omega)).mpr ⟨by omega, h2⟩
    rw [pos_even] at q
    split at q <;> omega
  have inn : ∀ p, f < p → p < l → x ≤ (numAt r p).natAbs ∧ (numAt r p).natAbs ≤ y := by
    intro p h1 h2
    have ap := abs_place R (p := p) (by omega)
    have al := abs_lt R (p := p) (by omega)
    have hm : (numAt r p).natAbs < r.length + 1 := by
      apply Classical.byContradiction
      intro hh
      have : (numAt r p).natAbs = r.length + 1 := by omega
      rw [this, place_last R] at ap
      omega
    have q := (sh _ hm).mp (by
      rw [pos_even, ap]
      split <;> omega)
    omega
  have inall : ∀ p, f ≤ p → p ≤ l → x ≤ (numAt r p).natAbs ∧ (numAt r p).natAbs ≤ y := by
    intro p h1 h2
    by_cases e1 : p = f
    · subst e1
      rcases ends with ⟨⟨a, _⟩, _⟩ | ⟨_, ⟨a, _⟩⟩
      · rw [a] at ax; omega
      · rw [a] at ay; omega
    · by_cases e2 : p = l
      · subst e2
        rcases ends with ⟨_, ⟨a, _⟩⟩ | ⟨⟨a, _⟩, _⟩
        · rw [a] at ay; omega
        · rw [a] at ax; omega
      · exact inn p (by omega) (by omega)
  have outall : ∀ m, x ≤ m → m ≤ y → f ≤ place r m ∧ place r m ≤ l := by
    intro m h1 h2
    by_cases e1 : m = x
    · subst e1
      rcases ends with ⟨⟨a, _⟩, _⟩ | ⟨⟨a, _⟩, _⟩ <;> omega
    · by_cases e2 : m = y
      · subst e2
        rcases ends with ⟨_, ⟨a, _⟩⟩ | ⟨_, ⟨a, _⟩⟩ <;> omega
      · exact btw m (by omega) (by omega)
  have hcount : y - x = l - f := by
    have l1 := len_le (fun p a => (numAt r p).natAbs = a) (List.range' f (l - f + 1)) (List.range' x (y - x + 1)) (List.nodup_range') (by
      intro p hp
      rw [List.mem_range'_1] at hp
      have q := inall p hp.1 (by omega)
      exact ⟨_, by rw [List.mem_range'_1]; omega, rfl⟩) (by
      intro a a' b ha ha' e1 e2
      rw [List.mem_range'_1] at ha ha'
      have q1 := abs_place R (p := a) (by omega)
      have q2 := abs_place R (p := a') (by omega)
      rw [e1] at q1
      rw [e2] at q2
      omega)
    have l2 := len_le (fun m p => place r m = p) (List.range' x (y - x + 1)) (List.range' f (l - f + 1)) (List.nodup_range') (by
      intro m hm
      rw [List.mem_range'_1] at hm
      have q := outall m hm.1 (by omega)
      exact ⟨_, by rw [List.mem_range'_1]; omega, rfl⟩) (by
      intro a a' b ha ha' e1 e2
      rw [List.mem_range'_1] at ha ha'
      exact place_inj R (by omega) (by omega) (e1.trans e2.symm))
    rw [List.length_range', List.length_range'] at l1 l2
    omega
  have elst : lst r f (l - f) = x := by
    obtain ⟨p, p1, p2, p3⟩ := lst_is (r := r) f (l - f)
    have q := inall p p1 (by omega)
    have := lst_le (r := r) f (l - f) (place r x) (outall x (Nat.le_refl _) (by omega)).1 (by have := (outall x (Nat.le_refl _) (by omega)).2; omega)
    rw [ax] at this
    omega
  have emst : mst r f (l - f) = y := by
    obtain ⟨p, p1, p2, p3⟩ := mst_is (r := r) f (l - f)
    have q := inall p p1 (by omega)
    have := le_mst (r := r) f (l - f) (place r y) (outall y (by omega) (Nat.le_refl _)).1 (by have := (outall y (by omega) (Nat.le_refl _)).2; omega)
    rw [ay] at this
    omega
  clear inn inall outall btw sh CP
  rcases ends with ⟨⟨a, b⟩, ⟨c, d⟩⟩ | ⟨⟨a, b⟩, ⟨c, d⟩⟩
  · left
    rw [a] at ax
    rw [c] at ay
    unfold whole1
    rw [decide_eq_true_eq, elst, emst]
    omega
  · right
    rw [a] at ax
    rw [c] at ay
    unfold whole2
    rw [decide_eq_true_eq, elst, emst]
    omega

/-! ### the lists -/
def wholeAt (r : List Int) (f l : Nat) : List (Nat × Nat) := (if whole1 r f l = true then [(f, l)] else []) ++ (if whole2 r f l = true then [(f, l)] else [])
def wholeFrom (r : List Int) (f : Nat) : List (Nat × Nat) := (List.range' (f + 1) (r.length + 1 - f)).flatMap (wholeAt r f)
def wholeL (r : List Int) : List (Nat × Nat) := (List.range (r.length + 2)).flatMap (wholeFrom r)
def isParted (L : List (Nat × Nat)) (f l : Nat) : Bool := (List.range' (f + 1) (l - (f + 1))).any (fun s => decide ((f, s) ∈ L) && decide ((s, l) ∈ L))
def spansL (r : List Int) : List (Nat × Nat) := (wholeL r).filter (fun p => !isParted (wholeL r) p.1 p.2)

theorem not_both {f l : Nat} (R : IsRow r) (hfl : f < l) (hl : l < r.length + 2) : ¬ (whole1 r f l = true ∧ whole2 r f l = true) := by
  rintro ⟨h1, h2⟩
  unfold whole1 at h1
  unfold whole2 at h2
  have h1 := of_decide_eq_true h1
  have h2 := of_decide_eq_true h2
  omega

theorem mem_wholeAt {f l : Nat} {p : Nat × Nat} : p ∈ wholeAt r f l ↔ p = (f, l) ∧ (whole1 r f l = true ∨ whole2 r f l = true) := by
  unfold wholeAt
  rw [List.mem_append]
  by_cases h1 : whole1 r f l = true <;> by_cases h2 : whole2 r f l = true <;> simp [h1, h2]

theorem mem_wholeL (R : IsRow r) {f l : Nat} : (f, l) ∈ wholeL r ↔ f < l ∧ l ≤ r.length + 1 ∧ Cl (r.length + 1) (gh (pos r)) (gf (pos r)) f l := by
  unfold wholeL wholeFrom
  rw [List.mem_flatMap]
  constructor
  · rintro ⟨a, ha, h⟩
    obtain ⟨b, hb, h⟩ := List.mem_flatMap.mp h
    obtain ⟨e, h⟩ := mem_wholeAt.mp h
    cases e
    rw [List.mem_range] at ha
    rw [List.mem_range'_1] at hb
    exact ⟨by omega, by omega, whole_cl R (by omega) (by omega) h⟩
  · rintro ⟨h1, h2, h3⟩
    refine ⟨f, List.mem_range.mpr (by omega), List.mem_flatMap.mpr ⟨l, by rw [List.mem_range'_1]; omega, mem_wholeAt.mpr ⟨rfl, cl_whole R h1 (by omega) h3⟩⟩⟩

def lexLt (p q : Nat × Nat) : Prop := p.1 < q.1 ∨ (p.1 = q.1 ∧ p.2 < q.2)

theorem wholeL_asc (R : IsRow r) : (wholeL r).Pairwise lexLt := by
  unfold wholeL
  rw [List.pairwise_flatMap]
  constructor
  · intro f hf
    rw [List.mem_range] at hf
    unfold wholeFrom
    rw [List.pairwise_flatMap]
    constructor
    · intro l hl
      rw [List.mem_range'_1] at hl
      have := not_both R (f := f) (l := l) (by omega) (by omega)
      unfold wholeAt
      by_cases h1 : whole1 r f l = true <;> by_cases h2 : whole2 r f l = true
      · exact absurd ⟨h1, h2⟩ this
      · rw [if_pos h1, if_neg h2]; exact List.pairwise_singleton _ _
      · rw [if_neg h1, if_pos h2]; exact List.pairwise_singleton _ _
      · rw [if_neg h1, if_neg h2]; exact List.Pairwise.nil
    · refine (List.pairwise_lt_range').imp ?_
      intro a b hab p hp q hq
      obtain ⟨rfl, _⟩ := mem_wholeAt.mp hp
      obtain ⟨rfl, _⟩ := mem_wholeAt.mp hq
      exact .inr ⟨rfl, hab⟩
  · refine List.pairwise_lt_range.imp ?_
    intro a b hab p hp q hq
    obtain ⟨c, _, hp⟩ := List.mem_flatMap.mp hp
    obtain ⟨d, _, hq⟩ := List.mem_flatMap.mp hq
    obtain ⟨rfl, _⟩ := mem_wholeAt.mp hp
    obtain ⟨rfl, _⟩ := mem_wholeAt.mp hq
    exact .inl hab

theorem mem_spansL (R : IsRow r) {f l : Nat} : (f, l) ∈ spansL r ↔ Kin (r.length + 1) (gh (pos r)) (gf (pos r)) f l := by
  unfold spansL
  rw [List.mem_filter, mem_wholeL R]
  have hpart : isParted (wholeL r) f l = true ↔ ∃ c, f < c ∧ c < l ∧ (f, c) ∈ wholeL r ∧ (c, l) ∈ wholeL r := by
    unfold isParted
    rw [List.any_eq_true]
    constructor
    · rintro ⟨c, hc, h⟩
      rw [List.mem_range'_1] at hc
      simp at h
      exact ⟨c, by omega, by omega, h⟩
    · rintro ⟨c, h1, h2, h3⟩
      refine ⟨c, by rw [List.mem_range'_1]; omega, ?_⟩
      simpa using h3
  constructor
  · rintro ⟨⟨h1, h2, h3⟩, h4⟩
    refine ⟨h1, h2, h3, ?_⟩
    rintro c c1 c2 ⟨c3, c4⟩
    have : isParted (wholeL r) f l = true := hpart.mpr ⟨c, c1, c2, (mem_wholeL R).mpr ⟨c1, by omega, c3⟩, (mem_wholeL R).mpr ⟨c2, h2, c4⟩⟩
    simp [this] at h4
  · intro h
    refine ⟨⟨h.lt, h.le, h.cl⟩, ?_⟩
    cases e : isParted (wholeL r) f l with
    | false => rfl
    | true =>
      obtain ⟨c, c1, c2, c3, c4⟩ := hpart.mp e
      exact absurd ⟨((mem_wholeL R).mp c3).2.2, ((mem_wholeL R).mp c4).2.2⟩ (h.whole c c1 c2)

theorem spans (R : IsRow r) : Spans (r.length + 1) (gh (pos r)) (gf (pos r)) (spansL r) := by
  have Y := sys R
  have get : ∀ i, i < (spansL r).length → (spansL r)[i]? = some (st (spansL r) i, en (spansL r) i) := by
    intro i hi
    unfold st en
    rw [List.getD_eq_getElem?_getD, List.getElem?_eq_getElem hi]
    rfl
  have kin : ∀ i, i < (spansL r).length → Kin (r.length + 1) (gh (pos r)) (gf (pos r)) (st (spansL r) i) (en (spansL r) i) := by
    intro i hi
    exact (mem_spansL R).mp (List.mem_of_getElem? (get i hi))
  constructor
  · intro k hk
    have := Y.lt (2 * k) (by omega)
    unfold gh
    omega
  · intro k hk
    have := Y.lt (2 * k + 1) (by omega)
    unfold gf
    omega
  · exact kin
  · intro a b h
    obtain ⟨i, hi⟩ := List.getElem?_of_mem ((mem_spansL R).mpr h)
    have hl := (List.getElem?_eq_some_iff.mp hi).1
    refine ⟨i, hl, ?_⟩
    rw [get i hl] at hi
    have := Option.some.inj hi
    exact ⟨congrArg Prod.fst this, congrArg Prod.snd this⟩
  · intro i j hij hj
    have pw : (spansL r).Pairwise lexLt := (wholeL_asc R).filter _
    have := List.pairwise_iff_getElem.mp pw i j (by omega) hj hij
    have gi := get i (by omega)
    have gj := get j hj
    rw [List.getElem?_eq_getElem (by omega)] at gi gj
    rw [Option.some.inj gi, Option.some.inj gj] at this
    rcases this with h | ⟨h1, h2⟩
    · exact h
    · exfalso
      simp only at h1 h2
      have ki := kin i (by omega)
      have kj := kin j hj
      have := ki.lt
      have := kj.lt
      rcases ki.two kj with q | q | q | q | q <;> omega

/-- the shortest kin that bears a gap is its owner -/
theorem own_spans (R : IsRow r) {g a b : Nat} (hg : g < r.length + 1) (hm : (a, b) ∈ spansL r) (h1 : a ≤ g) (h2 : g < b)
    (hmin : ∀ c d, (c, d) ∈ spansL r → c ≤ g → g < d → b - a ≤ d - c) : Own (r.length + 1) (gh (pos r)) (gf (pos r)) g a b := by
  have P := spans R
  have k := (mem_spansL R).mp hm
  obtain ⟨c, d, ho⟩ := own_ex P.hh P.hf hg
  have h3 := hmin c d ((mem_spansL R).mpr ho.kin) ho.le ho.lt
  have h4 := ho.least a b k.cl h1 h2 k.le
  have := ho.le
  have := ho.lt
  have e1 : a = c := by omega
  have e2 : b = d := by omega
  rw [e1, e2]
  exact ho

end
end KM
/-! Part N: the two scores are one. -/
namespace KN
open KC KD KE1 KF KA KG KH KI KJ KK KL KM

section
variable {r : List Int}

/-- the open gaps -/
def openG (r : List Int) : List Nat := (List.range (r.length + 1)).filter (fun g => decide (numAt r (g + 1) ≠ numAt r g + 1))

/-- the numbers beside these gaps: there are some, and all have a minus or all have none -/
def KnotG (r : List Int) (gaps : List Nat) : Prop :=
  gaps ≠ [] ∧ ∃ s : Bool, ∀ g, g ∈ gaps → decide (numAt r g < 0) = s ∧ decide (numAt r (g + 1) < 0) = s

open Classical in
noncomputable def knB (r : List Int) (o : Nat → Nat) (i : Nat) : Bool := decide (i < (spansL r).length ∧ KnotG r ((openG r).filter (fun g => decide (o g = i))))

theorem ow_ex (R : IsRow r) : ∃ o, Ow (r.length + 1) (gh (pos r)) (gf (pos r)) (spansL r) o := by
  have P := spans R
  have : ∀ g, ∃ i, g < r.length + 1 → (i < (spansL r).length ∧ Own (r.length + 1) (gh (pos r)) (gf (pos r)) g (st (spansL r) i) (en (spansL r) i)) := by
    intro g
    by_cases hg : g < r.length + 1
    · obtain ⟨a, b, ho⟩ := own_ex P.hh P.hf hg
      obtain ⟨i, hi, e1, e2⟩ := P.all a b ho.kin
      refine ⟨i, fun _ => ⟨hi, ?_⟩⟩
      rw [e1, e2]
      exact ho
    · exact ⟨0, fun h => absurd h hg⟩
  exact ⟨fun g => Classical.choose (this g), fun g hg => Classical.choose_spec (this g) hg⟩

/-- the ties whose kind bears no crossed tie, and that are no shut gap -/
def GoodT (r : List Int) (mk : Nat → Int) (k : Nat) : Prop :=
  1 < thi (pos r) k - tlo (pos r) k ∧ ∀ j, j < r.length + 1 → neg (pos r) (2 * j) ≠ neg (pos r) (2 * j + 1) → mk j ≠ mk k

/-- the labels along the line -/
structure Labels (r : List Int) (mk : Nat → Int) (LB : List Int) : Prop where
  len : LB.length = 2 * (r.length + 1)
  good : ∀ k, k < r.length + 1 → GoodT r mk k → LB[pos r (2 * k)]? = some (mk k) ∧ LB[pos r (2 * k + 1)]? = some (mk k)
  bad : ∀ k, k < r.length + 1 → ¬ GoodT r mk k → LB[pos r (2 * k)]? = some (-1) ∧ LB[pos r (2 * k + 1)]? = some (-1)

def gOf (LB : List Int) (x : Nat) : Option Int := match LB[x]? with
  | some l => if 0 ≤ l then some l else none
  | none => none

theorem filterMap_same {α β : Type} {f g : α → Option β} : ∀ (l : List α), (∀ x, x ∈ l → f x = g x) → l.filterMap f = l.filterMap g := by
  intro l
  induction l with
  | nil => intro _; rfl
  | cons a t ih =>
    intro h
    rw [List.filterMap_cons, List.filterMap_cons, h a (by simp), ih (fun x hx => h x (List.mem_cons_of_mem _ hx))]

theorem knB_iff {o : Nat → Nat} {i : Nat} : knB r o i = true ↔ i < (spansL r).length ∧ KnotG r ((openG r).filter (fun g => decide (o g = i))) := by
  unfold knB
  simp

theorem word_of (LB : List Int) (N : Nat) (h : LB.length = 2 * N) : LB.filter (fun l => decide (0 ≤ l)) = word N (gOf LB) := by
  unfold word
  rw [← h]
  have : ∀ (L : List Int) (s : Nat), L.filter (fun l => decide (0 ≤ l)) = (List.range' s L.length).filterMap (fun x => match L[x - s]? with
      | some l => if 0 ≤ l then some l else none
      | none => none) := by
    intro L
    induction L with
    | nil => intro s; rfl
    | cons a L ih =>
      intro s
      rw [List.length_cons, List.range'_succ, List.filterMap_cons, List.filter_cons]
      have rest : (List.range' (s + 1) L.length).filterMap (fun x => match (a :: L)[x - s]? with
          | some l => if 0 ≤ l then some l else none
          | none => none) = L.filter (fun l => decide (0 ≤ l)) := by
        rw [ih (s + 1)]
        apply filterMap_same
        intro x hx
        rw [List.mem_range'_1] at hx
        rw [show x - s = (x - (s + 1)) + 1 by omega, List.getElem?_cons_succ]
      rw [rest]
      simp only [Nat.sub_self, List.getElem?_cons_zero]
      by_cases e : 0 ≤ a
      · simp [e]
      · simp [e]
  have := this LB 0
  rw [this]
  rfl

/-- a gap is shut under the ties where its points are of one tie -/
theorem shut_cl (R : IsRow r) {g : Nat} (hg : g < r.length + 1) (h : numAt r (g + 1) = numAt r g + 1) : Cl (r.length + 1) (gh (pos r)) (gf (pos r)) g (g + 1) := by
  have Y := sys R
  obtain ⟨k, hk, hp⟩ := (shut_iff R hg).mp h
  intro j hj
  unfold gh gf
  constructor
  · intro q
    have hx : pos r (2 * j) = 2 * g ∨ pos r (2 * j) = 2 * g + 1 := by omega
    have : j = k := by
      rcases hp with ⟨h1, h2⟩ | ⟨h1, h2⟩ <;> rcases hx with x | x
      · have := Y.inj _ _ (by omega) (by omega) (x.trans h1.symm); omega
      · have := Y.inj _ _ (by omega) (by omega) (x.trans h2.symm); omega
      · have := Y.inj _ _ (by omega) (by omega) (x.trans h2.symm); omega
      · have := Y.inj _ _ (by omega) (by omega) (x.trans h1.symm); omega
    subst this
    omega
  · intro q
    have hx : pos r (2 * j + 1) = 2 * g ∨ pos r (2 * j + 1) = 2 * g + 1 := by omega
    have : j = k := by
      rcases hp with ⟨h1, h2⟩ | ⟨h1, h2⟩ <;> rcases hx with x | x
      · have := Y.inj _ _ (by omega) (by omega) (x.trans h1.symm); omega
      · have := Y.inj _ _ (by omega) (by omega) (x.trans h2.symm); omega
      · have := Y.inj _ _ (by omega) (by omega) (x.trans h2.symm); omega
      · have := Y.inj _ _ (by omega) (by omega) (x.trans h1.symm); omega
    subst this
    omega

section
variable {mk : Nat → Int} {o : Nat → Nat}

theorem mem_gaps {i g : Nat} : g ∈ (openG r).filter (fun g => decide (o g = i)) ↔ g < r.length + 1 ∧ numAt r (g + 1) ≠ numAt r g + 1 ∧ o g = i := by
  unfold openG
  rw [List.mem_filter, List.mem_filter, List.mem_range]
  simp [and_assoc]

/-- the tie of a point: its owner -/
theorem own_point (R : IsRow r) (O : Ow (r.length + 1) (gh (pos r)) (gf (pos r)) (spansL r) o) {v : Nat} (hv : v < 2 * (r.length + 1)) : o (pos r v / 2) = o (gh (pos r) (v / 2)) := by
  have Y := sys R
  have P := spans R
  have hk : v / 2 < r.length + 1 := by omega
  have hlt := Y.lt v hv
  by_cases e : v % 2 = 0
  · unfold gh
    rw [show 2 * (v / 2) = v by omega]
  · have gN : gh (pos r) (v / 2) < r.length + 1 := P.hh _ hk
    obtain ⟨Xl, Xo⟩ := O _ gN
    have t := own_tie hk Xo
    have e2 : gf (pos r) (v / 2) = pos r v / 2 := by
      unfold gf
      rw [show 2 * (v / 2) + 1 = v by omega]
    rw [e2] at t
    exact O.of P Xl t (by omega)

/-- ties of one owner are of one kind, and ties of one kind have one owner -/
theorem own_kind (R : IsRow r) (H : Kinds (r.length + 1) (pos r) mk) (O : Ow (r.length + 1) (gh (pos r)) (gf (pos r)) (spansL r) o) {j k : Nat} (hj : j < r.length + 1) (hk : k < r.length + 1) :
    mk j = mk k ↔ o (gh (pos r) j) = o (gh (pos r) k) := by
  have Y := sys R
  have P := spans R
  obtain ⟨jl, jo⟩ := O _ (P.hh j hj)
  obtain ⟨kl, ko⟩ := O _ (P.hh k hk)
  constructor
  · intro e
    exact (O.of P jl (H.owner hj hk e jo) (P.hh k hk)).symm
  · intro e
    rw [← e] at ko
    exact H.same Y hj hk jo ko

/-- the signs beside the gaps of a point -/
theorem sign_gap (R : IsRow r) {v g : Nat} (hv : v < 2 * (r.length + 1)) (hg : pos r v = 2 * g ∨ pos r v = 2 * g + 1) :
    neg (pos r) v = decide (numAt r g < 0) ∨ neg (pos r) v = decide (numAt r (g + 1) < 0) := by
  rcases hg with h | h
  · exact .inl (pos_place R hv (.inl h))
  · exact .inr (pos_place R hv (.inr ⟨by omega, by omega⟩))

/-- a tie is good just where its owner is a knot -/
theorem good_iff (R : IsRow r) (H : Kinds (r.length + 1) (pos r) mk) (O : Ow (r.length + 1) (gh (pos r)) (gf (pos r)) (spansL r) o) {v : Nat} (hv : v < 2 * (r.length + 1)) :
    GoodT r mk (v / 2) ↔ knB r o (o (pos r v / 2)) = true := by
  have Y := sys R
  have P := spans R
  have hk : v / 2 < r.length + 1 := by omega
  have hlt := Y.lt v hv
  have hgN : pos r v / 2 < r.length + 1 := by omega
  obtain ⟨Kl, Ko⟩ := O _ hgN
  have op := own_point R O hv
  have ends : ∀ k, pos r (2 * k) = tlo (pos r) k ∧ pos r (2 * k + 1) = thi (pos r) k ∨ pos r (2 * k) = thi (pos r) k ∧ pos r (2 * k + 1) = tlo (pos r) k := by
    intro k
    unfold tlo thi
    omega
  rw [knB_iff]
  constructor
  · rintro ⟨g1, g2⟩
    refine ⟨Kl, ?_, ?_⟩
    · -- the gap of the point is open
      have hop : numAt r (pos r v / 2 + 1) ≠ numAt r (pos r v / 2) + 1 := by
        intro hs
        obtain ⟨k, hk2, hp⟩ := (shut_iff R hgN).mp hs
        have hx : pos r v = 2 * (pos r v / 2) ∨ pos r v = 2 * (pos r v / 2) + 1 := by omega
        have : v / 2 = k := by
          rcases hp with ⟨h1, h2⟩ | ⟨h1, h2⟩ <;> rcases hx with x | x
          · have := Y.inj _ _ hv (by omega) (x.trans h1.symm); omega
          · have := Y.inj _ _ hv (by omega) (x.trans h2.symm); omega
          · have := Y.inj _ _ hv (by omega) (x.trans h2.symm); omega
          · have := Y.inj _ _ hv (by omega) (x.trans h1.symm); omega
        rw [this] at g1
        have := ends k
        omega
      intro e
      have hm : pos r v / 2 ∈ (openG r).filter (fun g => decide (o g = o (pos r v / 2))) := mem_gaps.mpr ⟨hgN, hop, rfl⟩
      rw [e] at hm
      cases hm
    · obtain ⟨s, hs⟩ := signs Y P O Kl (by
        intro k hk2 ok
        apply Classical.byContradiction
        intro hne
        refine g2 k hk2 hne ?_
        rw [own_kind R H O hk2 hk, ok, op])
      refine ⟨s, ?_⟩
      intro g hg
      obtain ⟨h1, h2, h3⟩ := mem_gaps.mp hg
      obtain ⟨a, ha, pa⟩ := Y.sur (2 * g) (by omega)
      obtain ⟨b, hb, pb⟩ := Y.sur (2 * g + 1) (by omega)
      have na := hs a ha (by rw [pa, show 2 * g / 2 = g by omega]; exact h3)
      have nb := hs b hb (by rw [pb, show (2 * g + 1) / 2 = g by omega]; exact h3)
      rw [pos_place R ha (.inl pa)] at na
      rw [pos_place R hb (p := g + 1) (.inr ⟨by omega, by omega⟩)] at nb
      exact ⟨na, nb⟩
  · rintro ⟨_, hne, s, hs⟩
    obtain ⟨g0, hg0⟩ : ∃ g0, g0 ∈ (openG r).filter (fun g => decide (o g = o (pos r v / 2))) := by
      cases e : (openG r).filter (fun g => decide (o g = o (pos r v / 2))) with
      | nil => exact absurd e hne
      | cons a t => exact ⟨a, by simp⟩
    obtain ⟨q1, q2, q3⟩ := mem_gaps.mp hg0
    have allopen : ∀ g, g < r.length + 1 → o g = o (pos r v / 2) → numAt r (g + 1) ≠ numAt r g + 1 := by
      intro g hg og hsh
      obtain ⟨_, Og⟩ := O g hg
      obtain ⟨_, O0⟩ := O g0 q1
      have hl := Og.least _ _ (shut_cl R hg hsh) (Nat.le_refl _) (by omega) (by omega)
      rw [og] at hl
      rw [q3] at O0
      have a1 := O0.le
      have a2 := O0.lt
      have : g0 = g := by omega
      rw [this] at q2
      exact q2 hsh
    constructor
    · apply Classical.byContradiction
      intro hle
      have hd : pos r (2 * (v / 2)) ≠ pos r (2 * (v / 2) + 1) := by
        intro e
        have := Y.inj _ _ (by omega) (by omega) e
        omega
      have en := ends (v / 2)
      have lth : tlo (pos r) (v / 2) ≤ thi (pos r) (v / 2) := by unfold tlo thi; omega
      by_cases ev : tlo (pos r) (v / 2) % 2 = 0
      · -- both points are of one gap
        have e2 : tlo (pos r) (v / 2) / 2 < r.length + 1 := by
          have := Y.lt (2 * (v / 2)) (by omega)
          have := Y.lt (2 * (v / 2) + 1) (by omega)
          omega
        have hsh := (shut_iff R e2).mpr ⟨v / 2, hk, by omega⟩
        refine allopen _ e2 ?_ hsh
        have : gh (pos r) (v / 2) = tlo (pos r) (v / 2) / 2 := by
          unfold gh
          omega
        rw [← this, ← op]
      · -- they would be of one number
        have hl1 := Y.lt (2 * (v / 2)) (by omega)
        have hl2 := Y.lt (2 * (v / 2) + 1) (by omega)
        obtain ⟨w, hw, pw⟩ := Y.sur (tlo (pos r) (v / 2)) (by omega)
        have hvv : w = 2 * (v / 2) ∨ w = 2 * (v / 2) + 1 := by
          rcases en with ⟨e1, e2⟩ | ⟨e1, e2⟩
          · exact .inl (Y.inj _ _ hw (by omega) (pw.trans e1.symm))
          · exact .inr (Y.inj _ _ hw (by omega) (pw.trans e2.symm))
        have w0 : w ≠ 0 := by
          intro e
          rw [e, Y.zero] at pw
          omega
        have wN : w ≠ 2 * (r.length + 1) - 1 := by
          intro e
          rw [e, Y.last] at pw
          omega
        obtain ⟨m, s1, s2, s3⟩ := Y.place ((w + 1) / 2) (by omega) (by omega)
        obtain ⟨u, hu, pu⟩ : ∃ u, u < 2 * (r.length + 1) ∧ pos r u = thi (pos r) (v / 2) := Y.sur _ (by omega)
        have huu : u = 2 * (v / 2) ∨ u = 2 * (v / 2) + 1 := by
          rcases en with ⟨e1, e2⟩ | ⟨e1, e2⟩
          · exact .inr (Y.inj _ _ hu (by omega) (pu.trans e2.symm))
          · exact .inl (Y.inj _ _ hu (by omega) (pu.trans e1.symm))
        have huw : u ≠ w := by
          intro e
          rw [e, pw] at pu
          omega
        -- the partner of w by its number stands beside it, too
        have hx : (w = 2 * ((w + 1) / 2) ∧ pos r (2 * ((w + 1) / 2) - 1) = thi (pos r) (v / 2)) ∨ (w = 2 * ((w + 1) / 2) - 1 ∧ pos r (2 * ((w + 1) / 2)) = thi (pos r) (v / 2)) := by
          by_cases e : w % 2 = 0
          · left
            have ew : 2 * ((w + 1) / 2) = w := by omega
            refine ⟨ew.symm, ?_⟩
            rw [ew, pw] at s3
            rw [ew]
            omega
          · right
            have ew : 2 * ((w + 1) / 2) - 1 = w := by omega
            refine ⟨ew.symm, ?_⟩
            rw [ew, pw] at s3
            omega
        rcases hx with ⟨e1, e2⟩ | ⟨e1, e2⟩
        · have := Y.inj _ _ (by omega) hu (e2.trans pu.symm)
          omega
        · have := Y.inj _ _ (by omega) hu (e2.trans pu.symm)
          omega
    · intro j hj hcr e
      rw [own_kind R H O hj hk, ← op] at e
      have ej := own_point R O (v := 2 * j + 1) (by omega)
      rw [show (2 * j + 1) / 2 = j by omega, e] at ej
      have gN := P.hh j hj
      have fN := P.hf j hj
      have m1 := hs _ (mem_gaps.mpr ⟨gN, allopen _ gN e, e⟩)
      have e3 : o (gf (pos r) j) = o (pos r v / 2) := ej
      have m2 := hs _ (mem_gaps.mpr ⟨fN, allopen _ fN e3, e3⟩)
      have t1 := sign_gap R (v := 2 * j) (g := gh (pos r) j) (by omega) (by unfold gh; omega)
      have t2 := sign_gap R (v := 2 * j + 1) (g := gf (pos r) j) (by omega) (by unfold gf; omega)
      rw [m1.1, m1.2] at t1
      rw [m2.1, m2.2] at t2
      apply hcr
      rcases t1 with t1 | t1 <;> rcases t2 with t2 | t2 <;> rw [t1, t2]

theorem labels_lab (R : IsRow r) (H : Kinds (r.length + 1) (pos r) mk) (O : Ow (r.length + 1) (gh (pos r)) (gf (pos r)) (spansL r) o) (h0 : ∀ k, k < r.length + 1 → 0 ≤ mk k)
    {LB : List Int} (L : Labels r mk LB) : Lab (r.length + 1) o (knB r o) (gOf LB) := by
  have Y := sys R
  have at_ : ∀ v, v < 2 * (r.length + 1) → (GoodT r mk (v / 2) → gOf LB (pos r v) = some (mk (v / 2))) ∧ (¬ GoodT r mk (v / 2) → gOf LB (pos r v) = none) := by
    intro v hv
    have hk : v / 2 < r.length + 1 := by omega
    have hp := h0 _ hk
    constructor
    · intro hg
      have := L.good _ hk hg
      by_cases e : v % 2 = 0
      · rw [show 2 * (v / 2) = v by omega] at this
        unfold gOf
        rw [this.1]
        simp [hp]
      · rw [show 2 * (v / 2) + 1 = v by omega] at this
        unfold gOf
        rw [this.2]
        simp [hp]
    · intro hg
      have := L.bad _ hk hg
      by_cases e : v % 2 = 0
      · rw [show 2 * (v / 2) = v by omega] at this
        unfold gOf
        rw [this.1]
        simp
      · rw [show 2 * (v / 2) + 1 = v by omega] at this
        unfold gOf
        rw [this.2]
        simp
  have is_ : ∀ x l, x < 2 * (r.length + 1) → gOf LB x = some l → ∃ v, v < 2 * (r.length + 1) ∧ pos r v = x ∧ GoodT r mk (v / 2) ∧ l = mk (v / 2) := by
    intro x l hx hl
    obtain ⟨v, hv, pv⟩ := Y.sur x hx
    obtain ⟨a1, a2⟩ := at_ v hv
    rw [pv, hl] at a1 a2
    by_cases e : GoodT r mk (v / 2)
    · exact ⟨v, hv, pv, e, Option.some.inj (a1 e)⟩
    · cases a2 e
  constructor
  · intro x l hx hl
    obtain ⟨v, hv, pv, hg, _⟩ := is_ x l hx hl
    rw [← pv]
    exact (good_iff R H O hv).mp hg
  · intro x hx hk
    obtain ⟨v, hv, pv⟩ := Y.sur x hx
    rw [← pv] at hk ⊢
    exact ⟨_, (at_ v hv).1 ((good_iff R H O hv).mpr hk)⟩
  · intro x y l m hx hy hl hm
    obtain ⟨v, hv, pv, _, e1⟩ := is_ x l hx hl
    obtain ⟨w, hw, pw, _, e2⟩ := is_ y m hy hm
    rw [e1, e2, own_kind R H O (by omega) (by omega), ← own_point R O hv, ← own_point R O hw, pv, pw]

/-- the costs are one -/
theorem costs (R : IsRow r) (H : Kinds (r.length + 1) (pos r) mk) (O : Ow (r.length + 1) (gh (pos r)) (gf (pos r)) (spansL r) o) (h0 : ∀ k, k < r.length + 1 → 0 ≤ mk k)
    {LB : List Int} (L : Labels r mk LB) {E legs : List Nat} (hE : E.Nodup)
    (mE : ∀ K, K ∈ E ↔ knB r o K = true ∧ Leaf (webM (spansL r)) (links (spansL r)) (KB.sideOf (le (spansL r)) (up (spansL r))) (knB r o) K)
    (hl : legs.length = E.length) (hL : ∀ (i K m : Nat), E[i]? = some K → legs[i]? = some m → LegRes (webM (spansL r)) (links (spansL r)) (KB.sideOf (le (spansL r)) (up (spansL r))) (knB r o) K m)
    {Hs : List Int} (hH : Hs.Nodup) (mH : ∀ x, x ∈ Hs ↔ hur (LB.filter (fun l => decide (0 ≤ l))) x) : cost legs = lawCost (LB.filter (fun l => decide (0 ≤ l))) Hs := by
  rw [word_of LB _ L.len] at mH ⊢
  refine cost_law (spans R) O ?_ (labels_lab R H O h0 L) hE mE hl hL hH mH
  intro u hu
  exact (knB_iff.mp hu).1

end

/-! ### rings -/
def adjT (r : List Int) (j k : Nat) : Prop := hinder r j = hinder r k ∨ hinder r j = fore r k ∨ fore r j = hinder r k ∨ fore r j = fore r k
def adjG (r : List Int) (p q : Nat) : Prop := ∃ k, k < r.length + 1 ∧ p = hinder r k ∧ q = fore r k
noncomputable def rings (r : List Int) : Nat := (reps (adjT r) (r.length + 1) (r.length + 1)).length

theorem hinder_lt (R : IsRow r) {k : Nat} (hk : k < r.length + 1) : hinder r k < r.length + 1 := by
  rw [← gh_eq R hk]
  exact (spans R).hh k hk
theorem fore_lt (R : IsRow r) {k : Nat} (hk : k < r.length + 1) : fore r k < r.length + 1 := by
  rw [← gf_eq R hk]
  exact (spans R).hf k hk

theorem adjT_symm {j k : Nat} (h : adjT r j k) : adjT r k j := by
  unfold adjT at h ⊢
  omega

theorem rings_marks (R : IsRow r) {mk : Nat → Int} (H : Marks (r.length + 1) (adjG r) mk) (L : List Int) (hL : L.Nodup) (mL : ∀ x, x ∈ L ↔ ∃ p, p < r.length + 1 ∧ mk p = x) :
    L.length = rings r := by
  have Y := sys R
  refine count_marks (n := r.length + 1) (adj := adjT r) H (hinder r) (fun k hk => hinder_lt R hk) ?_ ?_ L hL mL
  · intro j k hj hk
    constructor
    · intro h P hP
      have hinv : ∀ a, a < r.length + 1 → (P (hinder r a) ↔ P (fore r a)) := fun a ha => hP _ _ (hinder_lt R ha) (fore_lt R ha) ⟨a, ha, rfl, rfl⟩
      refine h (fun k => P (hinder r k)) ?_
      intro a b ha hb hab
      have ia := hinv a ha
      have ib := hinv b hb
      rcases hab with e | e | e | e
      · simp only [e]
      · simp only [e]; exact ib.symm
      · simp only [e] at ia; exact ia
      · rw [e] at ia; exact ia.trans ib.symm
    · intro h P hP
      have key := h (fun p => ∃ k, k < r.length + 1 ∧ (hinder r k = p ∨ fore r k = p) ∧ P k) (by
        rintro a b ha hb ⟨k, hk, rfl, rfl⟩
        constructor
        · rintro ⟨c, hc, h1, h2⟩
          refine ⟨k, hk, .inr rfl, (hP c k hc hk ?_).mp h2⟩
          unfold adjT
          omega
        · rintro ⟨c, hc, h1, h2⟩
          refine ⟨k, hk, .inl rfl, (hP c k hc hk ?_).mp h2⟩
          unfold adjT
          omega)
      have own : ∀ j, j < r.length + 1 → ((∃ k, k < r.length + 1 ∧ (hinder r k = hinder r j ∨ fore r k = hinder r j) ∧ P k) ↔ P j) := by
        intro j hj
        constructor
        · rintro ⟨c, hc, h1, h2⟩
          refine (hP c j hc hj ?_).mp h2
          unfold adjT
          omega
        · intro h
          exact ⟨j, hj, .inl rfl, h⟩
      exact (own j hj).symm.trans (key.trans (own k hk))
  · intro p hp
    obtain ⟨v, hv, pv⟩ := Y.sur (2 * p) (by omega)
    have hk : v / 2 < r.length + 1 := by omega
    refine ⟨v / 2, hk, ?_⟩
    by_cases e : v % 2 = 0
    · have : hinder r (v / 2) = p := by
        rw [← gh_eq R hk]
        unfold gh
        rw [show 2 * (v / 2) = v by omega]
        omega
      rw [this]
      exact Conn.refl p
    · have : fore r (v / 2) = p := by
        rw [← gf_eq R hk]
        unfold gf
        rw [show 2 * (v / 2) + 1 = v by omega]
        omega
      exact Conn.one (hinder_lt R hk) hp ⟨v / 2, hk, rfl, this.symm⟩

end
end KN
/-! Part O: the line of points, as the law lays it. -/
namespace KO
open KL KG KK

def linePair (x : Int) : List Nat := if x < 0 then [2 * x.natAbs, 2 * x.natAbs - 1] else [2 * x.natAbs - 1, 2 * x.natAbs]
def lineN (r : List Int) : List Nat := 0 :: (r.flatMap linePair ++ [2 * r.length + 1])
theorem pair_len (x : Int) : (linePair x).length = 2 := by
  unfold linePair
  split <;> rfl
theorem flat_get (f : Int → List Nat) (hf : ∀ x, (f x).length = 2) : ∀ (r : List Int) (j e : Nat), e < 2 → (r.flatMap f)[2 * j + e]? = (r[j]?).bind fun x => (f x)[e]? := by
  intro r
  induction r with
  | nil => intro j e _; rfl
  | cons x t ih =>
    intro j e he
    rw [List.flatMap_cons]
    cases j with
    | zero =>
      rw [List.getElem?_append_left (by rw [hf]; omega)]
      simp
    | succ j =>
      rw [List.getElem?_append_right (by rw [hf]; omega), hf, show 2 * (j + 1) + e - 2 = 2 * j + e by omega, ih j e he]
      rfl
theorem flat_len (f : Int → List Nat) (hf : ∀ x, (f x).length = 2) : ∀ r : List Int, (r.flatMap f).length = 2 * r.length := by
  intro r
  induction r with
  | nil => rfl
  | cons x t ih =>
    rw [List.flatMap_cons, List.length_append, hf, ih, List.length_cons]
    omega
theorem line_len (r : List Int) : (lineN r).length = 2 * (r.length + 1) := by
  unfold lineN
  rw [List.length_cons, List.length_append, flat_len _ pair_len, List.length_singleton]
  omega
theorem num_mid {r : List Int} {p : Nat} (h : p < r.length) : r[p]? = some (numAt r (p + 1)) := by
  unfold numAt nums
  rw [List.getD_eq_getElem?_getD, List.getElem?_cons_succ, List.getElem?_append_left h, List.getElem?_eq_getElem h]
  rfl
theorem line_odd {r : List Int} {p : Nat} (h : p < r.length) : (lineN r)[2 * (p + 1) - 1]? = (linePair (numAt r (p + 1)))[0]? := by
  unfold lineN
  have e := flat_get linePair pair_len r p 0 (by omega)
  rw [Nat.add_zero] at e
  rw [show 2 * (p + 1) - 1 = 2 * p + 1 by omega, List.getElem?_cons_succ, List.getElem?_append_left (by rw [flat_len _ pair_len]; omega), e, num_mid h]
  rfl
theorem line_even {r : List Int} {p : Nat} (h : p < r.length) : (lineN r)[2 * (p + 1)]? = (linePair (numAt r (p + 1)))[1]? := by
  unfold lineN
  rw [show 2 * (p + 1) = (2 * p + 1) + 1 by omega, List.getElem?_cons_succ, List.getElem?_append_left (by rw [flat_len _ pair_len]; omega), flat_get _ pair_len _ _ _ (by omega), num_mid h]
  rfl
theorem line_last (r : List Int) : (lineN r)[2 * r.length + 1]? = some (2 * r.length + 1) := by
  unfold lineN
  rw [List.getElem?_cons_succ, List.getElem?_append_right (by rw [flat_len _ pair_len]; omega), flat_len _ pair_len]
  simp

theorem line_pos {r : List Int} (R : IsRow r) {v : Nat} (hv : v < 2 * (r.length + 1)) : (lineN r)[pos r v]? = some v := by
  by_cases he : v % 2 = 0
  · obtain ⟨k, rfl⟩ : ∃ k, v = 2 * k := ⟨v / 2, by omega⟩
    have hk : k < r.length + 1 := by omega
    rw [pos_even]
    by_cases h0 : k = 0
    · subst h0
      rw [place_zero R, num_zero, if_neg (by decide)]
      rfl
    · have p1 := place_pos R (show 1 ≤ k by omega) (by omega)
      have p2 := place_mid R hk
      have pa := place_abs R (show k < r.length + 2 by omega)
      obtain ⟨p, hp⟩ : ∃ p, place r k = p + 1 := ⟨place r k - 1, by omega⟩
      rw [hp] at p1 p2 pa ⊢
      have hpl : p < r.length := by omega
      by_cases hn : numAt r (p + 1) < 0
      · rw [if_pos hn, line_odd hpl]
        unfold linePair
        rw [if_pos hn, pa]
        rfl
      · rw [if_neg hn, line_even hpl]
        unfold linePair
        rw [if_neg hn, pa]
        rfl
  · obtain ⟨k, rfl⟩ : ∃ k, v = 2 * k + 1 := ⟨v / 2, by omega⟩
    have hk : k < r.length + 1 := by omega
    rw [pos_odd]
    by_cases h0 : k = r.length
    · subst h0
      rw [place_last R, num_last, if_neg (by omega), show 2 * (r.length + 1) - 1 = 2 * r.length + 1 by omega]
      exact line_last r
    · have p1 := place_pos R (show 1 ≤ k + 1 by omega) (by omega)
      have p2 := place_mid R (show k + 1 < r.length + 1 by omega)
      have pa := place_abs R (show k + 1 < r.length + 2 by omega)
      obtain ⟨p, hp⟩ : ∃ p, place r (k + 1) = p + 1 := ⟨place r (k + 1) - 1, by omega⟩
      rw [hp] at p1 p2 pa ⊢
      have hpl : p < r.length := by omega
      by_cases hn : numAt r (p + 1) < 0
      · rw [if_pos hn, line_even hpl]
        unfold linePair
        rw [if_pos hn, pa]
        show some (2 * (k + 1) - 1) = _
        congr 1
      · rw [if_neg hn, line_odd hpl]
        unfold linePair
        rw [if_neg hn, pa]
        show some (2 * (k + 1) - 1) = _
        congr 1

/-- the spots so far -/
def SP (r : List Int) (i : Nat) : List Nat := (List.range (2 * (r.length + 1))).map fun v => if pos r v < i then pos r v else 0
def spotsL (r : List Int) : List Nat := (List.range (2 * (r.length + 1))).map (pos r)
theorem sp_len (r : List Int) (i : Nat) : (SP r i).length = 2 * (r.length + 1) := by simp [SP]
theorem sp_zero (r : List Int) : SP r 0 = List.replicate (2 * (r.length + 1)) 0 := by
  unfold SP
  apply List.ext_getElem?
  intro m
  rw [List.getElem?_map, List.getElem?_replicate]
  by_cases h : m < 2 * (r.length + 1)
  · rw [List.getElem?_range h, if_pos h]
    rfl
  · rw [List.getElem?_eq_none (by simpa using h), if_neg h]
    rfl
theorem sp_set {r : List Int} (R : IsRow r) {i v : Nat} (hi : i < 2 * (r.length + 1)) (hv : (lineN r)[i]? = some v) : v < 2 * (r.length + 1) ∧ (SP r i).set v i = SP r (i + 1) := by
  have Y := sys R
  obtain ⟨u, hu, hp⟩ := Y.sur i hi
  have := line_pos R hu
  rw [hp, hv] at this
  cases this
  refine ⟨hu, ?_⟩
  apply List.ext_getElem?
  intro m
  unfold SP
  rw [List.getElem?_set, List.getElem?_map, List.getElem?_map, List.length_map, List.length_range]
  by_cases e : v = m
  · subst e
    rw [if_pos rfl, if_pos hu, List.getElem?_range hu]
    show some i = some (if pos r v < i + 1 then pos r v else 0)
    rw [hp, if_pos (by omega)]
  · rw [if_neg e]
    by_cases hm : m < 2 * (r.length + 1)
    · rw [List.getElem?_range hm]
      have hne : pos r m ≠ i := fun q => e (Y.inj v m hu hm (hp.trans q.symm))
      show some (if pos r m < i then pos r m else 0) = some (if pos r m < i + 1 then pos r m else 0)
      by_cases q : pos r m < i
      · rw [if_pos q, if_pos (by omega)]
      · rw [if_neg q, if_neg (by omega)]
    · rw [List.getElem?_eq_none (by simpa using hm)]
      rfl
theorem sp_end {r : List Int} (R : IsRow r) : SP r (2 * (r.length + 1)) = spotsL r := by
  unfold SP spotsL
  apply List.map_congr_left
  intro v hv
  rw [if_pos ((sys R).lt v (List.mem_range.mp hv))]
end KO
/-! Part P: signs, turned marks, labels. -/
namespace KP
open KL KG KH KN KK

def signsL (r : List Int) : List Int := 0 :: (r ++ [0])
theorem mem_signs {r : List Int} {x : Int} : x ∈ signsL r ↔ x = 0 ∨ x ∈ r := by
  unfold signsL
  rw [List.mem_cons, List.mem_append, List.mem_singleton]
  constructor
  · rintro (h | h | h)
    · exact .inl h
    · exact .inr h
    · exact .inl h
  · rintro (h | h)
    · exact .inl h
    · exact .inr (.inl h)
theorem signs_neg {r : List Int} (R : IsRow r) {m : Nat} (h1 : 1 ≤ m) (hm : m < r.length + 2) : (∃ x, x ∈ signsL r ∧ x.natAbs = m ∧ x < 0) ↔ numAt r (place r m) < 0 := by
  have hp := place_lt R hm
  have pa := place_abs R hm
  constructor
  · rintro ⟨x, hx, ha, hn⟩
    rcases mem_signs.mp hx with h | h
    · omega
    · obtain ⟨p, hpl, e⟩ := List.getElem_of_mem h
      have e2 := KO.num_mid hpl
      rw [List.getElem?_eq_getElem hpl, e] at e2
      have e3 : numAt r (p + 1) = x := (Option.some.inj e2).symm
      have := abs_place R (show p + 1 < r.length + 2 by omega)
      rw [e3, ha] at this
      rw [this, e3]
      exact hn
  · intro hn
    have nl := neg_last hn
    have p1 : 1 ≤ place r m := by omega
    have p2 : place r m - 1 < r.length := by omega
    have e2 := KO.num_mid p2
    rw [show place r m - 1 + 1 = place r m by omega] at e2
    exact ⟨numAt r (place r m), mem_signs.mpr (.inr (List.mem_of_getElem? e2)), pa, hn⟩

def trn (r : List Int) (k : Nat) : Bool := neg (pos r) (2 * k) != neg (pos r) (2 * k + 1)
def TL (r : List Int) (mk : Nat → Int) (n : Nat) : List Int := ((List.range n).filter (trn r)).map mk
theorem mem_TL {r : List Int} {mk : Nat → Int} {n : Nat} {x : Int} : x ∈ TL r mk n ↔ ∃ j, j < n ∧ trn r j = true ∧ mk j = x := by
  unfold TL
  rw [List.mem_map]
  constructor
  · rintro ⟨j, hj, e⟩
    obtain ⟨h1, h2⟩ := List.mem_filter.mp hj
    exact ⟨j, List.mem_range.mp h1, h2, e⟩
  · rintro ⟨j, h1, h2, e⟩
    exact ⟨j, List.mem_filter.mpr ⟨List.mem_range.mpr h1, h2⟩, e⟩
theorem good_iff {r : List Int} {mk : Nat → Int} {k : Nat} : GoodT r mk k ↔ 1 < thi (pos r) k - tlo (pos r) k ∧ mk k ∉ TL r mk (r.length + 1) := by
  unfold GoodT
  refine and_congr Iff.rfl ?_
  rw [mem_TL]
  constructor
  · rintro h ⟨j, hj, ht, e⟩
    refine h j hj ?_ e
    unfold trn at ht
    exact bne_iff_ne.mp ht
  · intro h j hj ht e
    exact h ⟨j, hj, bne_iff_ne.mpr ht, e⟩

structure LabI (r : List Int) (mk : Nat → Int) (LB : List Int) (i : Nat) : Prop where
  len : LB.length = 2 * (r.length + 1)
  good : ∀ k, k < r.length + 1 → k < i → GoodT r mk k → LB[pos r (2 * k)]? = some (mk k) ∧ LB[pos r (2 * k + 1)]? = some (mk k)
  bad : ∀ k, k < r.length + 1 → (i ≤ k ∨ ¬ GoodT r mk k) → LB[pos r (2 * k)]? = some (-1) ∧ LB[pos r (2 * k + 1)]? = some (-1)
theorem lab_start {r : List Int} (R : IsRow r) (mk : Nat → Int) : LabI r mk (List.replicate (2 * (r.length + 1)) (-1)) 0 := by
  have Y := sys R
  refine ⟨by simp, fun k _ h => absurd h (Nat.not_lt_zero k), fun k hk _ => ?_⟩
  have a := Y.lt (2 * k) (by omega)
  have b := Y.lt (2 * k + 1) (by omega)
  rw [List.getElem?_replicate, List.getElem?_replicate, if_pos a, if_pos b]
  exact ⟨rfl, rfl⟩
theorem lab_no {r : List Int} {mk : Nat → Int} {LB : List Int} {i : Nat} (L : LabI r mk LB i) (h : ¬ GoodT r mk i) : LabI r mk LB (i + 1) := by
  refine ⟨L.len, fun k hk hi g => ?_, fun k hk hc => L.bad k hk ?_⟩
  · by_cases e : k = i
    · subst e
      exact absurd g h
    · exact L.good k hk (by omega) g
  · rcases hc with hc | hc
    · exact .inl (by omega)
    · exact .inr hc
theorem lab_yes {r : List Int} (R : IsRow r) {mk : Nat → Int} {LB : List Int} {i : Nat} (hi : i < r.length + 1) (L : LabI r mk LB i) (h : GoodT r mk i) :
    LabI r mk ((LB.set (tlo (pos r) i) (mk i)).set (thi (pos r) i) (mk i)) (i + 1) := by
  have Y := sys R
  have a := Y.lt (2 * i) (by omega)
  have b := Y.lt (2 * i + 1) (by omega)
  have at_ : ∀ x, x < 2 * (r.length + 1) → ((LB.set (tlo (pos r) i) (mk i)).set (thi (pos r) i) (mk i))[x]? = if x = pos r (2 * i) ∨ x = pos r (2 * i + 1) then some (mk i) else LB[x]? := by
    intro x hx
    rw [List.getElem?_set, List.getElem?_set, List.length_set, L.len]
    unfold tlo thi
    by_cases e1 : max (pos r (2 * i)) (pos r (2 * i + 1)) = x
    · rw [if_pos e1, if_pos (by omega), if_pos (by omega)]
    · rw [if_neg e1]
      by_cases e2 : min (pos r (2 * i)) (pos r (2 * i + 1)) = x
      · rw [if_pos e2, if_pos (by omega), if_pos (by omega)]
      · rw [if_neg e2, if_neg (by omega)]
  have ne : ∀ k, k < r.length + 1 → k ≠ i → ¬ (pos r (2 * k) = pos r (2 * i) ∨ pos r (2 * k) = pos r (2 * i + 1)) ∧ ¬ (pos r (2 * k + 1) = pos r (2 * i) ∨ pos r (2 * k + 1) = pos r (2 * i + 1)) := by
    intro k hk hne
    refine ⟨?_, ?_⟩
    · rintro (e | e)
      · have := Y.inj _ _ (by omega) (by omega) e
        omega
      · have := Y.inj _ _ (by omega) (by omega) e
        omega
    · rintro (e | e)
      · have := Y.inj _ _ (by omega) (by omega) e
        omega
      · have := Y.inj _ _ (by omega) (by omega) e
        omega
  refine ⟨by rw [List.length_set, List.length_set]; exact L.len, fun k hk hki g => ?_, fun k hk hc => ?_⟩
  · rw [at_ _ (Y.lt (2 * k) (by omega)), at_ _ (Y.lt (2 * k + 1) (by omega))]
    by_cases e : k = i
    · subst e
      rw [if_pos (.inl rfl), if_pos (.inr rfl)]
      exact ⟨rfl, rfl⟩
    · rw [if_neg (ne k hk e).1, if_neg (ne k hk e).2]
      exact L.good k hk (by omega) g
  · have e : k ≠ i := by
      intro e
      subst e
      rcases hc with hc | hc
      · omega
      · exact hc h
    rw [at_ _ (Y.lt (2 * k) (by omega)), at_ _ (Y.lt (2 * k + 1) (by omega)), if_neg (ne k hk e).1, if_neg (ne k hk e).2]
    refine L.bad k hk ?_
    rcases hc with hc | hc
    · exact .inl (by omega)
    · exact .inr hc
theorem lab_end {r : List Int} {mk : Nat → Int} {LB : List Int} (L : LabI r mk LB (r.length + 1)) : Labels r mk LB :=
  ⟨L.len, fun k hk g => L.good k hk hk g, fun k hk g => L.bad k hk (.inr g)⟩
theorem sort_two {x y : Int} {l : List Int} (h : l.Perm [x, y]) (s : l.Pairwise (· ≤ ·)) : l = [min x y, max x y] := by
  match l, h, s with
  | [u, v], h, s =>
    have huv : u ≤ v := by
      have := (List.pairwise_cons.mp s).1 v (by simp)
      exact this
    have hu := h.mem_iff (a := u)
    have hv := h.mem_iff (a := v)
    have hx := h.mem_iff (a := x)
    have hy := h.mem_iff (a := y)
    simp only [List.mem_cons, List.not_mem_nil, or_false, true_or, or_true, true_iff, iff_true] at hu hv hx hy
    have e1 : u = min x y := by omega
    have e2 : v = max x y := by omega
    rw [e1, e2]
  | [], h, _ => exact absurd h.length_eq (by simp)
  | [_], h, _ => exact absurd h.length_eq (by simp)
  | _ :: _ :: _ :: _, h, _ => exact absurd h.length_eq (by simp)
end KP
/-! The walk, A: the text by its places; words for data in the heap. -/
namespace WA
open PySem PySem.Spec PyProof.Rows L2 Evl

def topS (i : Nat) : Stmt := PySem.Challenge.pw_claspwork_k48_whole_score_by_crossing_ti.main.body.getD i (.Pass ⟨0, 0, 0, 0⟩)
/-! ### lists of numbers as values -/
def intsV (l : List Int) : List V := l.map V.int
def natsV (l : List Nat) : List V := l.map fun (n : Nat) => V.int (n : Int)
theorem nats_ints (l : List Nat) : natsV l = (l.map fun (n : Nat) => (n : Int)).map V.int := by
  unfold natsV
  rw [List.map_map]
  rfl
theorem ints_len (l : List Int) : (intsV l).length = l.length := List.length_map _
theorem nats_len (l : List Nat) : (natsV l).length = l.length := List.length_map _
theorem ints_get {l : List Int} {i : Nat} {x : Int} (h : l[i]? = some x) : (intsV l)[i]? = some (.int x) := by
  unfold intsV
  rw [List.getElem?_map, h]
  rfl
theorem nats_get {l : List Nat} {i x : Nat} (h : l[i]? = some x) : (natsV l)[i]? = some (.int (x : Int)) := by
  unfold natsV
  rw [List.getElem?_map, h]
  rfl
theorem same_upd {H : Hp} {p : Addr} {o : HO} (h : H p = none) : Same H (upd H p o) := fun b x e => by
  rw [upd_ne (ne_of_none e h)]
  exact e
theorem Same.put {H H' : Hp} {p : Addr} {o : HO} (s : Same H H') (h : H p = none) : Same H (upd H' p o) := fun b x e => by
  rw [upd_ne (ne_of_none e h)]
  exact s b x e
theorem sameT {K : PySem.W.Frag} {H H' : Hp} {a : Addr} {xs : List V} (e : Same H H') (h : SqT K H a xs) : SqT K H' a xs := by
  rcases h with (h | ⟨o, h⟩) | h
  · exact .inl (.inl (e _ _ h))
  · exact .inl (.inr ⟨o, e _ _ h⟩)
  · exact .inr h
theorem line_ok {n : Nat} (h : n ≤ 100000) : n ≤ sizeLine := Nat.le_trans h (by decide)
theorem line_lt {n : Nat} (h : n < 100000) : n < sizeLine := Nat.lt_of_lt_of_le h (by decide)

/-- the names that no def takes -/
structure Bi (mg : Str → Option Value) : Prop where
  m_len : mg "len" = none
  m_range : mg "range" = none
  m_enumerate : mg "enumerate" = none
  m_abs : mg "abs" = none
  m_min : mg "min" = none
  m_max : mg "max" = none
  m_sorted : mg "sorted" = none
  m_list : mg "list" = none
  m_tuple : mg "tuple" = none
  m_reversed : mg "reversed" = none
  m_set : mg "set" = none
  m_isinstance : mg "isinstance" = none
  m_int : mg "int" = none
  m_bool : mg "bool" = none
/-- a def is there and keeps its promise -/
def Has (P : Program) (w : World) (K : PySem.W.Frag) (mg : Str → Option Value) (base : Heap) (n : Nat) (name : Str) (ps : List Str) (sp : Sp) : Prop :=
  ∃ (f : Addr) (fd : FuncData), FnOk P w K mg base CX0 n f fd ps sp ∧ PySem.W.keepIn K (.ref f) = true ∧ Binds K fd ps [] ∧ mg name = some (.ref f)
def rTup (K : PySem.W.Frag) : List V → Hp → VK → Prop := fun xs H Q => ∃ p ys, xs = [.ref p] ∧ ((SqL K H p ys ∧ ∀ l, H l = none → Q (.ref l) (upd H l (.tup ys))) ∨ (SqT K H p ys ∧ Q (.ref p) H))
def rInt1 : List V → Hp → VK → Prop := fun xs H Q => (∃ i, xs = [.int i] ∧ Q (.int i) H) ∨ ∃ k, xs = [.bl k] ∧ Q (.int (if k then 1 else 0)) H
theorem room_u {k : Nat} {A : Around} (r : Room k A) : A.units + 1 < cLine := by
  have := r.units
  omega
theorem ifT {b : Bool} {P Q : Prop} (h : b = true) (p : P) : if b = true then P else Q := by
  rw [if_pos h]
  exact p
theorem ifF {b : Bool} {P Q : Prop} (h : b = false) (p : Q) : if b = true then P else Q := by
  rw [if_neg (by rw [h]; exact Bool.false_ne_true)]
  exact p
/-- all that is no open list stays -/
def NL (H H' : Hp) : Prop := ∀ a o, H a = some o → (∀ xs, o ≠ .lst xs) → H' a = some o
theorem NL.of {H H' : Hp} (s : Same H H') : NL H H' := fun a o h _ => s a o h
theorem NL.refl (H : Hp) : NL H H := fun _ _ h _ => h
theorem NL.trans {H H' H2 : Hp} (s : NL H H') (t : NL H' H2) : NL H H2 := fun a o h k => t a o (s a o h k) k
theorem NL.put {H : Hp} {p : Addr} {xs : List V} {o : HO} (h : H p = some (.lst xs)) : NL H (upd H p o) := fun a u e k => by
  by_cases q : a = p
  · subst q
    rw [h] at e
    cases e
    exact absurd rfl (k xs)
  · rw [upd_ne q]
    exact e
theorem NL.sq {K : PySem.W.Frag} {H H' : Hp} {a : Addr} {xs : List V} (e : NL H H') (h : SqT K H a xs) : SqT K H' a xs := by
  rcases h with (h | ⟨o, h⟩) | h
  · exact .inl (.inl (e _ _ h (fun _ q => by cases q)))
  · exact .inl (.inr ⟨o, e _ _ h (fun _ q => by cases q)⟩)
  · exact .inr h

theorem walk_rng0 {n : Nat} : Walk (Itr 0 n) n (fun _ => True) (YFn fun i => V.int (i : Int)) :=
  (walk_range (lo := 0) (n := n)).mono (fun _ h => h) (fun i H x H' _ _ y => ⟨y.1, by rw [y.2]; show V.int (0 + (i : Int)) = V.int (i : Int); rw [Int.zero_add]⟩)
theorem walk_rngN {m n : Nat} : Walk (Itr ((m : Nat) : Int) n) n (fun _ => True) (YFn fun i => V.int ((m + i : Nat) : Int)) :=
  (walk_range (lo := (m : Int)) (n := n)).mono (fun _ h => h) (fun i H x H' _ _ y => ⟨y.1, by rw [y.2]; show V.int ((m : Int) + (i : Int)) = V.int ((m + i : Nat) : Int); rw [Int.natCast_add]⟩)
theorem nabs (z : Int) : (if z < 0 then -z else z) = (z.natAbs : Int) := by split <;> omega
/-! ### lists of pairs of numbers -/
def Pairs (K : PySem.W.Frag) (H : Hp) (xs : List V) (ps : List (Nat × Nat)) : Prop :=
  xs.length = ps.length ∧ ∀ (i : Nat) x p, xs[i]? = some x → ps[i]? = some p → ∃ t, x = V.ref t ∧ SqT K H t [.int (p.1 : Int), .int (p.2 : Int)]
theorem Pairs.mono {K : PySem.W.Frag} {H H' : Hp} {xs : List V} {ps : List (Nat × Nat)} (h : Pairs K H xs ps) (s : Same H H') : Pairs K H' xs ps :=
  ⟨h.1, fun i x p hx hp => by
    obtain ⟨t, e, q⟩ := h.2 i x p hx hp
    exact ⟨t, e, sameT s q⟩⟩
theorem Pairs.nl {K : PySem.W.Frag} {H H' : Hp} {xs : List V} {ps : List (Nat × Nat)} (h : Pairs K H xs ps) (s : NL H H') : Pairs K H' xs ps :=
  ⟨h.1, fun i x p hx hp => by
    obtain ⟨t, e, q⟩ := h.2 i x p hx hp
    exact ⟨t, e, s.sq q⟩⟩
theorem Pairs.nil {K : PySem.W.Frag} {H : Hp} : Pairs K H [] [] := ⟨rfl, fun i x p h => by simp at h⟩
theorem Pairs.snoc {K : PySem.W.Frag} {H : Hp} {xs : List V} {ps : List (Nat × Nat)} (h : Pairs K H xs ps) {t : Addr} {p : Nat × Nat} (q : SqT K H t [.int (p.1 : Int), .int (p.2 : Int)]) : Pairs K H (xs ++ [.ref t]) (ps ++ [p]) := by
  refine ⟨by simp [h.1], fun i x p' hx hp => ?_⟩
  by_cases e : i < xs.length
  · rw [List.getElem?_append_left e] at hx
    rw [List.getElem?_append_left (by rw [← h.1]; exact e)] at hp
    exact h.2 i x p' hx hp
  · have hi : i < (xs ++ [V.ref t]).length := (List.getElem?_eq_some_iff.mp hx).1
    simp only [List.length_append, List.length_singleton] at hi
    have ei : i = xs.length := by omega
    subst ei
    rw [List.getElem?_concat_length] at hx
    rw [h.1, List.getElem?_concat_length] at hp
    cases hx
    cases hp
    exact ⟨t, rfl, q⟩
theorem Pairs.get {K : PySem.W.Frag} {H : Hp} {xs : List V} {ps : List (Nat × Nat)} (h : Pairs K H xs ps) {i : Nat} {p : Nat × Nat} (hp : ps[i]? = some p) :
    ∃ t, xs[i]? = some (V.ref t) ∧ SqT K H t [.int (p.1 : Int), .int (p.2 : Int)] := by
  have hi : i < xs.length := by
    rw [h.1]
    exact (List.getElem?_eq_some_iff.mp hp).1
  obtain ⟨t, e, q⟩ := h.2 i xs[i] p (List.getElem?_eq_getElem hi) hp
  exact ⟨t, by rw [List.getElem?_eq_getElem hi, e], q⟩
end WA
namespace WB
open PySem PySem.Spec PyProof.Rows L2 WA KL

abbrev sFramed : Stmt := topS 1
abbrev sOpen : Stmt := topS 2
theorem scFramed : FnScope ["row"] ["row"] (defScope sFramed) := ⟨rfl, rfl, rfl, by decide +kernel, rfl, by decide +kernel, by decide +kernel⟩
theorem scOpen : FnScope ["row", "numbers", "gap"] ["row"] (defScope sOpen) := ⟨rfl, rfl, rfl, by decide +kernel, rfl, by decide +kernel, by decide +kernel⟩

section
variable {P : Program} {w : World} {K : PySem.W.Frag} {mg : Str → Option Value} {base : Heap}

def spFramed (K : PySem.W.Frag) : Sp := fun vs H Q _ => ∃ (a : Addr) (r : List Int), vs = [.ref a] ∧ SqT K H a (intsV r) ∧ r.length ≤ 40 ∧
  ∀ H' p, Same H H' → H p = none → H' p = some (.tup (intsV (nums r))) → Q (.ref p) H'

theorem ok_framed {f : Addr} {fd : FuncData} (F : Fun K "framed" "framed" sFramed f fd) (ml : mg "len" = none) : FnOk P w K mg base CX0 1 f fd ["row"] (spFramed K) := by
  refine F.ok scFramed (fun vs H Q E h => ?_) (fun cdv A outer s H vs Q E hr h => ?_)
  · obtain ⟨a, r, rfl, _⟩ := h
    rfl
  · obtain ⟨a, r, rfl, hT, hlen, q⟩ := h
    refine ⟨_, pss_one (ps_ret (pe_op op_catA (pe_op op_catA (pe_tup (pa_cons pe_int pa_nil)) (pv 0))
      (pe_tup (pa_cons (pe_op op_add (pe_callB call_len_seq (by rfl) ml PySem.boot_len (pa_cons (pv 0) pa_nil)) pe_int) pa_nil)))), ?_⟩
    -- (0,) + row
    refine ⟨by show 1 ≤ sizeLine; decide, fun p1 n1 => ?_⟩
    have s1 : Same H (upd H p1 (.tup [.int 0])) := same_upd n1
    refine ⟨.ref a, rfl, p1, a, [.int 0], intsV r, rfl, rfl, .inl (.inl upd_same), sameT s1 hT, ?_, (fun e => nomatch e), fun _ e => ?_, fun _ e p2 n2 => ?_⟩
    · rw [ints_len]; exact line_ok (by show 1 + r.length ≤ 100000; omega)
    · -- an empty row
      have er : r = [] := by
        cases r with
        | nil => rfl
        | cons x t => cases e
      subst er
      refine ⟨.ref a, rfl, a, [], rfl, .inr (sameT s1 hT), _, _, rfl, rfl, line_ok (by show 1 ≤ 100000; decide), fun p2 n2 => ?_⟩
      have s2 := same_upd (o := HO.tup [V.int (((([] : List V).length : Nat) : Int) + 1)]) n2
      refine ⟨p1, p2, [.int 0], _, rfl, rfl, .inl (.inl (s2 _ _ upd_same)), .inl (.inl upd_same), line_ok (by show 2 ≤ 100000; decide), (fun e => nomatch e), (fun _ e => nomatch e), fun _ _ p3 n3 => ?_⟩
      exact q _ p3 ((s1.trans s2).trans (same_upd n3)) ((s1.trans s2).free n3) upd_same
    · have s2 : Same (upd H p1 (.tup [.int 0])) (upd (upd H p1 (.tup [.int 0])) p2 (.tup ([.int 0] ++ intsV r))) := same_upd n2
      refine ⟨.ref a, rfl, a, intsV r, rfl, .inr (sameT s2 (sameT s1 hT)), _, _, rfl, rfl, line_ok (by show 1 ≤ 100000; decide), fun p3 n3 => ?_⟩
      have s3 := same_upd (o := HO.tup [V.int (((intsV r).length : Nat) + 1)]) n3
      refine ⟨p2, p3, _, _, rfl, rfl, .inl (.inl (s3 _ _ upd_same)), .inl (.inl upd_same), ?_, (fun e => nomatch e), (fun _ e => nomatch e), fun _ _ p4 n4 => ?_⟩
      · rw [List.length_append, ints_len]
        exact line_ok (by show 1 + r.length + 1 ≤ 100000; omega)
      · refine q _ p4 (((s1.trans s2).trans s3).trans (same_upd n4)) (((s1.trans s2).trans s3).free n4) ?_
        rw [upd_same, ints_len]
        show _ = some (HO.tup (V.int 0 :: (r ++ [(r.length : Int) + 1]).map V.int))
        rw [List.map_append]
        rfl

def spOpenGaps (K : PySem.W.Frag) : Sp := fun vs H Q _ => ∃ (a : Addr) (r : List Int), vs = [.ref a] ∧ SqT K H a (intsV r) ∧ r.length ≤ 40 ∧
  ∀ H' p, Same H H' → H p = none → H' p = some (.lst (natsV (KN.openG r))) → Q (.ref p) H'

theorem ok_open {f fF : Addr} {fd fdF : FuncData} (F : Fun K "open_gaps" "open_gaps" sOpen f fd) (GF : FnOk P w K mg base CX0 1 fF fdF ["row"] (spFramed K)) (kF : PySem.W.keepIn K (.ref fF) = true) (bF : Binds K fdF ["row"] []) (gF : mg "framed" = some (.ref fF))
    (ml : mg "len" = none) (mr : mg "range" = none) : FnOk P w K mg base CX0 2 f fd ["row"] (spOpenGaps K) := by
  refine F.ok scOpen (fun vs H Q E h => ?_) (fun cdv A outer s H vs Q E hr h => ?_)
  · obtain ⟨a, r, rfl, _⟩ := h
    rfl
  · obtain ⟨a, r, rfl, hT, hlen, q⟩ := h
    refine ⟨_, pss_cons (ps_set (i := 1) scOpen.nd rfl (.inr rfl) (pe_call GF hr (by rfl) gF kF bF .nil pass0 (pa_cons (pv 0) pa_nil)))
      (pss_one (ps_ret (pe_lc (own := [("gap", 2)]) (g := gName 2) (by rfl) scOpen.nd (pi_range1 rfl mr (pa_cons (pe_op op_sub (pe_callB call_len_seq (by rfl) ml PySem.boot_len (pa_cons (pv 1) pa_nil)) pe_int) pa_nil))
        (blkOk_by (own := [("gap", 2)]) (N := ["row", "numbers", "gap"]) (sc := defScope sOpen) (by decide +kernel)) (fun _ _ _ _ _ => pg_name (i := 2) scOpen.nd rfl (Or.inl rfl))
        (fun _ _ _ _ _ => pts_one (pt_cmpR op_ne (pe_ix (r := rIxT K) ix_tup (pv 1) (pe_op op_add (pv 2) pe_int) (fun _ _ => rfl)) (pe_op op_add (pe_ix (r := rIxT K) ix_tup (pv 1) (pv 2) (fun _ _ => rfl)) pe_int) (nomark _)))
        (fun _ _ _ _ _ => pv 2)))), ?_⟩
    refine ⟨.ref a, rfl, a, r, rfl, hT, hlen, fun H1 p1 s1 n1 h1 => ?_⟩
    dsimp only [gName]
    refine Evl.s_retL (xs := natsV (KN.openG r)) ?_ ?_
    case refine_2 => exact fun p H2 np e2 hp => q H2 p (s1.trans e2) (s1.free np) hp
    have hT1 : SqT K H1 p1 (intsV (nums r)) := .inl (.inl h1)
    have hl : (intsV (nums r)).length = r.length + 2 := by rw [ints_len, nums_len]
    have at_ : ∀ g : Nat, g < r.length + 2 → atI (intsV (nums r)) (g : Int) = some (.int (numAt r g)) := fun g hg => atI_nat (ints_get (numAt_get hg))
    have e : natsV (KN.openG r) = Evl.given ((r.length : Int) + 1).toNat (fun g => decide (numAt r (g + 1) ≠ numAt r g + 1)) (fun g => V.int (g : Int)) := rfl
    rw [e]
    refine Evl.el_lcR1 (n := (r.length : Int) + 1) _ _ (fun H2 e2 Q2 q2 => ?_) (by omega) (fun x => rfl) (fun i H2 e2 hi => ?_) (fun i H2 e2 hi hf => ?_)
    · refine ⟨_, rfl, p1, _, rfl, .inr (sameT e2 hT1), _, _, rfl, rfl, ?_⟩
      rw [hl]
      show Q2 [V.int (((r.length + 2 : Nat) : Int) - 1)] H2
      rw [show ((r.length + 2 : Nat) : Int) - 1 = (r.length : Int) + 1 by omega]
      exact q2 H2 (Evl.Ex.refl _)
    · intro H3 e3 Q3 q3
      have hT3 := sameT e3 (sameT e2 hT1)
      refine ⟨_, rfl, _, rfl, _, _, rfl, rfl, p1, _, _, _, rfl, rfl, hT3, at_ (i + 1) (by omega), ?_⟩
      refine ⟨_, rfl, _, rfl, p1, _, _, _, rfl, rfl, hT3, at_ i (by omega), _, _, rfl, rfl, rfl, _, ?_, q3 H3 (Evl.Ex.refl _)⟩
      rw [dec_int]
      by_cases h : numAt r (i + 1) = numAt r i + 1
      · simp [h]
      · simp [h]
    · exact Evl.ev_var rfl
end
end WB
/-! A rule that the hand layer has not: for i, x in enumerate(t), t a tuple. -/
namespace WR1
open PySem PySem.Spec PyProof.Rows L2

theorem newT (t : Addr) (vals : Array Value) :
    Meets (Builtin.«enumerate.__new__» ⟨[.type "enumerate", .ref t], []⟩) (fun _ R s => s.heap.IsTuple t vals ∧
      R (.ok (.ret (.ref (s.heap.push { cls := .type "tuple_iterator", data := .fields #[.ref t, .int 0 0] }).objs.size)))
        { s with heap := (s.heap.push { cls := .type "tuple_iterator", data := .fields #[.ref t, .int 0 0] }).push { cls := .type "enumerate", data := .fields #[.none, .bool false, .ref s.heap.objs.size, rawInt 0, .none, .none] } }) :=
  .of_wp fun prog w A R s hyp => by
    obtain ⟨hp, g, d, tk, os⟩ := s
    obtain ⟨ht, hyp⟩ := hyp
    have hsub := sub_enumerate
    have turn : ∀ {A' : Around} {E : Value → Shared → Prop} {Q : Value → Shared → Prop},
        Q (.ref hp.objs.size) ⟨hp.push { cls := .type "tuple_iterator", data := .fields #[.ref t, .int 0 0] }, g, d, tk, os⟩ → wpAny (model prog w) A' (pyIter (.ref t)) Q E ⟨hp, g, d, tk, os⟩ :=
      fun q => (begins_tuple t vals).iter prog w _ _ ⟨hp, g, d, tk, os⟩ _ ht q
    wp_walk using turn
    refine wpAny_stack_any fun st => wpAny_pure ?_
    split
    · rename_i c _ _ _ _ _
      cases (c == Value.type "enumerate") <;> (wp_walk using turn; exact ⟨_, rfl, hyp⟩)
    · wp_walk using turn
      exact ⟨_, rfl, hyp⟩

theorem call_enumT {prog : Program} {w : World} {A : Around} {E : Value → Shared → Prop} {s : Shared} {t : Addr} {vals : Array Value} {Q : Value → Shared → Prop} (ht : s.heap.IsTuple t vals)
    (k : ∀ h', IsEnum h' (s.heap.objs.size + 1) s.heap.objs.size 0 .none → h'.IsTupleIter s.heap.objs.size t 0 → (∀ b o, s.heap.get? b = some o → h'.get? b = some o) → Q (.ref (s.heap.objs.size + 1)) { s with heap := h' }) :
    wpAny (model prog w) A (call (.type "enumerate") [.ref t]) Q E s := by
  refine callType_new F.called_enumerate (by decide) (F.typeCall_enumerate_1 _) (F.newCall_enumerate_1 _) (fun obj => F.args_object_init_2 obj _) F.entry_enumerate_new (newT t vals) ⟨ht, ?_⟩
  have sz : (s.heap.push { cls := .type "tuple_iterator", data := .fields #[.ref t, .int 0 0] }).objs.size = s.heap.objs.size + 1 := Heap.size_push ..
  show _ ∧ _
  rw [sz]
  have he : IsEnum ((s.heap.push { cls := .type "tuple_iterator", data := .fields #[.ref t, .int 0 0] }).push
      { cls := .type "enumerate", data := .fields #[.none, .bool false, .ref s.heap.objs.size, rawInt 0, .none, .none] }) (s.heap.objs.size + 1) s.heap.objs.size 0 .none := by
    have at_ := Heap.get?_push_size (s.heap.push { cls := .type "tuple_iterator", data := .fields #[.ref t, .int 0 0] })
      (o := { cls := .type "enumerate", data := .fields #[.none, .bool false, .ref s.heap.objs.size, rawInt 0, .none, .none] }) rfl
    rw [sz] at at_
    exact at_
  exact ⟨⟨_, he, rfl⟩, k _ he ⟨_, Heap.get?_push_of_some _ (Heap.get?_push_size _ rfl), rfl, rfl⟩ fun b o x => Heap.get?_push_of_some _ (Heap.get?_push_of_some _ x)⟩

/-- the tuple at a, the items in new pairs -/
def Iet (K : PySem.W.Frag) (a : Addr) : It :=
  ⟨fun i H => ∃ xs x, SqT K H a xs ∧ xs[i]? = some x, fun i H v H' => ∃ T x, v = .ref T ∧ H T = none ∧ H' = upd H T (.tup [.int (i : Nat), x]) ∧ ∀ xs, SqT K H a xs → xs[i]? = some x,
    fun i H => ∃ xs, SqT K H a xs ∧ xs.length = i⟩

theorem turn_enumT {P : Program} {w : World} {K : PySem.W.Frag} {elts : List Expr} {kk : Nat} {tpos : Pos} (a e it : Addr) :
    Turn P w K (.Tuple elts kk tpos) (Iet K a) [e, it] e (fun i h => (∃ old, IsEnum h e it ((i : Nat) : Int) old) ∧ h.IsTupleIter it a i ∧ e ≠ it) where
  mem := by simp
  obj := fun i h st b hb => by
    obtain ⟨⟨old, he⟩, ⟨o, ho, hc, hd⟩, _⟩ := st
    have e' : b = e ∨ b = it := by simpa using hb
    rcases e' with z | z
    · subst z
      exact ⟨_, he, fun v q => nomatch q⟩
    · subst z
      exact ⟨o, ho, fun v q => by rw [hd] at q; cases q⟩
  keep := fun i h h' st k => by
    obtain ⟨⟨old, he⟩, hi, hne⟩ := st
    exact ⟨⟨old, k e (by simp) _ he⟩, hi.at fun o q => k it (by simp) o q, hne⟩
  item := by
    intro X hP hw hK hc i pins s σ H E I hf st hg
    subst hP hw hK
    obtain ⟨⟨old, he⟩, hit, hne⟩ := st
    obtain ⟨xs, x, hq, hx⟩ := hg
    obtain ⟨its, rv, p, hz⟩ := I.tuple hq
    have pt : s.heap.IsTuple a its.toArray := p
    obtain ⟨u, hu, ru⟩ := rv.get hx
    have hel : e < s.heap.objs.size := Heap.lt_size he
    have hil : it < s.heap.objs.size := by
      obtain ⟨_, q, _⟩ := hit
      exact Heap.lt_size q
    have eqh : s.heap.get? e = _ := he
    have hea : e ≠ a := by
      intro z
      obtain ⟨o, ho, hcl, _⟩ := p
      rw [← z, eqh] at ho
      have := Option.some.inj ho
      subst this
      have q : Value.type "enumerate" = Value.type "tuple" := hcl
      exact absurd q (by decide)
    have hia : a ≠ it := by
      intro z
      obtain ⟨o, ho, hcl, _⟩ := p
      obtain ⟨o2, ho2, hcl2, _⟩ := hit
      rw [← z, ho] at ho2
      have := Option.some.inj ho2
      subst this
      have q : Value.type "tuple" = Value.type "tuple_iterator" := hcl.symm.trans hcl2
      exact absurd q (by decide)
    have hlt : i < its.toArray.size := by
      have := (List.getElem?_eq_some_iff.mp hu).1
      simpa using this
    refine wpAny_pyNext_enum_itemD (Draws.tuple (A := X.A.in1) (I.ok.hd hc) it a hia its.toArray) he (i := i) ⟨hit, pt⟩ hlt hne (by simp [hne, hea]) fun y h' tk hy ho hst hT hsz hk => ?_
    have ey : y = u := by
      have : its.toArray[i]? = some u := by simpa using hu
      rw [this] at hy
      exact (Option.some.inj hy).symm
    subst ey
    refine ⟨_, rfl, wpAny_letOwnedTupleGo_enum (s := { s with heap := h', toks := tk + 1 }) ho fun h'' he' sb => ?_⟩
    have hT2 : h''.get? s.heap.objs.size = some { cls := .type "tuple", data := .seq #[.int i tk, y] } := (sb.2 _ (Nat.ne_of_gt hel)).trans hT
    have new : ObjOk X.prog X.w (upd H s.heap.objs.size (.tup [.int (i : Nat), x])) h'' s.heap.objs.size (.tup [.int (i : Nat), x]) :=
      ⟨by show 2 ≤ sizeLine; decide, [.int i tk, y], .cons ⟨_, rfl⟩ (.cons ru .nil), ⟨_, hT2, rfl, _, rfl⟩⟩
    have I1 : Inv X pins σ (upd H s.heap.objs.size (.tup [.int (i : Nat), x])) { s with heap := h'', toks := tk + 1 } :=
      I.turnedNew (ch := [e, it]) (fun b ob hb q => (sb.2 b (fun z => hb (by simp [z]))).trans (hk b ob (fun z => hb (by simp [z])) (fun z => hb (by simp [z])) q)) hf (Nat.le_refl _) new
    refine ⟨.ref s.heap.objs.size, _, I1, rfl, ⟨_, x, rfl, I.hok.fresh (Nat.le_refl _), rfl, fun ys hy => by rw [I.tuple_inj hy hq]; exact hx⟩,
      ⟨⟨y, ?_⟩, hst.1.at fun o q => (sb.2 it (Ne.symm hne)).trans q, hne⟩, fun b hb => ?_⟩
    · have e1 : ((i + 1 : Nat) : Int) = (i : Int) + 1 := by omega
      rw [e1]
      exact he'
    · have hb' : b < s.heap.objs.size := by
        have e' : b = e ∨ b = it := by simpa using hb
        rcases e' with z | z
        · rw [z]; exact hel
        · rw [z]; exact hil
      rw [upd_ne (Nat.ne_of_lt hb')]
      exact (hf b hb).1
  done := by
    intro X hP hw hK hc i pins s σ H E I hf st hg
    subst hP hw hK
    obtain ⟨⟨old, he⟩, hit, hne⟩ := st
    obtain ⟨xs, hq, hx⟩ := hg
    obtain ⟨its, rv, p, hz⟩ := I.tuple hq
    have pt : s.heap.IsTuple a its.toArray := p
    obtain ⟨f0, f1, f2, f3, f4, f5⟩ := hf it (by simp)
    have hl := rv.length
    have hia : a ≠ it := by
      intro z
      obtain ⟨o, ho, hcl, _⟩ := p
      obtain ⟨o2, ho2, hcl2, _⟩ := hit
      rw [← z, ho] at ho2
      have := Option.some.inj ho2
      subst this
      have q : Value.type "tuple" = Value.type "tuple_iterator" := hcl.symm.trans hcl2
      exact absurd q (by decide)
    have hi : i = its.toArray.size := by
      rw [List.size_toArray, ← hl, hx]
    rw [hi] at hit
    exact wpAny_pyNext_enum_endD (Draws.tuple (A := X.A.in1) (I.ok.hd hc) it a hia its.toArray) he ⟨hit, pt⟩ fun h' eb => ⟨rfl, I.turned (t' := s.toks) (fun b o hb q => eb b o hb q) f0 f1 f3 f4 f5⟩
  self := fun A i s Q E st h => by
    obtain ⟨⟨_, he⟩, _⟩ := st
    exact wpAny_pyIter_enum he h

def iEnumT (K : PySem.W.Frag) (ta : TA) : TI := fun σ H R => ta σ H fun vs H1 => ∃ a xs, vs = [.ref a] ∧ SqT K H1 a xs ∧ R (Iet K a) H1
theorem pi_enumT {X : Cx} {e : Expr} {ta : TA} {p pos tpos : Pos} {elts : List Expr} {kk : Nat} (hg : Gl X "enumerate") (hm : X.mg "enumerate" = none) (ha : PA X [e] ta) (hs : starEach [e] X.env = [(false, eval e X.env)] := by rfl) :
    PI X (.Tuple elts kk tpos) (.Call (.Name "enumerate" p) [e] [] pos) (iEnumT X.K ta) := by
  refine ⟨fun pins s σ H R I h => ?_⟩
  refine Call_ (ld_blt I hg hm boot_enumerate (PyProof.Rows.callWith_type1 (thn (ha.run pos pins s σ H _ I h) fun us s1 ⟨vs, H1, I1, r1, q1⟩ => ?_) hs rfl))
  obtain ⟨a, xs, ex, hq, q⟩ := q1
  subst ex
  cases r1 with
  | cons r rr =>
    cases rr
    cases r
    obtain ⟨its, rv, p', hz⟩ := I1.tuple hq
    refine call_enumT (show s1.heap.IsTuple a its.toArray from p') fun h' he hit hk => wpAny_pyIter_enum he ?_
    have I2 : Inv X pins σ H1 { s1 with heap := h' } := I1.kept (t' := s1.toks) hk
    refine ⟨s1.heap.objs.size + 1, [s1.heap.objs.size + 1, s1.heap.objs.size], _, _, H1, rfl, I2, turn_enumT a (s1.heap.objs.size + 1) s1.heap.objs.size, ⟨⟨.none, he⟩, hit, Nat.succ_ne_self _⟩, fun b hb => ?_, q⟩
    have hle : s1.heap.objs.size ≤ b := by
      have e' : b = s1.heap.objs.size + 1 ∨ b = s1.heap.objs.size := by simpa using hb
      rcases e' with z | z
      · rw [z]; exact Nat.le_add_right _ _
      · rw [z]; exact Nat.le_refl _
    exact I1.fpOk hle (I1.hok.fresh hle)

theorem walk_enumT {K : PySem.W.Frag} {a : Addr} {xs : List V} : Walk (Iet K a) xs.length (fun H => SqT K H a xs) (YPair (fun i => some (.int (i : Nat))) (fun i => xs[i]?)) where
  goes := fun i H hi hG => ⟨xs, xs[i], hG, by simp [hi]⟩
  yields := fun i H x H' hi hG hy => by
    obtain ⟨T, y, rfl, hT, rfl, hf⟩ := hy
    exact ⟨T, .int (i : Nat), y, rfl, hT, rfl, rfl, hf xs hG⟩
  stops := fun H hG => ⟨xs, hG, rfl⟩
end WR1
/-! A rule that the hand layer has not: min(xs), xs a list of tuples of whole numbers. -/
namespace WR2
open PySem PySem.Spec PyProof.Rows L2

/-- at each of these addresses a tuple of these numbers -/
def TupsAt (h : Heap) (n : Nat) (ad : Nat → Addr) (ms : Nat → List Int) : Prop := ∀ i, i < n → ∃ its : Array Value, IsTup h (ad i) its ∧ IntsAre its.toList (ms i)

theorem TupsAt.keep {h h' : Heap} {n : Nat} {ad : Nat → Addr} {ms : Nat → List Int} (T : TupsAt h n ad ms) (k : ∀ i, i < n → ∀ o, h.get? (ad i) = some o → h'.get? (ad i) = some o) : TupsAt h' n ad ms := by
  intro i hi
  obtain ⟨its, ⟨o, ho, hc, r⟩, hn⟩ := T i hi
  exact ⟨its, ⟨o, k i hi o ho, hc, r⟩, hn⟩

theorem TupsAt.ne {h : Heap} {n : Nat} {ad : Nat → Addr} {ms : Nat → List Int} (T : TupsAt h n ad ms) {b : Addr} {o : Obj} (hb : h.get? b = some o) (hc : o.cls ≠ .type "tuple") {i : Nat} (hi : i < n) : ad i ≠ b := by
  intro e
  obtain ⟨its, ⟨o2, ho2, hc2, r⟩, hn⟩ := T i hi
  rw [e, hb] at ho2
  have := Option.some.inj ho2
  subst this
  exact hc hc2

def btT (ms : Nat → List Int) (i j : Nat) : Bool := HT.lexLt (ms i) (ms j)

section
variable {prog : Program} {w : World} {A : Around} {R : Result → Shared → Prop} {I : Addr} {fp : List Addr} {n : Nat} {St : Nat → Heap → Prop} {ad : Nat → Addr} {ms : Nat → List Int}

theorem loopT (W : Walks prog w A.in1 I fp [I] n (fun i v => v = .ref (ad i)) St) (hu : A.in1.units < cLine) (hI : ∀ i h, St i h → ∃ o, h.get? I = some o ∧ o.cls ≠ .type "tuple") (S : Addr) (hSf : S ∉ fp) :
    ∀ (k j : Nat) (s : Shared) (c : Nat), n - (j + 1) = k → j + 1 ≤ n → St (j + 1) s.heap → TupsAt s.heap n ad ms → argBest (btT ms) j < n →
    s.heap.get? S = some { cls := .type "list", dict := none, data := .seq #[.ref (ad (argBest (btT ms) j)), .ref (ad (argBest (btT ms) j))] c, slots := #[] } →
    (∀ h' tk, argBest (btT ms) (n - 1) < n → (∀ b o, b ≠ I → b ≠ S → s.heap.get? b = some o → h'.get? b = some o) → R (.ok (.ret (.ref (ad (argBest (btT ms) (n - 1)))))) { s with heap := h', toks := tk }) →
    codeAny (model prog w) A (.builtin "min.loop" ⟨[.ref I, .none, .ref S], []⟩) R s := by
  have SI : S ≠ I := fun e => hSf (W.sub _ (by simp [e]))
  have nm : (toString "min" ++ toString ".loop" : String) = "min.loop" := by decide
  intro k
  induction k with
  | zero =>
    intro j s c hk hj st T hb hS hR
    have jn : j + 1 = n := by omega
    refine codeAny_builtin F.entry_min_loop ?_
    rw [Around.under_plainId F.plain_min_loop _]
    show wpAny _ A.in1 (seqItems? (.ref S) >>= _) _ _ s
    refine wpAny_bind (wpAny_seqItems hS rfl ?_)
    show wpAny _ A.in1 (tryCatch (pyNext (.ref I)) _ >>= _) _ _ s
    refine wpAny_bind (wpAny_tryCatch (W.done s _ _ (jn ▸ st) fun h' tk kp => ?_))
    have hS' := kp S _ (by simpa using SI) hS
    show wpAny _ A.in1 (updateSeq S (fun _ => #[]) >>= _) _ _ _
    refine wpAny_bind ?_
    refine wpAny_updateSeq hS' rfl (wpAny_bind (wpAny_letGo (wpAny_pure ?_)))
    have e : n - 1 = j := by omega
    rw [e] at hR
    exact hR _ tk hb fun b o b1 b2 e => (Heap.get?_update_other _ _ (Ne.symm b2)).trans (kp b o (by simpa using b1) e)
  | succ k ih =>
    intro j s c hk hj st T hb hS hR
    have jlt : j + 1 < n := by omega
    refine codeAny_builtin F.entry_min_loop ?_
    rw [Around.under_plainId F.plain_min_loop _]
    show wpAny _ A.in1 (seqItems? (.ref S) >>= _) _ _ s
    refine wpAny_bind (wpAny_seqItems hS rfl ?_)
    show wpAny _ A.in1 (tryCatch (pyNext (.ref I)) _ >>= _) _ _ s
    refine wpAny_bind (wpAny_tryCatch (W.item (j + 1) s _ _ jlt st fun v h' tk hP st' kp => ?_))
    subst hP
    obtain ⟨oI, hoI, cI⟩ := hI _ _ st
    have T1 : TupsAt h' n ad ms := T.keep fun i hi o e => kp _ o (by simpa using T.ne hoI cI hi) e
    have hS' := kp S _ (by simpa using SI) hS
    show wpAny _ A.in1 (tryCatch (holding [_, _] (richCompare .Lt _ _ >>= _)) _ >>= _) _ _ _
    obtain ⟨its1, p1, q1⟩ := T1 (j + 1) jlt
    obtain ⟨its2, p2, q2⟩ := T1 _ hb
    refine wpAny_bind (wpAny_tryCatch (wpAny_holding (wpAny_bind (HT.lt_tupInts (s := { s with heap := h', toks := tk }) p1 p2 q1 q2 hu ?_))))
    refine wpAny_bind (wpAny_holding (wpAny_truthy_bool ?_))
    refine wpAny_bind (wpAny_letGo (wpAny_pure ?_))
    have cS : ({ cls := .type "list", dict := none, data := .seq #[.ref (ad (argBest (btT ms) j)), .ref (ad (argBest (btT ms) j))] c, slots := #[] } : Obj).cls ≠ .type "tuple" := by
      intro q
      have q : Value.type "list" = Value.type "tuple" := q
      exact absurd q (by decide)
    cases hb2 : HT.lexLt (ms (j + 1)) (ms (argBest (btT ms) j)) with
    | true =>
      have e1 : argBest (btT ms) (j + 1) = j + 1 := by
        show (if btT ms (j + 1) (argBest (btT ms) j) then j + 1 else argBest (btT ms) j) = j + 1
        rw [show btT ms (j + 1) (argBest (btT ms) j) = true from hb2]
        rfl
      simp only [if_true]
      refine wpAny_bind ?_
      refine wpAny_updateSeq hS' rfl (wpAny_bind (wpAny_letGo ?_))
      rw [nm]
      refine wpAny_pure ⟨plainId_quiet F.plain_min_loop _, ih (j + 1) _ _ (by omega) jlt (W.frame _ _ _ st' fun b hbf o e => ?_) (T1.keep fun i hi o e => ?_) (by rw [e1]; exact jlt) (by rw [e1]; exact Heap.get?_update_self _ hS' rfl) fun h'' tk'' hn kp2 => ?_⟩
      · exact (Heap.get?_update_other _ _ (fun z : S = b => hSf (by rw [z]; exact hbf))).trans e
      · exact (Heap.get?_update_other _ _ (Ne.symm (T1.ne hS' cS hi))).trans e
      · exact hR h'' tk'' hn fun b o b1 b2 e => kp2 b o b1 b2 ((Heap.get?_update_other _ _ (Ne.symm b2)).trans (kp b o (by simpa using b1) e))
    | false =>
      have e1 : argBest (btT ms) (j + 1) = argBest (btT ms) j := by
        show (if btT ms (j + 1) (argBest (btT ms) j) then j + 1 else argBest (btT ms) j) = argBest (btT ms) j
        rw [show btT ms (j + 1) (argBest (btT ms) j) = false from hb2]
        rfl
      simp only [Bool.false_eq_true, if_false]
      refine wpAny_bind (wpAny_letGo ?_)
      rw [nm]
      refine wpAny_pure ⟨plainId_quiet F.plain_min_loop _, ih (j + 1) _ c (by omega) jlt st' T1 (by rw [e1]; exact hb) (by rw [e1]; exact hS') fun h'' tk'' hn kp2 => ?_⟩
      exact hR h'' tk'' hn fun b o b1 b2 e => kp2 b o b1 b2 (kp b o (by simpa using b1) e)
end

section
variable {prog : Program} {w : World} {A : Around} {E : Value → Shared → Prop} {s : Shared}

theorem minT {l : Addr} {items : Array Value} {n : Nat} {ad : Nat → Addr} {ms : Nat → List Int} {Q : Value → Shared → Prop} (hh : A.handled = none) (hl : s.heap.IsList l items) (hn : items.size = n) (h0 : 0 < n)
    (hit : ∀ i, i < n → items[i]? = some (.ref (ad i))) (T : TupsAt s.heap n ad ms) (hu : A.in1.units < cLine)
    (k : ∀ h' tk, argBest (btT ms) (n - 1) < n → (∀ b o, s.heap.get? b = some o → h'.get? b = some o) → Q (.ref (ad (argBest (btT ms) (n - 1)))) { s with heap := h', toks := tk }) :
    wpAny (model prog w) A (call (.builtin "min") [.ref l]) Q E s := by
  have nm : (toString "min" ++ toString ".loop" : String) = "min.loop" := by decide
  refine call_function_tree F.kind_min F.plain_min F.entry_min (F.args_min1 _) ?_
  show wpAny _ A.in1 (Builtin.Builtins.bindParams "min" ["key", "default"] 0 ⟨[], []⟩ >>= _) _ _ s
  refine wpAny_bind (wpAny_of_eq (show Builtin.Builtins.bindParams "min" ["key", "default"] 0 ⟨[], []⟩ = pure [none, none] from rfl) ?_)
  refine wpAny_bind (wpAny_pure ?_)
  have ll : l < s.heap.objs.size := by
    obtain ⟨_, e, _⟩ := hl
    exact Heap.lt_size e
  refine wpAny_bind (wpAny_pyIter_list hl ?_)
  refine wpAny_bind (wpAny_newObj_type ?_)
  have z1 : (s.heap.push { cls := .type "list_iterator", data := .fields #[.ref l, .int 0 0] }).objs.size = s.heap.objs.size + 1 := Heap.size_push ..
  generalize hg : s.heap.push { cls := .type "list_iterator", data := .fields #[.ref l, .int 0 0] } = g at z1
  have gI : g.get? s.heap.objs.size = some { cls := .type "list_iterator", data := .fields #[.ref l, .int 0 0] } := by
    rw [← hg]
    exact Heap.get?_push_size _ rfl
  have gold : ∀ b o, s.heap.get? b = some o → g.get? b = some o := fun b o e => by
    rw [← hg]
    exact Heap.get?_push_of_some _ e
  have gl : g.IsList l items := hl.at fun o e => gold l o e
  have hSf : g.objs.size ∉ [s.heap.objs.size, l] := by
    rw [z1]
    simp only [List.mem_cons, List.not_mem_nil, or_false, not_or]
    exact ⟨Nat.succ_ne_self _, fun e => by rw [← e] at ll; exact absurd ll (Nat.not_lt.mpr (Nat.le_succ _))⟩
  rw [nm]
  have W0 := Walks.list (prog := prog) (w := w) (A := A.in1) hh s.heap.objs.size l (Nat.ne_of_lt ll) items
  have hP : ∀ i v, i < n → items[i]? = some v → v = .ref (ad i) := fun i v hi e => by
    rw [hit i hi] at e
    exact (Option.some.inj e).symm
  subst hn
  have W : Walks prog w A.in1 s.heap.objs.size [s.heap.objs.size, l] [s.heap.objs.size] items.size (fun i v => v = .ref (ad i)) (fun i h => h.IsListIter s.heap.objs.size l i ∧ h.IsList l items) := {
    sub := fun b hb => by simp at hb; simp [hb]
    frame := fun i h h' st hk => ⟨st.1.at fun o e => hk _ (by simp) o e, st.2.at fun o e => hk l (by simp) o e⟩
    item := fun i s Q E hi st hQ => (Walks.list (prog := prog) (w := w) (A := A.in1) hh _ l (Nat.ne_of_lt ll) items).item i s Q E hi st fun v h' tk hv => hQ v h' tk (hP i v hi hv)
    done := (Walks.list (prog := prog) (w := w) (A := A.in1) hh _ l (Nat.ne_of_lt ll) items).done
    self := (Walks.list (prog := prog) (w := w) (A := A.in1) hh _ l (Nat.ne_of_lt ll) items).self }
  refine wpAny_pure ⟨plainId_quiet F.plain_min_loop _, ?_⟩
  have cI : ∀ i (h : Heap), (h.IsListIter s.heap.objs.size l i ∧ h.IsList l items) → ∃ o, h.get? s.heap.objs.size = some o ∧ o.cls ≠ .type "tuple" := by
    rintro i h ⟨⟨o, ho, hc, _⟩, _⟩
    refine ⟨o, ho, fun q => ?_⟩
    have q : Value.type "list_iterator" = Value.type "tuple" := hc.symm.trans q
    exact absurd q (by decide)
  -- the first one
  have g2S : (g.push { cls := .type "list", data := .seq #[] }).get? g.objs.size = some { cls := .type "list", data := .seq #[] } := Heap.get?_push_size _ rfl
  generalize hg2 : g.push { cls := .type "list", data := .seq #[] } = g2 at g2S
  have g2old : ∀ b o, g.get? b = some o → g2.get? b = some o := fun b o e => by
    rw [← hg2]
    exact Heap.get?_push_of_some _ e
  have SI : g.objs.size ≠ s.heap.objs.size := by
    rw [z1]
    exact Nat.succ_ne_self _
  have st0 : g2.IsListIter s.heap.objs.size l 0 ∧ g2.IsList l items := ⟨⟨_, g2old _ _ gI, rfl, rfl⟩, gl.at fun o e => g2old l o e⟩
  have T2 : TupsAt g2 items.size ad ms := T.keep fun i hi o e => g2old _ _ (gold _ _ e)
  refine codeAny_builtin F.entry_min_loop ?_
  rw [Around.under_plainId F.plain_min_loop _]
  show wpAny _ A.in1 (seqItems? (.ref g.objs.size) >>= _) _ _ _
  refine wpAny_bind (wpAny_seqItems (show Heap.get? { s with heap := g2 }.heap g.objs.size = _ from g2S) rfl ?_)
  show wpAny _ A.in1 (tryCatch (pyNext (.ref s.heap.objs.size)) _ >>= _) _ _ _
  refine wpAny_bind (wpAny_tryCatch (W.item 0 { s with heap := g2 } _ _ h0 st0 fun v h' tk hv st' kp => ?_))
  subst hv
  have S' := kp _ _ (by simpa using SI) g2S
  show wpAny _ A.in1 (updateSeq g.objs.size (fun _ => #[.ref (ad 0), .ref (ad 0)]) >>= _) _ _ _
  refine wpAny_bind ?_
  refine wpAny_updateSeq S' rfl ?_
  rw [nm]
  obtain ⟨oI, hoI, cI0⟩ := cI _ _ st0
  have T3 : TupsAt h' items.size ad ms := T2.keep fun i hi o e => kp _ o (by simpa using T2.ne hoI cI0 hi) e
  have cS : ({ cls := .type "list", data := .seq #[] } : Obj).cls ≠ .type "tuple" := by
    intro q
    have q : Value.type "list" = Value.type "tuple" := q
    exact absurd q (by decide)
  refine wpAny_pure ⟨plainId_quiet F.plain_min_loop _, loopT (A := A) W hu cI g.objs.size hSf _ 0 _ _ rfl h0 (W.frame _ _ _ st' fun b hbf o e => ?_) (T3.keep fun i hi o e => ?_) h0 (Heap.get?_update_self _ S' rfl) fun h'' tk'' hn kp2 => ?_⟩
  · exact (Heap.get?_update_other _ _ (fun z : g.objs.size = b => hSf (by rw [z]; exact hbf))).trans e
  · exact (Heap.get?_update_other _ _ (Ne.symm (T3.ne S' cS hi))).trans e
  · refine k h'' tk'' hn fun b o e => ?_
    have bl := Heap.lt_size e
    have b1 : b ≠ s.heap.objs.size := Nat.ne_of_lt bl
    have b2 : b ≠ g.objs.size := by
      rw [z1]
      exact Nat.ne_of_lt (Nat.lt_succ_of_lt bl)
    exact kp2 b o b1 b2 ((Heap.get?_update_other _ _ (Ne.symm b2)).trans (kp b o (by simpa using b1) (g2old _ _ (gold _ _ e))))
end

/-! ### the least, by the order of lists of numbers -/
theorem lex_irrefl : ∀ a : List Int, HT.lexLt a a = false := by
  intro a
  induction a with
  | nil => rfl
  | cons x a ih => rw [HT.lexLt_cons, if_pos rfl, ih]
theorem lex_trans : ∀ a b c : List Int, HT.lexLt a b = true → HT.lexLt b c = true → HT.lexLt a c = true := by
  intro a
  induction a with
  | nil =>
    intro b c h1 h2
    cases c with
    | nil =>
      cases b with
      | nil => exact h2
      | cons y b => rw [HT.lexLt_cons_nil] at h2; exact h2
    | cons z c => exact HT.lexLt_nil_cons _ _
  | cons x a ih =>
    intro b c h1 h2
    cases b with
    | nil => rw [HT.lexLt_cons_nil] at h1; cases h1
    | cons y b =>
      cases c with
      | nil => rw [HT.lexLt_cons_nil] at h2; cases h2
      | cons z c =>
        rw [HT.lexLt_cons] at h1 h2 ⊢
        by_cases e1 : x = y
        · subst e1
          rw [if_pos rfl] at h1
          by_cases e2 : x = z
          · subst e2
            rw [if_pos rfl] at h2
            rw [if_pos rfl]
            exact ih b c h1 h2
          · rw [if_neg e2] at h2
            rw [if_neg e2]
            exact h2
        · rw [if_neg e1] at h1
          have h1 := of_decide_eq_true h1
          by_cases e2 : y = z
          · subst e2
            rw [if_neg e1]
            exact decide_eq_true h1
          · rw [if_neg e2] at h2
            have h2 := of_decide_eq_true h2
            rw [if_neg (by omega)]
            exact decide_eq_true (by omega)

theorem best_least (ms : Nat → List Int) : ∀ k i, i ≤ k → HT.lexLt (ms i) (ms (argBest (btT ms) k)) = false := by
  intro k
  induction k with
  | zero =>
    intro i hi
    have : i = 0 := by omega
    subst this
    exact lex_irrefl _
  | succ k ih =>
    intro i hi
    cases hb : btT ms (k + 1) (argBest (btT ms) k) with
    | true =>
      have e1 : argBest (btT ms) (k + 1) = k + 1 := by
        show (if btT ms (k + 1) (argBest (btT ms) k) then k + 1 else argBest (btT ms) k) = k + 1
        rw [hb]
        rfl
      rw [e1]
      by_cases e : i = k + 1
      · rw [e]
        exact lex_irrefl _
      · have h1 := ih i (by omega)
        cases h2 : HT.lexLt (ms i) (ms (k + 1)) with
        | false => rfl
        | true =>
          have h3 : HT.lexLt (ms (k + 1)) (ms (argBest (btT ms) k)) = true := hb
          rw [lex_trans _ _ _ h2 h3] at h1
          cases h1
    | false =>
      have e1 : argBest (btT ms) (k + 1) = argBest (btT ms) k := by
        show (if btT ms (k + 1) (argBest (btT ms) k) then k + 1 else argBest (btT ms) k) = argBest (btT ms) k
        rw [hb]
        rfl
      rw [e1]
      by_cases e : i = k + 1
      · rw [e]
        exact hb
      · exact ih i (by omega)

/-- min(xs), xs a list of tuples of whole numbers, told by their addresses -/
def rMinT (K : PySem.W.Frag) : List V → Hp → VK → Prop := fun vs H Q => ∃ (a : Addr) (ts : List Addr) (mss : List (List Int)), vs = [V.ref a] ∧ SqL K H a (ts.map V.ref) ∧ 0 < ts.length ∧ mss.length = ts.length ∧
  (∀ (i : Nat) t m, ts[i]? = some t → mss[i]? = some m → SqT K H t (m.map V.int)) ∧
  ∀ (j : Nat) t m, ts[j]? = some t → mss[j]? = some m → (∀ m', m' ∈ mss → HT.lexLt m' m = false) → Q (.ref t) H

theorem cr_minT {X : Cx} (hc : X.calm = true) (hu : X.A.units + 1 < cLine) : CallR X (.builtin "min") (rMinT X.K) := by
  intro pins s σ H vs us Q I r h
  obtain ⟨a, ts, mss, rfl, hs, h0, hlen, htup, q⟩ := h
  obtain ⟨its, rv, hl, _⟩ := I.list hs
  rw [Vals.ref1 r]
  have hlenI : its.length = ts.length := by
    have := rv.length
    rw [List.length_map] at this
    exact this.symm
  have hit : ∀ i, i < ts.length → its.toArray[i]? = some (.ref (ts.getD i 0)) := by
    intro i hi
    have e1 : (ts.map V.ref)[i]? = some (V.ref (ts.getD i 0)) := by
      rw [List.getElem?_map, List.getD_eq_getElem?_getD, List.getElem?_eq_getElem hi]
      rfl
    obtain ⟨u, hu2, ru⟩ := rv.get e1
    cases ru
    simpa using hu2
  have tsG : ∀ i, i < ts.length → ts[i]? = some (ts.getD i 0) := fun i hi => by
    rw [List.getD_eq_getElem?_getD, List.getElem?_eq_getElem hi]
    rfl
  have msG : ∀ i, i < ts.length → mss[i]? = some (mss.getD i []) := fun i hi => by
    rw [List.getD_eq_getElem?_getD, List.getElem?_eq_getElem (by omega)]
    rfl
  have T : TupsAt s.heap ts.length (fun i => ts.getD i 0) (fun i => mss.getD i []) := by
    intro i hi
    obtain ⟨its2, rv2, p2, _⟩ := I.tuple (htup i _ _ (tsG i hi) (msG i hi))
    exact ⟨its2.toArray, p2, by simpa using intsAre_of rv2⟩
  refine minT (n := ts.length) (ad := fun i => ts.getD i 0) (ms := fun i => mss.getD i []) (I.ok.hd hc) hl.isList (by simpa using hlenI) h0 hit T (by show X.A.units + 1 < cLine; exact hu) fun h' tk hb hk => ?_
  refine ⟨.ref (ts.getD (argBest (btT fun i => mss.getD i []) (ts.length - 1)) 0), H, I.kept hk, rfl, q _ _ _ (tsG _ hb) (msG _ hb) ?_⟩
  intro m' hm'
  obtain ⟨i, hi⟩ := List.getElem?_of_mem hm'
  have il := (List.getElem?_eq_some_iff.mp hi).1
  have := best_least (fun i => mss.getD i []) (ts.length - 1) i (by omega)
  have e : mss.getD i [] = m' := by
    rw [List.getD_eq_getElem?_getD, hi]
    rfl
  simp only [e] at this
  exact this
end WR2
/-! Rules that the hand layer has not: set(xs) and len(set) of a list of whole numbers, xs.count(y) of flat things. -/
namespace WR3
open PySem PySem.Spec PyProof.Rows L2

/-! ### xs.count(y) -/
def rCntF (K : PySem.W.Frag) : V → List V → Hp → VK → Prop := fun x xs H Q => ∃ (p : Addr) (ys : List V) (y : V), x = .ref p ∧ xs = [y] ∧ SqL K H p ys ∧ flatV y = true ∧ ys.all flatV = true ∧
  Q (.int ((ys.countP fun z => eqV z y) : Nat)) H

theorem countP_eqU {y : V} : ∀ {xs : List V} {us : List Value}, Vals xs us → xs.all flatV = true → us.countP (eqU y) = xs.countP fun z => eqV z y := by
  intro xs us r
  induction r with
  | nil => intro _; rfl
  | cons q t ih =>
    intro f
    rw [List.all_cons, Bool.and_eq_true] at f
    rw [List.countP_cons, List.countP_cons, ih f.2, eqU_of q f.1]

theorem mt_countF {X : Cx} : MtR X "list.count" (rCntF X.K) := by
  intro pins s σ H x xs v us Q I rx rxs h
  obtain ⟨p, ys, y, rfl, rfl, hs, fy, fa, q⟩ := h
  cases rx
  obtain ⟨u, rfl, ru⟩ := rxs.one
  obtain ⟨its, rv, ⟨⟨cls, dd, data, sl⟩, n, ho, hc, hdn, hd⟩, hlen⟩ := I.list hs
  simp only at hc hd
  subst hc hd
  refine call_meets PySem.F.slot_list_count ⟨_, ho, rfl⟩ PySem.F.entry_list_count (PySem.F.args_list_count_2 _ _)
    (SeqAt.list_countAt p its.toArray n dd sl u (eqU y)) ⟨ho, fun z hz => mem_eqAt ru fy rv fa z (by simpa using hz), ?_⟩
  have ec : its.toArray.toList.countP (eqU y) = ys.countP fun z => eqV z y := countP_eqU rv fa
  refine ⟨.int ((ys.countP fun z => eqV z y) : Nat), H, I.tok _, ⟨s.toks, ?_⟩, q⟩
  show Value.int ((its.toArray.toList.countP (eqU y) : Nat) : Int) s.toks = Value.int ((ys.countP fun z => eqV z y : Nat) : Int) s.toks
  rw [ec]

/-! ### set(xs) -/
section
variable {prog : Program} {w : World} {A : Around} {E : Value → Shared → Prop} {s : Shared}

abbrev emptySet (w : World) : Obj := { cls := .type "set", dict := none, data := .set #[] 0 (.fresh 0 0 (!w.params.followText "set-order")) }

theorem setOfList {l : Addr} {items : Array Value} (ns : List Int) {Q : Value → Shared → Prop} (hh : A.handled = none) (hl : s.heap.IsList l items) (hit : IntsAre items.toList ns) (hb : ns.length + 1 < scanBound)
    (k : ∀ (h' : Heap) (tk c : Nat), SetR w h' s.heap.objs.size (fun j => decide (j ∈ ns)) c → (∀ b o, s.heap.get? b = some o → h'.get? b = some o) → Q (.ref s.heap.objs.size) { s with heap := h', toks := tk }) :
    wpAny (model prog w) A (call (.type "set") [.ref l]) Q E s := by
  have isz : items.size = ns.length := by
    have q := IntsAre.length hit
    rw [Array.length_toList] at q
    exact q
  obtain ⟨c, tl, hmro⟩ := F.called_set.mro
  have hmade := F.called_set.made
  have hsub := F.called_set.sub
  refine wpAny_call (codeAny_of_tree ?_)
  show wpAny _ _ (callAny (.type "set") _) _ _ _
  refine wpAny_pure ⟨Code.quiet_builtin _ (by decide +kernel), codeAny_builtin F.entry_type_call ?_⟩
  rw [Around.under_plain (weight_type_call_type "set" [.ref l] []) rfl]
  have t1 := F.called_set.notType
  have t2 := F.called_set.canCreate
  have t3 := F.typeCall_set_1 (.ref l)
  repeat (any_goals (first | assumption | wp_step))
  refine codeAny_mono (code_set_led1 (.ref l) (E := E) (Q₁ := fun obj s1 => obj = .ref s.heap.objs.size ∧ s1 = { s with heap := s.heap.push (emptySet w) }) ⟨rfl, rfl⟩) fun r s1 hr => ?_
  cases r with
  | error e => exact hr
  | ok fl =>
    cases fl with
    | ret obj =>
      obtain ⟨rfl, rfl⟩ := hr
      have atS : (s.heap.push (emptySet w)).get? s.heap.objs.size = some (emptySet w) := Heap.get?_push_size _ rfl
      have tyS : Shared.TypeIs { s with heap := s.heap.push (emptySet w) } (.ref s.heap.objs.size) "set" := ⟨_, atS, rfl⟩
      have i1 := F.called_set.init.lookup
      have i2 := F.called_set.init.bind (.ref s.heap.objs.size)
      repeat (any_goals (first | assumption | wp_step))
      refine codeAny_mono (codeAny_call_builtin (R := wants (fun r s2 => r = .none ∧ ∃ h' tk c, s2 = { s with heap := h', toks := tk } ∧ SetR w h' s.heap.objs.size (fun j => decide (j ∈ ns)) c ∧
          (∀ b o, s.heap.get? b = some o → h'.get? b = some o)) E) F.called_set.init.plain F.entry_set_init (check_set_init_1 tyS ?_)) fun r2 s2 hr2 => ?_
      · obtain ⟨⟨ocls, odict, odata, oslots⟩, hol, hcl, nl, hdl⟩ := hl
        simp only at hcl hdl
        subst hcl hdl
        have hol' : (s.heap.push (emptySet w)).get? l = some { cls := .type "list", dict := odict, data := .seq items nl, slots := oslots } := Heap.get?_push_of_some _ hol
        have s1 := F.sub_list_set
        have s2 := F.sub_list_frozenset
        have s3 : (Value.type "list" == Value.type "dict") = false := by decide
        have hl1 : (s.heap.push (emptySet w)).IsList l items := ⟨_, hol', rfl, nl, rfl⟩
        unfold Builtin.«set.__init__» noKeywords Builtin.Frozenset.updateFrom
        generalize gi : pyIter = pI
        wp_walk
        subst gi
        refine wpAny_pyIter_list hl1 ?_
        refine wpAny_bind (wpAny_runValue ?_)
        have lS : l < s.heap.objs.size := Heap.lt_size hol
        have hh3 : A.in1.in1.in1.handled = none := by simp [hh]
        have neI : l ≠ (s.heap.push (emptySet w)).objs.size := by
          rw [Heap.size_push]
          exact Nat.ne_of_lt (Nat.lt_succ_of_lt lS)
        have outS : s.heap.objs.size ∉ [(s.heap.push (emptySet w)).objs.size, l] := by
          rw [Heap.size_push]
          simp only [List.mem_cons, List.not_mem_nil, or_false, not_or]
          exact ⟨Nat.ne_of_lt (Nat.lt_succ_self _), Nat.ne_of_gt lS⟩
        have val : ∀ (i : Nat) (v : Value), items[i]? = some v → ∃ k t, ns[i]? = some k ∧ v = .int k t := fun i v hv => by
          have hi : i < ns.length := by
            rw [← isz]
            exact (Array.getElem?_eq_some_iff.mp hv).1
          obtain ⟨t, e⟩ := PyProof.Rows.IntsAre.int_at hit i v (by rw [Array.getElem?_toList]; exact hv)
          refine ⟨ns[i], t, List.getElem?_eq_getElem hi, ?_⟩
          rw [e, List.getD_eq_getElem?_getD, List.getElem?_eq_getElem hi] <;> rfl
        refine set_update_ints ((Walks.list hh3 _ l neI items).toS) s.heap.objs.size outS ns isz hb val (items.size - 0) 0 _ (by omega) (Nat.zero_le _)
          ⟨⟨_, Heap.get?_push_size _ rfl, rfl, rfl⟩, (hl1.push _)⟩ ?first ?then_
        case first =>
          have hget : ((s.heap.push (emptySet w)).push { cls := .type "list_iterator", data := .fields #[.ref l, .int 0 0] }).get? s.heap.objs.size = some (emptySet w) := Heap.get?_push_of_some _ atS
          exact ⟨0, Nat.le_refl 0, setR_new_at hget⟩
        case then_ =>
          intro s' c' hm _ hS'
          obtain ⟨h', g2, d', tk', os'⟩ := s'
          have eg : g2 = s.gens := hm.gens
          have ed : d' = s.drawn := hm.drawn
          have eo : os' = s.os := hm.os
          subst eg ed eo
          show wpAny _ _ _ _ _ _
          refine wpAny_pure ?_
          show wpAny _ _ (ret Value.none) _ _ _
          refine wpAny_pure ⟨rfl, h', tk', c', rfl, hS', fun b o e => ?_⟩
          have b0 : b < s.heap.objs.size := Heap.lt_size e
          have b2 : b ≠ (s.heap.push (emptySet w)).objs.size := by
            rw [Heap.size_push]
            exact Nat.ne_of_lt (Nat.lt_succ_of_lt b0)
          exact hm.heap b o (by simp only [List.mem_cons, List.not_mem_nil, or_false, not_or]; exact ⟨Nat.ne_of_lt b0, b2⟩) (Heap.get?_push_of_some _ (Heap.get?_push_of_some _ e))
      · cases r2 with
        | error e => exact hr2
        | ok fl2 =>
          cases fl2 with
          | ret r =>
            obtain ⟨rfl, h', tk, c', rfl, hS', hk'⟩ := hr2
            repeat (any_goals (first | assumption | wp_step))
            exact k _ _ _ hS' hk'
          | _ => exact hr2.elim
    | _ => exact hr.elim
end

/-- a set's members, each once -/
theorem setR_list {w : World} {h : Heap} {a : Addr} {S : Int → Bool} {n : Nat} (R : SetR w h a S n) : ∃ L : List Int, L.Nodup ∧ (∀ k, k ∈ L ↔ S k = true) ∧ L.length = n := by
  obtain ⟨o, es, ep, t, ho, hx, hd, g, nd, hm, hb, hf, hn, _⟩ := R
  exact ⟨es.toList.map keyOf, nd, fun k => (hm k).symm, by rw [List.length_map, Array.length_toList]; exact hn⟩

def rSetL (K : PySem.W.Frag) (w : World) : List V → Hp → VK → Prop := fun vs H Q => ∃ (a : Addr) (ns : List Int), vs = [V.ref a] ∧ SqL K H a (ns.map V.int) ∧ ns.length ≤ 1000 ∧
  ∀ (p : Addr) (L : List Int), H p = none → L.Nodup → (∀ k, k ∈ L ↔ k ∈ ns) → Q (.ref p) (upd H p (SetO w p (fun j => decide (j ∈ ns)) L.length))

theorem cr_setL {X : Cx} (hc : X.calm = true) : CallR X (.type "set") (rSetL X.K X.w) := by
  intro pins s σ H vs us Q I r h
  obtain ⟨a, ns, rfl, hs, hlen, q⟩ := h
  obtain ⟨its, rv, hl, _⟩ := I.list hs
  rw [Vals.ref1 r]
  refine setOfList ns (I.ok.hd hc) hl.isList (by simpa using intsAre_of rv) (by unfold scanBound; omega) fun h' tk c hS hk => ?_
  obtain ⟨L, nd, mem, len⟩ := setR_list hS
  subst len
  refine ⟨.ref s.heap.objs.size, upd H s.heap.objs.size (SetO X.w s.heap.objs.size (fun j => decide (j ∈ ns)) L.length), I.laid (t' := tk) hk (Nat.le_refl _) (setO_new hS), rfl,
    q _ L (I.hok.fresh (Nat.le_refl _)) nd (fun k => by rw [mem k, decide_eq_true_eq])⟩

def rLenSet (w : World) : List V → Hp → VK → Prop := fun vs H Q => ∃ (a : Addr) (S : Int → Bool) (n : Nat), vs = [V.ref a] ∧ H a = some (SetO w a S n) ∧ Q (.int (n : Int)) H

theorem cr_lenSet {X : Cx} : CallR X (.builtin "len") (rLenSet X.w) := by
  intro pins s σ H vs us Q I r h
  obtain ⟨a, S, n, rfl, ha, q⟩ := h
  have R := setO_get I ha
  rw [Vals.ref1 r]
  obtain ⟨o, es, ep, t, ho, hx, hd, g, nd, hm, hb, hf, hn, _⟩ := R
  refine call_len_set ho hx hd hf (by unfold scanBound at hb; omega) ⟨.int (n : Int), H, I.tok _, ⟨_, by rw [← hn]⟩, q⟩
end WR3
/-! A rule that the hand layer has not: list(reversed(xs)), xs a list. -/
namespace WR4
open PySem PySem.Spec PyProof.Rows L2 RT

section
variable {prog : Program} {w : World} {A : Around} {E : Value → Shared → Prop} {s : Shared}

theorem initRev {R : Result → Shared → Prop} {it l S : Addr} {items : Array Value} (hh : A.handled = none) (hit : s.heap.IsRevIter it l ((items.size : Int) - 1)) (hl : s.heap.IsList l items) (hne : l ≠ it) (hn : items.size ≤ sizeLine)
    (outS : S ∉ [it, l]) (hS : s.heap.get? S = some { cls := .type "list", data := .seq #[] })
    (k : ∀ (h' : Heap) (tk : Nat) (acc : Array Value) (c : Nat), (∀ b o, b ≠ it → b ≠ S → s.heap.get? b = some o → h'.get? b = some o) → h'.get? S = some { cls := .type "list", dict := none, data := .seq acc c, slots := #[] } →
      ItemsOf (fun i v => items[items.size - 1 - i]? = some v) acc items.size → R (.ok (.ret .none)) { s with heap := h', toks := tk }) :
    wpAny (model prog w) A.in1 (Builtin.«list.__init__» ⟨[.ref S, .ref it], []⟩)
      (fun fin s' => match fin with | .done f => R (.ok f) s' | .again c' => c'.quiet = true ∧ codeAny (model prog w) A c' R s') (fun e s' => R (.error e) s') s := by
  have W := (Walks.listRev (prog := prog) (w := w) (A := A.in1) hh it l hne items).toS
  have neI : S ≠ it := fun e => outS (by simp [e])
  have neL : S ≠ l := fun e => outS (by simp [e])
  show wpAny _ A.in1 (do let old ← Builtin.List.listItems (.ref S); Builtin.List.listUpdate (.ref S) (fun _ => #[]); letGo old.toList.reverse; Builtin.List.listExtendWith (.ref S) (.ref it) .none) _ _ s
  refine wpAny_bind ?_
  unfold Builtin.List.listItems
  refine wpAny_bind (wpAny_seqItems hS rfl (wpAny_pure ?_))
  show wpAny _ A.in1 (updateSeq S (fun _ => #[]) >>= fun _ => letGo (#[] : Array Value).toList.reverse >>= fun _ => Builtin.List.listExtendWith (.ref S) (.ref it) .none) _ _ s
  refine wpAny_bind (wpAny_updateSeq hS rfl ?_)
  have S2 := Heap.get?_update_self (Obj.mapSeq (fun _ => (#[] : Array Value))) hS rfl
  have oth : ∀ b o, b ≠ S → s.heap.get? b = some o → (s.heap.update S (Obj.mapSeq (fun _ => (#[] : Array Value)))).get? b = some o :=
    fun b o hb e => (Heap.get?_update_other _ _ (Ne.symm hb)).trans e
  refine wpAny_bind (wpAny_letGo ?_)
  generalize hg : s.heap.update S (Obj.mapSeq (fun _ => (#[] : Array Value))) = g at S2 oth
  have hit1 : g.IsRevIter it l ((items.size : Int) - 1) := hit.at fun o e => oth it o (Ne.symm neI) e
  have hl1 : g.IsList l items := hl.at fun o e => oth l o (Ne.symm neL) e
  have hT : ({ s with heap := g } : Shared).TypeIs (.ref it) "list_reverseiterator" := Heap.IsRevIter.typeIs (s := { s with heap := g }) hit1
  have h1 : Builtin.List.listSameRef (.ref S) (.ref it) = false := by simp [Builtin.List.listSameRef, neI]
  unfold Builtin.List.listExtendWith
  refine wpAny_bind (wpAny_typeOf hT ?_)
  rw [if_neg (by rw [h1]; decide)]
  refine wpAny_bind (wpAny_pyIter_revIter (s := { s with heap := g }) hit1 ?_)
  refine wpAny_bind (wpAny_holding ?_)
  unfold Builtin.List.listLengthHint
  refine wpAny_bind (wpAny_specialOf hT nolen_lri ?_)
  show wpAny _ A.in1 (specialOf (Value.ref it) (Str.ofString "__length_hint__") >>= _) _ _ _
  refine wpAny_bind (wpAny_specialOf hT hint_lri ?_)
  generalize hid : ("list_reverseiterator.__length_hint__" : String) = id0
  wp_delta
  rw [show splitId id0 = some ("list_reverseiterator", "__length_hint__") from by subst hid; decide +kernel]
  subst hid
  refine wpAny_bind (wpAny_isInstance (b := true) hT (by rw [isSubtype_type]; kernel_rfl) ?_)
  refine wpAny_pure ?_
  rw [if_neg (by decide)]
  have e0 : ((items.size : Nat) : Int) - 1 - ((0 : Nat) : Int) = (items.size : Int) - 1 := by omega
  refine wpAny_pure ⟨plainId_quiet F.plain_extend_loop _, codeAny_extend_loopS W hn _ outS _ items.size 0 _ _ _ rfl (Nat.zero_le _) ⟨Nat.zero_le _, by rw [e0]; exact hit1, hl1⟩ S2 (ItemsOf.nil _) fun s' acc' c' hm hS' hacc => ?_⟩
  rw [Moved.eq_with hm]
  refine k s'.heap s'.toks acc' c' (fun b o b1 b2 e => hm.heap b o (fun hmem => ?_) (oth b o b2 e)) hS' hacc
  rcases List.mem_cons.mp hmem with e' | hmem
  · exact b2 e'
  · exact b1 (List.mem_singleton.mp hmem)

theorem listRev {it l : Addr} {items : Array Value} {Q : Value → Shared → Prop} (hh : A.handled = none) (hit : s.heap.IsRevIter it l ((items.size : Int) - 1)) (hl : s.heap.IsList l items) (hne : l ≠ it) (hn : items.size ≤ sizeLine)
    (k : ∀ (h' : Heap) (tk : Nat) (acc : Array Value) (c : Nat), (∀ b o, b ≠ it → s.heap.get? b = some o → h'.get? b = some o) → h'.get? s.heap.objs.size = some { cls := .type "list", dict := none, data := .seq acc c, slots := #[] } →
      ItemsOf (fun i v => items[items.size - 1 - i]? = some v) acc items.size → Q (.ref s.heap.objs.size) { s with heap := h', toks := tk }) :
    wpAny (model prog w) A (call (.type "list") [.ref it]) Q E s := by
  refine callType_codes (Q₁ := fun obj s1 => obj = .ref s.heap.objs.size ∧ s1 = { s with heap := s.heap.push { cls := .type "list", data := .seq #[] } }) F.called_list (F.typeCall_list_1 _) F.entry_list_init
    (code_list_new _ ⟨rfl, rfl⟩) fun obj s1 h1 => ?_
  obtain ⟨rfl, rfl⟩ := h1
  have hS : (s.heap.push { cls := .type "list", data := .seq #[] }).get? s.heap.objs.size = some { cls := .type "list", data := .seq #[] } := Heap.get?_push_size _ rfl
  obtain ⟨oi, hoi, _⟩ := id hit
  obtain ⟨ol, hol, _⟩ := id hl
  have outS : s.heap.objs.size ∉ [it, l] := by
    simp only [List.mem_cons, List.not_mem_nil, or_false, not_or]
    exact ⟨Nat.ne_of_gt (Heap.lt_size hoi), Nat.ne_of_gt (Heap.lt_size hol)⟩
  refine ⟨⟨_, hS, rfl⟩, F.args_list_init_2 _ _, initRev (A := A.in1) hh (hit.at fun o e => Heap.get?_push_of_some _ e) (hl.push _) hne hn outS hS fun h' tk acc c hk hS' hacc => ?_⟩
  exact ⟨rfl, k h' tk acc c (fun b o b1 e => hk b o b1 (Nat.ne_of_lt (Heap.lt_size e)) (Heap.get?_push_of_some _ e)) hS' hacc⟩
end

def tLstRev (K : PySem.W.Frag) (te : TE) : TE := fun σ H Q => te σ H fun v H1 => ∃ (a : Addr) (xs : List V), v = .ref a ∧ SqL K H1 a xs ∧ ∀ q, H1 q = none → Q (.ref q) (upd H1 q (.lst xs.reverse))

theorem pe_lstRev {X : Cx} {e : Expr} {te : TE} {p p2 pos pos2 : Pos} (hc : X.calm = true) (hg : Gl X "list") (hm : X.mg "list" = none) (hg2 : Gl X "reversed") (hm2 : X.mg "reversed" = none) (he : PE X e te)
    (hs : starEach [e] X.env = (false, eval e X.env) :: starEach [] X.env := by rfl)
    (hs2 : starEach [.Call (.Name "reversed" p2) [e] [] pos2] X.env = (false, eval (.Call (.Name "reversed" p2) [e] [] pos2) X.env) :: starEach [] X.env := by rfl) :
    PE X (.Call (.Name "list" p) [.Call (.Name "reversed" p2) [e] [] pos2] [] pos) (tLstRev X.K te) := by
  refine ⟨fun pins s σ H Q I h => ?_⟩
  refine Call_ (ld_blt I hg hm boot_list (PyProof.Rows.callWith_type1 (PyProof.Rows.args_cons (Call_ (ld_blt I hg2 hm2 PyProof.Rows.boot_reversed (PyProof.Rows.callWith_type1 (PyProof.Rows.args_cons (thn (he.run pins s σ H _ I h) fun u s1 ⟨v, H1, I1, r1, q1⟩ => PyProof.Rows.args_nil ?_) hs) hs rfl))) hs2) hs2 rfl))
  obtain ⟨a, xs, ev, hq, q⟩ := q1
  subst ev
  obtain rfl : u = Value.ref a := r1
  obtain ⟨its, rv, p', hz⟩ := I1.list hq
  refine call_reversed_list p'.isList (PyProof.Rows.args_nil ?_)
  have k0 : ∀ b o, s1.heap.get? b = some o → (s1.heap.push (revObj a ((its.toArray.size : Int) - 1))).get? b = some o := fun b o e => Heap.get?_push_of_some _ e
  have I2 : Inv X pins σ H1 { s1 with heap := s1.heap.push (revObj a ((its.toArray.size : Int) - 1)) } := I1.kept (t' := s1.toks) k0
  obtain ⟨f0, f1, f2, f3, f4, f5⟩ := I1.fpOk (H' := H1) (b := s1.heap.objs.size) (Nat.le_refl _) (I1.hok.fresh (Nat.le_refl _))
  have hl := p'.isList
  obtain ⟨ol, hol, _⟩ := id hl
  have hne : a ≠ s1.heap.objs.size := Nat.ne_of_lt (Heap.lt_size hol)
  have hn : its.toArray.size ≤ sizeLine := by
    rw [List.size_toArray, ← rv.length]
    exact hz
  refine listRev (s := { s1 with heap := s1.heap.push (revObj a ((its.toArray.size : Int) - 1)) }) (I1.ok.hd hc) ⟨_, Heap.get?_push_size _ rfl, rfl, rfl⟩ (hl.push _) hne hn fun h' tk acc c hk hS' hi => ?_
  have sz : (s1.heap.push (revObj a ((its.toArray.size : Int) - 1))).objs.size = s1.heap.objs.size + 1 := Heap.size_push ..
  have I3 : Inv X pins σ (upd H1 (s1.heap.push (revObj a ((its.toArray.size : Int) - 1))).objs.size (.lst xs.reverse)) { s1 with heap := h', toks := tk } :=
    I2.turnedNew (t' := tk) (ch := [s1.heap.objs.size]) (fun b o hb e => hk b o (by simpa using hb) e) (fun b hb => by
      have eb : b = s1.heap.objs.size := by simpa using hb
      rw [eb]
      exact ⟨f0, f1, f2, f3, f4, f5⟩) (Nat.le_refl _) (show ObjOk X.prog X.w _ _ _ (.lst xs.reverse) from ⟨by rw [List.length_reverse]; exact hz, acc.toList, c, vals_rev rv hi, by rw [Array.toArray_toList]; exact hS'⟩)
  refine ⟨.ref _, _, I3, rfl, q _ ?_⟩
  rw [sz]
  exact I1.hok.fresh (Nat.le_succ _)
end WR4
/-! lists of lists of numbers (a place may hold None) -/
namespace WD
open PySem PySem.Spec PyProof.Rows L2 WA

def El (H0 H : Hp) (o : Option (List Nat)) (v : V) : Prop := match o with
  | none => v = .non
  | some l => ∃ a, v = .ref a ∧ H0 a = none ∧ H a = some (.lst (natsV l))
structure Ll (H0 H : Hp) (ms : List V) (Ls : List (Option (List Nat))) : Prop where
  len : ms.length = Ls.length
  el : ∀ (i : Nat) o v, Ls[i]? = some o → ms[i]? = some v → El H0 H o v
  inj : ∀ (i j : Nat) a, ms[i]? = some (.ref a) → ms[j]? = some (.ref a) → i = j
section
variable {H0 H H' : Hp} {ms : List V} {Ls : List (Option (List Nat))}
theorem El.mono {o : Option (List Nat)} {v : V} (h : El H0 H o v) (s : Same H H') : El H0 H' o v := by
  cases o with
  | none => exact h
  | some l =>
    obtain ⟨a, e, h0, h1⟩ := h
    exact ⟨a, e, h0, s _ _ h1⟩
theorem Ll.nil : Ll H0 H [] [] := ⟨rfl, fun i o v h => by simp at h, fun i j a h => by simp at h⟩
theorem Ll.mono (L : Ll H0 H ms Ls) (s : Same H H') : Ll H0 H' ms Ls := ⟨L.len, fun i o v h1 h2 => (L.el i o v h1 h2).mono s, L.inj⟩
theorem Ll.get (L : Ll H0 H ms Ls) {i : Nat} {l : List Nat} (h : Ls[i]? = some (some l)) : ∃ a, ms[i]? = some (.ref a) ∧ H0 a = none ∧ H a = some (.lst (natsV l)) := by
  have hi : i < ms.length := by
    rw [L.len]
    exact (List.getElem?_eq_some_iff.mp h).1
  obtain ⟨a, e, h0, h1⟩ := L.el i _ ms[i] h (List.getElem?_eq_getElem hi)
  exact ⟨a, by rw [List.getElem?_eq_getElem hi, e], h0, h1⟩
theorem Ll.getN (L : Ll H0 H ms Ls) {i : Nat} (h : Ls[i]? = some none) : ms[i]? = some .non := by
  have hi : i < ms.length := by
    rw [L.len]
    exact (List.getElem?_eq_some_iff.mp h).1
  have := L.el i _ ms[i] h (List.getElem?_eq_getElem hi)
  rw [List.getElem?_eq_getElem hi, this]
theorem Ll.has (L : Ll H0 H ms Ls) {i : Nat} {a : Addr} (h : ms[i]? = some (.ref a)) : ∃ l, Ls[i]? = some (some l) ∧ H0 a = none ∧ H a = some (.lst (natsV l)) := by
  have hi : i < Ls.length := by
    rw [← L.len]
    exact (List.getElem?_eq_some_iff.mp h).1
  have e := L.el i Ls[i] _ (List.getElem?_eq_getElem hi) h
  cases q : Ls[i] with
  | none =>
    rw [q] at e
    cases e
  | some l =>
    rw [q] at e
    obtain ⟨a', e1, h0, h1⟩ := e
    cases e1
    exact ⟨l, by rw [List.getElem?_eq_getElem hi, q], h0, h1⟩
/-- the list of them is none of them -/
theorem Ll.outer (L : Ll H0 H ms Ls) {D : Addr} (hD : H D = some (.lst ms)) {i : Nat} {a : Addr} (h : ms[i]? = some (.ref a)) : a ≠ D := by
  intro e
  subst e
  obtain ⟨l, _, _, h1⟩ := L.has h
  rw [hD] at h1
  cases h1
  unfold natsV at h
  rw [List.getElem?_map] at h
  cases q : l[i]? with
  | none =>
    rw [q] at h
    cases h
  | some x =>
    rw [q] at h
    cases h
theorem Ll.upd_other (L : Ll H0 H ms Ls) {p : Addr} {o : HO} (hp : ∀ (i : Nat) a, ms[i]? = some (.ref a) → a ≠ p) : Ll H0 (upd H p o) ms Ls := by
  refine ⟨L.len, fun i o' v h1 h2 => ?_, L.inj⟩
  have e := L.el i o' v h1 h2
  cases o' with
  | none => exact e
  | some l =>
    obtain ⟨a, e1, h0, h3⟩ := e
    subst e1
    exact ⟨a, rfl, h0, by rw [upd_ne (hp i a h2)]; exact h3⟩
theorem Ll.fresh (L : Ll H0 H ms Ls) {p : Addr} (hp : H p = none) : ∀ (i : Nat) a, ms[i]? = some (.ref a) → a ≠ p := by
  intro i a h e
  subst e
  obtain ⟨l, _, _, h1⟩ := L.has h
  rw [hp] at h1
  cases h1
/-- one of them is written anew -/
theorem Ll.put (L : Ll H0 H ms Ls) {i : Nat} {a : Addr} (h : ms[i]? = some (.ref a)) (l' : List Nat) : Ll H0 (upd H a (.lst (natsV l'))) ms (Ls.set i (some l')) := by
  refine ⟨by rw [List.length_set]; exact L.len, fun j o v h1 h2 => ?_, L.inj⟩
  rw [List.getElem?_set] at h1
  by_cases e : i = j
  · subst e
    rw [if_pos rfl] at h1
    obtain ⟨l, _, h0, _⟩ := L.has h
    split at h1
    · cases h1
      rw [h] at h2
      cases h2
      exact ⟨a, rfl, h0, upd_same⟩
    · cases h1
  · rw [if_neg e] at h1
    have q := L.el j o v h1 h2
    cases o with
    | none => exact q
    | some l =>
      obtain ⟨b, e1, h0, h3⟩ := q
      subst e1
      refine ⟨b, rfl, h0, ?_⟩
      rw [upd_ne]
      · exact h3
      · intro e2
        subst e2
        exact e (L.inj i j b h h2)
/-- one more, a new one -/
theorem Ll.snoc (L : Ll H0 H ms Ls) {a : Addr} {l : List Nat} (h0 : H0 a = none) (ha : H a = some (.lst (natsV l))) (hn : ∀ (i : Nat) b, ms[i]? = some (.ref b) → b ≠ a) : Ll H0 H (ms ++ [.ref a]) (Ls ++ [some l]) := by
  refine ⟨by simp [L.len], fun i o v h1 h2 => ?_, fun i j b h1 h2 => ?_⟩
  · by_cases e : i < Ls.length
    · rw [List.getElem?_append_left e] at h1
      rw [List.getElem?_append_left (by rw [L.len]; exact e)] at h2
      exact L.el i o v h1 h2
    · have hi := (List.getElem?_eq_some_iff.mp h1).1
      simp only [List.length_append, List.length_singleton] at hi
      have ei : i = Ls.length := by omega
      subst ei
      rw [List.getElem?_concat_length] at h1
      rw [← L.len, List.getElem?_concat_length] at h2
      cases h1
      cases h2
      exact ⟨a, rfl, h0, ha⟩
  · have b1 := (List.getElem?_eq_some_iff.mp h1).1
    have b2 := (List.getElem?_eq_some_iff.mp h2).1
    simp only [List.length_append, List.length_singleton] at b1 b2
    by_cases e1 : i < ms.length
    · rw [List.getElem?_append_left e1] at h1
      by_cases e2 : j < ms.length
      · rw [List.getElem?_append_left e2] at h2
        exact L.inj i j b h1 h2
      · have ej : j = ms.length := by omega
        subst ej
        rw [List.getElem?_concat_length] at h2
        cases h2
        exact absurd rfl (hn i _ h1)
    · have ei : i = ms.length := by omega
      subst ei
      rw [List.getElem?_concat_length] at h1
      cases h1
      by_cases e2 : j < ms.length
      · rw [List.getElem?_append_left e2] at h2
        exact absurd rfl (hn j _ h2)
      · omega
/-- one place is emptied -/
theorem Ll.drop (L : Ll H0 H ms Ls) (i : Nat) : Ll H0 H (ms.set i .non) (Ls.set i none) := by
  refine ⟨by simp [L.len], fun j o v h1 h2 => ?_, fun j k b h1 h2 => ?_⟩
  · rw [List.getElem?_set] at h1 h2
    by_cases e : i = j
    · rw [if_pos e] at h1 h2
      split at h1
      · cases h1
        split at h2
        · cases h2
          rfl
        · cases h2
      · cases h1
    · rw [if_neg e] at h1 h2
      exact L.el j o v h1 h2
  · rw [List.getElem?_set] at h1 h2
    by_cases e : i = j
    · rw [if_pos e] at h1
      split at h1 <;> cases h1
    · by_cases e2 : i = k
      · rw [if_pos e2] at h2
        split at h2 <;> cases h2
      · rw [if_neg e] at h1
        rw [if_neg e2] at h2
        exact L.inj j k b h1 h2
/-- a new list is put behind, into the list D of them -/
theorem Ll.growOld (L : Ll H0 H ms Ls) {D p : Addr} {l : List Nat} (hD : H D = some (.lst ms)) (h0 : H0 p = none) (hp : H p = some (.lst (natsV l))) (hn : ∀ (i : Nat) b, ms[i]? = some (.ref b) → b ≠ p) (hne : p ≠ D) :
    Ll H0 (upd H D (.lst (ms ++ [.ref p]))) (ms ++ [.ref p]) (Ls ++ [some l]) := by
  have q := L.snoc h0 hp hn
  refine q.upd_other fun i a h => ?_
  by_cases e : i < ms.length
  · rw [List.getElem?_append_left e] at h
    exact L.outer hD h
  · have hi := (List.getElem?_eq_some_iff.mp h).1
    simp only [List.length_append, List.length_singleton] at hi
    have ei : i = ms.length := by omega
    subst ei
    rw [List.getElem?_concat_length] at h
    cases h
    exact hne
theorem Ll.grow (L : Ll H0 H ms Ls) {D p : Addr} (l : List Nat) (hD : H D = some (.lst ms)) (h0 : H0 p = none) (np : H p = none) :
    Ll H0 (upd (upd H p (.lst (natsV l))) D (.lst (ms ++ [.ref p]))) (ms ++ [.ref p]) (Ls ++ [some l]) :=
  (L.mono (same_upd np)).growOld (same_upd np _ _ hD) h0 upd_same (L.fresh np) (ne_of_none hD np).symm
theorem Ll.low {H2 : Hp} (L : Ll H0 H ms Ls) (s : Same H2 H0) : Ll H2 H ms Ls := by
  refine ⟨L.len, fun i o v h1 h2 => ?_, L.inj⟩
  have e := L.el i o v h1 h2
  cases o with
  | none => exact e
  | some l =>
    obtain ⟨a, e1, h0, h3⟩ := e
    exact ⟨a, e1, s.free h0, h3⟩
end
end WD
namespace WC
open PySem PySem.Spec PyProof.Rows L2 WA WB WR1 KL

abbrev sPlaces : Stmt := topS 3
abbrev sTieGaps : Stmt := topS 4
theorem scPlaces : FnScope ["row", "numbers", "places", "spot", "number"] ["row"] (defScope sPlaces) := ⟨rfl, rfl, rfl, by decide +kernel, rfl, by decide +kernel, by decide +kernel⟩
theorem scTieGaps : FnScope ["row", "numbers", "places", "found", "amount", "spot", "hinder", "fore"] ["row"] (defScope sTieGaps) := ⟨rfl, rfl, rfl, by decide +kernel, rfl, by decide +kernel, by decide +kernel⟩

/-- the places so far -/
def PL (r : List Int) (i : Nat) : List V := (List.range (r.length + 2)).map fun m => V.int (if place r m < i then (place r m : Int) else 0)
def placesL (r : List Int) : List Nat := (List.range (r.length + 2)).map (place r)
theorem pl_len (r : List Int) (i : Nat) : (PL r i).length = r.length + 2 := by simp [PL]
theorem pl_get (r : List Int) (i m : Nat) : (PL r i)[m]? = if m < r.length + 2 then some (V.int (if place r m < i then (place r m : Int) else 0)) else none := by
  unfold PL
  rw [List.getElem?_map]
  by_cases h : m < r.length + 2
  · rw [if_pos h, List.getElem?_range h]
    rfl
  · rw [if_neg h, List.getElem?_eq_none (by simpa using h)]
    rfl
theorem pl_zero (r : List Int) : PL r 0 = (List.replicate (r.length + 2) [V.int 0]).flatten := by
  rw [List.flatten_replicate_singleton]
  apply List.ext_getElem?
  intro m
  rw [pl_get, List.getElem?_replicate]
  by_cases h : m < r.length + 2
  · rw [if_pos h, if_pos h]
    simp
  · rw [if_neg h, if_neg h]
theorem pl_set {r : List Int} (R : IsRow r) {i : Nat} (hi : i < r.length + 2) : (PL r i).set (numAt r i).natAbs (.int (i : Int)) = PL r (i + 1) := by
  apply List.ext_getElem?
  intro m
  have ap := abs_place R hi
  have al := abs_lt R hi
  rw [List.getElem?_set, pl_get, pl_get, pl_len]
  by_cases e : (numAt r i).natAbs = m
  · rw [if_pos e, if_pos (by omega), if_pos (by omega)]
    have : place r m = i := by rw [← e]; exact ap
    simp [this]
  · rw [if_neg e]
    by_cases hm : m < r.length + 2
    · have hne : place r m ≠ i := by
        intro q
        apply e
        have := place_abs R hm
        rw [q] at this
        exact this
      rw [if_pos hm, if_pos hm]
      by_cases q : place r m < i
      · rw [if_pos q, if_pos (by omega)]
      · rw [if_neg q, if_neg (by omega)]
    · rw [if_neg hm, if_neg hm]
theorem pl_end {r : List Int} (R : IsRow r) : PL r (r.length + 2) = natsV (placesL r) := by
  unfold PL natsV placesL
  rw [List.map_map]
  apply List.map_congr_left
  intro m hm
  rw [List.mem_range] at hm
  have := place_lt R hm
  simp [this]

section
variable {P : Program} {w : World} {K : PySem.W.Frag} {mg : Str → Option Value} {base : Heap}

def spAmountPlaces (K : PySem.W.Frag) : Sp := fun vs H Q _ => ∃ (a : Addr) (r : List Int), vs = [.ref a] ∧ SqT K H a (intsV r) ∧ r.length ≤ 40 ∧ IsRow r ∧
  ∀ H' p, Same H H' → H p = none → H' p = some (.lst (natsV (placesL r))) → Q (.ref p) H'

theorem ok_places {f fF : Addr} {fd fdF : FuncData} (F : Fun K "amount_places" "amount_places" sPlaces f fd) (GF : FnOk P w K mg base CX0 1 fF fdF ["row"] (spFramed K)) (kF : PySem.W.keepIn K (.ref fF) = true) (bF : Binds K fdF ["row"] []) (gF : mg "framed" = some (.ref fF))
    (ml : mg "len" = none) (me : mg "enumerate" = none) (ma : mg "abs" = none) : FnOk P w K mg base CX0 2 f fd ["row"] (spAmountPlaces K) := by
  refine F.ok scPlaces (fun vs H Q E h => ?_) (fun cdv A outer s H vs Q E hr h => ?_)
  · obtain ⟨a, r, rfl, _⟩ := h
    rfl
  · obtain ⟨a, r, rfl, hT, hlen, R, q⟩ := h
    refine ⟨_, pss_cons (ps_set (i := 1) scPlaces.nd rfl (.inl rfl) (pe_call GF hr (by rfl) gF kF bF .nil pass0 (pa_cons (pv 0) pa_nil)))
      (pss_cons (ps_set (i := 2) scPlaces.nd rfl (.inl rfl) (pe_op op_rep (pe_lst (pa_cons pe_int pa_nil)) (pe_callB call_len_seq (by rfl) ml PySem.boot_len (pa_cons (pv 1) pa_nil))))
      (pss_cons (ps_for PassesOwn.never rfl (pi_enumT (by rfl) me (pa_cons (pv 1) pa_nil)) (pg_tup rfl (pgs_cons (pg_name (i := 3) scPlaces.nd rfl (.inl rfl)) (pgs_cons (pg_name (i := 4) scPlaces.nd rfl (.inl rfl)) pgs_nil)))
        (pss_one (ps_asg (pv 3) (pg_sub (pv 2) (pe_callB call_abs (by rfl) ma (by decide +kernel) (pa_cons (pv 4) pa_nil)) set_list))))
      (pss_one (ps_ret (pv 2))))), ?_⟩
    refine ⟨.ref a, rfl, a, r, rfl, hT, hlen, fun H1 p1 s1 n1 h1 => ?_⟩
    have hT1 : SqT K H1 p1 (intsV (nums r)) := .inl (.inl h1)
    have hl : (intsV (nums r)).length = r.length + 2 := by rw [ints_len, nums_len]
    -- places = [0] * len(numbers)
    refine ⟨line_ok (by show 1 ≤ 100000; decide), fun p2 n2 => ?_⟩
    have s2 : Same H1 (upd H1 p2 (.lst [.int 0])) := same_upd n2
    refine ⟨.ref p1, rfl, p1, _, rfl, .inr (sameT s2 hT1), p2, _, _, rfl, rfl, upd_same, by rw [hl]; omega, by rw [hl]; omega, ?_, fun p3 n3 => ?_⟩
    · rw [hl]
      exact line_ok (by show 1 * ((r.length + 2 : Nat) : Int).toNat ≤ 100000; omega)
    · have e3 : (List.replicate (((intsV (nums r)).length : Nat) : Int).toNat [V.int 0]).flatten = PL r 0 := by
        rw [hl, pl_zero]
        rfl
      rw [e3]
      have s3 := same_upd (o := HO.lst (PL r 0)) n3
      -- the loop
      refine ⟨.ref p1, rfl, p1, _, rfl, sameT s3 (sameT s2 hT1), ?_⟩
      refine for_it walk_enumT (fun i σ H' => ∃ v3 v4, σ = [some (.ref a), some (.ref p1), some (.ref p3), v3, v4] ∧ Same H1 H' ∧ H' p3 = some (.lst (PL r i))) ⟨none, none, rfl, s2.trans s3, upd_same⟩
        (fun i σ H' _ ⟨_, _, _, sm, _⟩ => sameT sm hT1) ?_ ?_
      · rintro i x σ H' H2 hi ⟨v3, v4, rfl, sm, hL⟩ ⟨T, y, z, rfl, nT, rfl, e1, e2⟩
        rw [hl] at hi
        cases e1
        replace e2 : (intsV (nums r))[i]? = some z := e2
        rw [ints_get (numAt_get hi)] at e2
        cases e2
        have hne : p3 ≠ T := ne_of_none hL nT
        have n31 : H1 p3 = none := s2.free n3
        refine ⟨T, _, rfl, .inl (.inl upd_same), rfl, _, _, rfl, _, _, rfl, rfl, ?_⟩
        refine ⟨_, rfl, _, rfl, _, rfl, _, rfl, p3, _, _, (numAt r i).natAbs, rfl, rfl, (upd_ne hne).trans hL, ?_, ?_⟩
        · have al := abs_lt R hi
          rw [pl_len]
          have e4 : (if numAt r i < 0 then -numAt r i else numAt r i) = ((numAt r i).natAbs : Int) := by split <;> omega
          show ixN (r.length + 2) (if numAt r i < 0 then -numAt r i else numAt r i) = some (numAt r i).natAbs
          rw [e4]
          exact Evl.ixN_nat al
        · refine ⟨_, _, rfl, Same.put (sm.trans (same_upd nT)) n31, ?_⟩
          rw [upd_same, pl_set R hi]
      · rintro σ H' ⟨v3, v4, rfl, sm, hL⟩
        rw [hl, pl_end R] at hL
        exact ⟨_, rfl, q H' p3 (s1.trans sm) (s1.free (s2.free n3)) hL⟩

def tiesL (r : List Int) (n : Nat) : List (Nat × Nat) := (List.range n).map fun k => (hinder r k, fore r k)
def spTieGaps (K : PySem.W.Frag) : Sp := fun vs H Q _ => ∃ (a : Addr) (r : List Int), vs = [.ref a] ∧ SqT K H a (intsV r) ∧ r.length ≤ 40 ∧ IsRow r ∧
  ∀ H' p xs, Same H H' → H p = none → H' p = some (.lst xs) → Pairs K H' xs (tiesL r (r.length + 1)) → Q (.ref p) H'

theorem ok_tieGaps {f fF fP : Addr} {fd fdF fdP : FuncData} (F : Fun K "tie_gaps" "tie_gaps" sTieGaps f fd) (GFramed : FnOk P w K mg base CX0 1 fF fdF ["row"] (spFramed K)) (kFramed : PySem.W.keepIn K (.ref fF) = true) (bFramed : Binds K fdF ["row"] []) (gFramed : mg "framed" = some (.ref fF))
    (GAmountPlaces : FnOk P w K mg base CX0 2 fP fdP ["row"] (spAmountPlaces K)) (kAmountPlaces : PySem.W.keepIn K (.ref fP) = true) (bAmountPlaces : Binds K fdP ["row"] []) (gAmountPlaces : mg "amount_places" = some (.ref fP))
    (m_len : mg "len" = none) (m_range : mg "range" = none) : FnOk P w K mg base CX0 3 f fd ["row"] (spTieGaps K) := by
  refine F.ok scTieGaps (fun vs H Q E h => ?_) (fun cdv A outer s H vs Q E hr h => ?_)
  · obtain ⟨a, r, rfl, _⟩ := h
    rfl
  · obtain ⟨a, r, rfl, hT, hlen, R, q⟩ := h
    have nd := scTieGaps.nd
    refine ⟨_, (pss_cons (ps_set (i := 1) nd rfl (.inl rfl) (pe_call GFramed (hr.mono (by decide)) (by rfl) gFramed kFramed bFramed .nil pass0 (pa_cons (pv 0) pa_nil)))
      (pss_cons (ps_set (i := 2) nd rfl (.inl rfl) (pe_call GAmountPlaces (hr.mono (by decide)) (by rfl) gAmountPlaces kAmountPlaces bAmountPlaces .nil pass0 (pa_cons (pv 0) pa_nil)))
      (pss_cons (ps_set (i := 3) nd rfl (.inl rfl) (pe_lst pa_nil))
      (pss_cons (ps_for PassesOwn.never rfl (pi_range1 rfl m_range (pa_cons (pe_op  op_add (pe_callB (r := Evl.rLenS K) call_len_seq (by rfl) m_len PySem.boot_len (pa_cons (pv 0) pa_nil)) pe_int) pa_nil)) (pg_name (i := 4) nd rfl (.inl rfl))
      (pss_cons (ps_set (i := 5) nd rfl (.inl rfl) (pe_ix (r := rIxL K) ix_list (pv 2) (pv 4) (fun _ _ => rfl)))
        (pss_cons (ps_set (i := 6) nd rfl (.inl rfl) (pv 5))
        (Evl.pss_cut (ps_if (pt_cmpR  op_lt (pe_ix (r := rIxT K) ix_tup (pv 1) (pv 5) (fun _ _ => rfl)) pe_int (nomark _))
        (pss_one (ps_set (i := 6) nd rfl (.inl rfl) (pe_op  op_sub (pv 5) pe_int)))
        pss_nil)
        (pss_cons (ps_set (i := 5) nd rfl (.inl rfl) (pe_ix (r := rIxL K) ix_list (pv 2) (pe_op  op_add (pv 4) pe_int) (fun _ _ => rfl)))
        (pss_cons (ps_set (i := 7) nd rfl (.inl rfl) (pe_op  op_sub (pv 5) pe_int))
        (Evl.pss_cut (ps_if (pt_cmpR  op_lt (pe_ix (r := rIxT K) ix_tup (pv 1) (pv 5) (fun _ _ => rfl)) pe_int (nomark _))
        (pss_one (ps_set (i := 7) nd rfl (.inl rfl) (pv 5)))
        pss_nil)
        (pss_one (ps_expr (pe_bm  PySem.F.plainAttrs_list PySem.F.slot_list_append PySem.F.type_list_append mt_append (pv 3) (pa_cons (pe_tup (pa_cons (pv 6) (pa_cons (pv 7) pa_nil))) pa_nil)))))))))))
      (pss_one (ps_ret (pv 3))))))), ?_⟩
    refine ⟨.ref a, rfl, a, r, rfl, hT, hlen, fun H1 p1 s1 n1 h1 => ?_⟩
    refine ⟨.ref a, rfl, a, r, rfl, sameT s1 hT, hlen, R, fun H2 p2 s2 n2 h2 => ?_⟩
    refine ⟨Nat.zero_le _, fun p3 n3 => ?_⟩
    have s3 := same_upd (o := HO.lst []) n3
    have h1' : H2 p1 = some (.tup (intsV (nums r))) := s2 _ _ h1
    have s12 := s1.trans s2
    refine ⟨.ref a, rfl, a, _, rfl, .inr (sameT (s12.trans s3) hT), _, _, rfl, rfl, _, rfl, ?_, ?_, ?_⟩
    · show -(2 ^ 62 : Int) ≤ ((intsV r).length : Int) + 1
      omega
    · show ((intsV r).length : Int) + 1 < (2 ^ 62 : Int)
      rw [ints_len]
      omega
    have en : ((((intsV r).length : Nat) : Int) + 1).toNat = r.length + 1 := by rw [ints_len]; omega
    rw [en]
    refine for_it walk_range (fun i σ H' => ∃ v4 v5 v6 v7 xs, σ = [some (.ref a), some (.ref p1), some (.ref p2), some (.ref p3), v4, v5, v6, v7] ∧ Same H2 H' ∧ H' p3 = some (.lst xs) ∧ Pairs K H' xs (tiesL r i)) ⟨none, none, none, none, [], rfl, s3, upd_same, Pairs.nil⟩ (fun _ _ _ _ _ => trivial) ?_ ?_
    · rintro i x σ H4 H5 hi ⟨v4, v5, v6, v7, xs, rfl, sm, hL, hP⟩ ⟨rfl, rfl⟩
      have hpl : ∀ m, m < r.length + 2 → atI (natsV (placesL r)) (m : Int) = some (.int (place r m : Int)) := fun m hm => atI_nat (nats_get (by unfold placesL; rw [List.getElem?_map, List.getElem?_range hm]; rfl))
      have hnm : ∀ m, m < r.length + 2 → atI (intsV (nums r)) (place r m : Int) = some (.int (numAt r (place r m))) := fun m hm => atI_nat (ints_get (numAt_get (place_lt R hm)))
      have hT1 : SqT K H5 p1 (intsV (nums r)) := .inl (.inl (sm _ _ h1'))
      have hL2 : SqL K H5 p2 (natsV (placesL r)) := .inl (.inl (sm _ _ h2))
      have ei : (0 : Int) + (i : Int) = (i : Int) := by omega
      refine ⟨_, rfl, _, rfl, p2, _, _, _, rfl, rfl, hL2, by rw [ei]; exact hpl i (by omega), ?_⟩
      refine ⟨_, rfl, ?_⟩
      refine ⟨fun σ' H' => σ' = [some (.ref a), some (.ref p1), some (.ref p2), some (.ref p3), some (.int ((0 : Int) + (i : Int))), some (.int (place r i : Int)), some (.int (hinder r i : Int)), v7] ∧ H' = H5, ?_, ?_⟩
      · refine ⟨_, rfl, _, rfl, p1, _, _, _, rfl, rfl, hT1, hnm i (by omega), _, _, rfl, rfl, decide (numAt r (place r i) < 0), rfl, ?_⟩
        by_cases hn : numAt r (place r i) < 0
        · refine ifT (decide_eq_true hn) ?_
          refine ⟨_, rfl, _, _, rfl, rfl, ?_, rfl⟩
          have := (neg_last hn).2
          show _ = [_, _, _, _, _, _, some (V.int (hinder r i : Int)), v7]
          have e : ((hinder r i : Nat) : Int) = (place r i : Int) - 1 := by unfold hinder; rw [if_pos hn]; omega
          rw [e]
          rfl
        · refine ifF (decide_eq_false hn) ?_
          refine ⟨?_, rfl⟩
          have e : ((hinder r i : Nat) : Int) = (place r i : Int) := by unfold hinder; rw [if_neg hn]
          rw [e]
          rfl
      rintro σ1 H1' ⟨rfl, rfl⟩
      refine ⟨_, rfl, _, rfl, _, _, rfl, rfl, p2, _, _, _, rfl, rfl, hL2, by rw [show (0 : Int) + (i : Int) + 1 = ((i + 1 : Nat) : Int) by omega]; exact hpl (i + 1) (by omega), ?_⟩
      refine ⟨_, rfl, _, _, rfl, rfl, ?_⟩
      refine ⟨fun σ' H' => σ' = [some (.ref a), some (.ref p1), some (.ref p2), some (.ref p3), some (.int ((0 : Int) + (i : Int))), some (.int (place r (i + 1) : Int)), some (.int (hinder r i : Int)), some (.int (fore r i : Int))] ∧ H' = H1', ?_, ?_⟩
      · refine ⟨_, rfl, _, rfl, p1, _, _, _, rfl, rfl, hT1, hnm (i + 1) (by omega), _, _, rfl, rfl, decide (numAt r (place r (i + 1)) < 0), rfl, ?_⟩
        by_cases hn : numAt r (place r (i + 1)) < 0
        · refine ifT (decide_eq_true hn) ?_
          refine ⟨_, rfl, ?_, rfl⟩
          have e : ((fore r i : Nat) : Int) = (place r (i + 1) : Int) := by unfold fore; rw [if_pos hn]
          rw [e]
          rfl
        · refine ifF (decide_eq_false hn) ?_
          refine ⟨?_, rfl⟩
          have := place_pos R (show 1 ≤ i + 1 by omega) (by omega)
          have e : ((fore r i : Nat) : Int) = (place r (i + 1) : Int) - 1 := by unfold fore; rw [if_neg hn]; omega
          rw [e]
          rfl
      rintro σ2 H2' ⟨rfl, rfl⟩
      refine ⟨_, rfl, .inl ⟨rfl, _, .inl (.inl hL)⟩, _, rfl, _, rfl, line_ok (by show 2 ≤ 100000; decide), fun p6 n6 => ?_⟩
      have s6 := same_upd (o := HO.tup [V.int (hinder r i : Int), V.int (fore r i : Int)]) n6
      refine ⟨p3, xs, _, rfl, rfl, s6 _ _ hL, ?_, ?_⟩
      · have := hP.1
        rw [this]
        unfold tiesL
        rw [List.length_map, List.length_range]
        exact line_lt (by omega)
      · refine ⟨_, _, _, _, xs ++ [.ref p6], rfl, ?_, upd_same, ?_⟩
        · exact Same.put (sm.trans s6) n3
        · have e : tiesL r (i + 1) = tiesL r i ++ [(hinder r i, fore r i)] := by unfold tiesL; rw [List.range_succ, List.map_append]; rfl
          rw [e]
          exact Pairs.snoc ((hP.mono s6).nl (NL.put (s6 _ _ hL))) (.inl (.inl (by rw [upd_ne (ne_of_none hL n6).symm]; exact upd_same)))
    · rintro σ H' ⟨v4, v5, v6, v7, xs, rfl, sm, hL, hP⟩
      exact ⟨_, rfl, q H' p3 xs (s12.trans sm) (s12.free n3) hL hP⟩

theorem hasFramed {f : Addr} {fd : FuncData} (F : Fun K "framed" "framed" WB.sFramed f fd) (b : Binds K fd ["row"] []) (g : mg "framed" = some (.ref f)) (M : Bi mg) : Has P w K mg base 1 "framed" ["row"] (spFramed K) :=
  ⟨f, fd, ok_framed F M.m_len, F.kp, b, g⟩
theorem hasOpenGaps {f : Addr} {fd : FuncData} (F : Fun K "open_gaps" "open_gaps" WB.sOpen f fd) (b : Binds K fd ["row"] []) (g : mg "open_gaps" = some (.ref f)) (M : Bi mg)
    (h : Has P w K mg base 1 "framed" ["row"] (spFramed K)) : Has P w K mg base 2 "open_gaps" ["row"] (spOpenGaps K) := by
  obtain ⟨f1, fd1, G1, k1, b1, g1⟩ := h
  exact ⟨f, fd, ok_open F G1 k1 b1 g1 M.m_len M.m_range, F.kp, b, g⟩
theorem hasAmountPlaces {f : Addr} {fd : FuncData} (F : Fun K "amount_places" "amount_places" sPlaces f fd) (b : Binds K fd ["row"] []) (g : mg "amount_places" = some (.ref f)) (M : Bi mg)
    (h : Has P w K mg base 1 "framed" ["row"] (spFramed K)) : Has P w K mg base 2 "amount_places" ["row"] (spAmountPlaces K) := by
  obtain ⟨f1, fd1, G1, k1, b1, g1⟩ := h
  exact ⟨f, fd, ok_places F G1 k1 b1 g1 M.m_len M.m_enumerate M.m_abs, F.kp, b, g⟩
theorem hasTieGaps {f : Addr} {fd : FuncData} (F : Fun K "tie_gaps" "tie_gaps" sTieGaps f fd) (b : Binds K fd ["row"] []) (g : mg "tie_gaps" = some (.ref f)) (M : Bi mg)
    (h1 : Has P w K mg base 1 "framed" ["row"] (spFramed K)) (h2 : Has P w K mg base 2 "amount_places" ["row"] (spAmountPlaces K)) : Has P w K mg base 3 "tie_gaps" ["row"] (spTieGaps K) := by
  obtain ⟨f1, fd1, G1, k1, b1, g1⟩ := h1
  obtain ⟨f2, fd2, G2, k2, b2, g2⟩ := h2
  exact ⟨f, fd, ok_tieGaps F G1 k1 b1 g1 G2 k2 b2 g2 M.m_len M.m_range, F.kp, b, g⟩
end
end WC
namespace WE
open PySem PySem.Spec PyProof.Rows L2 WA WB WC WD KL KK KN

theorem range_set {α : Type} {n j : Nat} {f f' : Nat → α} (h : ∀ g, g ≠ j → f' g = f g) : ((List.range n).map f).set j (f' j) = (List.range n).map f' := by
  apply List.ext_getElem?
  intro m
  rw [List.getElem?_set, List.getElem?_map, List.getElem?_map, List.length_map, List.length_range]
  by_cases e : j = m
  · subst e
    by_cases q : j < n
    · rw [if_pos rfl, if_pos q, List.getElem?_range q]
      rfl
    · rw [if_pos rfl, if_neg q, List.getElem?_eq_none (by simpa using q)]
      rfl
  · rw [if_neg e]
    by_cases q : m < n
    · rw [List.getElem?_range q]
      show some (f m) = some (f' m)
      rw [h m (fun h => e h.symm)]
    · rw [List.getElem?_eq_none (by simpa using q)]
      rfl
theorem putF {H0 H : Hp} {ms : List V} {n : Nat} (f f' : Nat → List Nat) (L : Ll H0 H ms ((List.range n).map fun g => some (f g))) {j : Nat} {a : Addr} (h : ms[j]? = some (.ref a)) (hf : ∀ g, g ≠ j → f' g = f g) :
    Ll H0 (upd H a (.lst (natsV (f' j)))) ms ((List.range n).map fun g => some (f' g)) := by
  have q := L.put h (f' j)
  rwa [range_set (n := n) (j := j) (f := fun g => some (f g)) (f' := fun g => some (f' g)) (fun g hg => by rw [hf g hg])] at q
def metOne (r : List Int) (g k : Nat) : List Nat := (if hinder r k = g then [k] else []) ++ (if fore r k = g then [k] else [])
def metL (r : List Int) (i g : Nat) : List Nat := (List.range i).flatMap (metOne r g)
theorem metL_succ (r : List Int) (i g : Nat) : metL r (i + 1) g = metL r i g ++ metOne r g i := by
  unfold metL
  rw [List.range_succ, List.flatMap_append]
  simp
theorem metL_len (r : List Int) (i g : Nat) : (metL r i g).length ≤ 2 * i := by
  induction i with
  | zero => simp [metL]
  | succ i ih =>
    rw [metL_succ, List.length_append]
    have : (metOne r g i).length ≤ 2 := by
      unfold metOne
      split <;> split <;> simp
    omega
theorem mem_metL {r : List Int} {i g l : Nat} : l ∈ metL r i g ↔ l < i ∧ (hinder r l = g ∨ fore r l = g) := by
  unfold metL
  rw [List.mem_flatMap]
  constructor
  · rintro ⟨k, hk, h⟩
    rw [List.mem_range] at hk
    unfold metOne at h
    rw [List.mem_append] at h
    rcases h with h | h
    · split at h
      · rw [List.mem_singleton] at h
        subst h
        exact ⟨hk, .inl (by assumption)⟩
      · cases h
    · split at h
      · rw [List.mem_singleton] at h
        subst h
        exact ⟨hk, .inr (by assumption)⟩
      · cases h
  · rintro ⟨h1, h2⟩
    refine ⟨l, List.mem_range.mpr h1, ?_⟩
    unfold metOne
    rw [List.mem_append]
    rcases h2 with h | h
    · left
      rw [if_pos h]
      simp
    · right
      rw [if_pos h]
      simp
def blsV (n : Nat) (pl : Nat → Bool) : List V := (List.range n).map fun k => V.bl (pl k)
theorem bls_len (n : Nat) (pl : Nat → Bool) : (blsV n pl).length = n := by simp [blsV]
theorem bls_get {n k : Nat} {pl : Nat → Bool} (h : k < n) : (blsV n pl)[k]? = some (.bl (pl k)) := by
  unfold blsV
  rw [List.getElem?_map, List.getElem?_range h]
  rfl
theorem bls_set (n k : Nat) (pl : Nat → Bool) : (blsV n pl).set k (.bl true) = blsV n (fun l => if l = k then true else pl l) := by
  unfold blsV
  have := range_set (n := n) (j := k) (f := fun k => V.bl (pl k)) (f' := fun l => V.bl (if l = k then true else pl l)) (fun g hg => by simp [hg])
  rw [← this]
  simp
theorem bls_zero (n : Nat) : (List.replicate n [V.bl false]).flatten = blsV n (fun _ => false) := by
  rw [List.flatten_replicate_singleton]
  unfold blsV
  rw [List.map_const', List.length_range]
theorem nats_app (l m : List Nat) : natsV (l ++ m) = natsV l ++ natsV m := List.map_append
theorem nats_flat (l : List Nat) : (natsV l).all flatV = true := by
  rw [List.all_eq_true]
  intro x hx
  obtain ⟨n, _, rfl⟩ := List.mem_map.mp hx
  rfl

section
variable {P : Program} {w : World} {K : PySem.W.Frag} {mg : Str → Option Value} {base : Heap}

def spTieRings (K : PySem.W.Frag) : Sp := fun vs H Q _ => ∃ (a : Addr) (r : List Int), vs = [.ref a] ∧ SqT K H a (intsV r) ∧ r.length ≤ 40 ∧ IsRow r ∧
  ∀ H' p xs, Same H H' → H p = none → H' p = some (.lst xs) → xs.length = rings r → Q (.ref p) H'

/-- within the search -/
structure WI (r : List Int) (H3 : Hp) (p6 p7 p9 p10 : Addr) (i : Nat) (ys : List V) (pl : Nat → Bool) (wt ring : List Nat) (H' : Hp) : Prop where
  sm : Same H3 H'
  h6 : H' p6 = some (.lst (blsV (r.length + 1) pl))
  h7 : H' p7 = some (.lst ys)
  h9 : H' p9 = some (.lst (natsV ring))
  h10 : H' p10 = some (.lst (natsV wt))
  se : Search (r.length + 1) (adjT r) i pl wt ring
  nd : ring.Nodup
  bd : wt.length ≤ 1 + 200 * ring.length
theorem WI.ring_le {r : List Int} {H3 : Hp} {p6 p7 p9 p10 : Addr} {i : Nat} {ys : List V} {pl : Nat → Bool} {wt ring : List Nat} {H' : Hp} (I : WI r H3 p6 p7 p9 p10 i ys pl wt ring H') : ring.length ≤ r.length + 1 := by
  have := KJ.len_le (fun a b => a = b) ring (List.range (r.length + 1)) I.nd (fun k hk => ⟨k, List.mem_range.mpr ((I.se.rcon k hk).1), rfl⟩) (fun a a' b _ _ e1 e2 => e1.trans e2.symm)
  rwa [List.length_range] at this

abbrev sTieRings : Stmt := topS 5
theorem scTieRings : FnScope ["row", "ends", "gap", "met", "tie", "pair", "placed", "found", "first", "ring", "waiting"] ["row"] (defScope sTieRings) := ⟨rfl, rfl, rfl, by decide +kernel, rfl, by decide +kernel, by decide +kernel⟩
-- slots: {'row': 0, 'ends': 1, 'gap': 2, 'met': 3, 'tie': 4, 'pair': 5, 'placed': 6, 'found': 7, 'first': 8, 'ring': 9, 'waiting': 10}
theorem hasTieRings {f : Addr} {fd : FuncData} (F : Fun K "tie_rings" "tie_rings" sTieRings f fd) (b : Binds K fd ["row"] []) (g : mg "tie_rings" = some (.ref f)) (M : Bi mg)
    (hTieGaps : Has P w K mg base 3 "tie_gaps" ["row"] (spTieGaps K)) :
    Has P w K mg base 4 "tie_rings" ["row"] (spTieRings K) := by
  obtain ⟨fTieGaps, fdTieGaps, GTieGaps, kTieGaps, bTieGaps, gTieGaps⟩ := hTieGaps
  refine ⟨f, fd, F.ok scTieRings (fun vs H Q E h => ?_) (fun cdv A outer s H vs Q E hr h => ?_), F.kp, b, g⟩
  · obtain ⟨a, r, rfl, hT, hlen, R, q⟩ := h
    rfl
  · obtain ⟨a, r, rfl, hT, hlen, R, q⟩ := h
    have nd := scTieRings.nd
    refine ⟨_, (pss_cons (ps_set (i := 1) nd rfl (.inl rfl) (pe_call GTieGaps (hr.mono (by decide)) (by rfl) gTieGaps kTieGaps bTieGaps .nil pass0 (pa_cons (pv 0) pa_nil)))
      (pss_cons (ps_setLc (i := 3) (own := [("gap", 2)]) (g := (gName 2)) rfl nd rfl rfl (sw_true rfl rfl rfl (by decide +kernel)) (pi_list (pv 1)) (blkOk_by (own := [("gap", 2)]) (N := ["row", "ends", "gap", "met", "tie", "pair", "placed", "found", "first", "ring", "waiting"]) (sc := defScope sTieRings) (by decide +kernel)) (fun _ _ _ _ _ => (pg_name (i := 2) nd rfl (Or.inl rfl))) (fun _ _ _ _ _ => pts_nil) (fun _ _ _ _ _ => (pe_lst pa_nil)))
      (pss_cons (ps_for PassesOwn.never rfl (pi_enum (by rfl) M.m_enumerate (pa_cons (pv 1) pa_nil)) (pg_tup rfl (pgs_cons (pg_name (i := 4) nd rfl (.inl rfl)) (pgs_cons (pg_name (i := 5) nd rfl (.inl rfl)) pgs_nil)))
      (pss_cons (ps_expr (pe_bm  PySem.F.plainAttrs_list PySem.F.slot_list_append PySem.F.type_list_append mt_append (pe_ix (r := rIxL K) ix_list (pv 3) (pe_ix (r := rIxT K) ix_tup (pv 5) pe_int (fun _ _ => rfl)) (fun _ _ => rfl)) (pa_cons (pv 4) pa_nil)))
        (pss_one (ps_expr (pe_bm  PySem.F.plainAttrs_list PySem.F.slot_list_append PySem.F.type_list_append mt_append (pe_ix (r := rIxL K) ix_list (pv 3) (pe_ix (r := rIxT K) ix_tup (pv 5) pe_int (fun _ _ => rfl)) (fun _ _ => rfl)) (pa_cons (pv 4) pa_nil))))))
      (pss_cons (ps_set (i := 6) nd rfl (.inl rfl) (pe_op  op_rep (pe_lst (pa_cons pe_bl pa_nil)) (pe_callB (r := Evl.rLenS K) call_len_seq (by rfl) M.m_len PySem.boot_len (pa_cons (pv 1) pa_nil))))
      (pss_cons (ps_set (i := 7) nd rfl (.inl rfl) (pe_lst pa_nil))
      (pss_cons (ps_for PassesOwn.never rfl (pi_range1 rfl M.m_range (pa_cons (pe_callB (r := Evl.rLenS K) call_len_seq (by rfl) M.m_len PySem.boot_len (pa_cons (pv 1) pa_nil)) pa_nil)) (pg_name (i := 8) nd rfl (.inl rfl))
      (pss_cons (ps_set (i := 9) nd rfl (.inl rfl) (pe_lst pa_nil))
        (pss_cons (ps_set (i := 10) nd rfl (.inl rfl) (pe_lst (pa_cons (pv 8) pa_nil)))
        (pss_cons (ps_while PassesOwn.never (pt_cmpR  op_gt (pe_callB (r := Evl.rLenS K) call_len_seq (by rfl) M.m_len PySem.boot_len (pa_cons (pv 10) pa_nil)) pe_int (nomark _))
        (pss_cons (ps_set (i := 4) nd rfl (.inl rfl) (pe_bm0 PySem.F.plainAttrs_list PySem.F.slot_list_pop PySem.F.type_list_pop mt_pop (pv 10)))
          (pss_one (ps_if (pt_not (pt_val (pe_ix (r := rIxL K) ix_list (pv 6) (pv 4) (fun _ _ => rfl))))
          (pss_cons (ps_asg pe_bl (pg_sub (pv 6) (pv 4) set_list))
            (pss_cons (ps_expr (pe_bm  PySem.F.plainAttrs_list PySem.F.slot_list_append PySem.F.type_list_append mt_append (pv 9) (pa_cons (pv 4) pa_nil)))
            (pss_one (ps_for PassesOwn.never rfl (pi_tup (pe_ix (r := rIxL K) ix_list (pv 1) (pv 4) (fun _ _ => rfl))) (pg_name (i := 2) nd rfl (.inl rfl))
            (pss_one (ps_expr (pe_bm  PySem.F.plainAttrs_list PySem.F.slot_list_extend PySem.F.type_list_extend mt_extend (pv 10) (pa_cons (pe_ix (r := rIxL K) ix_list (pv 3) (pv 2) (fun _ _ => rfl)) pa_nil))))))))
          pss_nil))))
        (pss_one (ps_if (pt_cmpR  op_gt (pe_callB (r := Evl.rLenS K) call_len_seq (by rfl) M.m_len PySem.boot_len (pa_cons (pv 9) pa_nil)) pe_int (nomark _))
        (pss_one (ps_expr (pe_bm  PySem.F.plainAttrs_list PySem.F.slot_list_append PySem.F.type_list_append mt_append (pv 7) (pa_cons (pe_callTy  call_tuple_of (by rfl) M.m_tuple (by decide +kernel) (pa_cons (pe_callB (r := rSortedI K) cr_sortedI (by rfl) M.m_sorted (by decide +kernel) (pa_cons (pv 9) pa_nil)) pa_nil)) pa_nil))))
        pss_nil))))))
      (pss_one (ps_ret (pv 7))))))))), ?_⟩
    refine ⟨.ref a, rfl, a, r, rfl, hT, hlen, R, fun H1 p1 xs s1 n1 h1 hP => ?_⟩
    have hxl : xs.length = r.length + 1 := by rw [hP.1]; simp [tiesL]
    -- met
    refine ⟨_, rfl, p1, rfl, ⟨_, .inl (.inl h1)⟩, fun p3 n3 => lc_it walk_list (fun i H' => ∃ ms, Same H1 H' ∧ H' p3 = some (.lst ms) ∧ Ll H1 H' ms (List.replicate i (some []))) ⟨[], same_upd n3, upd_same, Ll.nil⟩ (fun i H' _ ⟨_, sm, _⟩ => .inl (.inl (sm _ _ h1))) ?_ ?_⟩
    · rintro i x H4 H5 hi ⟨ms, sm, hD, L⟩ ⟨rfl, hx⟩
      refine ⟨rfl, Nat.zero_le _, fun p np => ⟨ms, ?_, ?_, ms ++ [.ref p], ?_, upd_same, ?_⟩⟩
      · exact same_upd np _ _ hD
      · rw [L.len, List.length_replicate]
        exact line_lt (by omega)
      · exact Same.put (sm.trans (same_upd np)) n3
      · rw [List.replicate_succ']
        exact L.grow [] hD (sm.free np) np
    rintro H2 ⟨ms, sm2, hD2, L2⟩
    rw [hxl] at L2
    have e0 : List.replicate (r.length + 1) (some ([] : List Nat)) = (List.range (r.length + 1)).map (fun g => some (metL r 0 g)) := by
      apply List.ext_getElem?
      intro m
      rw [List.getElem?_replicate, List.getElem?_map]
      by_cases hm : m < r.length + 1
      · rw [if_pos hm, List.getElem?_range hm]
        rfl
      · rw [if_neg hm, List.getElem?_eq_none (by simpa using hm)]
        rfl
    rw [e0] at L2
    -- who meets
    refine ⟨_, rfl, p1, _, rfl, .inl (.inl (sm2 _ _ h1)), ?_⟩
    refine for_it walk_enum (fun i σ H' => ∃ v4 v5, σ = [some (.ref a), some (.ref p1), none, some (.ref p3), v4, v5, none, none, none, none, none] ∧ Same H1 H' ∧ H' p3 = some (.lst ms) ∧ Ll H1 H' ms ((List.range (r.length + 1)).map (fun g => some (metL r i g))))
      ⟨none, none, rfl, sm2, hD2, L2⟩ (fun i σ H' _ ⟨_, _, _, sm, _⟩ => .inl (.inl (sm _ _ h1))) ?_ ?_
    · rintro i x σ H4 H5 hi ⟨v4, v5, rfl, sm, hD, L⟩ ⟨T, y, z, rfl, nT, rfl, e1, e2⟩
      rw [hxl] at hi
      cases e1
      have et : (tiesL r (r.length + 1))[i]? = some (hinder r i, fore r i) := by unfold tiesL; rw [List.getElem?_map, List.getElem?_range hi]; rfl
      obtain ⟨t, e3, hSq⟩ := (hP.mono sm).get et
      replace e2 : xs[i]? = some z := e2
      rw [e3] at e2
      cases e2
      have sT := same_upd (o := HO.tup [V.int (i : Int), .ref t]) nT
      have L4 := L.mono sT
      have hh := hinder_lt R hi
      have hf := fore_lt R hi
      obtain ⟨aH, m1, f1, c1⟩ := L4.get (i := hinder r i) (l := metL r i (hinder r i)) (by rw [List.getElem?_map, List.getElem?_range hh]; rfl)
      refine ⟨T, _, rfl, .inl (.inl upd_same), rfl, _, _, rfl, _, _, rfl, rfl, ?_⟩
      have hD4 := sT _ _ hD
      refine ⟨_, rfl, _, rfl, t, _, _, _, rfl, rfl, sameT sT hSq, rfl, p3, _, _, _, rfl, rfl, .inl (.inl hD4), atI_nat m1, .inl ⟨rfl, _, .inl (.inl c1)⟩, _, rfl, aH, _, _, rfl, rfl, c1, ?_, ?_⟩
      · rw [nats_len]
        have := metL_len r i (hinder r i)
        exact line_lt (by omega)
      have L6 := putF (metL r i) (fun g => metL r i g ++ if hinder r i = g then [i] else []) L4 m1 (fun g hg => by simp [Ne.symm hg])
      simp only [if_true] at L6
      obtain ⟨aF, m2, f2, c2⟩ := L6.get (i := fore r i) (l := metL r i (fore r i) ++ if hinder r i = fore r i then [i] else []) (by rw [List.getElem?_map, List.getElem?_range hf]; rfl)
      have hne := L4.outer hD4 m1
      have hSq6 : SqT K (upd (upd H4 T (HO.tup [V.int (i : Int), .ref t])) aH (.lst (natsV (metL r i (hinder r i) ++ [i])))) t [.int (hinder r i : Int), .int (fore r i : Int)] := (NL.put c1).sq (sameT sT hSq)
      have hD6 : (upd (upd H4 T (HO.tup [V.int (i : Int), .ref t])) aH (.lst (natsV (metL r i (hinder r i) ++ [i])))) p3 = some (.lst ms) := by rw [upd_ne hne.symm]; exact hD4
      rw [show natsV (metL r i (hinder r i)) ++ [V.int (i : Int)] = natsV (metL r i (hinder r i) ++ [i]) from (nats_app _ [i]).symm]
      refine ⟨_, rfl, _, rfl, t, _, _, _, rfl, rfl, hSq6, rfl, p3, _, _, _, rfl, rfl, .inl (.inl hD6), atI_nat m2, .inl ⟨rfl, _, .inl (.inl c2)⟩, _, rfl, aF, _, _, rfl, rfl, c2, ?_, ?_⟩
      · rw [nats_len, List.length_append]
        have := metL_len r i (fore r i)
        have : (if hinder r i = fore r i then [i] else []).length ≤ 1 := by split <;> simp
        exact line_lt (by omega)
      refine ⟨_, _, rfl, ?_, ?_, ?_⟩
      · exact Same.put (Same.put (sm.trans sT) f1) f2
      · rw [upd_ne (L6.outer hD6 m2).symm]
        exact hD6
      · have L7 := putF (fun g => metL r i g ++ if hinder r i = g then [i] else []) (metL r (i + 1)) L6 m2 (fun g hg => by simp [metL_succ, metOne, Ne.symm hg])
        have e7 : natsV (metL r i (fore r i) ++ if hinder r i = fore r i then [i] else []) ++ [V.int (i : Int)] = natsV (metL r (i + 1) (fore r i)) := by
          rw [metL_succ]
          unfold metOne
          rw [if_pos rfl, ← List.append_assoc]
          exact (nats_app _ [i]).symm
        rw [e7]
        exact L7
    rintro σ H3 ⟨v4, v5, rfl, sm3, hD3, L3⟩
    rw [hxl] at L3
    have ea : ∀ k l, adjT r k l → adjT r l k := fun k l h => adjT_symm h
    -- placed
    refine ⟨line_ok (by show 1 ≤ 100000; decide), fun p5 n5 => ?_⟩
    have s5 := same_upd (o := HO.lst [V.bl false]) n5
    refine ⟨_, rfl, p1, _, rfl, .inl (.inl (.inl (s5 _ _ (sm3 _ _ h1)))), p5, _, _, rfl, rfl, upd_same, ?_, ?_, ?_, fun p6 n6 => ?_⟩
    · rw [hxl]; omega
    · rw [hxl]; omega
    · rw [hxl]
      exact line_ok (by show 1 * ((r.length + 1 : Nat) : Int).toNat ≤ 100000; omega)
    have e6 : (List.replicate ((xs.length : Nat) : Int).toNat [V.bl false]).flatten = blsV (r.length + 1) (fun _ => false) := by
      rw [hxl]
      exact bls_zero (r.length + 1)
    rw [e6]
    -- found
    refine ⟨Nat.zero_le _, fun p7 n7 => ?_⟩
    have s36 := s5.trans (same_upd (o := HO.lst (blsV (r.length + 1) (fun _ => false))) n6)
    have s37 := s36.trans (same_upd (o := HO.lst []) n7)
    have n63 : H3 p6 = none := s5.free n6
    have n73 : H3 p7 = none := s36.free n7
    have h67 : p6 ≠ p7 := ne_of_none upd_same n7
    have h1' : H3 p1 = some (.lst xs) := sm3 _ _ h1
    refine ⟨_, rfl, p1, _, rfl, .inl (.inl (.inl (s37 _ _ h1'))), _, rfl, ?_, ?_, ?_⟩
    · rw [hxl]; omega
    · rw [hxl]; show ((r.length + 1 : Nat) : Int) < 2 ^ 62; omega
    rw [show ((xs.length : Nat) : Int).toNat = r.length + 1 by rw [hxl]; omega]
    refine for_it walk_range (fun i σ H' => ∃ v2 v4 v5 v8 v9 v10 ys pl, σ = [some (.ref a), some (.ref p1), v2, some (.ref p3), v4, v5, some (.ref p6), some (.ref p7), v8, v9, v10] ∧ Same H3 H' ∧ H' p6 = some (.lst (blsV (r.length + 1) pl)) ∧ H' p7 = some (.lst ys) ∧
        ys.length = (reps (adjT r) (r.length + 1) i).length ∧ ys.length ≤ i ∧ ∀ k, k < r.length + 1 → (pl k = true ↔ ∃ j, j < i ∧ Conn (r.length + 1) (adjT r) j k))
      ⟨none, v4, v5, none, none, none, [], fun _ => false, rfl, s37, ?_, upd_same, rfl, Nat.le_refl _, fun k _ => ⟨fun h => (nomatch h), fun ⟨j, hj, _⟩ => absurd hj (Nat.not_lt_zero j)⟩⟩ (fun _ _ _ _ _ => trivial) ?_ ?_
    · rw [upd_ne h67]; exact upd_same
    · rintro i x σ H4 H5 hi ⟨v2, v4, v5, v8, v9, v10, ys, pl, rfl, sm, h6, h7, hys, hyi, hpl⟩ ⟨rfl, rfl⟩
      -- ring, waiting
      refine ⟨Nat.zero_le _, fun p9 n9 => ?_⟩
      have s9 := same_upd (o := HO.lst []) n9
      refine ⟨_, rfl, line_ok (by show 1 ≤ 100000; decide), fun p10 n10 => ?_⟩
      have s10 := same_upd (o := HO.lst [V.int (0 + (i : Int))]) n10
      have q69 : p6 ≠ p9 := ne_of_none h6 n9
      have q79 : p7 ≠ p9 := ne_of_none h7 n9
      have q610 : p6 ≠ p10 := ne_of_none (s9 _ _ h6) n10
      have q710 : p7 ≠ p10 := ne_of_none (s9 _ _ h7) n10
      have q910 : p9 ≠ p10 := ne_of_none upd_same n10
      have n93 : H3 p9 = none := sm.free n9
      have n103 : H3 p10 = none := sm.free (s9.free n10)
      have I0 : WI r H3 p6 p7 p9 p10 i ys pl [i] [] (upd (upd H5 p9 (.lst [])) p10 (.lst [V.int (0 + (i : Int))])) := by
        refine ⟨(sm.trans s9).trans s10, s10 _ _ (s9 _ _ h6), s10 _ _ (s9 _ _ h7), s10 _ _ upd_same, ?_, search_start hi hpl, List.nodup_nil, by simp⟩
        rw [upd_same, show (0 : Int) + (i : Int) = (i : Int) by omega]
        rfl
      refine ⟨fun m σ' H' => ∃ v2 v4 pl wt ring, σ' = [some (.ref a), some (.ref p1), v2, some (.ref p3), v4, v5, some (.ref p6), some (.ref p7), some (.int (0 + (i : Int))), some (.ref p9), some (.ref p10)] ∧ WI r H3 p6 p7 p9 p10 i ys pl wt ring H' ∧ m = (r.length + 1 - ring.length) * 1000 + wt.length, ⟨_, v2, v4, pl, [i], [], rfl, I0, rfl⟩, ?_⟩
      rintro m σ' H' ⟨v2, v4, pl, wt, ring, rfl, I, rfl⟩
      refine ⟨_, rfl, p10, _, rfl, .inl (.inl (.inl I.h10)), _, _, rfl, rfl, decide (0 < wt.length), ?_, ?_⟩
      · rw [nats_len]
        simp
      by_cases hw : 0 < wt.length
      · refine ifT (decide_eq_true hw) ⟨fun σ2 H2 => ∃ m', m' < (r.length + 1 - ring.length) * 1000 + wt.length ∧ ∃ v2 v4 pl wt ring, σ2 = [some (.ref a), some (.ref p1), v2, some (.ref p3), v4, v5, some (.ref p6), some (.ref p7), some (.int (0 + (i : Int))), some (.ref p9), some (.ref p10)] ∧ WI r H3 p6 p7 p9 p10 i ys pl wt ring H2 ∧ m' = (r.length + 1 - ring.length) * 1000 + wt.length, fun _ _ h => h, ?_⟩
        obtain ⟨wt', k, rfl⟩ : ∃ w k, wt = w ++ [k] := ⟨wt.dropLast, wt.getLast (by intro e; rw [e] at hw; exact absurd hw (by simp)), (List.dropLast_concat_getLast _).symm⟩
        have h10 := I.h10
        rw [nats_app] at h10
        refine ⟨_, rfl, .inl ⟨rfl, _, .inl (.inl h10)⟩, p10, _, V.int (k : Int), rfl, rfl, h10, ?_, ?_⟩
        · show (natsV wt' ++ [V.int (k : Int)])[(natsV wt' ++ [V.int (k : Int)]).length - 1]? = _
          simp
        rw [show (natsV wt' ++ natsV [k]).dropLast = natsV wt' from List.dropLast_concat]
        have hk := I.se.wlt k (by simp)
        have a6 : (upd H' p10 (.lst (natsV wt'))) p6 = some (.lst (blsV (r.length + 1) pl)) := by rw [upd_ne q610]; exact I.h6
        refine ⟨_, rfl, _, rfl, p6, _, _, _, rfl, rfl, .inl (.inl a6), atI_nat (bls_get hk), pl k, rfl, ?_⟩
        have hwl : (wt' ++ [k]).length = wt'.length + 1 := by simp
        cases hpk : pl k with
        | true =>
          refine ifF rfl ⟨_, ?_, v2, _, pl, wt', ring, rfl, ⟨Same.put I.sm n103, a6, ?_, ?_, upd_same, search_skip I.se hpk, I.nd, ?_⟩, rfl⟩
          · omega
          · rw [upd_ne q710]; exact I.h7
          · rw [upd_ne q910]; exact I.h9
          · have := I.bd
            omega
        | false =>
          refine ifT rfl ⟨_, rfl, _, rfl, p6, _, _, k, rfl, rfl, a6, ?_, ?_⟩
          · rw [bls_len]
            exact Evl.ixN_nat hk
          rw [bls_set]
          have b9 : (upd (upd H' p10 (.lst (natsV wt'))) p6 (.lst (blsV (r.length + 1) (fun l => if l = k then true else pl l)))) p9 = some (.lst (natsV ring)) := by
            rw [upd_ne q69.symm, upd_ne q910]
            exact I.h9
          have hrl := I.ring_le
          refine ⟨_, rfl, .inl ⟨rfl, _, .inl (.inl b9)⟩, _, rfl, p9, _, _, rfl, rfl, b9, ?_, ?_⟩
          · rw [nats_len]
            exact line_lt (by omega)
          rw [show natsV ring ++ [V.int (k : Int)] = natsV (ring ++ [k]) from (nats_app _ [k]).symm]
          generalize hHb : upd (upd (upd H' p10 (.lst (natsV wt'))) p6 (.lst (blsV (r.length + 1) (fun l => if l = k then true else pl l)))) p9 (.lst (natsV (ring ++ [k]))) = Hb
          have sb : Same H3 Hb := by
            rw [← hHb]
            exact Same.put (Same.put (Same.put I.sm n103) n63) n93
          have c6 : Hb p6 = some (.lst (blsV (r.length + 1) (fun l => if l = k then true else pl l))) := by
            rw [← hHb, upd_ne q69]
            exact upd_same
          have c7 : Hb p7 = some (.lst ys) := by
            rw [← hHb, upd_ne q79, upd_ne h67.symm, upd_ne q710]
            exact I.h7
          have c9 : Hb p9 = some (.lst (natsV (ring ++ [k]))) := by
            rw [← hHb]
            exact upd_same
          have c10 : Hb p10 = some (.lst (natsV wt')) := by
            rw [← hHb, upd_ne q910.symm, upd_ne q610.symm]
            exact upd_same
          have et : (tiesL r (r.length + 1))[k]? = some (hinder r k, fore r k) := by unfold tiesL; rw [List.getElem?_map, List.getElem?_range hk]; rfl
          obtain ⟨t, e3, hSq⟩ := (hP.mono (sm3.trans sb)).get et
          refine ⟨_, rfl, _, rfl, p1, _, _, _, rfl, rfl, .inl (.inl (sb _ _ h1')), atI_nat e3, t, rfl, ⟨_, hSq⟩, ?_⟩
          refine for_it (walk_tup (K := K) (a := t) (xs := [.int (hinder r k : Int), .int (fore r k : Int)])) (fun j σ H' => ∃ v2, σ = [some (.ref a), some (.ref p1), v2, some (.ref p3), some (.int (k : Int)), v5, some (.ref p6), some (.ref p7), some (.int (0 + (i : Int))), some (.ref p9), some (.ref p10)] ∧ (∀ x, x ≠ p10 → H' x = Hb x) ∧
              H' p10 = some (.lst (natsV (wt' ++ ([hinder r k, fore r k].take j).flatMap (metL r (r.length + 1)))))) ⟨v2, rfl, fun _ _ => rfl, by rw [c10]; simp⟩ ?_ ?_ ?_
          · rintro j σ H6 _ ⟨_, rfl, hx, _⟩
            have st : Same H3 H6 := fun x o h => by
              rw [hx x (ne_of_none h n103)]
              exact sb _ _ h
            obtain ⟨t', e3', hSq'⟩ := (hP.mono (sm3.trans st)).get et
            rw [e3] at e3'
            cases e3'
            exact hSq'
          · rintro j x σ H6 H7 hj ⟨v2, rfl, hx, h10⟩ ⟨rfl, hxj⟩
            have st : Same H3 H7 := fun x o h => by
              rw [hx x (ne_of_none h n103)]
              exact sb _ _ h
            obtain ⟨gp, hgp, hg, hgn⟩ : ∃ gp, x = V.int ((gp : Nat) : Int) ∧ ([hinder r k, fore r k] : List Nat)[j]? = some gp ∧ gp < r.length + 1 := by
              have hj2 : j < 2 := hj
              rcases (show j = 0 ∨ j = 1 by omega) with rfl | rfl
              · cases hxj
                exact ⟨_, rfl, rfl, hinder_lt R hk⟩
              · cases hxj
                exact ⟨_, rfl, rfl, fore_lt R hk⟩
            subst hgp
            obtain ⟨aG, m1, f1, g1⟩ := (L3.mono st).get (i := gp) (l := metL r (r.length + 1) gp) (by rw [List.getElem?_map, List.getElem?_range hgn]; rfl)
            refine ⟨_, rfl, .inl ⟨rfl, _, .inl (.inl h10)⟩, _, rfl, _, rfl, p3, _, _, _, rfl, rfl, .inl (.inl (st _ _ hD3)), atI_nat m1, p10, aG, _, _, rfl, rfl, h10, g1, ?_, ?_⟩
            · rw [nats_len, nats_len, List.length_append]
              have q1 := metL_len r (r.length + 1) gp
              have q2 : (([hinder r k, fore r k].take j).flatMap (metL r (r.length + 1))).length ≤ 200 := by
                have a1 := metL_len r (r.length + 1) (hinder r k)
                have hj2 : j < 2 := hj
                rcases (show j = 0 ∨ j = 1 by omega) with rfl | rfl
                · simp
                · simp
                  omega
              have := I.bd
              exact line_ok (by omega)
            · refine ⟨_, rfl, fun x hx' => by rw [upd_ne hx']; exact hx x hx', ?_⟩
              rw [upd_same, ← nats_app, List.append_assoc, List.take_add_one, hg, List.flatMap_append]
              simp
          · rintro σ H6 ⟨v2, rfl, hx, h10⟩
            have e10 : ([hinder r k, fore r k].take 2).flatMap (metL r (r.length + 1)) = metL r (r.length + 1) (hinder r k) ++ metL r (r.length + 1) (fore r k) := by simp
            replace h10 : H6 p10 = some (.lst (natsV (wt' ++ (metL r (r.length + 1) (hinder r k) ++ metL r (r.length + 1) (fore r k))))) := by
              rw [← e10]
              exact h10
            have st : Same H3 H6 := fun x o h => by
              rw [hx x (ne_of_none h n103)]
              exact sb _ _ h
            have a1 := metL_len r (r.length + 1) (hinder r k)
            have a2 := metL_len r (r.length + 1) (fore r k)
            have hkr : k ∉ ring := by
              intro hkr
              have := (I.se.plc k hk).mpr (.inl hkr)
              rw [hpk] at this
              cases this
            have I2 : WI r H3 p6 p7 p9 p10 i ys (fun l => if l = k then true else pl l) (wt' ++ (metL r (r.length + 1) (hinder r k) ++ metL r (r.length + 1) (fore r k))) (ring ++ [k]) H6 := by
              refine ⟨st, by rw [hx _ q610]; exact c6, by rw [hx _ q710]; exact c7, by rw [hx _ q910]; exact c9, h10, search_take ea I.se hpk (fun l => ?_), ?_, ?_⟩
              · rw [List.mem_append, mem_metL, mem_metL]
                unfold adjT
                constructor
                · rintro (⟨h, h2⟩ | ⟨h, h2⟩)
                  · exact ⟨h, by omega⟩
                  · exact ⟨h, by omega⟩
                · rintro ⟨h, h2⟩
                  by_cases q : hinder r l = hinder r k ∨ fore r l = hinder r k
                  · exact .inl ⟨h, q⟩
                  · exact .inr ⟨h, by omega⟩
              · rw [List.nodup_append]
                refine ⟨I.nd, by simp, ?_⟩
                intro x hx y hy
                rw [List.mem_singleton] at hy
                rw [hy]
                intro e
                rw [e] at hx
                exact hkr hx
              · have := I.bd
                simp only [List.length_append, List.length_singleton]
                omega
            have := I2.ring_le
            simp only [List.length_append, List.length_singleton] at this
            refine ⟨_, ?_, v2, _, _, _, _, rfl, I2, rfl⟩
            simp only [List.length_append, List.length_singleton]
            omega
      · have ew : wt = [] := by
          cases wt with
          | nil => rfl
          | cons x t => exact absurd (Nat.succ_pos _) hw
        subst ew
        have fin := search_end hi ea I.se
        have hrl := I.ring_le
        refine ifF (decide_eq_false hw) ⟨_, rfl, p9, _, rfl, .inl (.inl (.inl I.h9)), _, _, rfl, rfl, decide (0 < ring.length), ?_, ?_⟩
        · rw [nats_len]
          simp
        by_cases hg : 0 < ring.length
        · have hne : ring ≠ [] := by
            intro e
            rw [e] at hg
            exact absurd hg (by simp)
          refine ifT (decide_eq_true hg) ⟨_, rfl, .inl ⟨rfl, _, .inl (.inl I.h7)⟩, _, rfl, p9, ring.map (fun (n : Nat) => (n : Int)), rfl, .inl (.inl (by rw [← nats_ints]; exact I.h9)), fun ns' pS _ _ nS => ?_⟩
          have sS := same_upd (o := HO.lst (ns'.map V.int)) nS
          refine ⟨pS, _, rfl, .inl ⟨.inl (.inl upd_same), fun pT nT => ?_⟩⟩
          have sT := same_upd (o := HO.tup (ns'.map V.int)) nT
          refine ⟨p7, ys, _, rfl, rfl, sT _ _ (sS _ _ I.h7), ?_, ?_⟩
          · exact line_lt (by omega)
          refine ⟨_, _, _, _, _, _, _, pl, rfl, Same.put ((I.sm.trans sS).trans sT) n73, ?_, upd_same, ?_, ?_, fin.1⟩
          · rw [upd_ne h67]
            exact sT _ _ (sS _ _ I.h6)
          · rw [List.length_append, List.length_singleton, reps_succ_new (fin.2.mp hne), hys]
          · rw [List.length_append, List.length_singleton]
            omega
        · have hne : ring = [] := by
            cases ring with
            | nil => rfl
            | cons x t => exact absurd (Nat.succ_pos _) hg
          refine ifF (decide_eq_false hg) ⟨_, _, _, _, _, _, ys, pl, rfl, I.sm, I.h6, I.h7, ?_, by omega, fin.1⟩
          rw [reps_succ_old (fun h => fin.2.mpr h hne), hys]
    · rintro σ H4 ⟨v2, v4, v5, v8, v9, v10, ys, pl, rfl, sm, h6, h7, hys, hyi, hpl⟩
      exact ⟨_, rfl, q H4 p7 ys ((s1.trans sm3).trans sm) ((s1.trans sm3).free n73) h7 hys⟩
end
end WE
namespace WF
open PySem PySem.Spec PyProof.Rows L2 WA WB WC WD WE KL KM

def pairV (p : Nat × Nat) : List V := [.int (p.1 : Int), .int (p.2 : Int)]
/-- a list of pairs, each a tuple of its own -/
def PairsH (H : Hp) (xs : List V) (ps : List (Nat × Nat)) : Prop :=
  xs.length = ps.length ∧ ∀ (i : Nat) x p, xs[i]? = some x → ps[i]? = some p → ∃ t, x = V.ref t ∧ H t = some (.tup (pairV p))
section
variable {H H' : Hp} {xs : List V} {ps : List (Nat × Nat)}
theorem PairsH.nl (h : PairsH H xs ps) (s : NL H H') : PairsH H' xs ps :=
  ⟨h.1, fun i x p hx hp => by
    obtain ⟨t, e, q⟩ := h.2 i x p hx hp
    exact ⟨t, e, s _ _ q (fun _ e => by cases e)⟩⟩
theorem PairsH.mono (h : PairsH H xs ps) (s : Same H H') : PairsH H' xs ps := h.nl (NL.of s)
theorem PairsH.imp (h : PairsH H xs ps) (s : ∀ t k, H t = some (.tup k) → H' t = some (.tup k)) : PairsH H' xs ps :=
  ⟨h.1, fun i x p hx hp => by
    obtain ⟨t, e, q⟩ := h.2 i x p hx hp
    exact ⟨t, e, s _ _ q⟩⟩
theorem PairsH.nil : PairsH H [] [] := ⟨rfl, fun i x p h => by simp at h⟩
theorem PairsH.snoc (h : PairsH H xs ps) {t : Addr} {p : Nat × Nat} (q : H t = some (.tup (pairV p))) : PairsH H (xs ++ [.ref t]) (ps ++ [p]) := by
  refine ⟨by simp [h.1], fun i x p' hx hp => ?_⟩
  by_cases e : i < xs.length
  · rw [List.getElem?_append_left e] at hx
    rw [List.getElem?_append_left (by rw [← h.1]; exact e)] at hp
    exact h.2 i x p' hx hp
  · have hi : i < (xs ++ [V.ref t]).length := (List.getElem?_eq_some_iff.mp hx).1
    simp only [List.length_append, List.length_singleton] at hi
    have ei : i = xs.length := by omega
    subst ei
    rw [List.getElem?_concat_length] at hx
    rw [h.1, List.getElem?_concat_length] at hp
    cases hx
    cases hp
    exact ⟨t, rfl, q⟩
theorem PairsH.get (h : PairsH H xs ps) {i : Nat} {p : Nat × Nat} (hp : ps[i]? = some p) : ∃ t, xs[i]? = some (V.ref t) ∧ H t = some (.tup (pairV p)) := by
  have hi : i < xs.length := by
    rw [h.1]
    exact (List.getElem?_eq_some_iff.mp hp).1
  obtain ⟨t, e, q⟩ := h.2 i xs[i] p (List.getElem?_eq_getElem hi) hp
  exact ⟨t, by rw [List.getElem?_eq_getElem hi, e], q⟩
theorem PairsH.has (h : PairsH H xs ps) {i : Nat} {x : V} (hx : xs[i]? = some x) : ∃ t p, x = V.ref t ∧ ps[i]? = some p ∧ H t = some (.tup (pairV p)) := by
  have hi : i < ps.length := by
    rw [← h.1]
    exact (List.getElem?_eq_some_iff.mp hx).1
  obtain ⟨t, e, q⟩ := h.2 i x ps[i] hx (List.getElem?_eq_getElem hi)
  exact ⟨t, _, e, List.getElem?_eq_getElem hi, q⟩
/-- one more pair is found -/
theorem PairsH.add (h : PairsH H xs ps) {p t : Addr} (hp : H p = some (.lst xs)) (nt : H t = none) (k : Nat × Nat) :
    PairsH (upd (upd H t (.tup (pairV k))) p (.lst (xs ++ [.ref t]))) (xs ++ [.ref t]) (ps ++ [k]) := by
  refine PairsH.snoc ((h.mono (same_upd nt)).nl (NL.put (same_upd nt _ _ hp))) ?_
  rw [upd_ne (ne_of_none hp nt).symm]
  exact upd_same
end
theorem flat_len {α β : Type} (f : α → List β) (c : Nat) : ∀ l : List α, (∀ x, x ∈ l → (f x).length ≤ c) → (l.flatMap f).length ≤ l.length * c := by
  intro l
  induction l with
  | nil => intro _; simp
  | cons x t ih =>
    intro h
    rw [List.flatMap_cons, List.length_append, List.length_cons, Nat.succ_mul]
    have := h x (by simp)
    have := ih fun y hy => h y (by simp [hy])
    omega
theorem wholeAt_len (r : List Int) (f l : Nat) : (wholeAt r f l).length ≤ 2 := by
  unfold wholeAt
  split <;> split <;> simp
theorem wholeFrom_len (r : List Int) (f : Nat) (h : r.length ≤ 40) : (wholeFrom r f).length ≤ 100 := by
  unfold wholeFrom
  have := flat_len (wholeAt r f) 2 (List.range' (f + 1) (r.length + 1 - f)) fun x _ => wholeAt_len r f x
  rw [List.length_range'] at this
  omega
theorem wholeL_len (r : List Int) (h : r.length ≤ 40) : (wholeL r).length ≤ 5000 := by
  unfold wholeL
  have := flat_len (wholeFrom r) 100 (List.range (r.length + 2)) fun x _ => wholeFrom_len r x h
  rw [List.length_range] at this
  omega
theorem lst_le (r : List Int) (f : Nat) : ∀ d, lst r f d ≤ (numAt r f).natAbs ∧ (numAt r f).natAbs ≤ mst r f d := by
  intro d
  induction d with
  | zero => exact ⟨Nat.le_refl _, Nat.le_refl _⟩
  | succ d ih =>
    unfold lst mst
    omega

section
variable {P : Program} {w : World} {K : PySem.W.Frag} {mg : Str → Option Value} {base : Heap}

def spWholeStretches (K : PySem.W.Frag) : Sp := fun vs H Q _ => ∃ (a : Addr) (r : List Int), vs = [.ref a] ∧ SqT K H a (intsV r) ∧ r.length ≤ 40 ∧ IsRow r ∧
  ∀ H' p xs, Same H H' → H p = none → H' p = some (.lst xs) → PairsH H' xs (wholeL r) → Q (.ref p) H'

abbrev sWholeStretches : Stmt := topS 6
theorem scWholeStretches : FnScope ["row", "numbers", "found", "first", "least", "most", "last"] ["row"] (defScope sWholeStretches) := ⟨rfl, rfl, rfl, by decide +kernel, rfl, by decide +kernel, by decide +kernel⟩
-- slots: {'row': 0, 'numbers': 1, 'found': 2, 'first': 3, 'least': 4, 'most': 5, 'last': 6}
theorem hasWholeStretches {f : Addr} {fd : FuncData} (F : Fun K "whole_stretches" "whole_stretches" sWholeStretches f fd) (b : Binds K fd ["row"] []) (g : mg "whole_stretches" = some (.ref f)) (M : Bi mg)
    (hFramed : Has P w K mg base 1 "framed" ["row"] (spFramed K)) :
    Has P w K mg base 2 "whole_stretches" ["row"] (spWholeStretches K) := by
  obtain ⟨fFramed, fdFramed, GFramed, kFramed, bFramed, gFramed⟩ := hFramed
  refine ⟨f, fd, F.ok scWholeStretches (fun vs H Q E h => ?_) (fun cdv A outer s H vs Q E hr h => ?_), F.kp, b, g⟩
  · obtain ⟨a, r, rfl, hT, hlen, R, q⟩ := h
    rfl
  · obtain ⟨a, r, rfl, hT, hlen, R, q⟩ := h
    have nd := scWholeStretches.nd
    refine ⟨_, (pss_cons (ps_set (i := 1) nd rfl (.inl rfl) (pe_call GFramed (hr.mono (by decide)) (by rfl) gFramed kFramed bFramed .nil pass0 (pa_cons (pv 0) pa_nil)))
      (pss_cons (ps_set (i := 2) nd rfl (.inl rfl) (pe_lst pa_nil))
      (pss_cons (ps_for PassesOwn.never rfl (pi_range1 rfl M.m_range (pa_cons (pe_callB (r := Evl.rLenS K) call_len_seq (by rfl) M.m_len PySem.boot_len (pa_cons (pv 1) pa_nil)) pa_nil)) (pg_name (i := 3) nd rfl (.inl rfl))
      (pss_cons (ps_set (i := 4) nd rfl (.inl rfl) (pe_callB  call_abs (by rfl) M.m_abs (by decide +kernel) (pa_cons (pe_ix (r := rIxT K) ix_tup (pv 1) (pv 3) (fun _ _ => rfl)) pa_nil)))
        (pss_cons (ps_set (i := 5) nd rfl (.inl rfl) (pv 4))
        (pss_one (ps_for PassesOwn.never rfl (pi_range2 rfl M.m_range (pa_cons (pe_op  op_add (pv 3) pe_int) (pa_cons (pe_callB (r := Evl.rLenS K) call_len_seq (by rfl) M.m_len PySem.boot_len (pa_cons (pv 1) pa_nil)) pa_nil))) (pg_name (i := 6) nd rfl (.inl rfl))
        (pss_cons (ps_set (i := 4) nd rfl (.inl rfl) (pe_callB  (call_min2 rfl) (by rfl) M.m_min (by decide +kernel) (pa_cons (pv 4) (pa_cons (pe_callB  call_abs (by rfl) M.m_abs (by decide +kernel) (pa_cons (pe_ix (r := rIxT K) ix_tup (pv 1) (pv 6) (fun _ _ => rfl)) pa_nil)) pa_nil))))
          (pss_cons (ps_set (i := 5) nd rfl (.inl rfl) (pe_callB  (call_max2 rfl) (by rfl) M.m_max (by decide +kernel) (pa_cons (pv 5) (pa_cons (pe_callB  call_abs (by rfl) M.m_abs (by decide +kernel) (pa_cons (pe_ix (r := rIxT K) ix_tup (pv 1) (pv 6) (fun _ _ => rfl)) pa_nil)) pa_nil))))
          (pss_one (ps_if (pt_cmpR  op_eq (pe_op  op_sub (pv 5) (pv 4)) (pe_op  op_sub (pv 6) (pv 3)) (nomark _))
          (Evl.pss_cut (ps_if (PW.pt (pw_and (pt_cmpR  op_eq (pe_ix (r := rIxT K) ix_tup (pv 1) (pv 3) (fun _ _ => rfl)) (pv 4) (nomark _)) (pw_and1 (pt_cmpR  op_eq (pe_ix (r := rIxT K) ix_tup (pv 1) (pv 6) (fun _ _ => rfl)) (pv 5) (nomark _)))))
            (pss_one (ps_expr (pe_bm  PySem.F.plainAttrs_list PySem.F.slot_list_append PySem.F.type_list_append mt_append (pv 2) (pa_cons (pe_tup (pa_cons (pv 3) (pa_cons (pv 6) pa_nil))) pa_nil))))
            pss_nil)
            (pss_one (ps_if (PW.pt (pw_and (pt_cmpR  op_eq (pe_ix (r := rIxT K) ix_tup (pv 1) (pv 3) (fun _ _ => rfl)) (pe_op  op_sub pe_int (pv 5)) (nomark _)) (pw_and1 (pt_cmpR  op_eq (pe_ix (r := rIxT K) ix_tup (pv 1) (pv 6) (fun _ _ => rfl)) (pe_op  op_sub pe_int (pv 4)) (nomark _)))))
            (pss_one (ps_expr (pe_bm  PySem.F.plainAttrs_list PySem.F.slot_list_append PySem.F.type_list_append mt_append (pv 2) (pa_cons (pe_tup (pa_cons (pv 3) (pa_cons (pv 6) pa_nil))) pa_nil))))
            pss_nil)))
          pss_nil)))))))))
      (pss_one (ps_ret (pv 2)))))), ?_⟩
    refine ⟨.ref a, rfl, a, r, rfl, hT, hlen, fun H1 p1 s1 n1 h1 => ?_⟩
    refine ⟨Nat.zero_le _, fun p2 n2 => ?_⟩
    have s2 := same_upd (o := HO.lst []) n2
    have hl : (intsV (nums r)).length = r.length + 2 := by rw [ints_len, nums_len]
    have at_ : ∀ m : Nat, m < r.length + 2 → atI (intsV (nums r)) (m : Int) = some (.int (numAt r m)) := fun m hm => atI_nat (ints_get (numAt_get hm))
    refine ⟨_, rfl, p1, _, rfl, .inr (.inl (.inl (s2 _ _ h1))), _, rfl, ?_, ?_, ?_⟩
    · rw [hl]; omega
    · rw [hl]; omega
    rw [show (((intsV (nums r)).length : Nat) : Int).toNat = r.length + 2 by rw [hl]; omega]
    have big := wholeL_len r hlen
    refine for_it walk_rng0 (fun i σ H' => ∃ v3 v4 v5 v6 xs, σ = [some (.ref a), some (.ref p1), some (.ref p2), v3, v4, v5, v6] ∧ Same H1 H' ∧ H' p2 = some (.lst xs) ∧ PairsH H' xs ((List.range i).flatMap (wholeFrom r)))
      ⟨none, none, none, none, [], rfl, s2, upd_same, PairsH.nil⟩ (fun _ _ _ _ _ => trivial) ?_ ?_
    · rintro i x σ H4 H5 hi ⟨v3, v4, v5, v6, xs, rfl, sm, hL, hP⟩ ⟨rfl, rfl⟩
      have hT5 : SqT K H5 p1 (intsV (nums r)) := .inl (.inl (sm _ _ h1))
      refine ⟨_, rfl, _, rfl, p1, _, _, _, rfl, rfl, hT5, at_ i hi, _, rfl, ?_⟩
      refine ⟨_, rfl, ?_⟩
      refine ⟨_, rfl, _, _, rfl, rfl, _, rfl, p1, _, rfl, .inr hT5, _, _, rfl, ⟨?_, ?_, ?_, ?_⟩, ?_⟩
      · omega
      · omega
      · omega
      · rw [hl]; omega
      rw [show (i : Int) + 1 = ((i + 1 : Nat) : Int) by omega, show (((intsV (nums r)).length : Int) - ((i + 1 : Nat) : Int)).toNat = r.length + 1 - i by rw [hl]; omega]
      have hbase : ((List.range i).flatMap (wholeFrom r)).length ≤ 4200 := by
        have := flat_len (wholeFrom r) 100 (List.range i) fun x _ => wholeFrom_len r x hlen
        rw [List.length_range] at this
        omega
      refine for_it walk_rngN (fun j σ H' => ∃ v6 xs, σ = [some (.ref a), some (.ref p1), some (.ref p2), some (.int (i : Int)), some (.int (lst r i j : Int)), some (.int (mst r i j : Int)), v6] ∧ Same H1 H' ∧ H' p2 = some (.lst xs) ∧
          PairsH H' xs ((List.range i).flatMap (wholeFrom r) ++ (List.range' (i + 1) j).flatMap (wholeAt r i)))
        ⟨v6, xs, ?_, sm, hL, by simpa using hP⟩ (fun _ _ _ _ _ => trivial) ?_ ?_
      · show [_, _, _, _, some (V.int (if numAt r i < 0 then -numAt r i else numAt r i)), some (V.int (if numAt r i < 0 then -numAt r i else numAt r i)), _] = _
        rw [nabs]
        rfl
      · rintro j x σ H6 H7 hj ⟨v6, xs, rfl, sm, hL, hP⟩ ⟨rfl, rfl⟩
        have hT7 : SqT K H7 p1 (intsV (nums r)) := .inl (.inl (sm _ _ h1))
        have hlt : i + 1 + j < r.length + 2 := by omega
        refine ⟨_, rfl, _, rfl, _, rfl, p1, _, _, _, rfl, rfl, hT7, at_ (i + 1 + j) hlt, _, rfl, _, _, rfl, ?_⟩
        refine ⟨_, rfl, _, rfl, _, rfl, p1, _, _, _, rfl, rfl, hT7, at_ (i + 1 + j) hlt, _, rfl, _, _, rfl, ?_⟩
        rw [nabs, show (if ((numAt r (i + 1 + j)).natAbs : Int) < (lst r i j : Int) then ((numAt r (i + 1 + j)).natAbs : Int) else (lst r i j : Int)) = (lst r i (j + 1) : Int) by
            show _ = ((min (lst r i j) (numAt r (i + j + 1)).natAbs : Nat) : Int); rw [show i + j + 1 = i + 1 + j by omega]; split <;> omega,
          show (if ((numAt r (i + 1 + j)).natAbs : Int) > (mst r i j : Int) then ((numAt r (i + 1 + j)).natAbs : Int) else (mst r i j : Int)) = (mst r i (j + 1) : Int) by
            show _ = ((max (mst r i j) (numAt r (i + j + 1)).natAbs : Nat) : Int); rw [show i + j + 1 = i + 1 + j by omega]; split <;> omega]
        have hin : ((List.range' (i + 1) j).flatMap (wholeAt r i)).length ≤ 100 := by
          have := flat_len (wholeAt r i) 2 (List.range' (i + 1) j) fun x _ => wholeAt_len r i x
          rw [List.length_range'] at this
          omega
        have hxl : xs.length ≤ 4300 := by
          rw [hP.1, List.length_append]
          omega
        have ed : i + 1 + j - i = j + 1 := by omega
        have lm := lst_le r i (j + 1)
        have enext : (List.range i).flatMap (wholeFrom r) ++ (List.range' (i + 1) (j + 1)).flatMap (wholeAt r i) = ((List.range i).flatMap (wholeFrom r) ++ (List.range' (i + 1) j).flatMap (wholeAt r i)) ++ wholeAt r i (i + 1 + j) := by
          rw [List.range'_1_concat, List.flatMap_append, List.flatMap_singleton, List.append_assoc]
        rw [enext]
        refine ⟨_, rfl, _, rfl, _, _, rfl, rfl, _, rfl, _, rfl, _, _, rfl, rfl, rfl, _, rfl, ?_⟩
        by_cases hc : ((mst r i (j + 1) : Nat) : Int) - (lst r i (j + 1) : Int) = ((i + 1 + j : Nat) : Int) - (i : Int)
        · refine ifT (by rw [dec_int]; exact decide_eq_true hc) ?_
          have hc' : mst r i (j + 1) - lst r i (j + 1) = j + 1 := by omega
          refine ⟨fun σ' H' => σ' = [some (.ref a), some (.ref p1), some (.ref p2), some (.int (i : Int)), some (.int (lst r i (j + 1) : Int)), some (.int (mst r i (j + 1) : Int)), some (.int ((i + 1 + j : Nat) : Int))] ∧ Same H1 H' ∧ ∃ xs', H' p2 = some (.lst xs') ∧
            PairsH H' xs' (((List.range i).flatMap (wholeFrom r) ++ (List.range' (i + 1) j).flatMap (wholeAt r i)) ++ if whole1 r i (i + 1 + j) = true then [(i, i + 1 + j)] else []) ∧ xs'.length ≤ 4301, ?_, ?_⟩
          · refine ⟨_, rfl, _, rfl, p1, _, _, _, rfl, rfl, hT7, at_ i hi, _, rfl, rfl, _, rfl, ?_⟩
            by_cases c1 : numAt r i = (lst r i (j + 1) : Int)
            · refine ifT (by rw [dec_int]; exact decide_eq_true c1) ⟨_, rfl, _, rfl, p1, _, _, _, rfl, rfl, hT7, at_ (i + 1 + j) hlt, _, rfl, rfl, _, rfl, ?_⟩
              by_cases c2 : numAt r (i + 1 + j) = (mst r i (j + 1) : Int)
              · refine ifT (by rw [dec_int]; exact decide_eq_true c2) ⟨_, rfl, .inl ⟨rfl, _, .inl (.inl hL)⟩, _, rfl, _, rfl, line_ok (by show 2 ≤ 100000; decide), fun t nt => ⟨p2, xs, _, rfl, rfl, same_upd nt _ _ hL, line_lt (by omega), rfl, ?_, _, upd_same, ?_, ?_⟩⟩
                · exact Same.put (sm.trans (same_upd nt)) n2
                · rw [if_pos (by unfold whole1; rw [ed]; exact decide_eq_true ⟨hc', c1, c2⟩)]
                  exact hP.add hL nt (i, i + 1 + j)
                · simp
                  omega
              · refine ifF (by rw [dec_int]; exact decide_eq_false c2) ⟨rfl, sm, xs, hL, ?_, by omega⟩
                rw [if_neg (by unfold whole1; rw [ed]; simp [c2])]
                simpa using hP
            · refine ifF (by rw [dec_int]; exact decide_eq_false c1) (ifF rfl ⟨rfl, sm, xs, hL, ?_, by omega⟩)
              rw [if_neg (by unfold whole1; rw [ed]; simp [c1])]
              simpa using hP
          · rintro σ' H' ⟨rfl, sm', xs', hL', hP', hxl'⟩
            have hT' : SqT K H' p1 (intsV (nums r)) := .inl (.inl (sm' _ _ h1))
            unfold wholeAt
            rw [← List.append_assoc]
            refine ⟨_, rfl, _, rfl, p1, _, _, _, rfl, rfl, hT', at_ i hi, _, rfl, _, _, rfl, rfl, rfl, _, rfl, ?_⟩
            by_cases c1 : numAt r i = 0 - (mst r i (j + 1) : Int)
            · refine ifT (by rw [dec_int]; exact decide_eq_true c1) ⟨_, rfl, _, rfl, p1, _, _, _, rfl, rfl, hT', at_ (i + 1 + j) hlt, _, rfl, _, _, rfl, rfl, rfl, _, rfl, ?_⟩
              by_cases c2 : numAt r (i + 1 + j) = 0 - (lst r i (j + 1) : Int)
              · refine ifT (by rw [dec_int]; exact decide_eq_true c2) ⟨_, rfl, .inl ⟨rfl, _, .inl (.inl hL')⟩, _, rfl, _, rfl, line_ok (by show 2 ≤ 100000; decide), fun t nt => ⟨p2, xs', _, rfl, rfl, same_upd nt _ _ hL', line_lt (by omega), _, _, rfl, ?_, upd_same, ?_⟩⟩
                · exact Same.put (sm'.trans (same_upd nt)) n2
                · rw [if_pos (show whole2 r i (i + 1 + j) = true by unfold whole2; rw [ed]; exact decide_eq_true ⟨hc', c1, c2⟩)]
                  exact hP'.add hL' nt (i, i + 1 + j)
              · refine ifF (by rw [dec_int]; exact decide_eq_false c2) ⟨_, xs', rfl, sm', hL', ?_⟩
                rw [if_neg (show ¬ whole2 r i (i + 1 + j) = true by intro hh; unfold whole2 at hh; rw [ed] at hh; exact c2 (of_decide_eq_true hh).2.2), List.append_nil]
                exact hP'
            · refine ifF (by rw [dec_int]; exact decide_eq_false c1) (ifF rfl ⟨_, xs', rfl, sm', hL', ?_⟩)
              rw [if_neg (show ¬ whole2 r i (i + 1 + j) = true by intro hh; unfold whole2 at hh; rw [ed] at hh; exact c1 (of_decide_eq_true hh).2.1), List.append_nil]
              exact hP'
        · refine ifF (by rw [dec_int]; exact decide_eq_false hc) ⟨_, xs, rfl, sm, hL, ?_⟩
          have hc' : ¬ (mst r i (j + 1) - lst r i (j + 1) = j + 1) := by omega
          have e1 : wholeAt r i (i + 1 + j) = [] := by
            unfold wholeAt whole1 whole2
            rw [ed]
            simp [hc']
          rw [e1, List.append_nil]
          exact hP
      · rintro σ H6 ⟨v6, xs, rfl, sm, hL, hP⟩
        refine ⟨_, _, _, _, xs, rfl, sm, hL, ?_⟩
        rw [List.range_succ, List.flatMap_append, List.flatMap_singleton]
        exact hP
    · rintro σ H4 ⟨v3, v4, v5, v6, xs, rfl, sm, hL, hP⟩
      exact ⟨_, rfl, q H4 p2 xs (s1.trans sm) (s1.free n2) hL hP⟩
end
end WF
namespace WG
open PySem PySem.Spec PyProof.Rows L2 WA WB WC WD WE WF KL KM

def pk (p : Nat × Nat) : List L2.Key := [Sum.inl (p.1 : Int), Sum.inl (p.2 : Int)]
theorem pk_kV (p : Nat × Nat) : (pk p).map kV = pairV p := rfl
theorem pk_inj {p q : Nat × Nat} (h : pk p = pk q) : p = q := by
  unfold pk at h
  injection h with h1 h2
  injection h2 with h2 _
  injection h1 with h1
  injection h2 with h2
  exact Prod.ext (by omega) (by omega)
theorem mem_whole_lt {r : List Int} (R : IsRow r) (hlen : r.length ≤ 40) {p : Nat × Nat} (h : p ∈ wholeL r) : p.1 ≤ 100 ∧ p.2 ≤ 100 := by
  unfold wholeL at h
  obtain ⟨f, hf, h⟩ := List.mem_flatMap.mp h
  unfold wholeFrom at h
  obtain ⟨l, hl, h⟩ := List.mem_flatMap.mp h
  rw [List.mem_range] at hf
  rw [List.mem_range'_1] at hl
  unfold wholeAt at h
  have e : p = (f, l) := by
    rcases List.mem_append.mp h with h | h
    · split at h
      · simpa using h
      · cases h
    · split at h
      · simpa using h
      · cases h
  rw [e]
  exact ⟨by show f ≤ 100; omega, by show l ≤ 100; omega⟩
def dictOf (ps : List (Nat × Nat)) : List (List L2.Key × V) := ps.map fun p => (pk p, V.bl true)
theorem dict_some (ps : List (Nat × Nat)) (p : Nat × Nat) : (valV (dictOf ps) (pk p)).isSome = decide (p ∈ ps) := by
  rw [← valV_any]
  apply Bool.eq_iff_iff.mpr
  rw [List.any_eq_true, decide_eq_true_eq]
  unfold dictOf
  constructor
  · rintro ⟨x, hx, e⟩
    obtain ⟨q, hq, rfl⟩ := List.mem_map.mp hx
    have := pk_inj (of_decide_eq_true e)
    rw [← this]
    exact hq
  · intro h
    exact ⟨_, List.mem_map.mpr ⟨p, h, rfl⟩, decide_eq_true rfl⟩

section
variable {P : Program} {w : World} {K : PySem.W.Frag} {mg : Str → Option Value} {base : Heap}

def spIsParted (K : PySem.W.Frag) : Sp := fun vs H Q _ => ∃ (d : Addr) (ps : List (Nat × Nat)) (i l : Nat), vs = [.ref d, .int (i : Int), .int (l : Int)] ∧ Rd H d (.dT (dictOf ps)) ∧ i ≤ 1000 ∧ l ≤ 1000 ∧
  ∀ H', Same H H' → Q (.bl (isParted ps i l)) H'

theorem sameRd {H H' : Hp} {a : Addr} {u : HO} (s : Same H H') (h : Rd H a u) : Rd H' a u := by
  rcases h with h | ⟨o, h⟩
  · exact .inl (s _ _ h)
  · exact .inr ⟨o, s _ _ h⟩

abbrev sIsParted : Stmt := topS 7
theorem scIsParted : FnScope ["stretches", "first", "last", "spot"] ["stretches", "first", "last"] (defScope sIsParted) := ⟨rfl, rfl, rfl, by decide +kernel, rfl, by decide +kernel, by decide +kernel⟩
-- slots: {'stretches': 0, 'first': 1, 'last': 2, 'spot': 3}
theorem hasIsParted {f : Addr} {fd : FuncData} (F : Fun K "is_parted" "is_parted" sIsParted f fd) (b : Binds K fd ["stretches", "first", "last"] []) (g : mg "is_parted" = some (.ref f)) (M : Bi mg) :
    Has P w K mg base 1 "is_parted" ["stretches", "first", "last"] (spIsParted K) := by
  refine ⟨f, fd, F.ok scIsParted (fun vs H Q E h => ?_) (fun cdv A outer s H vs Q E hr h => ?_), F.kp, b, g⟩
  · obtain ⟨d, ps, i, l, rfl, hD, hi, hl, q⟩ := h
    rfl
  · obtain ⟨d, ps, i, l, rfl, hD, hi, hl, q⟩ := h
    have nd := scIsParted.nd
    refine ⟨_, (pss_cons (ps_for PassesOwn.never rfl (pi_range2 rfl M.m_range (pa_cons (pe_op  op_add (pv 1) pe_int) (pa_cons (pv 2) pa_nil))) (pg_name (i := 3) nd rfl (.inl rfl))
      (pss_one (ps_if (PW.pt (pw_and (pt_cmp (pc_din (room_u hr) (pe_tup (pa_cons (pv 1) (pa_cons (pv 3) pa_nil))) (pv 0))) (pw_and1 (pt_cmp (pc_din (room_u hr) (pe_tup (pa_cons (pv 3) (pa_cons (pv 2) pa_nil))) (pv 0))))))
        (pss_one (ps_ret pe_bl))
        pss_nil)))
      (pss_one (ps_ret pe_bl))), ?_⟩
    refine ⟨_, rfl, _, _, rfl, rfl, _, rfl, _, _, rfl, ⟨?_, ?_, ?_, ?_⟩, ?_⟩
    · omega
    · omega
    · omega
    · omega
    rw [show (i : Int) + 1 = ((i + 1 : Nat) : Int) by omega, show ((l : Int) - ((i + 1 : Nat) : Int)).toNat = l - (i + 1) by omega]
    refine for_it walk_rngN (fun j σ H' => ∃ v3, σ = [some (.ref d), some (.int (i : Int)), some (.int (l : Int)), v3] ∧ Same H H' ∧ (List.range' (i + 1) j).any (fun s => decide ((i, s) ∈ ps) && decide ((s, l) ∈ ps)) = false)
      ⟨none, rfl, fun _ _ h => h, rfl⟩ (fun _ _ _ _ _ => trivial) ?_ ?_
    · rintro j x σ H4 H5 hj ⟨v3, rfl, sm, hno⟩ ⟨rfl, rfl⟩
      refine ⟨_, rfl, _, rfl, line_ok (by show 2 ≤ 100000; decide), fun t nt => ?_⟩
      have st := same_upd (o := HO.tup [V.int (i : Int), V.int ((i + 1 + j : Nat) : Int)]) nt
      refine ⟨_, rfl, d, _, rfl, .inr ⟨_, pk (i, i + 1 + j), t, sameRd (sm.trans st) hD, rfl, upd_same, rfl⟩, _, rfl, ?_⟩
      have er : (List.range' (i + 1) (j + 1)).any (fun s => decide ((i, s) ∈ ps) && decide ((s, l) ∈ ps)) = (decide ((i, i + 1 + j) ∈ ps) && decide ((i + 1 + j, l) ∈ ps)) := by
        rw [List.range'_1_concat, List.any_append, hno]
        simp
      by_cases c1 : (i, i + 1 + j) ∈ ps
      · refine ifT (by rw [dict_some]; exact decide_eq_true c1) ⟨_, rfl, _, rfl, line_ok (by show 2 ≤ 100000; decide), fun t2 nt2 => ?_⟩
        have st2 := same_upd (o := HO.tup [V.int ((i + 1 + j : Nat) : Int), V.int (l : Int)]) nt2
        refine ⟨_, rfl, d, _, rfl, .inr ⟨_, pk (i + 1 + j, l), t2, sameRd ((sm.trans st).trans st2) hD, rfl, upd_same, rfl⟩, _, rfl, ?_⟩
        by_cases c2 : (i + 1 + j, l) ∈ ps
        · refine ifT (by rw [dict_some]; exact decide_eq_true c2) ?_
          have e : isParted ps i l = true := by
            unfold isParted
            rw [List.any_eq_true]
            exact ⟨i + 1 + j, by rw [List.mem_range'_1]; omega, by simp [c1, c2]⟩
          have := q _ ((sm.trans st).trans st2)
          rw [e] at this
          exact this
        · refine ifF (by rw [dict_some]; exact decide_eq_false c2) ⟨_, rfl, (sm.trans st).trans st2, ?_⟩
          rw [er]
          simp [c2]
      · refine ifF (by rw [dict_some]; exact decide_eq_false c1) (ifF rfl ⟨_, rfl, sm.trans st, ?_⟩)
        rw [er]
        simp [c1]
    · rintro σ H4 ⟨v3, rfl, sm, hno⟩
      have := q _ sm
      unfold isParted at this
      rw [hno] at this
      exact this

def spKinSpans (K : PySem.W.Frag) : Sp := fun vs H Q _ => ∃ (a : Addr) (r : List Int), vs = [.ref a] ∧ SqT K H a (intsV r) ∧ r.length ≤ 40 ∧ IsRow r ∧
  ∀ H' p xs, Same H H' → H p = none → H' p = some (.lst xs) → PairsH H' xs (spansL r) → Q (.ref p) H'

abbrev sKinSpans : Stmt := topS 8
theorem scKinSpans : FnScope ["row", "stretches", "stretch", "first", "last"] ["row"] (defScope sKinSpans) := ⟨rfl, rfl, rfl, by decide +kernel, rfl, by decide +kernel, by decide +kernel⟩
-- slots: {'row': 0, 'stretches': 1, 'stretch': 2, 'first': 3, 'last': 4}
theorem hasKinSpans {f : Addr} {fd : FuncData} (F : Fun K "kin_spans" "kin_spans" sKinSpans f fd) (b : Binds K fd ["row"] []) (g : mg "kin_spans" = some (.ref f)) (M : Bi mg)
    (hWholeStretches : Has P w K mg base 2 "whole_stretches" ["row"] (spWholeStretches K)) (hIsParted : Has P w K mg base 1 "is_parted" ["stretches", "first", "last"] (spIsParted K)) :
    Has P w K mg base 3 "kin_spans" ["row"] (spKinSpans K) := by
  obtain ⟨fWholeStretches, fdWholeStretches, GWholeStretches, kWholeStretches, bWholeStretches, gWholeStretches⟩ := hWholeStretches
  obtain ⟨fIsParted, fdIsParted, GIsParted, kIsParted, bIsParted, gIsParted⟩ := hIsParted
  refine ⟨f, fd, F.ok scKinSpans (fun vs H Q E h => ?_) (fun cdv A outer s H vs Q E hr h => ?_), F.kp, b, g⟩
  · obtain ⟨a, r, rfl, hT, hlen, R, q⟩ := h
    rfl
  · obtain ⟨a, r, rfl, hT, hlen, R, q⟩ := h
    have nd := scKinSpans.nd
    refine ⟨_, (pss_cons (ps_set (i := 1) nd rfl (.inr rfl) pe_dnewT)
      (pss_cons (ps_for PassesOwn.never rfl (pi_list (pe_call GWholeStretches (hr.mono (by decide)) (by rfl) gWholeStretches kWholeStretches bWholeStretches .nil pass0 (pa_cons (pv 0) pa_nil))) (pg_name (i := 2) nd rfl (.inl rfl))
      (pss_one (ps_dput (room_u hr) (pv 1) (pv 2) pe_bl (by rfl))))
      (pss_one (ps_ret (pe_lock (pe_lc (own := [("first", 3), ("last", 4)]) (g := (gTup K 2 (gCons (gName 3) (gCons (gName 4) gNil)))) (by rfl) nd (pi_keys (pv 1)) (blkOk_by (own := [("first", 3), ("last", 4)]) (N := ["row", "stretches", "stretch", "first", "last"]) (sc := defScope sKinSpans) (by decide +kernel)) (fun _ _ _ _ _ => (pg_tup rfl (pgs_cons (pg_name (i := 3) nd rfl (Or.inl rfl)) (pgs_cons (pg_name (i := 4) nd rfl (Or.inl rfl)) pgs_nil)))) (fun _ _ _ _ _ => pts_one (pt_not (pt_val (pe_call GIsParted (hr.mono (by decide)) (by rfl) gIsParted kIsParted bIsParted .nil pass0 (pa_cons (pv 1) (pa_cons (pv 3) (pa_cons (pv 4) pa_nil))))))) (fun _ _ _ _ _ => (pe_tup (pa_cons (pv 3) (pa_cons (pv 4) pa_nil)))))))))), ?_⟩
    have big := wholeL_len r hlen
    have nodup : (wholeL r).Nodup := (wholeL_asc R).imp fun {p q} h e => by
      subst e
      unfold KM.lexLt at h
      omega
    refine fun p1 n1 => ?_
    have s1 := same_upd (o := HO.dT []) n1
    refine ⟨.ref a, rfl, a, r, rfl, sameT s1 hT, hlen, R, fun H2 p2 xs s2 n2 h2 hP => ?_⟩
    have n1' : upd H p1 (.dT []) p1 = some (.dT []) := upd_same
    refine ⟨p2, rfl, ⟨_, .inl (.inl h2)⟩, ?_⟩
    have q12 : p1 ≠ p2 := ne_of_none n1' n2
    refine for_it (walk_list (xs := xs)) (fun i σ H' => ∃ v2, σ = [some (.ref a), some (.ref p1), v2, none, none] ∧ H' = upd H2 p1 (.dT (dictOf ((wholeL r).take i)))) ⟨none, rfl, ?_⟩ ?_ ?_ ?_
    · funext b
      unfold upd
      split
      · next h =>
        rw [h]
        exact s2 _ _ n1'
      · rfl
    · rintro i σ H4 hi ⟨v2, rfl, rfl⟩
      exact .inl (.inl (by rw [upd_ne q12.symm]; exact h2))
    · rintro i x σ H4 H5 hi ⟨v2, rfl, rfl⟩ ⟨rfl, hx⟩
      obtain ⟨t, pr, rfl, hpr, ht⟩ := hP.has hx
      have htp : t ≠ p1 := by
        intro e
        rw [e, s2 _ _ n1'] at ht
        cases ht
      refine ⟨_, rfl, _, rfl, p1, _, rfl, DPut.t (k := pk pr) upd_same (by rw [upd_ne htp]; exact ht) ?_, _, rfl, ?_⟩
      · unfold dictOf
        rw [List.length_map, List.length_take]
        exact line_lt (by omega)
      · have hnew : pr ∉ (wholeL r).take i := by
          intro hm
          obtain ⟨j, hj, e⟩ := List.getElem_of_mem hm
          rw [List.length_take] at hj
          rw [List.getElem_take] at e
          have hi' := (List.getElem?_eq_some_iff.mp hpr).1
          have e2 := (List.getElem?_eq_some_iff.mp hpr).2
          have := (List.getElem_inj nodup).mp (e.trans e2.symm)
          omega
        have hv : valV (dictOf ((wholeL r).take i)) (pk pr) = none := by
          have := dict_some ((wholeL r).take i) pr
          rw [decide_eq_false hnew] at this
          exact Option.not_isSome_iff_eq_none.mp (by rw [this]; exact Bool.false_ne_true)
        rw [putK_new _ hv, L2.upd_upd, List.take_add_one, hpr]
        unfold dictOf
        rw [List.map_append]
        rfl
    rintro σ H4 ⟨v2, rfl, rfl⟩
    rw [show (wholeL r).take xs.length = wholeL r from List.take_of_length_le (by rw [hP.1]; exact Nat.le_refl _)]
    refine ⟨p1, .dT (dictOf (wholeL r)), upd_same, trivial, fun od => ?_⟩
    rw [L2.upd_upd]
    refine ⟨_, rfl, p1, od, rfl, .inr ⟨dictOf (wholeL r), upd_same, fun D nD => ?_⟩⟩
    have qD : D ≠ p1 := by
      intro e
      rw [e, upd_same] at nD
      cases nD
    generalize hHL : upd H2 p1 (.frz od (.dT (dictOf (wholeL r)))) = HL at nD
    have hL1 : HL p1 = some (.frz od (.dT (dictOf (wholeL r)))) := by
      rw [← hHL]
      exact upd_same
    refine lc_it walk_keysT (fun i H' => ∃ ys, Same HL H' ∧ H' D = some (.lst ys) ∧ PairsH H' ys (((wholeL r).take i).filter fun p => !isParted (wholeL r) p.1 p.2)) ⟨[], same_upd nD, upd_same, PairsH.nil⟩ (fun i H' _ ⟨_, sm, _⟩ => sm _ _ hL1) ?_ ?_
    · rintro i x H5 H6 hi ⟨ys, sm, hD, hPy⟩ ⟨rfl, k, v, qa, hk, rfl, hq⟩
      obtain ⟨pr, hpr, rfl⟩ : ∃ pr, (wholeL r)[i]? = some pr ∧ k = pk pr := by
        unfold dictOf at hk
        rw [List.getElem?_map] at hk
        cases h : (wholeL r)[i]? with
        | none =>
          rw [h] at hk
          cases hk
        | some pr =>
          rw [h] at hk
          cases hk
          exact ⟨pr, rfl, rfl⟩
      have hb := mem_whole_lt R hlen (List.mem_of_getElem? hpr)
      have ef : ((wholeL r).take (i + 1)).filter (fun p => !isParted (wholeL r) p.1 p.2) = ((wholeL r).take i).filter (fun p => !isParted (wholeL r) p.1 p.2) ++ (if isParted (wholeL r) pr.1 pr.2 = true then [] else [pr]) := by
        rw [List.take_add_one, hpr, List.filter_append]
        show _ ++ List.filter _ [pr] = _
        cases h : isParted (wholeL r) pr.1 pr.2 <;> simp [h]
      refine ⟨qa, _, rfl, .inl (.inl hq), rfl, _, _, rfl, _, _, rfl, rfl, rfl, ?_⟩
      refine ⟨_, rfl, _, rfl, _, rfl, p1, wholeL r, pr.1, pr.2, rfl, .inr ⟨od, sm _ _ hL1⟩, by omega, by omega, fun H7 s7 => ⟨_, rfl, ?_⟩⟩
      rw [ef]
      cases hpp : isParted (wholeL r) pr.1 pr.2 with
      | true =>
        refine ifF rfl ⟨ys, sm.trans s7, s7 _ _ hD, ?_⟩
        rw [if_pos rfl, List.append_nil]
        exact hPy.mono s7
      | false =>
        refine ifT rfl ⟨_, rfl, _, rfl, line_ok (by show 2 ≤ 100000; decide), fun t nt => ⟨ys, same_upd nt _ _ (s7 _ _ hD), ?_, ys ++ [.ref t], ?_, upd_same, ?_⟩⟩
        · rw [hPy.1]
          have := List.length_filter_le (fun p => !isParted (wholeL r) p.1 p.2) ((wholeL r).take i)
          rw [List.length_take] at this
          exact line_lt (by omega)
        · exact Same.put ((sm.trans s7).trans (same_upd nt)) nD
        · rw [if_neg Bool.false_ne_true]
          exact (hPy.mono s7).add (s7 _ _ hD) nt pr
    · rintro H5 ⟨ys, sm, hD, hPy⟩
      rw [show (wholeL r).take (dictOf (wholeL r)).length = wholeL r from List.take_of_length_le (by unfold dictOf; rw [List.length_map]; exact Nat.le_refl _)] at hPy
      have h51 := sm _ _ hL1
      refine ⟨h51, q _ D ys ?_ ?_ ?_ (hPy.imp ?_)⟩
      · intro x o hx
        have hx1 : x ≠ p1 := ne_of_none hx n1
        rw [upd_ne hx1]
        refine sm _ _ ?_
        rw [← hHL, upd_ne hx1]
        exact s2 _ _ (s1 _ _ hx)
      · rw [← hHL, upd_ne qD] at nD
        exact (s1.trans s2).free nD
      · rw [upd_ne qD]
        exact hD
      · intro t k ht
        rw [upd_ne]
        · exact ht
        · intro e
          rw [e, h51] at ht
          cases ht
end
end WG
namespace WH
open PySem PySem.Spec PyProof.Rows L2 WA WB WC WD WE WF WG KC KF KL KM KN

/-- a list of tuples -/
def TupsH (H : Hp) (xs : List V) (tss : List (List V)) : Prop :=
  xs.length = tss.length ∧ ∀ (i : Nat) x ts, xs[i]? = some x → tss[i]? = some ts → ∃ t, x = V.ref t ∧ H t = some (.tup ts)
section
variable {H H' : Hp} {xs : List V} {tss : List (List V)}
theorem TupsH.nl (h : TupsH H xs tss) (s : NL H H') : TupsH H' xs tss :=
  ⟨h.1, fun i x p hx hp => by
    obtain ⟨t, e, q⟩ := h.2 i x p hx hp
    exact ⟨t, e, s _ _ q (fun _ e => by cases e)⟩⟩
theorem TupsH.mono (h : TupsH H xs tss) (s : Same H H') : TupsH H' xs tss := h.nl (NL.of s)
theorem TupsH.nil : TupsH H [] [] := ⟨rfl, fun i x p h => by simp at h⟩
theorem TupsH.snoc (h : TupsH H xs tss) {t : Addr} {p : List V} (q : H t = some (.tup p)) : TupsH H (xs ++ [.ref t]) (tss ++ [p]) := by
  refine ⟨by simp [h.1], fun i x p' hx hp => ?_⟩
  by_cases e : i < xs.length
  · rw [List.getElem?_append_left e] at hx
    rw [List.getElem?_append_left (by rw [← h.1]; exact e)] at hp
    exact h.2 i x p' hx hp
  · have hi : i < (xs ++ [V.ref t]).length := (List.getElem?_eq_some_iff.mp hx).1
    simp only [List.length_append, List.length_singleton] at hi
    have ei : i = xs.length := by omega
    subst ei
    rw [List.getElem?_concat_length] at hx
    rw [h.1, List.getElem?_concat_length] at hp
    cases hx
    cases hp
    exact ⟨t, rfl, q⟩
theorem TupsH.add (h : TupsH H xs tss) {p t : Addr} (hp : H p = some (.lst xs)) (nt : H t = none) (k : List V) :
    TupsH (upd (upd H t (.tup k)) p (.lst (xs ++ [.ref t]))) (xs ++ [.ref t]) (tss ++ [k]) := by
  refine TupsH.snoc ((h.mono (same_upd nt)).nl (NL.put (same_upd nt _ _ hp))) ?_
  rw [upd_ne (ne_of_none hp nt).symm]
  exact upd_same
theorem TupsH.refs (h : TupsH H xs tss) : ∃ as : List Addr, xs = as.map V.ref ∧ as.length = tss.length ∧ ∀ (i : Nat) t m, as[i]? = some t → tss[i]? = some m → H t = some (.tup m) := by
  have key : ∀ x ∈ xs, ∃ a, x = V.ref a := by
    intro x hx
    obtain ⟨i, hi, e⟩ := List.getElem_of_mem hx
    have hi2 : i < tss.length := by rw [← h.1]; exact hi
    obtain ⟨t, e2, _⟩ := h.2 i x tss[i] (by rw [List.getElem?_eq_getElem hi, e]) (List.getElem?_eq_getElem hi2)
    exact ⟨t, e2⟩
  have : ∀ l : List V, (∀ x ∈ l, ∃ a, x = V.ref a) → ∃ as : List Addr, l = as.map V.ref := by
    intro l
    induction l with
    | nil => intro _; exact ⟨[], rfl⟩
    | cons x t ih =>
      intro hk
      obtain ⟨a, rfl⟩ := hk x (by simp)
      obtain ⟨as, rfl⟩ := ih fun y hy => hk y (by simp [hy])
      exact ⟨a :: as, rfl⟩
  obtain ⟨as, rfl⟩ := this xs key
  refine ⟨as, rfl, by rw [← h.1, List.length_map], fun i t m h1 h2 => ?_⟩
  obtain ⟨t', e, q⟩ := h.2 i (.ref t) m (by rw [List.getElem?_map, h1]; rfl) h2
  cases e
  exact q
theorem TupsH.pairs {ps : List (Nat × Nat)} (h : TupsH H xs (ps.map pairV)) : PairsH H xs ps :=
  ⟨by rw [h.1, List.length_map], fun i x p h1 h2 => h.2 i x (pairV p) h1 (by rw [List.getElem?_map, h2]; rfl)⟩
end
def tripV (p : Nat × Nat) : List Int := [(p.2 : Int) - (p.1 : Int), (p.1 : Int), (p.2 : Int)]
theorem spansL_len (r : List Int) (h : r.length ≤ 40) : (spansL r).length ≤ 5000 := Nat.le_trans (List.length_filter_le _ _) (wholeL_len r h)
theorem spans_lt {r : List Int} (R : IsRow r) (hlen : r.length ≤ 40) {p : Nat × Nat} (h : p ∈ spansL r) : p.1 ≤ 100 ∧ p.2 ≤ 100 := mem_whole_lt R hlen (List.mem_filter.mp h).1
def inS (g : Nat) (p : Nat × Nat) : Bool := decide (p.1 ≤ g) && decide (g < p.2)
theorem st_en {S : List (Nat × Nat)} {i : Nat} (h : i < S.length) : S[i]? = some (KD.st S i, KD.en S i) := by
  unfold KD.st KD.en
  rw [List.getD_eq_getElem?_getD, List.getElem?_eq_getElem h]
  rfl
theorem ownP_mem {S : List (Nat × Nat)} {i : Nat} (h : i < S.length) : (KD.st S i, KD.en S i) ∈ S := List.mem_of_getElem? (st_en h)

section
variable {P : Program} {w : World} {K : PySem.W.Frag} {mg : Str → Option Value} {base : Heap}

def ownL (r : List Int) (o : Nat → Nat) (n : Nat) : List (Nat × Nat) := (List.range n).map fun g => (KD.st (spansL r) (o g), KD.en (spansL r) (o g))
def spOwnersBy (K : PySem.W.Frag) : Sp := fun vs H Q _ => ∃ (s : Addr) (r : List Int) (xs : List V) (o : Nat → Nat), vs = [.ref s, .int ((r.length + 1 : Nat) : Int)] ∧ H s = some (.lst xs) ∧ PairsH H xs (spansL r) ∧ r.length ≤ 40 ∧ IsRow r ∧
  Ow (r.length + 1) (KG.gh (pos r)) (KG.gf (pos r)) (spansL r) o ∧
  ∀ H' p ys, Same H H' → H p = none → H' p = some (.lst ys) → PairsH H' ys (ownL r o (r.length + 1)) → Q (.ref p) H'

abbrev sOwnersBy : Stmt := topS 9
theorem scOwnersBy : FnScope ["spans", "many", "found", "gap", "around", "shortest", "first", "last"] ["spans", "many"] (defScope sOwnersBy) := ⟨rfl, rfl, rfl, by decide +kernel, rfl, by decide +kernel, by decide +kernel⟩
-- slots: {'spans': 0, 'many': 1, 'found': 2, 'gap': 3, 'around': 4, 'shortest': 5, 'first': 6, 'last': 7}
theorem hasOwnersBy {f : Addr} {fd : FuncData} (F : Fun K "owners_by" "owners_by" sOwnersBy f fd) (b : Binds K fd ["spans", "many"] []) (g : mg "owners_by" = some (.ref f)) (M : Bi mg) :
    Has P w K mg base 1 "owners_by" ["spans", "many"] (spOwnersBy K) := by
  refine ⟨f, fd, F.ok scOwnersBy (fun vs H Q E h => ?_) (fun cdv A outer s H vs Q E hr h => ?_), F.kp, b, g⟩
  · obtain ⟨s0, r, xs, o, rfl, hs, hP, hlen, R, O, q⟩ := h
    rfl
  · obtain ⟨s0, r, xs, o, rfl, hs, hP, hlen, R, O, q⟩ := h
    have nd := scOwnersBy.nd
    refine ⟨_, (pss_cons (ps_set (i := 2) nd rfl (.inl rfl) (pe_lst pa_nil))
      (pss_cons (ps_for PassesOwn.never rfl (pi_range1 rfl M.m_range (pa_cons (pv 1) pa_nil)) (pg_name (i := 3) nd rfl (.inr rfl))
      (pss_cons (ps_setLc (i := 4) (own := [("first", 6), ("last", 7)]) (g := (gTup K 2 (gCons (gName 6) (gCons (gName 7) gNil)))) rfl nd rfl rfl (sw_true rfl rfl rfl (by decide +kernel)) (pi_list (pv 0)) (blkOk_by (own := [("first", 6), ("last", 7)]) (N := ["spans", "many", "found", "gap", "around", "shortest", "first", "last"]) (sc := defScope sOwnersBy) (by decide +kernel)) (fun _ _ _ _ _ => (pg_tup rfl (pgs_cons (pg_name (i := 6) nd rfl (Or.inl rfl)) (pgs_cons (pg_name (i := 7) nd rfl (Or.inl rfl)) pgs_nil)))) (fun _ _ _ _ _ => pts_one (PW.pt (pw_and (pt_cmpR  op_le (pv 6) (pv 3) (nomark _)) (pw_and1 (pt_cmpR  op_lt (pv 3) (pv 7) (nomark _)))))) (fun _ _ _ _ _ => (pe_tup (pa_cons (pe_op  op_sub (pv 7) (pv 6)) (pa_cons (pv 6) (pa_cons (pv 7) pa_nil))))))
        (pss_cons (ps_set (i := 5) nd rfl (.inl rfl) (pe_callB (r := WR2.rMinT K) (WR2.cr_minT rfl (room_u hr)) (by rfl) M.m_min (by decide +kernel) (pa_cons (pv 4) pa_nil)))
        (pss_one (ps_expr (pe_bm  PySem.F.plainAttrs_list PySem.F.slot_list_append PySem.F.type_list_append mt_append (pv 2) (pa_cons (pe_tup (pa_cons (pe_ix (r := rIxT K) ix_tup (pv 5) pe_int (fun _ _ => rfl)) (pa_cons (pe_ix (r := rIxT K) ix_tup (pv 5) pe_int (fun _ _ => rfl)) pa_nil))) pa_nil)))))))
      (pss_one (ps_ret (pv 2))))), ?_⟩
    have hxl := hP.1
    have hsl := spansL_len r hlen
    refine ⟨Nat.zero_le _, fun p2 n2 => ?_⟩
    have s2 := same_upd (o := HO.lst []) n2
    refine ⟨_, rfl, _, rfl, ?_, ?_, ?_⟩
    · omega
    · show ((r.length + 1 : Nat) : Int) < 2 ^ 62; omega
    rw [show (((r.length + 1 : Nat) : Int)).toNat = r.length + 1 by omega]
    refine for_it walk_rng0 (fun i σ H' => ∃ v3 v4 v5 v6 v7 ys, σ = [some (.ref s0), some (.int ((r.length + 1 : Nat) : Int)), some (.ref p2), v3, v4, v5, v6, v7] ∧ Same H H' ∧ H' p2 = some (.lst ys) ∧ PairsH H' ys (ownL r o i))
      ⟨none, none, none, none, none, [], rfl, s2, upd_same, PairsH.nil⟩ (fun _ _ _ _ _ => trivial) ?_ ?_
    · rintro i x σ H4 H5 hi ⟨v3, v4, v5, v6, v7, ys, rfl, sm, hL, hPy⟩ ⟨rfl, rfl⟩
      have hs5 := sm _ _ hs
      refine ⟨_, rfl, s0, rfl, ⟨_, .inl (.inl hs5)⟩, fun D nD => lc_it (walk_list (xs := xs)) (fun j H' => ∃ zs, Same H5 H' ∧ H' D = some (.lst zs) ∧ TupsH H' zs ((((spansL r).take j).filter (inS i)).map fun p => (tripV p).map V.int)) ⟨[], same_upd nD, upd_same, TupsH.nil⟩ (fun _ _ _ ⟨_, sm, _⟩ => .inl (.inl (sm _ _ hs5))) ?_ ?_⟩
      · rintro j x H6 H7 hj ⟨zs, sm6, hD, hz⟩ ⟨rfl, hx⟩
        obtain ⟨t, pr, rfl, hpr, ht⟩ := (hP.mono (sm.trans sm6)).has hx
        have ef : ((spansL r).take (j + 1)).filter (inS i) = ((spansL r).take j).filter (inS i) ++ (if inS i pr = true then [pr] else []) := by
          rw [List.take_add_one, hpr, List.filter_append]
          show _ ++ List.filter _ [pr] = _
          cases h : inS i pr <;> simp [h]
        rw [ef]
        refine ⟨t, _, rfl, .inl (.inl ht), rfl, _, _, rfl, _, _, rfl, rfl, rfl, ?_⟩
        refine ⟨_, rfl, _, rfl, _, _, rfl, rfl, decide ((pr.1 : Int) ≤ (i : Int)), rfl, ?_⟩
        have hno : inS i pr = false → ∃ zs, Same H5 H7 ∧ H7 D = some (.lst zs) ∧ TupsH H7 zs ((((spansL r).take j).filter (inS i) ++ (if inS i pr = true then [pr] else [])).map fun p => (tripV p).map V.int) := fun h => by
          rw [if_neg (by rw [h]; exact Bool.false_ne_true), List.append_nil]
          exact ⟨zs, sm6, hD, hz⟩
        by_cases c1 : (pr.1 : Int) ≤ (i : Int)
        · refine ifT (decide_eq_true c1) ⟨_, rfl, _, rfl, _, _, rfl, rfl, decide ((i : Int) < (pr.2 : Int)), rfl, ?_⟩
          by_cases c2 : (i : Int) < (pr.2 : Int)
          · have hin : inS i pr = true := by
              unfold inS
              rw [decide_eq_true (by omega), decide_eq_true (by omega)]
              rfl
            refine ifT (decide_eq_true c2) ⟨_, rfl, _, rfl, _, _, rfl, rfl, _, rfl, _, rfl, line_ok (by show 3 ≤ 100000; decide), fun t nt => ⟨zs, same_upd nt _ _ hD, ?_, zs ++ [.ref t], ?_, upd_same, ?_⟩⟩
            · rw [hz.1, List.length_map]
              have := List.length_filter_le (inS i) ((spansL r).take j)
              rw [List.length_take] at this
              exact line_lt (by omega)
            · exact Same.put (sm6.trans (same_upd nt)) nD
            · rw [if_pos hin, List.map_append]
              exact hz.add hD nt _
          · refine ifF (decide_eq_false c2) (hno ?_)
            unfold inS
            rw [decide_eq_false (show ¬ i < pr.2 by omega), Bool.and_false]
        · refine ifF (decide_eq_false c1) (ifF rfl (hno ?_))
          unfold inS
          rw [decide_eq_false (show ¬ pr.1 ≤ i by omega), Bool.false_and]
      rintro H6 ⟨zs, sm6, hD, hz⟩
      rw [show (spansL r).take xs.length = spansL r from List.take_of_length_le (by rw [hP.1]; exact Nat.le_refl _)] at hz
      obtain ⟨as, rfl, hal, hat⟩ := hz.refs
      rw [List.length_map] at hal
      obtain ⟨ho, hown⟩ := O i hi
      have hmem : (KD.st (spansL r) (o i), KD.en (spansL r) (o i)) ∈ (spansL r).filter (inS i) := by
        rw [List.mem_filter]
        refine ⟨ownP_mem ho, ?_⟩
        unfold inS
        rw [decide_eq_true hown.le, decide_eq_true hown.lt]
        rfl
      refine ⟨_, rfl, D, as, ((spansL r).filter (inS i)).map tripV, rfl, .inl (.inl hD), ?_, ?_, ?_, ?_⟩
      · rw [hal]
        exact List.length_pos_of_mem hmem
      · rw [hal, List.length_map]
      · intro j t m h1 h2
        refine .inl (.inl (hat j t _ h1 ?_))
        rw [List.getElem?_map] at h2 ⊢
        cases h : ((spansL r).filter (inS i))[j]? with
        | none =>
          rw [h] at h2
          cases h2
        | some p =>
          rw [h] at h2
          cases h2
          rfl
      intro j t m h1 h2 hmin
      obtain ⟨pr, hpr, rfl⟩ : ∃ pr, ((spansL r).filter (inS i))[j]? = some pr ∧ m = tripV pr := by
        rw [List.getElem?_map] at h2
        cases h : ((spansL r).filter (inS i))[j]? with
        | none =>
          rw [h] at h2
          cases h2
        | some p =>
          rw [h] at h2
          cases h2
          exact ⟨p, rfl, rfl⟩
      have hpm := List.mem_filter.mp (List.mem_of_getElem? hpr)
      have hin := hpm.2
      unfold inS at hin
      rw [Bool.and_eq_true, decide_eq_true_eq, decide_eq_true_eq] at hin
      have hw := own_spans R hi (a := pr.1) (b := pr.2) hpm.1 hin.1 hin.2 (by
        intro c d hcd h3 h4
        have := hmin (tripV (c, d)) (List.mem_map.mpr ⟨(c, d), by rw [List.mem_filter]; exact ⟨hcd, by unfold inS; simp [h3, h4]⟩, rfl⟩)
        unfold tripV at this
        rw [HT.lexLt_cons] at this
        split at this
        · omega
        · have := of_decide_eq_false this
          omega)
      have huq := hown.uq hw
      have ht : H6 t = some (.tup ((tripV pr).map V.int)) := hat j t _ h1 (by rw [List.getElem?_map, hpr]; rfl)
      have hL6 := sm6 _ _ hL
      refine ⟨_, rfl, .inl ⟨rfl, _, .inl (.inl hL6)⟩, _, rfl, t, _, _, _, rfl, rfl, .inl (.inl ht), rfl, _, rfl, t, _, _, _, rfl, rfl, .inl (.inl ht), rfl, line_ok (by show 2 ≤ 100000; decide), fun t2 nt2 => ⟨p2, ys, _, rfl, rfl, same_upd nt2 _ _ hL6, ?_, ?_⟩⟩
      · rw [hPy.1]
        unfold ownL
        rw [List.length_map, List.length_range]
        exact line_lt (by omega)
      refine ⟨_, _, _, _, _, ys ++ [.ref t2], rfl, Same.put ((sm.trans sm6).trans (same_upd nt2)) n2, upd_same, ?_⟩
      have e : ownL r o (i + 1) = ownL r o i ++ [pr] := by
        unfold ownL
        rw [List.range_succ, List.map_append, List.map_singleton, huq.1, huq.2]
      rw [e]
      exact (hPy.mono sm6).add hL6 nt2 pr
    · rintro σ H4 ⟨v3, v4, v5, v6, v7, ys, rfl, sm, hL, hPy⟩
      exact ⟨_, rfl, q H4 p2 ys sm n2 hL hPy⟩
end
end WH
namespace WJ
open PySem PySem.Spec PyProof.Rows L2 WA WB WC WD WE WF WG WH KC KF KL KM KN

theorem take_map {α : Type} {l : List Nat} {i g : Nat} (f : Nat → α) (h : l[i]? = some g) : (l.take (i + 1)).map f = (l.take i).map f ++ [f g] := by
  rw [List.take_add_one, h, List.map_append]
  rfl
theorem nats_at {l : List Nat} {i : Nat} {x : V} (h : (natsV l)[i]? = some x) : ∃ g, l[i]? = some g ∧ x = .int (g : Int) := by
  unfold natsV at h
  rw [List.getElem?_map] at h
  cases e : l[i]? with
  | none =>
    rw [e] at h
    cases h
  | some g =>
    rw [e] at h
    cases h
    exact ⟨g, rfl, rfl⟩
def sg1 (r : List Int) (g : Nat) : V := .bl (decide (numAt r g < 0))
def sg2 (r : List Int) (g : Nat) : V := .bl (decide (numAt r (g + 1) < 0))
def sgs (r : List Int) (gaps : List Nat) : List V := gaps.map (sg1 r) ++ gaps.map (sg2 r)
theorem sgs_flat (r : List Int) (gaps : List Nat) : (sgs r gaps).all flatV = true := by
  rw [List.all_eq_true]
  intro x hx
  unfold sgs at hx
  rcases List.mem_append.mp hx with h | h
  · obtain ⟨g, _, rfl⟩ := List.mem_map.mp h
    rfl
  · obtain ⟨g, _, rfl⟩ := List.mem_map.mp h
    rfl
theorem eqV_bl (a b : Bool) : eqV (.bl a) (.bl b) = (a == b) := rfl
theorem knot_iff {r : List Int} {g0 : Nat} {gs : List Nat} : ((sgs r (g0 :: gs)).countP fun z => eqV z (sg1 r g0)) = (sgs r (g0 :: gs)).length ↔ KnotG r (g0 :: gs) := by
  rw [List.countP_eq_length]
  unfold KnotG
  constructor
  · intro h
    refine ⟨by simp, decide (numAt r g0 < 0), fun g hg => ⟨?_, ?_⟩⟩
    · have := h (sg1 r g) (List.mem_append_left _ (List.mem_map.mpr ⟨g, hg, rfl⟩))
      exact eq_of_beq ((eqV_bl _ _).symm.trans this)
    · have := h (sg2 r g) (List.mem_append_right _ (List.mem_map.mpr ⟨g, hg, rfl⟩))
      exact eq_of_beq ((eqV_bl _ _).symm.trans this)
  · rintro ⟨_, s, h⟩ x hx
    have h0 := (h g0 (by simp)).1
    rcases List.mem_append.mp hx with hx | hx
    · obtain ⟨g, hg, rfl⟩ := List.mem_map.mp hx
      refine (eqV_bl _ _).trans ?_
      rw [(h g hg).1, h0]
      exact beq_self_eq_true s
    · obtain ⟨g, hg, rfl⟩ := List.mem_map.mp hx
      refine (eqV_bl _ _).trans ?_
      rw [(h g hg).2, h0]
      exact beq_self_eq_true s

section
variable {P : Program} {w : World} {K : PySem.W.Frag} {mg : Str → Option Value} {base : Heap}

def spIsKnot (K : PySem.W.Frag) : Sp := fun vs H Q _ => ∃ (a g0 : Addr) (r : List Int) (gaps : List Nat), vs = [.ref a, .ref g0] ∧ SqT K H a (intsV (nums r)) ∧ H g0 = some (.lst (natsV gaps)) ∧ r.length ≤ 40 ∧
  (∀ g, g ∈ gaps → g < r.length + 1) ∧ gaps.length ≤ 1000 ∧ ∀ H' c, Same H H' → (c = true ↔ KnotG r gaps) → Q (.bl c) H'

abbrev sIsKnot : Stmt := topS 11
theorem scIsKnot : FnScope ["numbers", "gaps", "signs", "gap"] ["numbers", "gaps"] (defScope sIsKnot) := ⟨rfl, rfl, rfl, by decide +kernel, rfl, by decide +kernel, by decide +kernel⟩
-- slots: {'numbers': 0, 'gaps': 1, 'signs': 2, 'gap': 3}
theorem hasIsKnot {f : Addr} {fd : FuncData} (F : Fun K "is_knot" "is_knot" sIsKnot f fd) (b : Binds K fd ["numbers", "gaps"] []) (g : mg "is_knot" = some (.ref f)) (M : Bi mg) :
    Has P w K mg base 1 "is_knot" ["numbers", "gaps"] (spIsKnot K) := by
  refine ⟨f, fd, F.ok scIsKnot (fun vs H Q E h => ?_) (fun cdv A outer s H vs Q E hr h => ?_), F.kp, b, g⟩
  · obtain ⟨a, g0, r, gaps, rfl, hT, hG, hlen, hb, hz, q⟩ := h
    rfl
  · obtain ⟨a, g0, r, gaps, rfl, hT, hG, hlen, hb, hz, q⟩ := h
    have nd := scIsKnot.nd
    refine ⟨_, (pss_cons (ps_setLc (i := 2) (own := [("gap", 3)]) (g := (gName 3)) rfl nd rfl rfl (sw_true rfl rfl rfl (by decide +kernel)) (pi_list (pv 1)) (blkOk_by (own := [("gap", 3)]) (N := ["numbers", "gaps", "signs", "gap"]) (sc := defScope sIsKnot) (by decide +kernel)) (fun _ _ _ _ _ => (pg_name (i := 3) nd rfl (Or.inl rfl))) (fun _ _ _ _ _ => pts_nil) (fun _ _ _ _ _ => (pe_cmpR  op_lt (pe_ix (r := rIxT K) ix_tup (pv 0) (pv 3) (fun _ _ => rfl)) pe_int (nomark _))))
      (pss_cons (ps_expr (pe_bm  PySem.F.plainAttrs_list PySem.F.slot_list_extend PySem.F.type_list_extend mt_extend (pv 2) (pa_cons (pe_lc (own := [("gap", 3)]) (g := (gName 3)) (by rfl) nd (pi_list (pv 1)) (blkOk_by (own := [("gap", 3)]) (N := ["numbers", "gaps", "signs", "gap"]) (sc := defScope sIsKnot) (by decide +kernel)) (fun _ _ _ _ _ => (pg_name (i := 3) nd rfl (Or.inl rfl))) (fun _ _ _ _ _ => pts_nil) (fun _ _ _ _ _ => (pe_cmpR  op_lt (pe_ix (r := rIxT K) ix_tup (pv 0) (pe_op  op_add (pv 3) pe_int) (fun _ _ => rfl)) pe_int (nomark _)))) pa_nil)))
      (pss_one (ps_ret (pe_and (pe_cmpR  op_gt (pe_callB (r := Evl.rLenS K) call_len_seq (by rfl) M.m_len PySem.boot_len (pa_cons (pv 2) pa_nil)) pe_int (nomark _)) (pe_one (pe_cmpR  op_eq (pe_bm (r := WR3.rCntF K) PySem.F.plainAttrs_list PySem.F.slot_list_count PySem.F.type_list_count WR3.mt_countF (pv 2) (pa_cons (pe_ix (r := rIxL K) ix_list (pv 2) pe_int (fun _ _ => rfl)) pa_nil)) (pe_callB (r := Evl.rLenS K) call_len_seq (by rfl) M.m_len PySem.boot_len (pa_cons (pv 2) pa_nil)) (nomark _)))))))), ?_⟩
    have at_ : ∀ m : Nat, m < r.length + 2 → atI (intsV (nums r)) (m : Int) = some (.int (numAt r m)) := fun m hm => atI_nat (ints_get (numAt_get hm))
    have one : ∀ (ft : Nat → V) (H1 : Hp), Same H H1 → ∀ D, H1 D = none → ∀ i H', (Same H1 H' ∧ H' D = some (.lst ((gaps.take i).map ft))) → SqL K H' g0 (natsV gaps) := fun ft H1 e1 D nD i H' ⟨sm, _⟩ => .inl (.inl (sm _ _ (e1 _ _ hG)))
    refine ⟨_, rfl, g0, rfl, ⟨_, .inl (.inl hG)⟩, fun D nD => lc_it (walk_list (xs := natsV gaps)) (fun i H' => Same H H' ∧ H' D = some (.lst ((gaps.take i).map (sg1 r)))) ⟨same_upd nD, upd_same⟩ (fun i H' _ h => .inl (.inl (h.1 _ _ hG))) ?_ ?_⟩
    · rintro i x H4 H5 hi ⟨sm, hD⟩ ⟨rfl, hx⟩
      obtain ⟨g, hg, rfl⟩ := nats_at hx
      have hgl := hb g (List.mem_of_getElem? hg)
      refine ⟨rfl, _, rfl, _, rfl, a, _, _, _, rfl, rfl, sameT sm hT, at_ g (by omega), _, _, rfl, rfl, _, hD, ?_, Same.put sm nD, ?_⟩
      · rw [List.length_map, List.length_take]
        exact line_lt (by omega)
      · rw [upd_same, take_map (sg1 r) hg]
        rfl
    rintro H4 ⟨sm4, hD4⟩
    rw [show gaps.take (natsV gaps).length = gaps from List.take_of_length_le (by rw [nats_len]; exact Nat.le_refl _)] at hD4
    have hG4 := sm4 _ _ hG
    refine ⟨_, rfl, .inl ⟨rfl, _, .inl (.inl hD4)⟩, _, rfl, g0, rfl, ⟨_, .inl (.inl hG4)⟩, fun D2 nD2 => lc_it (walk_list (xs := natsV gaps)) (fun i H' => Same H4 H' ∧ H' D2 = some (.lst ((gaps.take i).map (sg2 r)))) ⟨same_upd nD2, upd_same⟩ (fun i H' _ h => .inl (.inl (h.1 _ _ hG4))) ?_ ?_⟩
    · rintro i x H5 H6 hi ⟨sm, hD⟩ ⟨rfl, hx⟩
      obtain ⟨g, hg, rfl⟩ := nats_at hx
      have hgl := hb g (List.mem_of_getElem? hg)
      refine ⟨rfl, _, rfl, _, rfl, _, _, rfl, rfl, a, _, _, _, rfl, rfl, sameT (sm4.trans sm) hT, by rw [show (g : Int) + 1 = ((g + 1 : Nat) : Int) by omega]; exact at_ (g + 1) (by omega), _, _, rfl, rfl, _, hD, ?_, Same.put sm nD2, ?_⟩
      · rw [List.length_map, List.length_take]
        exact line_lt (by omega)
      · rw [upd_same, take_map (sg2 r) hg]
        rfl
    rintro H5 ⟨sm5, hD5⟩
    rw [show gaps.take (natsV gaps).length = gaps from List.take_of_length_le (by rw [nats_len]; exact Nat.le_refl _)] at hD5
    refine ⟨D, D2, _, _, rfl, rfl, sm5 _ _ hD4, hD5, ?_, ?_⟩
    · rw [List.length_map, List.length_map]
      exact line_ok (by omega)
    have s6 : Same H (upd H5 D (.lst (sgs r gaps))) := Same.put (sm4.trans sm5) nD
    have hS : SqL K (upd H5 D (.lst (sgs r gaps))) D (sgs r gaps) := .inl (.inl upd_same)
    refine ⟨_, rfl, D, sgs r gaps, rfl, .inl hS, _, _, rfl, rfl, decide (0 < (sgs r gaps).length), ?_, ?_⟩
    · show V.bl (decide ((0 : Int) < ((sgs r gaps).length : Int))) = _
      congr 1
      exact decide_eq_decide.mpr (by omega)
    cases gaps with
    | nil =>
      refine ifF rfl (q _ false s6 ⟨fun h => (nomatch h), fun h => absurd rfl h.1⟩)
    | cons g1 gs =>
      refine ifT (decide_eq_true (by simp [sgs])) ?_
      refine ⟨_, rfl, .inl ⟨rfl, _, hS⟩, _, rfl, D, _, _, sg1 r g1, rfl, rfl, hS, atI_nat (j := 0) (v := sg1 r g1) rfl, D, _, _, rfl, rfl, hS, rfl, sgs_flat r _, ?_⟩
      refine ⟨_, rfl, D, _, rfl, .inl hS, rfl, ?_⟩
      rw [dec_int]
      refine q _ _ s6 ?_
      rw [beq_iff_eq, ← knot_iff]
      omega

theorem spansL_nodup {r : List Int} (R : IsRow r) : (spansL r).Nodup := by
  unfold spansL
  refine List.Pairwise.filter _ ((wholeL_asc R).imp fun {p q} h e => ?_)
  subst e
  unfold KM.lexLt at h
  omega
theorem span_inj {r : List Int} (R : IsRow r) {i j : Nat} (hi : i < (spansL r).length) (hj : j < (spansL r).length) (h : (KD.st (spansL r) i, KD.en (spansL r) i) = (KD.st (spansL r) j, KD.en (spansL r) j)) : i = j := by
  have e1 := (List.getElem?_eq_some_iff.mp (st_en hi)).2
  have e2 := (List.getElem?_eq_some_iff.mp (st_en hj)).2
  exact (List.getElem_inj (spansL_nodup R)).mp (e1.trans (h.trans e2.symm))
noncomputable def knotsL (r : List Int) (o : Nat → Nat) (n : Nat) : List (Nat × Nat) := ((List.range n).filter (knB r o)).map fun i => (KD.st (spansL r) i, KD.en (spansL r) i)
def spKnotsAmong (K : PySem.W.Frag) : Sp := fun vs H Q _ => ∃ (a s : Addr) (r : List Int) (xs : List V) (o : Nat → Nat), vs = [.ref a, .ref s] ∧ SqT K H a (intsV r) ∧ H s = some (.lst xs) ∧ PairsH H xs (spansL r) ∧ r.length ≤ 40 ∧ IsRow r ∧
  Ow (r.length + 1) (KG.gh (pos r)) (KG.gf (pos r)) (spansL r) o ∧
  ∀ H' p ys, Same H H' → H p = none → H' p = some (.lst ys) → PairsH H' ys (knotsL r o (spansL r).length) → Q (.ref p) H'

abbrev sKnotsAmong : Stmt := topS 12
theorem scKnotsAmong : FnScope ["row", "spans", "numbers", "owners", "gaps", "found", "span", "gap"] ["row", "spans"] (defScope sKnotsAmong) := ⟨rfl, rfl, rfl, by decide +kernel, rfl, by decide +kernel, by decide +kernel⟩
-- slots: {'row': 0, 'spans': 1, 'numbers': 2, 'owners': 3, 'gaps': 4, 'found': 5, 'span': 6, 'gap': 7}
theorem hasKnotsAmong {f : Addr} {fd : FuncData} (F : Fun K "knots_among" "knots_among" sKnotsAmong f fd) (b : Binds K fd ["row", "spans"] []) (g : mg "knots_among" = some (.ref f)) (M : Bi mg)
    (hFramed : Has P w K mg base 1 "framed" ["row"] (spFramed K)) (hOpenGaps : Has P w K mg base 2 "open_gaps" ["row"] (spOpenGaps K)) (hOwnersBy : Has P w K mg base 1 "owners_by" ["spans", "many"] (spOwnersBy K)) (hIsKnot : Has P w K mg base 1 "is_knot" ["numbers", "gaps"] (spIsKnot K)) :
    Has P w K mg base 3 "knots_among" ["row", "spans"] (spKnotsAmong K) := by
  obtain ⟨fFramed, fdFramed, GFramed, kFramed, bFramed, gFramed⟩ := hFramed
  obtain ⟨fOpenGaps, fdOpenGaps, GOpenGaps, kOpenGaps, bOpenGaps, gOpenGaps⟩ := hOpenGaps
  obtain ⟨fOwnersBy, fdOwnersBy, GOwnersBy, kOwnersBy, bOwnersBy, gOwnersBy⟩ := hOwnersBy
  obtain ⟨fIsKnot, fdIsKnot, GIsKnot, kIsKnot, bIsKnot, gIsKnot⟩ := hIsKnot
  refine ⟨f, fd, F.ok scKnotsAmong (fun vs H Q E h => ?_) (fun cdv A outer s H vs Q E hr h => ?_), F.kp, b, g⟩
  · obtain ⟨a, s0, r, xs, o, rfl, hT, hs, hP, hlen, R, O, q⟩ := h
    rfl
  · obtain ⟨a, s0, r, xs, o, rfl, hT, hs, hP, hlen, R, O, q⟩ := h
    have nd := scKnotsAmong.nd
    refine ⟨_, (pss_cons (ps_set (i := 2) nd rfl (.inl rfl) (pe_call GFramed (hr.mono (by decide)) (by rfl) gFramed kFramed bFramed .nil pass0 (pa_cons (pv 0) pa_nil)))
      (pss_cons (ps_set (i := 3) nd rfl (.inr rfl) (pe_call GOwnersBy (hr.mono (by decide)) (by rfl) gOwnersBy kOwnersBy bOwnersBy .nil pass0 (pa_cons (pv 1) (pa_cons (pe_op  op_add (pe_callB (r := Evl.rLenS K) call_len_seq (by rfl) M.m_len PySem.boot_len (pa_cons (pv 0) pa_nil)) pe_int) pa_nil))))
      (pss_cons (ps_set (i := 4) nd rfl (.inl rfl) (pe_call GOpenGaps (hr.mono (by decide)) (by rfl) gOpenGaps kOpenGaps bOpenGaps .nil pass0 (pa_cons (pv 0) pa_nil)))
      (pss_cons (ps_set (i := 5) nd rfl (.inl rfl) (pe_lst pa_nil))
      (pss_cons (ps_for PassesOwn.never rfl (pi_list (pv 1)) (pg_name (i := 6) nd rfl (.inr rfl))
      (pss_one (ps_if (pt_val (pe_call GIsKnot (hr.mono (by decide)) (by rfl) gIsKnot kIsKnot bIsKnot .nil pass0 (pa_cons (pv 2) (pa_cons (pe_lc (own := [("gap", 7)]) (g := (gName 7)) (by rfl) nd (pi_list (pv 4)) (blkOk_by (own := [("gap", 7)]) (N := ["row", "spans", "numbers", "owners", "gaps", "found", "span", "gap"]) (sc := defScope sKnotsAmong) (by decide +kernel)) (fun _ _ _ _ _ => (pg_name (i := 7) nd rfl (Or.inl rfl))) (fun _ _ _ _ _ => pts_one (pt_cmpR (r := rEqD K) (op_eqD hr.units) (pe_ix (r := rIxL K) ix_list (pv 3) (pv 7) (fun _ _ => rfl)) (pv 6) (nomark _))) (fun _ _ _ _ _ => (pv 7))) pa_nil))))
        (pss_one (ps_expr (pe_bm  PySem.F.plainAttrs_list PySem.F.slot_list_append PySem.F.type_list_append mt_append (pv 5) (pa_cons (pv 6) pa_nil))))
        pss_nil)))
      (pss_one (ps_ret (pv 5)))))))), ?_⟩
    have hsl := spansL_len r hlen
    have hxl := hP.1
    refine ⟨.ref a, rfl, a, r, rfl, hT, hlen, fun H2 p2 e2 n2 h2 => ?_⟩
    refine ⟨.ref s0, rfl, .ref a, rfl, a, _, rfl, .inr (sameT e2 hT), _, _, rfl, rfl, s0, r, xs, o, by rw [ints_len]; rfl, e2 _ _ hs, hP.mono e2, hlen, R, O, fun H3 p3 os e3 n3 h3 hO => ?_⟩
    refine ⟨.ref a, rfl, a, r, rfl, sameT (e2.trans e3) hT, hlen, fun H4 p4 e4 n4 h4 => ?_⟩
    refine ⟨Nat.zero_le _, fun p5 n5 => ?_⟩
    have e24 := e2.trans (e3.trans e4)
    have s5 := same_upd (o := HO.lst []) n5
    have hs4 := e24 _ _ hs
    have h24 : H4 p2 = some (.tup (intsV (nums r))) := e4 _ _ (e3 _ _ h2)
    have h34 : H4 p3 = some (.lst os) := e4 _ _ h3
    have hO4 := hO.mono e4
    have hP4 := hP.mono e24
    refine ⟨_, rfl, s0, rfl, ⟨_, .inl (.inl (s5 _ _ hs4))⟩, ?_⟩
    refine for_it (walk_list (xs := xs)) (fun i σ H' => ∃ v6 ys, σ = [some (.ref a), some (.ref s0), some (.ref p2), some (.ref p3), some (.ref p4), some (.ref p5), v6, none] ∧ Same H4 H' ∧ H' p5 = some (.lst ys) ∧ PairsH H' ys (knotsL r o i))
      ⟨none, [], rfl, s5, upd_same, PairsH.nil⟩ (fun i σ H' _ ⟨_, _, _, sm, _⟩ => .inl (.inl (sm _ _ hs4))) ?_ ?_
    · rintro i x σ H5 H6 hi ⟨v6, ys, rfl, sm, hL, hPy⟩ ⟨rfl, hx⟩
      have hil : i < (spansL r).length := by omega
      obtain ⟨ti, pr, rfl, hpr, hti⟩ := (hP4.mono sm).has hx
      have epr : pr = (KD.st (spansL r) i, KD.en (spansL r) i) := by
        rw [st_en hil] at hpr
        cases hpr
        rfl
      subst epr
      have h46 := sm _ _ h4
      refine ⟨_, rfl, _, rfl, p4, rfl, ⟨_, .inl (.inl h46)⟩, fun D nD => lc_it (walk_list (xs := natsV (openG r))) (fun j H' => Same H6 H' ∧ H' D = some (.lst (natsV (((openG r).take j).filter fun g => decide (o g = i))))) ⟨same_upd nD, upd_same⟩ (fun _ _ _ h => .inl (.inl (h.1 _ _ h46))) ?_ ?_⟩
      · rintro j x H7 H8 hj ⟨sm7, hD⟩ ⟨rfl, hx⟩
        obtain ⟨g, hg, rfl⟩ := nats_at hx
        have hgl : g < r.length + 1 := by
          have := List.mem_of_getElem? hg
          unfold openG at this
          exact List.mem_range.mp (List.mem_filter.mp this).1
        obtain ⟨hog, _⟩ := O g hgl
        have sm48 := sm.trans sm7
        obtain ⟨tg, hog2, htg⟩ := (hO4.mono sm48).get (i := g) (p := (KD.st (spansL r) (o g), KD.en (spansL r) (o g))) (by unfold ownL; rw [List.getElem?_map, List.getElem?_range hgl]; rfl)
        have ef : ((openG r).take (j + 1)).filter (fun g => decide (o g = i)) = ((openG r).take j).filter (fun g => decide (o g = i)) ++ (if o g = i then [g] else []) := by
          rw [List.take_add_one, hg, List.filter_append]
          show _ ++ List.filter _ [g] = _
          by_cases h : o g = i <;> simp [h]
        rw [ef]
        refine ⟨rfl, _, rfl, _, rfl, p3, _, _, _, rfl, rfl, .inl (.inl (sm48 _ _ h34)), atI_nat hog2, _, rfl, .tuple [.int (KD.st (spansL r) (o g) : Int), .int (KD.en (spansL r) (o g) : Int)], .tuple [.int (KD.st (spansL r) i : Int), .int (KD.en (spansL r) i : Int)],
          Dp.tup (.inl (.inl htg)) (DpAll.cons (Dp.int _) (DpAll.cons (Dp.int _) DpAll.nil)), Dp.tup (.inl (.inl (sm7 _ _ hti))) (DpAll.cons (Dp.int _) (DpAll.cons (Dp.int _) DpAll.nil)), rfl, rfl, _, rfl, ?_⟩
        have eb : PyData.eqv (.tuple [.int (KD.st (spansL r) (o g) : Int), .int (KD.en (spansL r) (o g) : Int)]) (.tuple [.int (KD.st (spansL r) i : Int), .int (KD.en (spansL r) i : Int)]) = decide (o g = i) := by
          show (((KD.st (spansL r) (o g) : Int) == (KD.st (spansL r) i : Int)) && (((KD.en (spansL r) (o g) : Int) == (KD.en (spansL r) i : Int)) && true)) = _
          rw [Bool.and_true]
          apply Bool.eq_iff_iff.mpr
          rw [Bool.and_eq_true, beq_iff_eq, beq_iff_eq, decide_eq_true_eq]
          constructor
          · rintro ⟨h1, h2⟩
            exact span_inj R hog hil (Prod.ext (by show KD.st _ _ = KD.st _ _; omega) (by show KD.en _ _ = KD.en _ _; omega))
          · intro h
            rw [h]
            exact ⟨rfl, rfl⟩
        rw [eb]
        by_cases c : o g = i
        · refine ifT (decide_eq_true c) ⟨_, rfl, _, hD, ?_, Same.put sm7 nD, ?_⟩
          · rw [nats_len]
            have h1 := List.length_filter_le (fun g => decide (o g = i)) ((openG r).take j)
            have h2 : (openG r).length ≤ r.length + 1 := by
              unfold openG
              have := List.length_filter_le (fun g => decide (numAt r (g + 1) ≠ numAt r g + 1)) (List.range (r.length + 1))
              rwa [List.length_range] at this
            rw [List.length_take] at h1
            exact line_lt (by omega)
          · rw [upd_same, if_pos c]
            show some (HO.lst (natsV _ ++ natsV [g])) = _
            rw [← nats_app]
        · refine ifF (decide_eq_false c) ⟨sm7, ?_⟩
          rw [if_neg c, List.append_nil]
          exact hD
      rintro H7 ⟨sm7, hD⟩
      rw [show (openG r).take (natsV (openG r)).length = openG r from List.take_of_length_le (by rw [nats_len]; exact Nat.le_refl _)] at hD
      have sm47 := sm.trans sm7
      have hgm : ∀ g, g ∈ (openG r).filter (fun g => decide (o g = i)) → g < r.length + 1 := fun g hg => by
        have := (List.mem_filter.mp hg).1
        unfold openG at this
        exact List.mem_range.mp (List.mem_filter.mp this).1
      refine ⟨p2, D, r, _, rfl, .inl (.inl (sm47 _ _ h24)), hD, hlen, hgm, ?_, fun H8 c s8 hc => ⟨c, rfl, ?_⟩⟩
      · have h1 := List.length_filter_le (fun g => decide (o g = i)) (openG r)
        have h2 : (openG r).length ≤ r.length + 1 := by
          unfold openG
          have := List.length_filter_le (fun g => decide (numAt r (g + 1) ≠ numAt r g + 1)) (List.range (r.length + 1))
          rwa [List.length_range] at this
        omega
      have hcB : c = knB r o i := by
        apply Bool.eq_iff_iff.mpr
        rw [hc, knB_iff]
        exact ⟨fun h => ⟨hil, h⟩, fun h => h.2⟩
      have ek : knotsL r o (i + 1) = knotsL r o i ++ (if c = true then [(KD.st (spansL r) i, KD.en (spansL r) i)] else []) := by
        unfold knotsL
        rw [List.range_succ, List.filter_append, List.map_append, hcB]
        cases h : knB r o i <;> simp [h]
      rw [ek]
      cases c with
      | true =>
        have hL8 := s8 _ _ (sm7 _ _ hL)
        have hti8 := s8 _ _ (sm7 _ _ hti)
        refine ifT rfl ⟨_, rfl, .inl ⟨rfl, _, .inl (.inl hL8)⟩, _, rfl, p5, ys, _, rfl, rfl, hL8, ?_, ?_⟩
        · rw [hPy.1]
          unfold knotsL
          rw [List.length_map]
          have := List.length_filter_le (knB r o) (List.range i)
          rw [List.length_range] at this
          exact line_lt (by omega)
        · refine ⟨_, ys ++ [.ref ti], rfl, Same.put (sm47.trans s8) n5, upd_same, ?_⟩
          rw [if_pos rfl]
          exact PairsH.snoc ((hPy.mono (sm7.trans s8)).nl (NL.put hL8)) (NL.put hL8 _ _ hti8 (fun _ e => by cases e))
      | false =>
        refine ifF rfl ⟨_, ys, rfl, sm47.trans s8, s8 _ _ (sm7 _ _ hL), ?_⟩
        rw [if_neg Bool.false_ne_true, List.append_nil]
        exact hPy.mono (sm7.trans s8)
    · rintro σ H5 ⟨v6, ys, rfl, sm, hL, hPy⟩
      rw [hxl] at hPy
      exact ⟨_, rfl, q H5 p5 ys (e24.trans sm) (e24.free n5) hL hPy⟩
end
end WJ
namespace WK
open PySem PySem.Spec PyProof.Rows L2 WA WB WC WD WE WF WG WH WJ KC KF KL KM KN KE1
open KD (st en chainStep chainsOf endOf begOf)

/-- a list of lists, each written anew by its place -/
theorem LlF.put {H0 H : Hp} {ms : List V} {n : Nat} (f f' : Nat → List Nat) (L : Ll H0 H ms ((List.range n).map fun g => some (f g))) {j : Nat} {a : Addr} (h : ms[j]? = some (.ref a)) (hf : ∀ g, g ≠ j → f' g = f g) :
    Ll H0 (upd H a (.lst (natsV (f' j)))) ms ((List.range n).map fun g => some (f' g)) := putF f f' L h hf
theorem map_get {α β : Type} (C : List α) (d : α) (g : α → β) : (List.range C.length).map (fun m => g (C.getD m d)) = C.map g := by
  apply List.ext_getElem?
  intro m
  rw [List.getElem?_map, List.getElem?_map]
  by_cases h : m < C.length
  · rw [List.getElem?_range h, List.getElem?_eq_getElem h]
    show some (g (C.getD m d)) = some (g C[m])
    rw [List.getD_eq_getElem?_getD, List.getElem?_eq_getElem h]
    rfl
  · rw [List.getElem?_eq_none (by simpa using h), List.getElem?_eq_none (by omega)]
    rfl
theorem atI_last {c : List Nat} (h : c ≠ []) : atI (natsV c) (-1) = some (.int (c.getLastD 0 : Int)) := by
  obtain ⟨l, e⟩ := KD.last_split h
  have hl : c.length = l.length + 1 := by
    rw [e]
    simp
  unfold atI ixN
  rw [if_neg (by decide), if_pos (by rw [nats_len]; omega), nats_len]
  show (natsV c)[((-1 : Int) + (c.length : Int)).toNat]? = _
  rw [show ((-1 : Int) + (c.length : Int)).toNat = l.length by omega]
  refine nats_get ?_
  rw [e]
  simp
theorem last_mem {c : List Nat} (h : c ≠ []) : c.getLastD 0 ∈ c := by
  obtain ⟨l, e⟩ := KD.last_split h
  have : c.getLastD 0 ∈ l ++ [c.getLastD 0] := by simp
  rwa [← e] at this
theorem head_mem' {c : List Nat} (h : c ≠ []) : c.headD 0 ∈ c := by
  cases c with
  | nil => exact absurd rfl h
  | cons x t => simp
def Cn (S : KD.SL) (i : Nat) : List (List Nat) := (List.range i).foldl (chainStep S) []
theorem cn_succ (S : KD.SL) (i : Nat) : Cn S (i + 1) = chainStep S (Cn S i) i := by
  unfold Cn
  rw [List.range_succ, List.foldl_append]
  rfl
theorem cn_len (S : KD.SL) (i : Nat) : (Cn S i).length ≤ i := by
  induction i with
  | zero => exact Nat.le_refl _
  | succ i ih =>
    rw [cn_succ]
    unfold chainStep
    split
    · rw [List.length_map]
      omega
    · rw [List.length_append, List.length_singleton]
      omega
theorem cn_j {N : Nat} {h f : Nat → Nat} {S : KD.SL} (P : KD.Spans N h f S) : ∀ i, i ≤ S.length → KD.J S i (Cn S i) := by
  intro i
  induction i with
  | zero => intro _; exact KD.j_start
  | succ i ih =>
    intro hi
    rw [cn_succ]
    exact KD.j_step P (by omega) (ih (by omega))
def cStep (S : KD.SL) (i : Nat) (c : List Nat) : List Nat := if endOf S c = st S i then c ++ [i] else c
theorem nodup_len {c : List Nat} {n : Nat} (h : c.Nodup) (hl : ∀ x, x ∈ c → x < n) : c.length ≤ n := by
  have := KJ.len_le (fun a b => a = b) c (List.range n) h (fun k hk => ⟨k, List.mem_range.mpr (hl k hk), rfl⟩) (fun a a' b _ _ e1 e2 => e1.trans e2.symm)
  rwa [List.length_range] at this

section
variable {P : Program} {w : World} {K : PySem.W.Frag} {mg : Str → Option Value} {base : Heap}

def spKinChains (K : PySem.W.Frag) : Sp := fun vs H Q _ => ∃ (s : Addr) (r : List Int) (xs : List V), vs = [.ref s] ∧ H s = some (.lst xs) ∧ PairsH H xs (spansL r) ∧ r.length ≤ 40 ∧ IsRow r ∧
  ∀ H' p ms, Same H H' → H p = none → H' p = some (.lst ms) → Ll H H' ms ((chainsOf (spansL r)).map some) → Q (.ref p) H'

abbrev sKinChains : Stmt := topS 13
theorem scKinChains : FnScope ["spans", "chains", "at", "span", "joined", "chain"] ["spans"] (defScope sKinChains) := ⟨rfl, rfl, rfl, by decide +kernel, rfl, by decide +kernel, by decide +kernel⟩
-- slots: {'spans': 0, 'chains': 1, 'at': 2, 'span': 3, 'joined': 4, 'chain': 5}
theorem hasKinChains {f : Addr} {fd : FuncData} (F : Fun K "kin_chains" "kin_chains" sKinChains f fd) (b : Binds K fd ["spans"] []) (g : mg "kin_chains" = some (.ref f)) (M : Bi mg) :
    Has P w K mg base 1 "kin_chains" ["spans"] (spKinChains K) := by
  refine ⟨f, fd, F.ok scKinChains (fun vs H Q E h => ?_) (fun cdv A outer s H vs Q E hr h => ?_), F.kp, b, g⟩
  · obtain ⟨s0, r, xs, rfl, hs, hP, hlen, R, q⟩ := h
    rfl
  · obtain ⟨s0, r, xs, rfl, hs, hP, hlen, R, q⟩ := h
    have nd := scKinChains.nd
    refine ⟨_, (pss_cons (ps_set (i := 1) nd rfl (.inl rfl) (pe_lst pa_nil))
      (pss_cons (ps_for PassesOwn.never rfl (pi_enum (by rfl) M.m_enumerate (pa_cons (pv 0) pa_nil)) (pg_tup rfl (pgs_cons (pg_name (i := 2) nd rfl (.inl rfl)) (pgs_cons (pg_name (i := 3) nd rfl (.inl rfl)) pgs_nil)))
      (pss_cons (ps_set (i := 4) nd rfl (.inl rfl) pe_bl)
        (pss_cons (ps_for PassesOwn.never rfl (pi_list (pv 1)) (pg_name (i := 5) nd rfl (.inl rfl))
        (pss_one (ps_if (pt_cmpR  op_eq (pe_ix (r := rIxT K) ix_tup (pe_ix (r := rIxL K) ix_list (pv 0) (pe_ix (r := rIxL K) ix_list (pv 5) (pe_un un_neg pe_int) (fun _ _ => rfl)) (fun _ _ => rfl)) pe_int (fun _ _ => rfl)) (pe_ix (r := rIxT K) ix_tup (pv 3) pe_int (fun _ _ => rfl)) (nomark _))
          (pss_cons (ps_expr (pe_bm  PySem.F.plainAttrs_list PySem.F.slot_list_append PySem.F.type_list_append mt_append (pv 5) (pa_cons (pv 2) pa_nil)))
            (pss_one (ps_set (i := 4) nd rfl (.inl rfl) pe_bl)))
          pss_nil)))
        (pss_one (ps_if (pt_not (pt_val (pv 4)))
        (pss_one (ps_expr (pe_bm  PySem.F.plainAttrs_list PySem.F.slot_list_append PySem.F.type_list_append mt_append (pv 1) (pa_cons (pe_lst (pa_cons (pv 2) pa_nil)) pa_nil))))
        pss_nil)))))
      (pss_one (ps_ret (pv 1))))), ?_⟩
    have hsl := spansL_len r hlen
    have hxl := hP.1
    have SP := spans R
    refine ⟨Nat.zero_le _, fun p1 n1 => ?_⟩
    have s1 := same_upd (o := HO.lst []) n1
    refine ⟨_, rfl, s0, _, rfl, .inl (.inl (s1 _ _ hs)), ?_⟩
    refine for_it (walk_enum (xs := xs)) (fun i σ H' => ∃ v2 v3 v4 v5 ms, σ = [some (.ref s0), some (.ref p1), v2, v3, v4, v5] ∧ Same H H' ∧ H' p1 = some (.lst ms) ∧ Ll H H' ms ((Cn (spansL r) i).map some))
      ⟨none, none, none, none, [], rfl, s1, upd_same, Ll.nil⟩ (fun i σ H' _ ⟨_, _, _, _, _, _, sm, _⟩ => .inl (.inl (sm _ _ hs))) ?_ ?_
    · rintro i x σ H4 H5 hi ⟨v2, v3, v4, v5, ms, rfl, sm, hL, L⟩ ⟨T, y, z, rfl, nT, rfl, e1, e2⟩
      have hil : i < (spansL r).length := by omega
      cases e1
      replace e2 : xs[i]? = some z := e2
      obtain ⟨ti, pr, rfl, hpr, hti⟩ := (hP.mono sm).has e2
      have epr : pr = (st (spansL r) i, en (spansL r) i) := by
        rw [st_en hil] at hpr
        cases hpr
        rfl
      subst epr
      have sT := same_upd (o := HO.tup [V.int (i : Int), .ref ti]) nT
      refine ⟨T, _, rfl, .inl (.inl upd_same), rfl, _, _, rfl, _, _, rfl, rfl, ?_⟩
      have JJ := cn_j SP i (by omega)
      have hcl := cn_len (spansL r) i
      have hL5 := sT _ _ hL
      have L5 := L.mono sT
      have hti5 := sT _ _ hti
      have s05 := sm.trans sT
      generalize hH5 : upd H4 T (HO.tup [V.int (i : Int), .ref ti]) = H5 at hL5 L5 hti5 s05
      have hmsl : ms.length = (Cn (spansL r) i).length := by rw [L.len, List.length_map]
      refine ⟨_, rfl, p1, rfl, ⟨_, .inl (.inl hL5)⟩, ?_⟩
      refine for_it (walk_list (xs := ms)) (fun j σ H' => ∃ v5, σ = [some (.ref s0), some (.ref p1), some (.int (i : Int)), some (.ref ti), some (.bl (((Cn (spansL r) i).take j).any fun c => endOf (spansL r) c == st (spansL r) i)), v5] ∧ Same H H' ∧ H' p1 = some (.lst ms) ∧ H' ti = some (.tup (pairV (st (spansL r) i, en (spansL r) i))) ∧
          Ll H H' ms ((List.range (Cn (spansL r) i).length).map fun m => some (if m < j then cStep (spansL r) i ((Cn (spansL r) i).getD m []) else (Cn (spansL r) i).getD m [])))
        ⟨v5, rfl, s05, hL5, hti5, ?_⟩ (fun j σ H' _ ⟨_, _, _, hl, _⟩ => .inl (.inl hl)) ?_ ?_
      · have := map_get (Cn (spansL r) i) [] (fun c => some c)
        simp only [Nat.not_lt_zero, if_false]
        rw [this]
        exact L5
      · rintro j x σ H6 H7 hj ⟨v5, rfl, sm7, hL7, ht7, L7⟩ ⟨rfl, hx⟩
        rw [hmsl] at hj
        obtain ⟨c, hc⟩ : ∃ c, (Cn (spansL r) i)[j]? = some c := ⟨_, List.getElem?_eq_getElem hj⟩
        have hgd : (Cn (spansL r) i).getD j [] = c := by rw [List.getD_eq_getElem?_getD, hc]; rfl
        obtain ⟨aj, hm, hf, hcj⟩ := L7.get (i := j) (l := c) (by rw [List.getElem?_map, List.getElem?_range hj]; show some (some (if j < j then _ else _)) = _; rw [if_neg (Nat.lt_irrefl _), hgd])
        rw [hx] at hm
        cases hm
        have hcm := List.mem_of_getElem? hc
        have hne := JJ.ne c hcm
        have hll := JJ.lt c hcm _ (last_mem hne)
        obtain ⟨tl, hxtl, htl⟩ := (hP.mono sm7).get (st_en (show c.getLastD 0 < (spansL r).length by omega))
        have hclen := nodup_len (JJ.nd c hcm) (JJ.lt c hcm)
        have hany : ((Cn (spansL r) i).take (j + 1)).any (fun c => endOf (spansL r) c == st (spansL r) i) = (((Cn (spansL r) i).take j).any (fun c => endOf (spansL r) c == st (spansL r) i) || (endOf (spansL r) c == st (spansL r) i)) := by
          rw [List.take_add_one, hc, List.any_append]
          simp
        refine ⟨_, rfl, _, rfl, _, rfl, aj, _, _, _, rfl, rfl, .inl (.inl hcj), atI_last hne, s0, _, _, _, rfl, rfl, .inl (.inl (sm7 _ _ hs)), atI_nat hxtl, tl, _, _, _, rfl, rfl, .inl (.inl htl), rfl, ?_⟩
        refine ⟨_, rfl, ti, _, _, _, rfl, rfl, .inl (.inl ht7), rfl, rfl, _, rfl, ?_⟩
        by_cases ce : endOf (spansL r) c = st (spansL r) i
        · have ce' : ((en (spansL r) (c.getLastD 0) : Nat) : Int) = (st (spansL r) i : Int) := by
            unfold endOf at ce
            omega
          refine ifT (by show decide (V.int _ = V.int _) = true; rw [dec_int]; exact decide_eq_true ce') ?_
          refine ⟨_, rfl, .inl ⟨rfl, _, .inl (.inl hcj)⟩, _, rfl, aj, _, _, rfl, rfl, hcj, ?_, ?_⟩
          · rw [nats_len]
            exact line_lt (by omega)
          rw [show natsV c ++ [V.int (i : Int)] = natsV (c ++ [i]) from (nats_app _ [i]).symm]
          have hcs : cStep (spansL r) i c = c ++ [i] := if_pos ce
          have L8 := LlF.put _ (fun m => if m < j + 1 then cStep (spansL r) i ((Cn (spansL r) i).getD m []) else (Cn (spansL r) i).getD m []) L7 hx (fun g hg => by
            by_cases h : g < j
            · rw [if_pos h, if_pos (by omega)]
            · rw [if_neg h, if_neg (by omega)])
          simp only [Nat.lt_succ_self, if_true, hgd, hcs] at L8
          refine ⟨some (.ref aj), ?_, Same.put sm7 hf, ?_, NL.put hcj _ _ ht7 (fun _ e => by cases e), L8⟩
          · rw [hany, beq_iff_eq.mpr ce, Bool.or_true]
            rfl
          · rw [upd_ne (L7.outer hL7 hx).symm]
            exact hL7
        · have ce' : ¬ ((en (spansL r) (c.getLastD 0) : Nat) : Int) = (st (spansL r) i : Int) := by
            unfold endOf at ce
            omega
          refine ifF (by show decide (V.int _ = V.int _) = false; rw [dec_int]; exact decide_eq_false ce') ?_
          have hcs : cStep (spansL r) i c = c := if_neg ce
          refine ⟨some (.ref aj), ?_, sm7, hL7, ht7, ?_⟩
          · rw [hany, beq_eq_false_iff_ne.mpr ce, Bool.or_false]
            rfl
          · have e : (List.range (Cn (spansL r) i).length).map (fun m => some (if m < j + 1 then cStep (spansL r) i ((Cn (spansL r) i).getD m []) else (Cn (spansL r) i).getD m [])) = (List.range (Cn (spansL r) i).length).map (fun m => some (if m < j then cStep (spansL r) i ((Cn (spansL r) i).getD m []) else (Cn (spansL r) i).getD m [])) := by
              apply List.map_congr_left
              intro m _
              by_cases h : m < j
              · rw [if_pos h, if_pos (by omega)]
              · by_cases h2 : m = j
                · subst h2
                  rw [if_neg h, if_pos (by omega), hgd, hcs]
                · rw [if_neg h, if_neg (by omega)]
            rw [e]
            exact L7
      rintro σ H6 ⟨v5, rfl, sm6, hL6, ht6, L6⟩
      rw [hmsl] at L6 ⊢
      rw [List.take_length]
      have e6 : (List.range (Cn (spansL r) i).length).map (fun m => some (if m < (Cn (spansL r) i).length then cStep (spansL r) i ((Cn (spansL r) i).getD m []) else (Cn (spansL r) i).getD m [])) = ((Cn (spansL r) i).map (cStep (spansL r) i)).map some := by
        rw [List.map_map, ← map_get (Cn (spansL r) i) [] (some ∘ cStep (spansL r) i)]
        apply List.map_congr_left
        intro m hm
        rw [if_pos (List.mem_range.mp hm)]
        rfl
      rw [e6] at L6
      refine ⟨_, rfl, _, rfl, ?_⟩
      have hstep : Cn (spansL r) (i + 1) = if ((Cn (spansL r) i).any fun c => endOf (spansL r) c == st (spansL r) i) = true then (Cn (spansL r) i).map (cStep (spansL r) i) else Cn (spansL r) i ++ [[i]] := by
        rw [cn_succ]
        rfl
      cases hany : (Cn (spansL r) i).any fun c => endOf (spansL r) c == st (spansL r) i with
      | true =>
        refine ifF rfl ⟨_, _, _, _, ms, rfl, sm6, hL6, ?_⟩
        rw [hstep, if_pos hany]
        exact L6
      | false =>
        have hid : (Cn (spansL r) i).map (cStep (spansL r) i) = Cn (spansL r) i := by
          have : (Cn (spansL r) i).map (cStep (spansL r) i) = (Cn (spansL r) i).map id := by
            apply List.map_congr_left
            intro c hc
            have := List.any_eq_false.mp hany c hc
            exact if_neg (fun e => this (beq_iff_eq.mpr e))
          rw [this, List.map_id]
        rw [hid] at L6
        refine ifT rfl ⟨_, rfl, .inl ⟨rfl, _, .inl (.inl hL6)⟩, _, rfl, line_ok (by show 1 ≤ 100000; decide), fun p np => ⟨p1, ms, _, rfl, rfl, same_upd np _ _ hL6, line_lt (by omega), ?_⟩⟩
        refine ⟨_, _, _, _, ms ++ [.ref p], rfl, Same.put (sm6.trans (same_upd np)) n1, upd_same, ?_⟩
        rw [hstep, if_neg (by rw [hany]; exact Bool.false_ne_true), List.map_append]
        exact L6.grow [i] hL6 (sm6.free np) np
    · rintro σ H4 ⟨v2, v3, v4, v5, ms, rfl, sm, hL, L⟩
      rw [hxl] at L
      exact ⟨_, rfl, q H4 p1 ms sm n1 hL L⟩
end
end WK
namespace WL
open PySem PySem.Spec PyProof.Rows L2 WA WB WC WD WE WF WG WH WJ WK KC KF KL KM KN KE1
open KD (st en chainStep chainsOf endOf begOf)

def oV : Option Nat → V
  | none => .non
  | some a => .int (a : Int)
theorem atI_head {c : List Nat} (h : c ≠ []) : atI (natsV c) 0 = some (.int (c.headD 0 : Int)) := by
  cases c with
  | nil => exact absurd rfl h
  | cons x t => exact atI_nat (j := 0) rfl

section
variable {P : Program} {w : World} {K : PySem.W.Frag} {mg : Str → Option Value} {base : Heap}

def spKinAround (K : PySem.W.Frag) : Sp := fun vs H Q _ => ∃ (s c0 : Addr) (r : List Int) (xs : List V) (c : List Nat), vs = [.ref s, .ref c0] ∧ H s = some (.lst xs) ∧ PairsH H xs (spansL r) ∧ H c0 = some (.lst (natsV c)) ∧ r.length ≤ 40 ∧ IsRow r ∧
  c ≠ [] ∧ (∀ x, x ∈ c → x < (spansL r).length) ∧ begOf (spansL r) c < endOf (spansL r) c ∧ ∀ H', Same H H' → Q (oV (around (spansL r) c)) H'
def arV (S : KD.SL) (z : Nat) : List Int := [(en S z : Int) - (st S z : Int), (z : Int)]

abbrev sKinAround : Stmt := topS 14
theorem scKinAround : FnScope ["spans", "chain", "first", "last", "around", "at", "span"] ["spans", "chain"] (defScope sKinAround) := ⟨rfl, rfl, rfl, by decide +kernel, rfl, by decide +kernel, by decide +kernel⟩
-- slots: {'spans': 0, 'chain': 1, 'first': 2, 'last': 3, 'around': 4, 'at': 5, 'span': 6}
theorem hasKinAround {f : Addr} {fd : FuncData} (F : Fun K "kin_around" "kin_around" sKinAround f fd) (b : Binds K fd ["spans", "chain"] []) (g : mg "kin_around" = some (.ref f)) (M : Bi mg) :
    Has P w K mg base 1 "kin_around" ["spans", "chain"] (spKinAround K) := by
  refine ⟨f, fd, F.ok scKinAround (fun vs H Q E h => ?_) (fun cdv A outer s H vs Q E hr h => ?_), F.kp, b, g⟩
  · obtain ⟨s0, c0, r, xs, c, rfl, hs, hP, hc, hlen, R, hne, hcl, hbe, q⟩ := h
    rfl
  · obtain ⟨s0, c0, r, xs, c, rfl, hs, hP, hc, hlen, R, hne, hcl, hbe, q⟩ := h
    have nd := scKinAround.nd
    refine ⟨_, (pss_cons (ps_set (i := 2) nd rfl (.inl rfl) (pe_ix (r := rIxT K) ix_tup (pe_ix (r := rIxL K) ix_list (pv 0) (pe_ix (r := rIxL K) ix_list (pv 1) pe_int (fun _ _ => rfl)) (fun _ _ => rfl)) pe_int (fun _ _ => rfl)))
      (pss_cons (ps_set (i := 3) nd rfl (.inl rfl) (pe_ix (r := rIxT K) ix_tup (pe_ix (r := rIxL K) ix_list (pv 0) (pe_ix (r := rIxL K) ix_list (pv 1) (pe_un un_neg pe_int) (fun _ _ => rfl)) (fun _ _ => rfl)) pe_int (fun _ _ => rfl)))
      (pss_cons (ps_set (i := 4) nd rfl (.inl rfl) (pe_lst pa_nil))
      (pss_cons (ps_for PassesOwn.never rfl (pi_enum (by rfl) M.m_enumerate (pa_cons (pv 0) pa_nil)) (pg_tup rfl (pgs_cons (pg_name (i := 5) nd rfl (.inl rfl)) (pgs_cons (pg_name (i := 6) nd rfl (.inl rfl)) pgs_nil)))
      (pss_one (ps_if (PW.pt (pw_and (pt_cmpR  op_lt (pe_ix (r := rIxT K) ix_tup (pv 6) pe_int (fun _ _ => rfl)) (pv 2) (nomark _)) (pw_and1 (pt_cmpR  op_lt (pv 3) (pe_ix (r := rIxT K) ix_tup (pv 6) pe_int (fun _ _ => rfl)) (nomark _)))))
        (pss_one (ps_expr (pe_bm  PySem.F.plainAttrs_list PySem.F.slot_list_append PySem.F.type_list_append mt_append (pv 4) (pa_cons (pe_tup (pa_cons (pe_op  op_sub (pe_ix (r := rIxT K) ix_tup (pv 6) pe_int (fun _ _ => rfl)) (pe_ix (r := rIxT K) ix_tup (pv 6) pe_int (fun _ _ => rfl))) (pa_cons (pv 5) pa_nil))) pa_nil))))
        pss_nil)))
      (pss_cons (ps_if (pt_cmpR  op_eq (pe_callB (r := Evl.rLenS K) call_len_seq (by rfl) M.m_len PySem.boot_len (pa_cons (pv 4) pa_nil)) pe_int (nomark _))
      (pss_one (ps_ret pe_non))
      pss_nil)
      (pss_one (ps_ret (pe_ix (r := rIxT K) ix_tup (pe_callB (r := WR2.rMinT K) (WR2.cr_minT rfl (room_u hr)) (by rfl) M.m_min (by decide +kernel) (pa_cons (pv 4) pa_nil)) pe_int (fun _ _ => rfl))))))))), ?_⟩
    have hsl := spansL_len r hlen
    have hxl := hP.1
    have SP := spans R
    have hh := hcl _ (head_mem' hne)
    have hl := hcl _ (last_mem hne)
    obtain ⟨th, hxh, hth⟩ := hP.get (st_en hh)
    obtain ⟨tl, hxl2, htl⟩ := hP.get (st_en hl)
    refine ⟨_, rfl, _, rfl, c0, _, _, _, rfl, rfl, .inl (.inl hc), atI_head hne, s0, _, _, _, rfl, rfl, .inl (.inl hs), atI_nat hxh, th, _, _, _, rfl, rfl, .inl (.inl hth), rfl, ?_⟩
    refine ⟨_, rfl, _, rfl, _, rfl, c0, _, _, _, rfl, rfl, .inl (.inl hc), atI_last hne, s0, _, _, _, rfl, rfl, .inl (.inl hs), atI_nat hxl2, tl, _, _, _, rfl, rfl, .inl (.inl htl), rfl, ?_⟩
    refine ⟨Nat.zero_le _, fun p4 n4 => ?_⟩
    have s4 := same_upd (o := HO.lst []) n4
    refine ⟨_, rfl, s0, _, rfl, .inl (.inl (s4 _ _ hs)), ?_⟩
    refine for_it (walk_enum (xs := xs)) (fun i σ H' => ∃ v5 v6 ys, σ = [some (.ref s0), some (.ref c0), some (.int (begOf (spansL r) c : Int)), some (.int (endOf (spansL r) c : Int)), some (.ref p4), v5, v6] ∧ Same H H' ∧ H' p4 = some (.lst ys) ∧
        TupsH H' ys (((List.range i).filter (isAround (spansL r) c)).map fun z => (arV (spansL r) z).map V.int))
      ⟨none, none, [], rfl, s4, upd_same, TupsH.nil⟩ (fun i σ H' _ ⟨_, _, _, _, sm, _⟩ => .inl (.inl (sm _ _ hs))) ?_ ?_
    · rintro i x σ H4 H5 hi ⟨v5, v6, ys, rfl, sm, hL, hz⟩ ⟨T, y, z, rfl, nT, rfl, e1, e2⟩
      have hil : i < (spansL r).length := by omega
      cases e1
      replace e2 : xs[i]? = some z := e2
      obtain ⟨ti, pr, rfl, hpr, hti⟩ := (hP.mono sm).has e2
      have epr : pr = (st (spansL r) i, en (spansL r) i) := by
        rw [st_en hil] at hpr
        cases hpr
        rfl
      subst epr
      have sT := same_upd (o := HO.tup [V.int (i : Int), .ref ti]) nT
      have hL5 := sT _ _ hL
      have hti5 : SqT K (upd H4 T (HO.tup [V.int (i : Int), .ref ti])) ti _ := .inl (.inl (sT _ _ hti))
      have ef : (List.range (i + 1)).filter (isAround (spansL r) c) = (List.range i).filter (isAround (spansL r) c) ++ (if isAround (spansL r) c i = true then [i] else []) := by
        rw [List.range_succ, List.filter_append]
        cases h : isAround (spansL r) c i <;> simp [h]
      have hno : isAround (spansL r) c i = false → ∃ v5 v6 ys', [some (V.ref s0), some (.ref c0), some (.int (begOf (spansL r) c : Int)), some (.int (endOf (spansL r) c : Int)), some (.ref p4), some (.int (i : Int)), some (.ref ti)] = [some (V.ref s0), some (.ref c0), some (.int (begOf (spansL r) c : Int)), some (.int (endOf (spansL r) c : Int)), some (.ref p4), v5, v6] ∧
          Same H (upd H4 T (HO.tup [V.int (i : Int), .ref ti])) ∧ upd H4 T (HO.tup [V.int (i : Int), .ref ti]) p4 = some (.lst ys') ∧ TupsH (upd H4 T (HO.tup [V.int (i : Int), .ref ti])) ys' (((List.range (i + 1)).filter (isAround (spansL r) c)).map fun z => (arV (spansL r) z).map V.int) := fun h => by
        refine ⟨_, _, ys, rfl, sm.trans sT, hL5, ?_⟩
        rw [ef, if_neg (by rw [h]; exact Bool.false_ne_true), List.append_nil]
        exact hz.mono sT
      refine ⟨T, _, rfl, .inl (.inl upd_same), rfl, _, _, rfl, _, _, rfl, rfl, ?_⟩
      refine ⟨_, rfl, ti, _, _, _, rfl, rfl, hti5, rfl, _, rfl, _, _, rfl, rfl, decide ((st (spansL r) i : Int) < (begOf (spansL r) c : Int)), rfl, ?_⟩
      by_cases c1 : (st (spansL r) i : Int) < (begOf (spansL r) c : Int)
      · refine ifT (decide_eq_true c1) ⟨_, rfl, _, rfl, ti, _, _, _, rfl, rfl, hti5, rfl, _, _, rfl, rfl, decide ((endOf (spansL r) c : Int) < (en (spansL r) i : Int)), rfl, ?_⟩
        by_cases c2 : (endOf (spansL r) c : Int) < (en (spansL r) i : Int)
        · have hin : isAround (spansL r) c i = true := decide_eq_true ⟨by omega, by omega⟩
          refine ifT (decide_eq_true c2) ⟨_, rfl, .inl ⟨rfl, _, .inl (.inl hL5)⟩, _, rfl, ti, _, _, _, rfl, rfl, hti5, rfl, _, rfl, ti, _, _, _, rfl, rfl, hti5, rfl, _, _, rfl, rfl, _, rfl, line_ok (by show 2 ≤ 100000; decide), fun t nt => ⟨p4, ys, _, rfl, rfl, same_upd nt _ _ hL5, ?_, ?_⟩⟩
          · rw [hz.1, List.length_map]
            have := List.length_filter_le (isAround (spansL r) c) (List.range i)
            rw [List.length_range] at this
            exact line_lt (by omega)
          · refine ⟨_, _, ys ++ [.ref t], rfl, Same.put ((sm.trans sT).trans (same_upd nt)) n4, upd_same, ?_⟩
            rw [ef, if_pos hin, List.map_append]
            exact (hz.mono sT).add hL5 nt _
        · refine ifF (decide_eq_false c2) (hno (decide_eq_false ?_))
          omega
      · refine ifF (decide_eq_false c1) (ifF rfl (hno (decide_eq_false ?_)))
        omega
    rintro σ H4 ⟨v5, v6, ys, rfl, sm, hL, hz⟩
    rw [hxl] at hz
    have hyl : ys.length = ((List.range (spansL r).length).filter (isAround (spansL r) c)).length := by rw [hz.1, List.length_map]
    refine ⟨_, rfl, p4, _, rfl, .inl (.inl (.inl hL)), rfl, decide (ys.length = 0), ?_, ?_⟩
    · show V.bl (decide (V.int (ys.length : Int) = V.int 0)) = _
      rw [dec_int]
      congr 1
      exact decide_eq_decide.mpr (by omega)
    by_cases hy : ys.length = 0
    · refine ifT (decide_eq_true hy) ?_
      have := q H4 sm
      rw [around_none_of (fun z hz2 hh2 => by
        have hm : z ∈ (List.range (spansL r).length).filter (isAround (spansL r) c) := List.mem_filter.mpr ⟨List.mem_range.mpr hz2, decide_eq_true hh2⟩
        rw [List.length_eq_zero_iff.mp (hyl.symm.trans hy)] at hm
        cases hm)] at this
      exact this
    · refine ifF (decide_eq_false hy) ?_
      obtain ⟨as, rfl, hal, hat⟩ := hz.refs
      rw [List.length_map] at hal
      rw [List.length_map] at hy
      refine ⟨_, rfl, p4, as, ((List.range (spansL r).length).filter (isAround (spansL r) c)).map (arV (spansL r)), rfl, .inl (.inl hL), by omega, by rw [List.length_map, hal], ?_, ?_⟩
      · intro j t m h1 h2
        refine .inl (.inl (hat j t _ h1 ?_))
        rw [List.getElem?_map] at h2 ⊢
        cases h : ((List.range (spansL r).length).filter (isAround (spansL r) c))[j]? with
        | none =>
          rw [h] at h2
          cases h2
        | some p =>
          rw [h] at h2
          cases h2
          rfl
      intro j t m h1 h2 hmin
      obtain ⟨a, ha, rfl⟩ : ∃ a, ((List.range (spansL r).length).filter (isAround (spansL r) c))[j]? = some a ∧ m = arV (spansL r) a := by
        rw [List.getElem?_map] at h2
        cases h : ((List.range (spansL r).length).filter (isAround (spansL r) c))[j]? with
        | none =>
          rw [h] at h2
          cases h2
        | some p =>
          rw [h] at h2
          cases h2
          exact ⟨p, rfl, rfl⟩
      have ham := List.mem_filter.mp (List.mem_of_getElem? ha)
      have har := of_decide_eq_true ham.2
      have hall := List.mem_range.mp ham.1
      have ht : H4 t = some (.tup ((arV (spansL r) a).map V.int)) := hat j t _ h1 (by rw [List.getElem?_map, ha]; rfl)
      have hen := SP.lt hall
      have eq := around_eq SP hbe hall har (fun z hz2 hh2 => by
        have := hmin (arV (spansL r) z) (List.mem_map.mpr ⟨z, List.mem_filter.mpr ⟨List.mem_range.mpr hz2, decide_eq_true hh2⟩, rfl⟩)
        have hez := SP.lt hz2
        unfold arV at this
        rw [HT.lexLt_cons] at this
        split at this
        · omega
        · have := of_decide_eq_false this
          omega)
      have fin := q H4 sm
      rw [eq] at fin
      exact ⟨t, _, _, _, rfl, rfl, .inl (.inl ht), rfl, fin⟩
end
end WL
namespace WM
open PySem PySem.Spec PyProof.Rows L2 WA WB WC WD WE WF WG WH WJ WK WL KC KF KL KM KN KE1
open KD (st en chainStep chainsOf endOf begOf)

/-- the links behind p chains -/
def lkAt (S : KD.SL) (p u : Nat) : List Nat := if u < S.length then ((List.range p).filter (fun q => decide (u ∈ mine S q))).map (S.length + ·) else mine S (u - S.length)
theorem lkAt_len (S : KD.SL) (p : Nat) {u : Nat} (h : u < S.length) : (lkAt S p u).length ≤ p := by
  unfold lkAt
  rw [if_pos h, List.length_map]
  have := List.length_filter_le (fun q => decide (u ∈ mine S q)) (List.range p)
  rwa [List.length_range] at this
theorem lkAt_end (S : KD.SL) (u : Nat) : lkAt S (chainsOf S).length u = links S u := rfl
theorem chains_len (S : KD.SL) : (chainsOf S).length ≤ S.length := cn_len S S.length
theorem mine_lt {N : Nat} {h f : Nat → Nat} {S : KD.SL} (P : KD.Spans N h f S) {p v : Nat} (hp : p < (chainsOf S).length) (hv : v ∈ mine S p) : v < S.length := ((mine_iff P hp).mp hv).1
theorem mine_nd {N : Nat} {h f : Nat → Nat} {S : KD.SL} (P : KD.Spans N h f S) {p : Nat} (hp : p < (chainsOf S).length) : (mine S p).Nodup := by
  have := (web_tree P).nodup (S.length + p) (by unfold webM; omega)
  unfold links at this
  rw [if_neg (by omega), show S.length + p - S.length = p by omega] at this
  exact this
theorem lkAt_succ {N : Nat} {h f : Nat → Nat} {S : KD.SL} (P : KD.Spans N h f S) {p u : Nat} (hp : p < (chainsOf S).length) : (if u ∈ mine S p then lkAt S p u ++ [S.length + p] else lkAt S p u) = lkAt S (p + 1) u := by
  unfold lkAt
  by_cases hu : u < S.length
  · rw [if_pos hu, if_pos hu, List.range_succ, List.filter_append, List.map_append]
    by_cases hm : u ∈ mine S p
    · rw [if_pos hm]
      simp [hm]
    · rw [if_neg hm]
      simp [hm]
  · rw [if_neg hu, if_neg hu, if_neg (fun hm => hu (mine_lt P hp hm))]
theorem chain_be {N : Nat} {h f : Nat → Nat} {S : KD.SL} (P : KD.Spans N h f S) {p : Nat} (hp : p < (chainsOf S).length) : begOf S (chAt S p) < endOf S (chAt S p) := by
  have C := chain_of P hp
  have hm := head_mem' C.ne
  have := KD.chain_mem P _ C.ne C.lt C.touch _ hm
  have := P.lt (C.lt _ hm)
  omega
theorem around_lt {S : KD.SL} {c : List Nat} {a : Nat} (e : around S c = some a) : a < S.length := (around_some e).1

section
variable {P : Program} {w : World} {K : PySem.W.Frag} {mg : Str → Option Value} {base : Heap}

def lkL (S : KD.SL) : List (Option (List Nat)) := (List.range (webM S)).map fun u => some (links S u)
def spWebLinks (K : PySem.W.Frag) : Sp := fun vs H Q _ => ∃ (s : Addr) (r : List Int) (xs : List V), vs = [.ref s] ∧ H s = some (.lst xs) ∧ PairsH H xs (spansL r) ∧ r.length ≤ 40 ∧ IsRow r ∧
  ∀ H' p ms, Same H H' → H p = none → H' p = some (.lst ms) → Ll H H' ms (lkL (spansL r)) → Q (.ref p) H'

abbrev sWebLinks : Stmt := topS 15
theorem scWebLinks : FnScope ["spans", "chains", "links", "chain", "mine", "above", "at", "span"] ["spans"] (defScope sWebLinks) := ⟨rfl, rfl, rfl, by decide +kernel, rfl, by decide +kernel, by decide +kernel⟩
-- slots: {'spans': 0, 'chains': 1, 'links': 2, 'chain': 3, 'mine': 4, 'above': 5, 'at': 6, 'span': 7}
theorem hasWebLinks {f : Addr} {fd : FuncData} (F : Fun K "web_links" "web_links" sWebLinks f fd) (b : Binds K fd ["spans"] []) (g : mg "web_links" = some (.ref f)) (M : Bi mg)
    (hKinChains : Has P w K mg base 1 "kin_chains" ["spans"] (spKinChains K)) (hKinAround : Has P w K mg base 1 "kin_around" ["spans", "chain"] (spKinAround K)) :
    Has P w K mg base 2 "web_links" ["spans"] (spWebLinks K) := by
  obtain ⟨fKinChains, fdKinChains, GKinChains, kKinChains, bKinChains, gKinChains⟩ := hKinChains
  obtain ⟨fKinAround, fdKinAround, GKinAround, kKinAround, bKinAround, gKinAround⟩ := hKinAround
  refine ⟨f, fd, F.ok scWebLinks (fun vs H Q E h => ?_) (fun cdv A outer s H vs Q E hr h => ?_), F.kp, b, g⟩
  · obtain ⟨s0, r, xs, rfl, hs, hP, hlen, R, q⟩ := h
    rfl
  · obtain ⟨s0, r, xs, rfl, hs, hP, hlen, R, q⟩ := h
    have nd := scWebLinks.nd
    refine ⟨_, (pss_cons (ps_set (i := 1) nd rfl (.inl rfl) (pe_call GKinChains (hr.mono (by decide)) (by rfl) gKinChains kKinChains bKinChains .nil pass0 (pa_cons (pv 0) pa_nil)))
      (pss_cons (ps_setLc (i := 2) (own := [("span", 7)]) (g := (gName 7)) rfl nd rfl rfl (sw_true rfl rfl rfl (by decide +kernel)) (pi_list (pv 0)) (blkOk_by (own := [("span", 7)]) (N := ["spans", "chains", "links", "chain", "mine", "above", "at", "span"]) (sc := defScope sWebLinks) (by decide +kernel)) (fun _ _ _ _ _ => (pg_name (i := 7) nd rfl (Or.inl rfl))) (fun _ _ _ _ _ => pts_nil) (fun _ _ _ _ _ => (pe_lst pa_nil)))
      (pss_cons (ps_for PassesOwn.never rfl (pi_list (pv 1)) (pg_name (i := 3) nd rfl (.inl rfl))
      (pss_cons (ps_set (i := 4) nd rfl (.inl rfl) (pe_callTy  call_list_of (by rfl) M.m_list (by decide +kernel) (pa_cons (pv 3) pa_nil)))
        (pss_cons (ps_set (i := 5) nd rfl (.inl rfl) (pe_call GKinAround (hr.mono (by decide)) (by rfl) gKinAround kKinAround bKinAround .nil pass0 (pa_cons (pv 0) (pa_cons (pv 3) pa_nil))))
        (Evl.pss_cut (ps_if (pt_cmp (pc_notN (pv 5)))
        (pss_one (ps_expr (pe_bm  PySem.F.plainAttrs_list PySem.F.slot_list_append PySem.F.type_list_append mt_append (pv 4) (pa_cons (pv 5) pa_nil))))
        pss_nil)
        (pss_cons (ps_for PassesOwn.never rfl (pi_list (pv 4)) (pg_name (i := 6) nd rfl (.inl rfl))
        (pss_one (ps_expr (pe_bm  PySem.F.plainAttrs_list PySem.F.slot_list_append PySem.F.type_list_append mt_append (pe_ix (r := rIxL K) ix_list (pv 2) (pv 6) (fun _ _ => rfl)) (pa_cons (pe_callB (r := Evl.rLenS K) call_len_seq (by rfl) M.m_len PySem.boot_len (pa_cons (pv 2) pa_nil)) pa_nil)))))
        (pss_one (ps_expr (pe_bm  PySem.F.plainAttrs_list PySem.F.slot_list_append PySem.F.type_list_append mt_append (pv 2) (pa_cons (pv 4) pa_nil)))))))))
      (pss_one (ps_ret (pv 2)))))), ?_⟩
    have hsl := spansL_len r hlen
    have hxl := hP.1
    have SP := spans R
    have hch := chains_len (spansL r)
    refine ⟨_, rfl, s0, r, xs, rfl, hs, hP, hlen, R, fun H1 p1 cs s1 n1 h1 L1 => ?_⟩
    have hs1 := s1 _ _ hs
    refine ⟨_, rfl, s0, rfl, ⟨_, .inl (.inl hs1)⟩, fun p2 n2 => lc_it (walk_list (xs := xs)) (fun i H' => ∃ ls, Same H1 H' ∧ H' p2 = some (.lst ls) ∧ Ll H1 H' ls (List.replicate i (some []))) ⟨[], same_upd n2, upd_same, Ll.nil⟩ (fun i H' _ ⟨_, sm, _⟩ => .inl (.inl (sm _ _ hs1))) ?_ ?_⟩
    · rintro i x H4 H5 hi ⟨ls, sm, hD, L⟩ ⟨rfl, hx⟩
      refine ⟨rfl, Nat.zero_le _, fun p np => ⟨ls, same_upd np _ _ hD, ?_, ls ++ [.ref p], Same.put (sm.trans (same_upd np)) n2, upd_same, ?_⟩⟩
      · rw [L.len, List.length_replicate]
        exact line_lt (by omega)
      · rw [List.replicate_succ']
        exact L.grow [] hD (sm.free np) np
    rintro H2 ⟨ls, sm2, hD2, L2⟩
    have e0 : List.replicate xs.length (some ([] : List Nat)) = (List.range ((spansL r).length + 0)).map (fun u => some (lkAt (spansL r) 0 u)) := by
      rw [hxl]
      apply List.ext_getElem?
      intro m
      rw [List.getElem?_replicate, List.getElem?_map]
      by_cases hm : m < (spansL r).length
      · rw [if_pos hm, List.getElem?_range (by omega)]
        unfold lkAt
        show _ = some (some (if m < (spansL r).length then _ else _))
        rw [if_pos hm]
        rfl
      · rw [if_neg hm, List.getElem?_eq_none (by simpa using hm)]
        rfl
    rw [e0] at L2
    have hcl : cs.length = (chainsOf (spansL r)).length := by rw [L1.len, List.length_map]
    refine ⟨_, rfl, p1, rfl, ⟨_, .inl (.inl (sm2 _ _ h1))⟩, ?_⟩
    refine for_it (walk_list (xs := cs)) (fun p σ H' => ∃ v3 v4 v5 v6 ls, σ = [some (.ref s0), some (.ref p1), some (.ref p2), v3, v4, v5, v6, none] ∧ Same H1 H' ∧ H' p2 = some (.lst ls) ∧ Ll H1 H' ls ((List.range ((spansL r).length + p)).map fun u => some (lkAt (spansL r) p u)))
      ⟨none, none, none, none, ls, rfl, sm2, hD2, L2⟩ (fun i σ H' _ ⟨_, _, _, _, _, _, sm, _⟩ => .inl (.inl (sm _ _ h1))) ?_ ?_
    · rintro p x σ H4 H5 hp ⟨v3, v4, v5, v6, ls, rfl, sm, hL, L⟩ ⟨rfl, hx⟩
      rw [hcl] at hp
      have C := chain_of SP hp
      obtain ⟨ap, hxp, hfp, hap⟩ := L1.get (i := p) (l := chAt (spansL r) p) (by rw [List.getElem?_map, ch_get hp]; rfl)
      rw [hx] at hxp
      cases hxp
      have hap5 := sm _ _ hap
      have hml := nodup_len (mine_nd SP hp) (fun x hx => mine_lt SP hp hx)
      refine ⟨_, rfl, ap, _, rfl, .inl (.inl (.inl hap5)), fun p4 n4 => ?_⟩
      have s4 := same_upd (o := HO.lst (natsV (chAt (spansL r) p))) n4
      have hn4 := L.fresh n4
      have h24 : p2 ≠ p4 := ne_of_none hL n4
      have sm4 := sm.trans s4
      refine ⟨_, rfl, _, rfl, s0, ap, r, xs, chAt (spansL r) p, rfl, sm4 _ _ hs1, hP.mono (s1.trans sm4), sm4 _ _ hap, hlen, R, C.ne, C.lt, chain_be SP hp, fun H6 s6 => ?_⟩
      refine ⟨fun σ' H' => σ' = [some (.ref s0), some (.ref p1), some (.ref p2), some (.ref ap), some (.ref p4), some (oV (around (spansL r) (chAt (spansL r) p))), v6, none] ∧ Same H5 H' ∧ H' p4 = some (.lst (natsV (mine (spansL r) p))), ?_, ?_⟩
      · refine ⟨_, rfl, _, rfl, ?_⟩
        have h46 := s6 _ _ (upd_same (H := H5) (a := p4) (o := HO.lst (natsV (chAt (spansL r) p))))
        have e56 := s4.trans s6
        cases ea : around (spansL r) (chAt (spansL r) p) with
        | none =>
          refine ifF rfl ⟨rfl, e56, ?_⟩
          unfold mine
          rw [ea]
          simpa using h46
        | some a =>
          refine ifT rfl ⟨_, rfl, .inl ⟨rfl, _, .inl (.inl h46)⟩, _, rfl, p4, _, _, rfl, rfl, h46, ?_, rfl, Same.put e56 n4, ?_⟩
          · rw [nats_len]
            have := nodup_len C.nd C.lt
            exact line_lt (by omega)
          · rw [upd_same]
            unfold mine
            rw [ea]
            show some (HO.lst (natsV _ ++ natsV [a])) = _
            rw [← nats_app]
            rfl
      rintro σ' H7 ⟨rfl, s7, h47⟩
      have L7 := L.mono s7
      have hL7 := s7 _ _ hL
      refine ⟨_, rfl, p4, rfl, ⟨_, .inl (.inl h47)⟩, ?_⟩
      refine for_it (walk_list (xs := natsV (mine (spansL r) p))) (fun t σ H' => ∃ v6, σ = [some (.ref s0), some (.ref p1), some (.ref p2), some (.ref ap), some (.ref p4), some (oV (around (spansL r) (chAt (spansL r) p))), v6, none] ∧ Same H1 H' ∧ H' p2 = some (.lst ls) ∧ H' p4 = some (.lst (natsV (mine (spansL r) p))) ∧
          Ll H1 H' ls ((List.range ((spansL r).length + p)).map fun u => some (if u ∈ (mine (spansL r) p).take t then lkAt (spansL r) p u ++ [(spansL r).length + p] else lkAt (spansL r) p u)))
        ⟨v6, rfl, sm.trans s7, hL7, h47, ?_⟩ (fun _ _ _ _ ⟨_, _, _, _, h, _⟩ => .inl (.inl h)) ?_ ?_
      · simpa using L7
      · rintro t x σ H8 H9 ht ⟨v6, rfl, sm9, hL9, h49, L9⟩ ⟨rfl, hx⟩
        obtain ⟨u, hu, rfl⟩ := nats_at hx
        have hul := mine_lt SP hp (List.mem_of_getElem? hu)
        have hnt : u ∉ (mine (spansL r) p).take t := by
          intro hm
          obtain ⟨j, hj, e⟩ := List.getElem_of_mem hm
          rw [List.length_take] at hj
          rw [List.getElem_take] at e
          have e2 := (List.getElem?_eq_some_iff.mp hu).2
          have := (List.getElem_inj (mine_nd SP hp)).mp (e.trans e2.symm)
          omega
        obtain ⟨au, hmu, hfu, hcu⟩ := L9.get (i := u) (l := lkAt (spansL r) p u) (by rw [List.getElem?_map, List.getElem?_range (by omega)]; show some (some (if u ∈ _ then _ else _)) = _; rw [if_neg hnt])
        have hlsl : ls.length = (spansL r).length + p := by rw [L.len, List.length_map, List.length_range]
        refine ⟨_, rfl, _, rfl, p2, _, _, _, rfl, rfl, .inl (.inl hL9), atI_nat hmu, .inl ⟨rfl, _, .inl (.inl hcu)⟩, _, rfl, p2, _, rfl, .inl (.inl (.inl hL9)), au, _, _, rfl, rfl, hcu, ?_, ?_⟩
        · rw [nats_len]
          have := lkAt_len (spansL r) p hul
          exact line_lt (by omega)
        rw [hlsl, show natsV (lkAt (spansL r) p u) ++ [V.int (((spansL r).length + p : Nat) : Int)] = natsV (lkAt (spansL r) p u ++ [(spansL r).length + p]) from (nats_app _ [_]).symm]
        have htk : (mine (spansL r) p).take (t + 1) = (mine (spansL r) p).take t ++ [u] := by
          rw [List.take_add_one, hu]
          rfl
        have L10 := LlF.put _ (fun v => if v ∈ (mine (spansL r) p).take (t + 1) then lkAt (spansL r) p v ++ [(spansL r).length + p] else lkAt (spansL r) p v) L9 hmu (fun g hg => by
          rw [htk]
          simp [hg])
        simp only [htk, List.mem_append, List.mem_singleton, or_true, if_true] at L10
        refine ⟨_, rfl, Same.put sm9 hfu, ?_, ?_, ?_⟩
        · rw [upd_ne (L9.outer hL9 hmu).symm]
          exact hL9
        · rw [upd_ne (hn4 u au hmu).symm]
          exact h49
        · rw [htk]
          simp only [List.mem_append, List.mem_singleton]
          exact L10
      rintro σ H8 ⟨v6, rfl, sm8, hL8, h48, L8⟩
      rw [nats_len, List.take_length] at L8
      have hlsl : ls.length = (spansL r).length + p := by rw [L.len, List.length_map, List.length_range]
      refine ⟨_, rfl, .inl ⟨rfl, _, .inl (.inl hL8)⟩, _, rfl, p2, ls, _, rfl, rfl, hL8, line_lt (by omega), ?_⟩
      refine ⟨_, _, _, _, ls ++ [.ref p4], rfl, Same.put sm8 n2, upd_same, ?_⟩
      have L9 := L8.growOld hL8 (sm.free n4) h48 hn4 h24.symm
      have e9 : ((List.range ((spansL r).length + p)).map fun u => some (if u ∈ mine (spansL r) p then lkAt (spansL r) p u ++ [(spansL r).length + p] else lkAt (spansL r) p u)) ++ [some (mine (spansL r) p)] = (List.range ((spansL r).length + (p + 1))).map fun u => some (lkAt (spansL r) (p + 1) u) := by
        rw [← Nat.add_assoc, List.range_succ, List.map_append]
        congr 1
        · apply List.map_congr_left
          intro u _
          rw [lkAt_succ SP hp]
        · show [some (mine (spansL r) p)] = [some (lkAt (spansL r) (p + 1) ((spansL r).length + p))]
          unfold lkAt
          rw [if_neg (by omega), show (spansL r).length + p - (spansL r).length = p by omega]
      rw [e9] at L9
      exact L9
    · rintro σ H4 ⟨v3, v4, v5, v6, ls, rfl, sm, hL, L⟩
      rw [hcl] at L
      exact ⟨_, rfl, q H4 p2 ls (s1.trans sm) (s1.free n2) hL (L.low s1)⟩
end
end WM
namespace WN
open PySem PySem.Spec PyProof.Rows L2 WA WB WC WD WE WF WG WH WJ WK WL WM KC KF KL KM KN KE1
open KD (st en chainStep chainsOf endOf begOf)
open KA (Tree Good Done)

theorem inV_nats (a : Nat) (l : List Nat) : inV (.int (a : Int)) (natsV l) = decide (a ∈ l) := by
  unfold inV natsV
  rw [List.any_map]
  apply Bool.eq_iff_iff.mpr
  rw [List.any_eq_true, decide_eq_true_eq]
  constructor
  · rintro ⟨x, hx, e⟩
    have e2 : ((x : Int) == (a : Int)) = true := e
    rw [beq_iff_eq] at e2
    have : x = a := by omega
    rw [← this]
    exact hx
  · intro h
    exact ⟨a, h, by show ((a : Int) == (a : Int)) = true; exact beq_self_eq_true _⟩
theorem erase_one {a : Nat} : ∀ {l : List Nat}, l.Nodup → a ∈ l → ∃ j : Nat, l[j]? = some a ∧ (∀ m, m < j → l[m]? ≠ some a) ∧ l.eraseIdx j = l.filter (fun x => decide (x ≠ a)) := by
  intro l
  induction l with
  | nil => intro _ h; cases h
  | cons x t ih =>
    intro hn hm
    by_cases e : x = a
    · subst e
      refine ⟨0, rfl, fun m hm => absurd hm (Nat.not_lt_zero m), ?_⟩
      have hx := (List.nodup_cons.mp hn).1
      rw [List.eraseIdx_cons_zero, List.filter_cons_of_neg (by simp)]
      exact (List.filter_eq_self.mpr fun y hy => by
        have : y ≠ x := fun e => hx (by rw [← e]; exact hy)
        simp [this]).symm
    · have ha : a ∈ t := by
        rcases List.mem_cons.mp hm with h | h
        · exact absurd h.symm e
        · exact h
      obtain ⟨j, h1, h2, h3⟩ := ih (List.nodup_cons.mp hn).2 ha
      refine ⟨j + 1, h1, fun m hm => ?_, ?_⟩
      · cases m with
        | zero =>
          intro h
          cases h
          exact e rfl
        | succ m => exact h2 m (by omega)
      · rw [List.eraseIdx_cons_succ, h3, List.filter_cons_of_pos (by simpa using e)]
theorem map_eraseI {α β : Type} (f : α → β) : ∀ (l : List α) (j : Nat), (l.map f).eraseIdx j = (l.eraseIdx j).map f
  | [], _ => rfl
  | x :: t, 0 => rfl
  | x :: t, j + 1 => by
    show f x :: (t.map f).eraseIdx j = f x :: (t.eraseIdx j).map f
    rw [map_eraseI f t j]
def leftO (S : KD.SL) (al : Nat → Bool) (u : Nat) : Option (List Nat) := if al u = true then some ((links S u).filter al) else none
def leftL (S : KD.SL) (al : Nat → Bool) : List (Option (List Nat)) := (List.range (webM S)).map (leftO S al)
abbrev sideS (S : KD.SL) : Nat → Nat → Nat → Prop := KB.sideOf (le S) (up S)
def cnt (S : KD.SL) (al : Nat → Bool) : Nat := (List.range (webM S)).countP al
/-- one is taken out of a thinned web -/
def off (al : Nat → Bool) (v : Nat) : Nat → Bool := fun u => if u = v then false else al u
theorem filter_off (l : List Nat) (al : Nat → Bool) (v : Nat) : l.filter (off al v) = (l.filter al).filter (fun x => decide (x ≠ v)) := by
  rw [List.filter_filter]
  apply List.filter_congr
  intro x _
  unfold off
  by_cases e : x = v <;> simp [e]
theorem web_le {S : KD.SL} : webM S ≤ 2 * S.length := by
  unfold webM
  have := chains_len S
  omega

section
variable {P : Program} {w : World} {K : PySem.W.Frag} {mg : Str → Option Value} {base : Heap}

def spThinWeb (K : PySem.W.Frag) : Sp := fun vs H Q _ => ∃ (l0 k0 : Addr) (r : List Int) (ms : List V) (kts : List Nat) (Hb : Hp), vs = [.ref l0, .ref k0] ∧ H l0 = some (.lst ms) ∧ H k0 = some (.lst (natsV kts)) ∧ Ll Hb H ms (lkL (spansL r)) ∧ r.length ≤ 40 ∧ IsRow r ∧ kts.length ≤ 5000 ∧
  ∀ H' p ls al, Same H H' → H p = none → H' p = some (.lst ls) → Ll H H' ls (leftL (spansL r) al) → Good (webM (spansL r)) (links (spansL r)) (sideS (spansL r)) (fun u => decide (u ∈ kts)) al →
    Done (webM (spansL r)) (links (spansL r)) (fun u => decide (u ∈ kts)) al → Q (.ref p) H'

abbrev sThinWeb : Stmt := topS 16
theorem scThinWeb : FnScope ["links", "knotted", "left", "going", "at", "other", "mine"] ["links", "knotted"] (defScope sThinWeb) := ⟨rfl, rfl, rfl, by decide +kernel, rfl, by decide +kernel, by decide +kernel⟩
-- slots: {'links': 0, 'knotted': 1, 'left': 2, 'going': 3, 'at': 4, 'other': 5, 'mine': 6}
theorem hasThinWeb {f : Addr} {fd : FuncData} (F : Fun K "thin_web" "thin_web" sThinWeb f fd) (b : Binds K fd ["links", "knotted"] []) (g : mg "thin_web" = some (.ref f)) (M : Bi mg) :
    Has P w K mg base 1 "thin_web" ["links", "knotted"] (spThinWeb K) := by
  refine ⟨f, fd, F.ok scThinWeb (fun vs H Q E h => ?_) (fun cdv A outer s H vs Q E hr h => ?_), F.kp, b, g⟩
  · obtain ⟨l0, k0, r, ms, kts, Hb, rfl, hl, hk, L0, hlen, R, hkl, q⟩ := h
    rfl
  · obtain ⟨l0, k0, r, ms, kts, Hb, rfl, hl, hk, L0, hlen, R, hkl, q⟩ := h
    have nd := scThinWeb.nd
    refine ⟨_, (pss_cons (ps_setLc (i := 2) (own := [("mine", 6)]) (g := (gName 6)) rfl nd rfl rfl (sw_true rfl rfl rfl (by decide +kernel)) (pi_list (pv 0)) (blkOk_by (own := [("mine", 6)]) (N := ["links", "knotted", "left", "going", "at", "other", "mine"]) (sc := defScope sThinWeb) (by decide +kernel)) (fun _ _ _ _ _ => (pg_name (i := 6) nd rfl (Or.inl rfl))) (fun _ _ _ _ _ => pts_nil) (fun _ _ _ _ _ => (pe_callTy (T := "list") (r := Evl.rListS K) call_list_of (by rfl) M.m_list (by decide +kernel) (pa_cons (pv 6) pa_nil))))
      (pss_cons (ps_set (i := 3) nd rfl (.inl rfl) pe_bl)
      (pss_cons (ps_while PassesOwn.never (pt_val (pv 3))
      (pss_cons (ps_set (i := 3) nd rfl (.inl rfl) pe_bl)
        (pss_one (ps_for PassesOwn.never rfl (pi_range1 rfl M.m_range (pa_cons (pe_callB (r := Evl.rLenS K) call_len_seq (by rfl) M.m_len PySem.boot_len (pa_cons (pv 2) pa_nil)) pa_nil)) (pg_name (i := 4) nd rfl (.inl rfl))
        (pss_one (ps_if (PW.pt (pw_and (pt_cmp (pc_notN (pe_ix (r := rIxL K) ix_list (pv 2) (pv 4) (fun _ _ => rfl)))) (pw_and (pt_cmpR  op_lt (pe_callB (r := Evl.rLenS K) call_len_seq (by rfl) M.m_len PySem.boot_len (pa_cons (pe_ix (r := rIxL K) ix_list (pv 2) (pv 4) (fun _ _ => rfl)) pa_nil)) pe_int (nomark _)) (pw_and1 (pt_cmpR (r := rIn K true) op_notIn_seq (pv 4) (pv 1) (by rfl))))))
          (pss_cons (ps_for PassesOwn.never rfl (pi_list (pe_ix (r := rIxL K) ix_list (pv 2) (pv 4) (fun _ _ => rfl))) (pg_name (i := 5) nd rfl (.inl rfl))
            (pss_one (ps_expr (pe_bm  PySem.F.plainAttrs_list PySem.F.slot_list_remove PySem.F.type_list_remove mt_remove (pe_ix (r := rIxL K) ix_list (pv 2) (pv 5) (fun _ _ => rfl)) (pa_cons (pv 4) pa_nil)))))
            (pss_cons (ps_asg pe_non (pg_sub (pv 2) (pv 4) set_list))
            (pss_one (ps_set (i := 3) nd rfl (.inl rfl) pe_bl))))
          pss_nil))))))
      (pss_one (ps_ret (pv 2)))))), ?_⟩
    have hsl := spansL_len r hlen
    have SP := spans R
    have T := web_tree SP
    have hM := web_le (S := spansL r)
    have hml : ms.length = webM (spansL r) := by
      rw [L0.len]
      unfold lkL
      rw [List.length_map, List.length_range]
    refine ⟨_, rfl, l0, rfl, ⟨_, .inl (.inl hl)⟩, fun p2 n2 => lc_it (walk_list (xs := ms)) (fun i H' => ∃ ls, Same H H' ∧ H' p2 = some (.lst ls) ∧ Ll H H' ls ((List.range i).map fun u => some (links (spansL r) u))) ⟨[], same_upd n2, upd_same, Ll.nil⟩ (fun i H' _ ⟨_, sm, _⟩ => .inl (.inl (sm _ _ hl))) ?_ ?_⟩
    · rintro i x H4 H5 hi ⟨ls, sm, hD, L⟩ ⟨rfl, hx⟩
      obtain ⟨ai, hxi, _, hai⟩ := L0.get (i := i) (l := links (spansL r) i) (by unfold lkL; rw [List.getElem?_map, List.getElem?_range (by omega)]; rfl)
      rw [hx] at hxi
      cases hxi
      refine ⟨rfl, _, rfl, ai, _, rfl, .inl (.inl (.inl (sm _ _ hai))), fun p np => ⟨ls, same_upd np _ _ hD, ?_, ls ++ [.ref p], Same.put (sm.trans (same_upd np)) n2, upd_same, ?_⟩⟩
      · rw [L.len, List.length_map, List.length_range]
        exact line_lt (by omega)
      · rw [List.range_succ, List.map_append]
        exact L.grow (links (spansL r) i) hD (sm.free np) np
    rintro H2 ⟨ls, sm2, hD2, L2⟩
    rw [hml] at L2
    have e0 : (List.range (webM (spansL r))).map (fun u => some (links (spansL r) u)) = (List.range (webM (spansL r))).map (leftO (spansL r) (fun _ => true)) := by
      apply List.map_congr_left
      intro u _
      unfold leftO
      rw [if_pos rfl, List.filter_eq_self.mpr fun _ _ => rfl]
    rw [e0] at L2
    refine ⟨fun m σ' H' => ∃ go v4 v5 al ls, σ' = [some (.ref l0), some (.ref k0), some (.ref p2), some (.bl go), v4, v5, none] ∧ Same H H' ∧ H' p2 = some (.lst ls) ∧ Ll H H' ls ((List.range (webM (spansL r))).map (leftO (spansL r) al)) ∧
        Good (webM (spansL r)) (links (spansL r)) (sideS (spansL r)) (fun u => decide (u ∈ kts)) al ∧ (go = false → Done (webM (spansL r)) (links (spansL r)) (fun u => decide (u ∈ kts)) al) ∧ m = cnt (spansL r) al + (if go = true then 1 else 0),
      ⟨_, true, none, none, fun _ => true, ls, rfl, sm2, hD2, L2, KA.good_start _, fun h => (nomatch h), rfl⟩, ?_⟩
    rintro m σ' H3 ⟨go, v4, v5, al, ls, rfl, sm3, hL3, L3, G, hdone, rfl⟩
    refine ⟨_, rfl, go, rfl, ?_⟩
    cases go with
    | false => exact ifF rfl ⟨_, rfl, q H3 p2 ls al sm3 n2 hL3 L3 G (hdone rfl)⟩
    | true =>
      refine ifT rfl ⟨fun σ2 H2 => ∃ m', m' < cnt (spansL r) al + 1 ∧ ∃ go v4 v5 al ls, σ2 = [some (.ref l0), some (.ref k0), some (.ref p2), some (.bl go), v4, v5, none] ∧ Same H H2 ∧ H2 p2 = some (.lst ls) ∧ Ll H H2 ls ((List.range (webM (spansL r))).map (leftO (spansL r) al)) ∧
        Good (webM (spansL r)) (links (spansL r)) (sideS (spansL r)) (fun u => decide (u ∈ kts)) al ∧ (go = false → Done (webM (spansL r)) (links (spansL r)) (fun u => decide (u ∈ kts)) al) ∧ m' = cnt (spansL r) al + (if go = true then 1 else 0), fun _ _ h => h, ?_⟩
      have hlsl : ls.length = webM (spansL r) := by rw [L3.len, List.length_map, List.length_range]
      refine ⟨_, rfl, p2, _, rfl, .inl (.inl (.inl hL3)), _, rfl, ?_, ?_, ?_⟩
      · rw [hlsl]; omega
      · rw [hlsl]; omega
      rw [show ((ls.length : Nat) : Int).toNat = webM (spansL r) by rw [hlsl]; omega]
      refine for_it walk_rng0 (fun i σ H' => ∃ go v4 v5 al2 ls, σ = [some (.ref l0), some (.ref k0), some (.ref p2), some (.bl go), v4, v5, none] ∧ Same H H' ∧ H' p2 = some (.lst ls) ∧ Ll H H' ls ((List.range (webM (spansL r))).map (leftO (spansL r) al2)) ∧
        Good (webM (spansL r)) (links (spansL r)) (sideS (spansL r)) (fun u => decide (u ∈ kts)) al2 ∧ (go = false → ∀ v, v < i → al2 v = true → decide (v ∈ kts) = false → 2 ≤ ((links (spansL r) v).filter al2).length) ∧ cnt (spansL r) al2 + (if go = true then 1 else 0) ≤ cnt (spansL r) al)
        ⟨false, v4, v5, al, ls, rfl, sm3, hL3, L3, G, fun _ v hv => absurd hv (Nat.not_lt_zero v), Nat.le_refl _⟩ (fun _ _ _ _ _ => trivial) ?_ ?_
      · rintro i x σ H4 H5 hi ⟨go, v4, v5, al2, ls, rfl, sm, hL, L, G, hd, hc⟩ ⟨rfl, rfl⟩
        have hls2 : ls.length = webM (spansL r) := by rw [L.len, List.length_map, List.length_range]
        have hLi : ((List.range (webM (spansL r))).map (leftO (spansL r) al2))[i]? = some (leftO (spansL r) al2 i) := by rw [List.getElem?_map, List.getElem?_range hi]; rfl
        -- nothing is taken
        have stay : (al2 i = true → decide (i ∈ kts) = false → 2 ≤ ((links (spansL r) i).filter al2).length) → ∃ go' v4' v5' al2' ls', [some (V.ref l0), some (.ref k0), some (.ref p2), some (.bl go), some (.int (i : Int)), v5, none] = [some (V.ref l0), some (.ref k0), some (.ref p2), some (.bl go'), v4', v5', none] ∧ Same H H5 ∧ H5 p2 = some (.lst ls') ∧ Ll H H5 ls' ((List.range (webM (spansL r))).map (leftO (spansL r) al2')) ∧
            Good (webM (spansL r)) (links (spansL r)) (sideS (spansL r)) (fun u => decide (u ∈ kts)) al2' ∧ (go' = false → ∀ v, v < i + 1 → al2' v = true → decide (v ∈ kts) = false → 2 ≤ ((links (spansL r) v).filter al2').length) ∧ cnt (spansL r) al2' + (if go' = true then 1 else 0) ≤ cnt (spansL r) al := fun h => by
          refine ⟨go, _, _, al2, ls, rfl, sm, hL, L, G, fun hg v hv => ?_, hc⟩
          by_cases e : v = i
          · subst e
            exact h
          · exact hd hg v (by omega)
        cases hal : al2 i with
        | false =>
          have hnon := L.getN (i := i) (by rw [hLi]; unfold leftO; rw [hal]; rfl)
          refine ⟨_, rfl, _, rfl, p2, ls, _, _, rfl, rfl, .inl (.inl hL), atI_nat hnon, _, rfl, ifF rfl (ifF rfl (stay fun h => ?_))⟩
          rw [hal] at h
          cases h
        | true =>
          obtain ⟨ai, hmi, hfi, hci⟩ := L.get (i := i) (l := (links (spansL r) i).filter al2) (by rw [hLi]; unfold leftO; rw [hal]; rfl)
          refine ⟨_, rfl, _, rfl, p2, ls, _, _, rfl, rfl, .inl (.inl hL), atI_nat hmi, _, rfl, ifT rfl ?_⟩
          refine ⟨_, rfl, _, rfl, p2, ls, _, _, rfl, rfl, .inl (.inl hL), atI_nat hmi, ai, _, rfl, .inl (.inl (.inl hci)), _, _, rfl, rfl, decide (((links (spansL r) i).filter al2).length < 2), ?_, ?_⟩
          · rw [nats_len]
            show V.bl (decide ((((links (spansL r) i).filter al2).length : Int) < 2)) = _
            congr 1
            exact decide_eq_decide.mpr (by omega)
          by_cases h2 : ((links (spansL r) i).filter al2).length < 2
          · refine ifT (decide_eq_true h2) ⟨_, rfl, _, rfl, k0, _, rfl, .inl (.inl (.inl (sm _ _ hk))), rfl, nats_flat kts, _, rfl, ?_⟩
            rw [inV_nats]
            cases hkn : decide (i ∈ kts) with
            | true =>
              refine ifF rfl (stay fun _ h => ?_)
              rw [hkn] at h
              cases h
            | false =>
              refine ifT rfl ?_
              have G2 : Good (webM (spansL r)) (links (spansL r)) (sideS (spansL r)) (fun u => decide (u ∈ kts)) (off al2 i) := KA.good_step T G hi hal hkn h2
              have hcnt : cnt (spansL r) (off al2 i) < cnt (spansL r) al2 := KA.countP_lt _ (fun x _ h => by
                unfold off at h
                split at h
                · cases h
                · exact h) i (List.mem_range.mpr hi) hal (by unfold off; rw [if_pos rfl])
              have hni : i ∉ (links (spansL r) i).filter al2 := fun h => T.ne hi (List.mem_filter.mp h).1 rfl
              have hndi : ((links (spansL r) i).filter al2).Nodup := List.Pairwise.filter _ (T.nodup i hi)
              refine ⟨_, rfl, _, rfl, p2, ls, _, _, rfl, rfl, .inl (.inl hL), atI_nat hmi, ai, rfl, ⟨_, .inl (.inl hci)⟩, ?_⟩
              refine for_it (walk_list (xs := natsV ((links (spansL r) i).filter al2))) (fun t σ H' => ∃ v5, σ = [some (.ref l0), some (.ref k0), some (.ref p2), some (.bl go), some (.int (i : Int)), v5, none] ∧ Same H H' ∧ H' p2 = some (.lst ls) ∧
                  Ll H H' ls ((List.range (webM (spansL r))).map fun u => if al2 u = true then some (if u ∈ ((links (spansL r) i).filter al2).take t then ((links (spansL r) u).filter al2).filter (fun x => decide (x ≠ i)) else (links (spansL r) u).filter al2) else none))
                ⟨v5, rfl, sm, hL, ?_⟩ ?_ ?_ ?_
              · simp only [List.take_zero, List.not_mem_nil, if_false]
                exact L
              · rintro t σ H6 _ ⟨_, _, _, _, L6⟩
                obtain ⟨a2, hm2, _, hc2⟩ := L6.get (i := i) (l := (links (spansL r) i).filter al2) (by
                  rw [List.getElem?_map, List.getElem?_range hi]
                  show some (if al2 i = true then _ else _) = _
                  rw [if_pos hal, if_neg fun h => hni (List.mem_of_mem_take h)])
                rw [hmi] at hm2
                cases hm2
                exact .inl (.inl hc2)
              · rintro t x σ H6 H7 ht ⟨v5, rfl, sm7, hL7, L7⟩ ⟨rfl, hx⟩
                obtain ⟨u, hu, rfl⟩ := nats_at hx
                have hum := List.mem_filter.mp (List.mem_of_getElem? hu)
                have huM := T.lt i u hi hum.1
                have hnt : u ∉ ((links (spansL r) i).filter al2).take t := by
                  intro hm
                  obtain ⟨j, hj, e⟩ := List.getElem_of_mem hm
                  rw [List.length_take] at hj
                  rw [List.getElem_take] at e
                  have e2 := (List.getElem?_eq_some_iff.mp hu).2
                  have := (List.getElem_inj hndi).mp (e.trans e2.symm)
                  omega
                obtain ⟨au, hmu, hfu, hcu⟩ := L7.get (i := u) (l := (links (spansL r) u).filter al2) (by
                  rw [List.getElem?_map, List.getElem?_range huM]
                  show some (if al2 u = true then _ else _) = _
                  rw [if_pos hum.2, if_neg hnt])
                have hiu : i ∈ (links (spansL r) u).filter al2 := List.mem_filter.mpr ⟨T.sym i u hi hum.1, hal⟩
                obtain ⟨j, hj1, hj2, hj3⟩ := erase_one (List.Pairwise.filter _ (T.nodup u huM)) hiu
                refine ⟨_, rfl, _, rfl, p2, ls, _, _, rfl, rfl, .inl (.inl hL7), atI_nat hmu, .inl ⟨rfl, _, .inl (.inl hcu)⟩, _, rfl, au, ((links (spansL r) u).filter al2).map (fun (n : Nat) => (n : Int)), (i : Int), j, rfl, rfl, by rw [← nats_ints]; exact hcu, ?_, ?_, ?_⟩
                · rw [List.getElem?_map, hj1]
                  rfl
                · intro m hm h
                  rw [List.getElem?_map] at h
                  cases e : ((links (spansL r) u).filter al2)[m]? with
                  | none =>
                    rw [e] at h
                    cases h
                  | some y =>
                    rw [e] at h
                    injection h with h
                    have h' : (y : Int) = (i : Int) := h
                    have h3 : y = i := by omega
                    exact hj2 m hm (by rw [e, h3])
                · rw [map_eraseI, ← nats_ints, hj3]
                  have htk : ((links (spansL r) i).filter al2).take (t + 1) = ((links (spansL r) i).filter al2).take t ++ [u] := by
                    rw [List.take_add_one, hu]
                    rfl
                  refine ⟨_, rfl, Same.put sm7 hfu, ?_, ?_⟩
                  · rw [upd_ne (L7.outer hL7 hmu).symm]
                    exact hL7
                  · have L8 := L7.put hmu (((links (spansL r) u).filter al2).filter (fun x => decide (x ≠ i)))
                    have e8 := range_set (n := webM (spansL r)) (j := u) (f := fun u => if al2 u = true then some (if u ∈ ((links (spansL r) i).filter al2).take t then ((links (spansL r) u).filter al2).filter (fun x => decide (x ≠ i)) else (links (spansL r) u).filter al2) else none)
                      (f' := fun u => if al2 u = true then some (if u ∈ ((links (spansL r) i).filter al2).take (t + 1) then ((links (spansL r) u).filter al2).filter (fun x => decide (x ≠ i)) else (links (spansL r) u).filter al2) else none) (fun g hg => by
                        rw [htk]
                        simp [hg])
                    simp only [hum.2, if_true] at e8
                    rw [if_pos (by rw [htk]; simp)] at e8
                    rw [e8] at L8
                    exact L8
              · rintro σ H6 ⟨v5, rfl, sm6, hL6, L6⟩
                rw [nats_len, List.take_length] at L6
                refine ⟨_, rfl, _, rfl, p2, ls, _, i, rfl, rfl, hL6, Evl.ixN_nat (by omega), ?_⟩
                refine ⟨true, _, _, off al2 i, ls.set i .non, rfl, Same.put sm6 n2, upd_same, ?_, G2, fun h => (nomatch h), ?_⟩
                · have L7 := (L6.upd_other (p := p2) (o := .lst (ls.set i .non)) (fun j a h => L6.outer hL6 h)).drop i
                  have e7 := range_set (n := webM (spansL r)) (j := i) (f := fun u => if al2 u = true then some (if u ∈ (links (spansL r) i).filter al2 then ((links (spansL r) u).filter al2).filter (fun x => decide (x ≠ i)) else (links (spansL r) u).filter al2) else none)
                    (f' := fun u => if u = i then none else if al2 u = true then some (if u ∈ (links (spansL r) i).filter al2 then ((links (spansL r) u).filter al2).filter (fun x => decide (x ≠ i)) else (links (spansL r) u).filter al2) else none) (fun g hg => by simp [hg])
                  simp only [if_true] at e7
                  rw [e7] at L7
                  have e9 : (List.range (webM (spansL r))).map (fun u => if u = i then none else if al2 u = true then some (if u ∈ (links (spansL r) i).filter al2 then ((links (spansL r) u).filter al2).filter (fun x => decide (x ≠ i)) else (links (spansL r) u).filter al2) else none) = (List.range (webM (spansL r))).map (leftO (spansL r) (off al2 i)) := by
                    apply List.map_congr_left
                    intro u hu
                    rw [List.mem_range] at hu
                    unfold leftO
                    by_cases e : u = i
                    · rw [if_pos e, if_neg (by unfold off; rw [if_pos e]; exact Bool.false_ne_true)]
                    · have eo : off al2 i u = al2 u := by unfold off; rw [if_neg e]
                      rw [if_neg e, eo, filter_off]
                      by_cases ea : al2 u = true
                      · rw [if_pos ea, if_pos ea]
                        congr 1
                        by_cases em : u ∈ (links (spansL r) i).filter al2
                        · rw [if_pos em]
                        · rw [if_neg em]
                          refine (List.filter_eq_self.mpr fun x hx => ?_).symm
                          have hxi : x ≠ i := by
                            intro exi
                            apply em
                            rw [exi] at hx
                            exact List.mem_filter.mpr ⟨T.sym u i hu (List.mem_filter.mp hx).1, ea⟩
                          simp [hxi]
                      · rw [if_neg ea, if_neg ea]
                  rw [e9] at L7
                  exact L7
                · rw [if_pos rfl]
                  have := Nat.le_trans (Nat.le_add_right _ _) hc
                  omega
          · refine ifF (decide_eq_false h2) (ifF rfl (stay fun _ _ => by omega))
      · rintro σ H4 ⟨go, v4, v5, al2, ls, rfl, sm, hL, L, G, hd, hc⟩
        exact ⟨_, Nat.lt_succ_of_le hc, go, v4, v5, al2, ls, rfl, sm, hL, L, G, fun hg v hv => hd hg v hv, rfl⟩
end
end WN
namespace WO
open PySem PySem.Spec PyProof.Rows L2 WA WB WC WD WE WF WG WH WJ WK WL WM WN KC KF KL KM KN KE1
open KD (st en chainStep chainsOf endOf begOf)
open KA (Tree Good Done LegSt LegRes legMeas legSt_step legSt_end)

section
variable {P : Program} {w : World} {K : PySem.W.Frag} {mg : Str → Option Value} {base : Heap}

def spLegKnots (K : PySem.W.Frag) : Sp := fun vs H Q _ => ∃ (l0 k0 : Addr) (r : List Int) (ls : List V) (kts : List Nat) (al : Nat → Bool) (Hb : Hp) (en0 : Nat), vs = [.ref l0, .ref k0, .int (en0 : Int)] ∧ H l0 = some (.lst ls) ∧ H k0 = some (.lst (natsV kts)) ∧ Ll Hb H ls (leftL (spansL r) al) ∧ r.length ≤ 40 ∧ IsRow r ∧ kts.length ≤ 5000 ∧
  Good (webM (spansL r)) (links (spansL r)) (sideS (spansL r)) (fun u => decide (u ∈ kts)) al ∧ Done (webM (spansL r)) (links (spansL r)) (fun u => decide (u ∈ kts)) al ∧ en0 < webM (spansL r) ∧ en0 ∈ kts ∧ ((links (spansL r) en0).filter al).length < 2 ∧
  ∀ H' (m : Nat), Same H H' → LegRes (webM (spansL r)) (links (spansL r)) (sideS (spansL r)) (fun u => decide (u ∈ kts)) en0 m → Q (.int (m : Int)) H'

abbrev sLegKnots : Stmt := topS 17
theorem scLegKnots : FnScope ["left", "knotted", "end", "many", "before", "at", "ahead", "other"] ["left", "knotted", "end"] (defScope sLegKnots) := ⟨rfl, rfl, rfl, by decide +kernel, rfl, by decide +kernel, by decide +kernel⟩
-- slots: {'left': 0, 'knotted': 1, 'end': 2, 'many': 3, 'before': 4, 'at': 5, 'ahead': 6, 'other': 7}
theorem hasLegKnots {f : Addr} {fd : FuncData} (F : Fun K "leg_knots" "leg_knots" sLegKnots f fd) (b : Binds K fd ["left", "knotted", "end"] []) (g : mg "leg_knots" = some (.ref f)) (M : Bi mg) :
    Has P w K mg base 1 "leg_knots" ["left", "knotted", "end"] (spLegKnots K) := by
  refine ⟨f, fd, F.ok scLegKnots (fun vs H Q E h => ?_) (fun cdv A outer s H vs Q E hr h => ?_), F.kp, b, g⟩
  · obtain ⟨l0, k0, r, ls, kts, al, Hb, en0, rfl, hl, hk, L0, hlen, R, hkl, G, D, hen, hkn, hlf, q⟩ := h
    rfl
  · obtain ⟨l0, k0, r, ls, kts, al, Hb, en0, rfl, hl, hk, L0, hlen, R, hkl, G, D, hen, hkn, hlf, q⟩ := h
    have nd := scLegKnots.nd
    refine ⟨_, (pss_cons (ps_set (i := 3) nd rfl (.inl rfl) pe_int)
      (pss_cons (ps_set (i := 4) nd rfl (.inr rfl) pe_non)
      (pss_cons (ps_set (i := 5) nd rfl (.inl rfl) (pv 2))
      (pss_cons (ps_while PassesOwn.never (PW.pt (pw_and (pt_cmp (pc_notN (pv 5))) (pw_and1 (pt_cmpR  op_lt (pe_callB (r := Evl.rLenS K) call_len_seq (by rfl) M.m_len PySem.boot_len (pa_cons (pe_ix (r := rIxL K) ix_list (pv 0) (pv 5) (fun _ _ => rfl)) pa_nil)) pe_int (nomark _)))))
      (Evl.pss_cut (ps_if (pt_cmpR (r := rIn K false) op_in_seq (pv 5) (pv 1) (by rfl))
        (pss_one (ps_set (i := 3) nd rfl (.inl rfl) (pe_op  op_add (pv 3) pe_int)))
        pss_nil)
        (pss_cons (ps_setLc (i := 6) (own := [("other", 7)]) (g := (gName 7)) rfl nd rfl rfl (sw_true rfl rfl rfl (by decide +kernel)) (pi_list (pe_ix (r := rIxL K) ix_list (pv 0) (pv 5) (fun _ _ => rfl))) (blkOk_by (own := [("other", 7)]) (N := ["left", "knotted", "end", "many", "before", "at", "ahead", "other"]) (sc := defScope sLegKnots) (by decide +kernel)) (fun _ _ _ _ _ => (pg_name (i := 7) nd rfl (Or.inl rfl))) (fun _ _ _ _ _ => pts_one (pt_cmpR  op_ne (pv 7) (pv 4) (nomark _))) (fun _ _ _ _ _ => (pv 7)))
        (pss_cons (ps_set (i := 4) nd rfl (.inr rfl) (pv 5))
        (pss_cons (ps_set (i := 5) nd rfl (.inl rfl) pe_non)
        (pss_one (ps_if (pt_cmpR  op_gt (pe_callB (r := Evl.rLenS K) call_len_seq (by rfl) M.m_len PySem.boot_len (pa_cons (pv 6) pa_nil)) pe_int (nomark _))
        (pss_one (ps_set (i := 5) nd rfl (.inl rfl) (pe_ix (r := rIxL K) ix_list (pv 6) pe_int (fun _ _ => rfl))))
        pss_nil)))))))
      (pss_one (ps_ret (pv 3))))))), ?_⟩
    have hsl := spansL_len r hlen
    have SP := spans R
    have T := web_tree SP
    have hM := web_le (S := spansL r)
    have hkd : decide (en0 ∈ kts) = true := decide_eq_true hkn
    refine ⟨_, rfl, ?_⟩
    refine ⟨fun m σ' H' => ∃ (many : Nat) (before at_ : Option Nat) (v6 : Option V), σ' = [some (.ref l0), some (.ref k0), some (.int (en0 : Int)), some (.int (many : Int)), some (oV before), some (oV at_), v6, none] ∧ Same H H' ∧
        LegSt (webM (spansL r)) (links (spansL r)) (sideS (spansL r)) (fun u => decide (u ∈ kts)) al en0 many before at_ ∧ m = legMeas (webM (spansL r)) (sideS (spansL r)) before at_,
      ⟨_, 0, none, some en0, none, rfl, fun _ _ h => h, .inl ⟨rfl, rfl, rfl⟩, rfl⟩, ?_⟩
    rintro m σ' H1 ⟨many, before, at_, v6, rfl, sm, LS, rfl⟩
    refine ⟨_, rfl, _, rfl, ?_⟩
    cases at_ with
    | none =>
      refine ifF rfl (ifF rfl ⟨_, rfl, q H1 many sm (legSt_end T G D hen hkd hlf LS fun a h => (nomatch h))⟩)
    | some a =>
      obtain ⟨haM, hala⟩ := LS.lt T hen G hkd
      have L1 := L0.mono sm
      obtain ⟨aa, hma, hfa, hca⟩ := L1.get (i := a) (l := (links (spansL r) a).filter al) (by
        unfold leftL
        rw [List.getElem?_map, List.getElem?_range haM]
        show some (leftO _ _ a) = _
        unfold leftO
        rw [if_pos hala])
      have hl1 := sm _ _ hl
      have hnd : ((links (spansL r) a).filter al).Nodup := List.Pairwise.filter _ (T.nodup a haM)
      have hfl : ((links (spansL r) a).filter al).length ≤ 10000 := by
        have := nodup_len hnd (n := webM (spansL r)) (fun x hx => T.lt a x haM (List.mem_filter.mp hx).1)
        omega
      refine ifT rfl ⟨_, rfl, _, rfl, l0, ls, _, _, rfl, rfl, .inl (.inl hl1), atI_nat hma, aa, _, rfl, .inl (.inl (.inl hca)), _, _, rfl, rfl, decide (((links (spansL r) a).filter al).length < 3), ?_, ?_⟩
      · rw [nats_len]
        show V.bl (decide ((((links (spansL r) a).filter al).length : Int) < 3)) = _
        congr 1
        exact decide_eq_decide.mpr (by omega)
      by_cases h3 : ((links (spansL r) a).filter al).length < 3
      · have SS := legSt_step T G D hen hkd hlf LS h3
        refine ifT (decide_eq_true h3) ⟨fun σ2 H2 => ∃ m', m' < legMeas (webM (spansL r)) (sideS (spansL r)) before (some a) ∧ ∃ (many : Nat) (before at_ : Option Nat) (v6 : Option V), σ2 = [some (.ref l0), some (.ref k0), some (.int (en0 : Int)), some (.int (many : Int)), some (oV before), some (oV at_), v6, none] ∧ Same H H2 ∧
          LegSt (webM (spansL r)) (links (spansL r)) (sideS (spansL r)) (fun u => decide (u ∈ kts)) al en0 many before at_ ∧ m' = legMeas (webM (spansL r)) (sideS (spansL r)) before at_, fun _ _ h => h, ?_⟩
        refine ⟨fun σ2 H2 => σ2 = [some (.ref l0), some (.ref k0), some (.int (en0 : Int)), some (.int ((many + (if decide (a ∈ kts) = true then 1 else 0) : Nat) : Int)), some (oV before), some (.int (a : Int)), v6, none] ∧ H2 = H1, ?_, ?_⟩
        · refine ⟨_, rfl, _, rfl, k0, _, rfl, .inl (.inl (.inl (sm _ _ hk))), rfl, nats_flat kts, _, rfl, ?_⟩
          rw [show oV (some a) = V.int (a : Int) from rfl, inV_nats]
          cases hk : decide (a ∈ kts) with
          | true =>
            refine ifT rfl ⟨_, rfl, _, _, rfl, rfl, ?_, rfl⟩
            rw [if_pos rfl]
            rfl
          | false =>
            refine ifF rfl ⟨?_, rfl⟩
            rw [if_neg Bool.false_ne_true]
            rfl
        rintro σ2 H2 ⟨rfl, rfl⟩
        refine ⟨_, rfl, _, rfl, l0, ls, _, _, rfl, rfl, .inl (.inl hl1), atI_nat hma, aa, rfl, ⟨_, .inl (.inl hca)⟩, fun D nD => lc_it (walk_list (xs := natsV ((links (spansL r) a).filter al))) (fun j H' => Same H2 H' ∧ H' D = some (.lst (natsV ((((links (spansL r) a).filter al).take j).filter fun o => some o != before)))) ⟨same_upd nD, upd_same⟩ (fun _ _ _ h => .inl (.inl (h.1 _ _ hca))) ?_ ?_⟩
        · rintro j x H5 H6 hj ⟨sm6, hD⟩ ⟨rfl, hx⟩
          obtain ⟨o, ho, rfl⟩ := nats_at hx
          have ef : (((links (spansL r) a).filter al).take (j + 1)).filter (fun o => some o != before) = (((links (spansL r) a).filter al).take j).filter (fun o => some o != before) ++ (if (some o != before) = true then [o] else []) := by
            rw [List.take_add_one, ho, List.filter_append]
            show _ ++ List.filter _ [o] = _
            cases h : (some o != before) <;> simp [h]
          rw [ef]
          have eb : (!decide (V.int (o : Int) = oV before)) = (some o != before) := by
            cases before with
            | none => rfl
            | some b =>
              show (!decide (V.int (o : Int) = V.int (b : Int))) = !(some o == some b)
              rw [dec_int]
              congr 1
              apply Bool.eq_iff_iff.mpr
              rw [beq_iff_eq]
              constructor
              · intro h
                have : o = b := by omega
                rw [this]
                exact beq_self_eq_true _
              · intro h
                have := beq_iff_eq.mp h
                cases this
                rfl
          have es : scal (V.int (o : Int)) (oV before) = true := by
            cases before <;> rfl
          refine ⟨rfl, _, rfl, _, rfl, es, _, rfl, ?_⟩
          rw [eb]
          cases hb : (some o != before) with
          | true =>
            refine ifT rfl ⟨_, rfl, _, hD, ?_, Same.put sm6 nD, ?_⟩
            · rw [nats_len]
              have h1 := List.length_filter_le (fun o => some o != before) (((links (spansL r) a).filter al).take j)
              rw [List.length_take] at h1
              exact line_lt (by omega)
            · rw [upd_same, if_pos rfl]
              show some (HO.lst (natsV _ ++ natsV [o])) = _
              rw [← nats_app]
          | false =>
            refine ifF rfl ⟨sm6, ?_⟩
            rw [if_neg Bool.false_ne_true, List.append_nil]
            exact hD
        rintro H5 ⟨sm5, hD⟩
        rw [show ((links (spansL r) a).filter al).take (natsV ((links (spansL r) a).filter al)).length = (links (spansL r) a).filter al from List.take_of_length_le (by rw [nats_len]; exact Nat.le_refl _)] at hD
        refine ⟨_, rfl, ?_⟩
        refine ⟨_, rfl, D, _, rfl, .inl (.inl (.inl hD)), _, _, rfl, rfl, decide (0 < (((links (spansL r) a).filter al).filter (fun o => some o != before)).length), ?_, ?_⟩
        · rw [nats_len]
          show V.bl (decide ((0 : Int) < ((((links (spansL r) a).filter al).filter (fun o => some o != before)).length : Int))) = _
          congr 1
          exact decide_eq_decide.mpr (by omega)
        generalize hah : ((links (spansL r) a).filter al).filter (fun o => some o != before) = ah at SS hD
        cases ah with
        | nil =>
          refine ifF rfl ⟨_, SS.2, _, some a, none, _, rfl, sm.trans sm5, SS.1, rfl⟩
        | cons o t =>
          refine ifT (decide_eq_true (by simp)) ⟨_, rfl, D, _, _, _, rfl, rfl, .inl (.inl hD), atI_nat (j := 0) (v := V.int (o : Int)) rfl, _, SS.2, _, some a, some o, _, rfl, sm.trans sm5, SS.1, rfl⟩
      · refine ifF (decide_eq_false h3) ⟨_, rfl, q H1 many sm (legSt_end T G D hen hkd hlf LS fun a' h => ?_)⟩
        cases h
        exact h3
end
end WO
namespace WP
open PySem PySem.Spec PyProof.Rows L2 WA WB WC WD WE WF WG WH WJ WK WL WM WN WO KC KF KL KM KN KE1
open KD (st en chainStep chainsOf endOf begOf)
open KA (Tree Good Done LegSt LegRes Leaf cost)

theorem room_u65 {k : Nat} {A : Around} (r : Room k A) : A.units + 65 < cLine := by
  have := r.un
  omega
def pData (p : Nat × Nat) : PyData := .tuple [.int (p.1 : Int), .int (p.2 : Int)]
theorem dp_pair {K : PySem.W.Frag} {H : Hp} {t : Addr} {p : Nat × Nat} (h : H t = some (.tup (pairV p))) : Dp K H (.ref t) (pData p) :=
  Dp.tup (.inl (.inl h)) (DpAll.cons (Dp.int _) (DpAll.cons (Dp.int _) DpAll.nil))
theorem dp_pairs {K : PySem.W.Frag} {H : Hp} : ∀ {xs : List V} {ps : List (Nat × Nat)}, PairsH H xs ps → DpAll K H xs (ps.map pData) := by
  intro xs
  induction xs with
  | nil =>
    intro ps h
    cases ps with
    | nil => exact DpAll.nil
    | cons p t => cases h.1
  | cons x t ih =>
    intro ps h
    cases ps with
    | nil => cases h.1
    | cons p ps =>
      obtain ⟨a, rfl, ha⟩ := h.2 0 x p rfl rfl
      exact DpAll.cons (dp_pair ha) (ih ⟨Nat.succ.inj h.1, fun i y q h1 h2 => h.2 (i + 1) y q h1 h2⟩)
theorem lay_pairs : ∀ ps : List (Nat × Nat), PyData.canLayAll0 (ps.map pData) = true
  | [] => rfl
  | p :: t => by
    show (PyData.canLay0 (pData p) && PyData.canLayAll0 (t.map pData)) = true
    rw [lay_pairs t]
    rfl
theorem depth_pairs : ∀ ps : List (Nat × Nat), PyData.depthAll (ps.map pData) ≤ 1
  | [] => Nat.zero_le _
  | p :: t => by
    show max (PyData.depth (pData p)) (PyData.depthAll (t.map pData)) ≤ 1
    have := depth_pairs t
    have : PyData.depth (pData p) = 1 := rfl
    omega
theorem shaped_pairs (ps : List (Nat × Nat)) : SeqAt.shaped (.list (ps.map pData)) = true := by
  show (PyData.canLayAll0 (ps.map pData) && decide (PyData.depthAll (ps.map pData) + 1 ≤ 64)) = true
  rw [lay_pairs]
  have := depth_pairs ps
  simp
  omega
theorem any_pairs (ps : List (Nat × Nat)) (p : Nat × Nat) : ((ps.map pData).any fun z => PyData.eqv z (pData p)) = decide (p ∈ ps) := by
  rw [List.any_map]
  apply Bool.eq_iff_iff.mpr
  rw [List.any_eq_true, decide_eq_true_eq]
  have key : ∀ z : Nat × Nat, PyData.eqv (pData z) (pData p) = true ↔ z = p := by
    intro z
    show (((z.1 : Int) == (p.1 : Int)) && (((z.2 : Int) == (p.2 : Int)) && true)) = true ↔ _
    rw [Bool.and_true, Bool.and_eq_true, beq_iff_eq, beq_iff_eq]
    constructor
    · rintro ⟨h1, h2⟩
      exact Prod.ext (by omega) (by omega)
    · intro h
      rw [h]
      exact ⟨rfl, rfl⟩
  constructor
  · rintro ⟨z, hz, e⟩
    have := (key z).mp e
    rw [← this]
    exact hz
  · intro h
    exact ⟨p, h, (key p).mpr rfl⟩
noncomputable def knl (r : List Int) (o : Nat → Nat) (n : Nat) : List Nat := (List.range n).filter (knB r o)
theorem knots_mem {r : List Int} (R : IsRow r) {o : Nat → Nat} {i : Nat} (hi : i < (spansL r).length) : decide ((st (spansL r) i, en (spansL r) i) ∈ knotsL r o (spansL r).length) = knB r o i := by
  apply Bool.eq_iff_iff.mpr
  rw [decide_eq_true_eq]
  unfold knotsL
  rw [List.mem_map]
  constructor
  · rintro ⟨j, hj, e⟩
    obtain ⟨h1, h2⟩ := List.mem_filter.mp hj
    have := span_inj R (List.mem_range.mp h1) hi e
    rw [← this]
    exact h2
  · intro h
    exact ⟨i, List.mem_filter.mpr ⟨List.mem_range.mpr hi, h⟩, rfl⟩
theorem knl_all (r : List Int) (o : Nat → Nat) : (fun u => decide (u ∈ knl r o (spansL r).length)) = knB r o := by
  funext u
  apply Bool.eq_iff_iff.mpr
  rw [decide_eq_true_eq]
  unfold knl
  rw [List.mem_filter, List.mem_range]
  exact ⟨fun h => h.2, fun h => ⟨(knB_iff.mp h).1, h⟩⟩

/-- the legs that the program finds -/
structure LegsOk (r : List Int) (o : Nat → Nat) (E legs : List Nat) : Prop where
  ow : Ow (r.length + 1) (KG.gh (pos r)) (KG.gf (pos r)) (spansL r) o
  nd : E.Nodup
  mem : ∀ K, K ∈ E ↔ knB r o K = true ∧ Leaf (webM (spansL r)) (links (spansL r)) (sideS (spansL r)) (knB r o) K
  len : legs.length = E.length
  res : ∀ (i K m : Nat), E[i]? = some K → legs[i]? = some m → LegRes (webM (spansL r)) (links (spansL r)) (sideS (spansL r)) (knB r o) K m

section
variable {P : Program} {w : World} {K : PySem.W.Frag} {mg : Str → Option Value} {base : Heap}

def spKnotWeb (K : PySem.W.Frag) : Sp := fun vs H Q _ => ∃ (a : Addr) (r : List Int), vs = [.ref a] ∧ SqT K H a (intsV r) ∧ r.length ≤ 40 ∧ IsRow r ∧
  ∀ H' p (s l k : Addr) ls o al, Same H H' → H p = none → H' p = some (.tup [.ref s, .ref l, .ref k]) → H' l = some (.lst ls) → (∃ Hb, Ll Hb H' ls (leftL (spansL r) al)) → H' k = some (.lst (natsV (knl r o (spansL r).length))) →
    Ow (r.length + 1) (KG.gh (pos r)) (KG.gf (pos r)) (spansL r) o → Good (webM (spansL r)) (links (spansL r)) (sideS (spansL r)) (knB r o) al → Done (webM (spansL r)) (links (spansL r)) (knB r o) al → Q (.ref p) H'

abbrev sKnotWeb : Stmt := topS 18
theorem scKnotWeb : FnScope ["row", "spans", "knots", "knotted", "at", "span"] ["row"] (defScope sKnotWeb) := ⟨rfl, rfl, rfl, by decide +kernel, rfl, by decide +kernel, by decide +kernel⟩
-- slots: {'row': 0, 'spans': 1, 'knots': 2, 'knotted': 3, 'at': 4, 'span': 5}
theorem hasKnotWeb {f : Addr} {fd : FuncData} (F : Fun K "knot_web" "knot_web" sKnotWeb f fd) (b : Binds K fd ["row"] []) (g : mg "knot_web" = some (.ref f)) (M : Bi mg)
    (hKinSpans : Has P w K mg base 3 "kin_spans" ["row"] (spKinSpans K)) (hKnotsAmong : Has P w K mg base 3 "knots_among" ["row", "spans"] (spKnotsAmong K)) (hWebLinks : Has P w K mg base 2 "web_links" ["spans"] (spWebLinks K)) (hThinWeb : Has P w K mg base 1 "thin_web" ["links", "knotted"] (spThinWeb K)) :
    Has P w K mg base 4 "knot_web" ["row"] (spKnotWeb K) := by
  obtain ⟨fKinSpans, fdKinSpans, GKinSpans, kKinSpans, bKinSpans, gKinSpans⟩ := hKinSpans
  obtain ⟨fKnotsAmong, fdKnotsAmong, GKnotsAmong, kKnotsAmong, bKnotsAmong, gKnotsAmong⟩ := hKnotsAmong
  obtain ⟨fWebLinks, fdWebLinks, GWebLinks, kWebLinks, bWebLinks, gWebLinks⟩ := hWebLinks
  obtain ⟨fThinWeb, fdThinWeb, GThinWeb, kThinWeb, bThinWeb, gThinWeb⟩ := hThinWeb
  refine ⟨f, fd, F.ok scKnotWeb (fun vs H Q E h => ?_) (fun cdv A outer s H vs Q E hr h => ?_), F.kp, b, g⟩
  · obtain ⟨a, r, rfl, hT, hlen, R, q⟩ := h
    rfl
  · obtain ⟨a, r, rfl, hT, hlen, R, q⟩ := h
    have nd := scKnotWeb.nd
    refine ⟨_, (pss_cons (ps_set (i := 1) nd rfl (.inl rfl) (pe_call GKinSpans (hr.mono (by decide)) (by rfl) gKinSpans kKinSpans bKinSpans .nil pass0 (pa_cons (pv 0) pa_nil)))
      (pss_cons (ps_set (i := 2) nd rfl (.inr rfl) (pe_call GKnotsAmong (hr.mono (by decide)) (by rfl) gKnotsAmong kKnotsAmong bKnotsAmong .nil pass0 (pa_cons (pv 0) (pa_cons (pv 1) pa_nil))))
      (pss_cons (ps_setLc (i := 3) (own := [("at", 4), ("span", 5)]) (g := (gTup K 2 (gCons (gName 4) (gCons (gName 5) gNil)))) rfl nd rfl rfl (sw_true rfl rfl rfl (by decide +kernel)) (pi_enum (by rfl) M.m_enumerate (pa_cons (pv 1) pa_nil)) (blkOk_by (own := [("at", 4), ("span", 5)]) (N := ["row", "spans", "knots", "knotted", "at", "span"]) (sc := defScope sKnotWeb) (by decide +kernel)) (fun _ _ _ _ _ => (pg_tup rfl (pgs_cons (pg_name (i := 4) nd rfl (Or.inl rfl)) (pgs_cons (pg_name (i := 5) nd rfl (Or.inl rfl)) pgs_nil)))) (fun _ _ _ _ _ => pts_one (pt_cmpR (r := rInD K) (op_inD (room_u65 hr)) (pv 5) (pv 2) (by rfl))) (fun _ _ _ _ _ => (pv 4)))
      (pss_one (ps_ret (pe_tup (pa_cons (pv 1) (pa_cons (pe_call GThinWeb (hr.mono (by decide)) (by rfl) gThinWeb kThinWeb bThinWeb .nil pass0 (pa_cons (pe_call GWebLinks (hr.mono (by decide)) (by rfl) gWebLinks kWebLinks bWebLinks .nil pass0 (pa_cons (pv 1) pa_nil)) (pa_cons (pv 3) pa_nil))) (pa_cons (pv 3) pa_nil))))))))), ?_⟩
    have hsl := spansL_len r hlen
    obtain ⟨o, O⟩ := ow_ex R
    refine ⟨_, rfl, a, r, rfl, hT, hlen, R, fun H1 p1 xs s1 n1 h1 hP => ?_⟩
    have hxl := hP.1
    refine ⟨_, rfl, _, rfl, a, p1, r, xs, o, rfl, sameT s1 hT, h1, hP, hlen, R, O, fun H2 p2 ys s2 n2 h2 hK => ?_⟩
    have h12 := s2 _ _ h1
    refine ⟨_, rfl, p1, _, rfl, .inl (.inl h12), fun D nD => lc_it (walk_enum (xs := xs)) (fun i H' => Same H2 H' ∧ H' D = some (.lst (natsV (knl r o i)))) ⟨same_upd nD, upd_same⟩ (fun _ _ _ h => .inl (.inl (h.1 _ _ h12))) ?_ ?_⟩
    · rintro i x H4 H5 hi ⟨sm, hD⟩ ⟨T, y, z, rfl, nT, rfl, e1, e2⟩
      have hil : i < (spansL r).length := by omega
      cases e1
      replace e2 : xs[i]? = some z := e2
      have sT := same_upd (o := HO.tup [V.int (i : Int), z]) nT
      obtain ⟨ti, pr, rfl, hpr, hti⟩ := (hP.mono (s2.trans (sm.trans sT))).has e2
      have epr : pr = (st (spansL r) i, en (spansL r) i) := by
        rw [st_en hil] at hpr
        cases hpr
        rfl
      subst epr
      have ek : knl r o (i + 1) = knl r o i ++ (if knB r o i = true then [i] else []) := by
        unfold knl
        rw [List.range_succ, List.filter_append]
        cases h : knB r o i <;> simp [h]
      rw [ek]
      refine ⟨T, _, rfl, .inl (.inl upd_same), rfl, _, _, rfl, _, _, rfl, rfl, rfl, ?_⟩
      refine ⟨_, rfl, _, rfl, pData (st (spansL r) i, en (spansL r) i), (knotsL r o (spansL r).length).map pData, dp_pair hti, Dp.lst (.inl (.inl (sT _ _ (sm _ _ h2)))) (dp_pairs (hK.mono (sm.trans sT))), rfl, shaped_pairs _, _, rfl, ?_⟩
      rw [any_pairs, knots_mem R hil]
      cases hb : knB r o i with
      | true =>
        refine ifT rfl ⟨_, rfl, _, sT _ _ hD, ?_, Same.put (sm.trans sT) nD, ?_⟩
        · rw [nats_len]
          unfold knl
          have := List.length_filter_le (knB r o) (List.range i)
          rw [List.length_range] at this
          exact line_lt (by omega)
        · rw [upd_same, if_pos rfl]
          show some (HO.lst (natsV _ ++ natsV [i])) = _
          rw [← nats_app]
      | false =>
        refine ifF rfl ⟨sm.trans sT, ?_⟩
        rw [if_neg Bool.false_ne_true, List.append_nil]
        exact sT _ _ hD
    rintro H3 ⟨sm3, hD⟩
    rw [hxl] at hD
    have h13 := sm3 _ _ h12
    refine ⟨_, rfl, _, rfl, p1, r, xs, rfl, h13, hP.mono (s2.trans sm3), hlen, R, fun H4 p4 ms s4 n4 h4 L4 => ?_⟩
    have hkl : (knl r o (spansL r).length).length ≤ 5000 := by
      unfold knl
      have := List.length_filter_le (knB r o) (List.range (spansL r).length)
      rw [List.length_range] at this
      omega
    refine ⟨_, rfl, p4, D, r, ms, _, H3, rfl, h4, s4 _ _ hD, L4, hlen, R, hkl, fun H5 p5 ls al s5 n5 h5 L5 G5 D5 => ?_⟩
    rw [knl_all] at G5 D5
    refine ⟨_, rfl, line_ok (by show 3 ≤ 100000; decide), fun p6 n6 => ?_⟩
    have s6 := same_upd (o := HO.tup [V.ref p1, V.ref p5, V.ref D]) n6
    have s36 := s4.trans (s5.trans s6)
    have s06 := s1.trans (s2.trans (sm3.trans s36))
    exact q _ p6 p1 p5 D ls o al s06 ((s1.trans (s2.trans (sm3.trans (s4.trans s5)))).free n6) upd_same (s6 _ _ h5) ⟨_, L5.mono s6⟩ (s36 _ _ hD) O G5 D5

def spKnotLegs (K : PySem.W.Frag) : Sp := fun vs H Q _ => ∃ (a : Addr) (r : List Int), vs = [.ref a] ∧ SqT K H a (intsV r) ∧ r.length ≤ 40 ∧ IsRow r ∧
  ∀ H' p o E legs, Same H H' → H p = none → H' p = some (.lst (natsV legs)) → LegsOk r o E legs → legs.length ≤ 5000 → Q (.ref p) H'

abbrev sKnotLegs : Stmt := topS 19
theorem scKnotLegs : FnScope ["row", "spans", "left", "knotted", "at"] ["row"] (defScope sKnotLegs) := ⟨rfl, rfl, rfl, by decide +kernel, rfl, by decide +kernel, by decide +kernel⟩
-- slots: {'row': 0, 'spans': 1, 'left': 2, 'knotted': 3, 'at': 4}
theorem hasKnotLegs {f : Addr} {fd : FuncData} (F : Fun K "knot_legs" "knot_legs" sKnotLegs f fd) (b : Binds K fd ["row"] []) (g : mg "knot_legs" = some (.ref f)) (M : Bi mg)
    (hLegKnots : Has P w K mg base 1 "leg_knots" ["left", "knotted", "end"] (spLegKnots K)) (hKnotWeb : Has P w K mg base 4 "knot_web" ["row"] (spKnotWeb K)) :
    Has P w K mg base 5 "knot_legs" ["row"] (spKnotLegs K) := by
  obtain ⟨fLegKnots, fdLegKnots, GLegKnots, kLegKnots, bLegKnots, gLegKnots⟩ := hLegKnots
  obtain ⟨fKnotWeb, fdKnotWeb, GKnotWeb, kKnotWeb, bKnotWeb, gKnotWeb⟩ := hKnotWeb
  refine ⟨f, fd, F.ok scKnotLegs (fun vs H Q E h => ?_) (fun cdv A outer s H vs Q E hr h => ?_), F.kp, b, g⟩
  · obtain ⟨a, r, rfl, hT, hlen, R, q⟩ := h
    rfl
  · obtain ⟨a, r, rfl, hT, hlen, R, q⟩ := h
    have nd := scKnotLegs.nd
    refine ⟨_, (pss_cons (ps_asg (pe_call GKnotWeb (hr.mono (by decide)) (by rfl) gKnotWeb kKnotWeb bKnotWeb .nil pass0 (pa_cons (pv 0) pa_nil)) (pg_tup rfl (pgs_cons (pg_name (i := 1) nd rfl (.inl rfl)) (pgs_cons (pg_name (i := 2) nd rfl (.inr rfl)) (pgs_cons (pg_name (i := 3) nd rfl (.inr rfl)) pgs_nil)))))
      (pss_one (ps_ret (pe_lc (own := [("at", 4)]) (g := (gName 4)) (by rfl) nd (pi_list (pv 3)) (blkOk_by (own := [("at", 4)]) (N := ["row", "spans", "left", "knotted", "at"]) (sc := defScope sKnotLegs) (by decide +kernel)) (fun _ _ _ _ _ => (pg_name (i := 4) nd rfl (Or.inl rfl))) (fun _ _ _ _ _ => pts_one (pt_cmpR  op_lt (pe_callB (r := Evl.rLenS K) call_len_seq (by rfl) M.m_len PySem.boot_len (pa_cons (pe_ix (r := rIxL K) ix_list (pv 2) (pv 4) (fun _ _ => rfl)) pa_nil)) pe_int (nomark _))) (fun _ _ _ _ _ => (pe_call GLegKnots (hr.mono (by decide)) (by rfl) gLegKnots kLegKnots bLegKnots .nil pass0 (pa_cons (pv 2) (pa_cons (pv 3) (pa_cons (pv 4) pa_nil))))))))), ?_⟩
    have hsl := spansL_len r hlen
    have T := web_tree (spans R)
    refine ⟨_, rfl, a, r, rfl, hT, hlen, R, fun H1 p1 s l k ls o al s1 n1 h1 hl ⟨Hb, L⟩ hk O G D => ?_⟩
    refine ⟨p1, _, rfl, .inl (.inl h1), rfl, _, _, rfl, _, _, rfl, _, _, rfl, rfl, ?_⟩
    have hkl : (knl r o (spansL r).length).length ≤ 5000 := by
      unfold knl
      have := List.length_filter_le (knB r o) (List.range (spansL r).length)
      rw [List.length_range] at this
      omega
    have hknd : (knl r o (spansL r).length).Nodup := List.Pairwise.filter _ List.nodup_range
    have hkm : ∀ u, u ∈ knl r o (spansL r).length → u < webM (spansL r) ∧ knB r o u = true := fun u hu => by
      obtain ⟨h1, h2⟩ := List.mem_filter.mp hu
      have := List.mem_range.mp h1
      exact ⟨by unfold webM; omega, h2⟩
    refine ⟨_, rfl, k, rfl, ⟨_, .inl (.inl hk)⟩, fun D1 nD => lc_it (walk_list (xs := natsV (knl r o (spansL r).length))) (fun i H' => ∃ legs, Same H1 H' ∧ H' D1 = some (.lst (natsV legs)) ∧ legs.length = (((knl r o (spansL r).length).take i).filter fun u => decide (((links (spansL r) u).filter al).length < 2)).length ∧
        ∀ (j K m : Nat), (((knl r o (spansL r).length).take i).filter fun u => decide (((links (spansL r) u).filter al).length < 2))[j]? = some K → legs[j]? = some m → LegRes (webM (spansL r)) (links (spansL r)) (sideS (spansL r)) (knB r o) K m)
      ⟨[], same_upd nD, upd_same, rfl, fun j K m h => by simp at h⟩ (fun _ _ _ ⟨_, sm, _⟩ => .inl (.inl (sm _ _ hk))) ?_ ?_⟩
    · rintro i x H4 H5 hi ⟨legs, sm, hD, hll, hres⟩ ⟨rfl, hx⟩
      obtain ⟨u, hu, rfl⟩ := nats_at hx
      have hum := List.mem_of_getElem? hu
      obtain ⟨huM, huk⟩ := hkm u hum
      have hala := G.keep u huM huk
      obtain ⟨au, hmu, hfu, hcu⟩ := (L.mono sm).get (i := u) (l := (links (spansL r) u).filter al) (by
        unfold leftL
        rw [List.getElem?_map, List.getElem?_range huM]
        show some (leftO _ _ u) = _
        unfold leftO
        rw [if_pos hala])
      have ef : ((knl r o (spansL r).length).take (i + 1)).filter (fun u => decide (((links (spansL r) u).filter al).length < 2)) = ((knl r o (spansL r).length).take i).filter (fun u => decide (((links (spansL r) u).filter al).length < 2)) ++ (if ((links (spansL r) u).filter al).length < 2 then [u] else []) := by
        rw [List.take_add_one, hu, List.filter_append]
        show _ ++ List.filter _ [u] = _
        by_cases h : ((links (spansL r) u).filter al).length < 2 <;> simp [h]
      rw [ef]
      refine ⟨rfl, _, rfl, _, rfl, l, ls, _, _, rfl, rfl, .inl (.inl (sm _ _ hl)), atI_nat hmu, au, _, rfl, .inl (.inl (.inl hcu)), _, _, rfl, rfl, decide (((links (spansL r) u).filter al).length < 2), ?_, ?_⟩
      · rw [nats_len]
        show V.bl (decide ((((links (spansL r) u).filter al).length : Int) < 2)) = _
        congr 1
        exact decide_eq_decide.mpr (by omega)
      by_cases h2 : ((links (spansL r) u).filter al).length < 2
      · refine ifT (decide_eq_true h2) ⟨_, rfl, _, rfl, _, rfl, l, k, r, ls, _, al, Hb, u, rfl, sm _ _ hl, sm _ _ hk, L.mono sm, hlen, R, hkl, by rw [knl_all]; exact G, by rw [knl_all]; exact D, huM, hum, h2, fun H6 m s6 hm => ?_⟩
        rw [knl_all] at hm
        refine ⟨_, s6 _ _ hD, ?_, legs ++ [m], Same.put (sm.trans s6) nD, ?_, ?_, ?_⟩
        · rw [nats_len, hll]
          have h1 := List.length_filter_le (fun u => decide (((links (spansL r) u).filter al).length < 2)) ((knl r o (spansL r).length).take i)
          rw [List.length_take] at h1
          exact line_lt (by omega)
        · rw [upd_same]
          show some (HO.lst (natsV _ ++ natsV [m])) = _
          rw [← nats_app]
        · rw [if_pos h2, List.length_append, List.length_append, hll]
          rfl
        · intro j K m' h1 h3
          rw [if_pos h2] at h1
          by_cases hj : j < legs.length
          · rw [List.getElem?_append_left (by rw [← hll]; exact hj)] at h1
            rw [List.getElem?_append_left hj] at h3
            exact hres j K m' h1 h3
          · have hb := (List.getElem?_eq_some_iff.mp h3).1
            simp only [List.length_append, List.length_singleton] at hb
            have ej : j = legs.length := by omega
            subst ej
            rw [List.getElem?_concat_length] at h3
            rw [hll, List.getElem?_concat_length] at h1
            cases h1
            cases h3
            exact hm
      · refine ifF (decide_eq_false h2) ⟨legs, sm, hD, ?_, ?_⟩
        · rw [if_neg h2, List.append_nil]
          exact hll
        · rw [if_neg h2, List.append_nil]
          exact hres
    rintro H4 ⟨legs, sm, hD, hll, hres⟩
    rw [show (knl r o (spansL r).length).take (natsV (knl r o (spansL r).length)).length = knl r o (spansL r).length from List.take_of_length_le (by rw [nats_len]; exact Nat.le_refl _)] at hll hres
    refine q H4 D1 o _ legs (s1.trans sm) (s1.free nD) hD ⟨O, List.Pairwise.filter _ hknd, fun K => ?_, hll, hres⟩ ?_
    · rw [List.mem_filter, decide_eq_true_eq]
      constructor
      · rintro ⟨h1, h2⟩
        obtain ⟨h3, h4⟩ := hkm K h1
        exact ⟨h4, (KA.leaf_iff T G D h3 h4).mp h2⟩
      · rintro ⟨h1, h2⟩
        have h3 : K ∈ knl r o (spansL r).length := by
          unfold knl
          exact List.mem_filter.mpr ⟨List.mem_range.mpr (knB_iff.mp h1).1, h1⟩
        exact ⟨h3, (KA.leaf_iff T G D (hkm K h3).1 h1).mpr h2⟩
    · have := List.length_filter_le (fun u => decide (((links (spansL r) u).filter al).length < 2)) (knl r o (spansL r).length)
      omega

def spCostOfLegs (K : PySem.W.Frag) : Sp := fun vs H Q _ => ∃ (l0 : Addr) (legs : List Nat), vs = [.ref l0] ∧ H l0 = some (.lst (natsV legs)) ∧ legs.length ≤ 5000 ∧ ∀ H', Same H H' → Q (.int ((cost legs : Nat) : Int)) H'

abbrev sCostOfLegs : Stmt := topS 20
theorem scCostOfLegs : FnScope ["legs", "many"] ["legs"] (defScope sCostOfLegs) := ⟨rfl, rfl, rfl, by decide +kernel, rfl, by decide +kernel, by decide +kernel⟩
-- slots: {'legs': 0, 'many': 1}
theorem hasCostOfLegs {f : Addr} {fd : FuncData} (F : Fun K "cost_of_legs" "cost_of_legs" sCostOfLegs f fd) (b : Binds K fd ["legs"] []) (g : mg "cost_of_legs" = some (.ref f)) (M : Bi mg) :
    Has P w K mg base 1 "cost_of_legs" ["legs"] (spCostOfLegs K) := by
  refine ⟨f, fd, F.ok scCostOfLegs (fun vs H Q E h => ?_) (fun cdv A outer s H vs Q E hr h => ?_), F.kp, b, g⟩
  · obtain ⟨l0, legs, rfl, hl, hl5, q⟩ := h
    rfl
  · obtain ⟨l0, legs, rfl, hl, hl5, q⟩ := h
    have nd := scCostOfLegs.nd
    refine ⟨_, (pss_cons (ps_set (i := 1) nd rfl (.inl rfl) (pe_callB (r := Evl.rLenS K) call_len_seq (by rfl) M.m_len PySem.boot_len (pa_cons (pv 0) pa_nil)))
      (pss_cons (ps_if (PW.pt (pw_and (pt_cmpR  op_gt (pv 1) pe_int (nomark _)) (pw_and (pt_cmpR  op_eq (pe_op  op_mod (pv 1) pe_int) pe_int (nomark _)) (pw_and1 (pt_cmpR (r := rIn K true) op_notIn_seq pe_int (pv 0) (by rfl))))))
      (pss_one (ps_ret (pe_op  op_add (pv 1) pe_int)))
      pss_nil)
      (pss_one (ps_ret (pv 1))))), ?_⟩
    have h0 : ∀ H', Same H H' → Q (.int ((cost legs : Nat) : Int)) H' := q
    have hm : (((natsV legs).length : Nat) : Int) = (legs.length : Int) := by rw [nats_len]
    refine ⟨_, rfl, l0, _, rfl, .inl (.inl (.inl hl)), ?_⟩
    have keep := q H (fun _ _ h => h)
    have no : ¬ (1 < legs.length ∧ legs.length % 2 = 1 ∧ 1 ∉ legs) → Q (.int (((natsV legs).length : Nat) : Int)) H := fun h => by
      unfold cost at keep
      rw [if_neg h] at keep
      rw [hm]
      exact keep
    refine ⟨_, rfl, _, _, rfl, rfl, decide (1 < legs.length), ?_, ?_⟩
    · rw [hm]
      show V.bl (decide ((1 : Int) < (legs.length : Int))) = _
      congr 1
      exact decide_eq_decide.mpr (by omega)
    by_cases c1 : 1 < legs.length
    · refine ifT (decide_eq_true c1) ⟨_, rfl, _, _, rfl, rfl, (by show (0 : Int) < 2; decide), rfl, decide (legs.length % 2 = 1), ?_, ?_⟩
      · rw [hm]
        show V.bl (decide (V.int ((legs.length : Int) % 2) = V.int 1)) = _
        rw [dec_int]
        congr 1
        exact decide_eq_decide.mpr (by omega)
      by_cases c2 : legs.length % 2 = 1
      · refine ifT (decide_eq_true c2) ⟨_, rfl, l0, _, rfl, .inl (.inl (.inl hl)), rfl, nats_flat legs, _, rfl, ?_⟩
        have ei := inV_nats 1 legs
        have ei' : (if true = true then !inV (V.int 1) (natsV legs) else inV (V.int 1) (natsV legs)) = !decide (1 ∈ legs) := by
          rw [if_pos rfl]
          congr 1
        rw [ei']
        by_cases c3 : 1 ∈ legs
        · refine ifF (by rw [decide_eq_true c3]; rfl) ?_
          exact ⟨_, rfl, no fun h => h.2.2 c3⟩
        · refine ifT (by rw [decide_eq_false c3]; rfl) ⟨_, rfl, _, _, rfl, rfl, ?_⟩
          unfold cost at keep
          rw [if_pos ⟨c1, c2, c3⟩] at keep
          rw [hm]
          exact keep
      · refine ifF (decide_eq_false c2) (ifF rfl ?_)
        exact ⟨_, rfl, no fun h => c2 h.2.1⟩
    · refine ifF (decide_eq_false c1) (ifF rfl ?_)
      exact ⟨_, rfl, no fun h => c1 h.1⟩

def spKnotCost (K : PySem.W.Frag) : Sp := fun vs H Q _ => ∃ (a : Addr) (r : List Int), vs = [.ref a] ∧ SqT K H a (intsV r) ∧ r.length ≤ 40 ∧ IsRow r ∧
  ∀ H' o E legs, Same H H' → LegsOk r o E legs → Q (.int ((cost legs : Nat) : Int)) H'

abbrev sKnotCost : Stmt := topS 21
theorem scKnotCost : FnScope ["row"] ["row"] (defScope sKnotCost) := ⟨rfl, rfl, rfl, by decide +kernel, rfl, by decide +kernel, by decide +kernel⟩
-- slots: {'row': 0}
theorem hasKnotCost {f : Addr} {fd : FuncData} (F : Fun K "knot_cost" "knot_cost" sKnotCost f fd) (b : Binds K fd ["row"] []) (g : mg "knot_cost" = some (.ref f)) (M : Bi mg)
    (hKnotLegs : Has P w K mg base 5 "knot_legs" ["row"] (spKnotLegs K)) (hCostOfLegs : Has P w K mg base 1 "cost_of_legs" ["legs"] (spCostOfLegs K)) :
    Has P w K mg base 6 "knot_cost" ["row"] (spKnotCost K) := by
  obtain ⟨fKnotLegs, fdKnotLegs, GKnotLegs, kKnotLegs, bKnotLegs, gKnotLegs⟩ := hKnotLegs
  obtain ⟨fCostOfLegs, fdCostOfLegs, GCostOfLegs, kCostOfLegs, bCostOfLegs, gCostOfLegs⟩ := hCostOfLegs
  refine ⟨f, fd, F.ok scKnotCost (fun vs H Q E h => ?_) (fun cdv A outer s H vs Q E hr h => ?_), F.kp, b, g⟩
  · obtain ⟨a, r, rfl, hT, hlen, R, q⟩ := h
    rfl
  · obtain ⟨a, r, rfl, hT, hlen, R, q⟩ := h
    have nd := scKnotCost.nd
    refine ⟨_, (pss_one (ps_ret (pe_call GCostOfLegs (hr.mono (by decide)) (by rfl) gCostOfLegs kCostOfLegs bCostOfLegs .nil pass0 (pa_cons (pe_call GKnotLegs (hr.mono (by decide)) (by rfl) gKnotLegs kKnotLegs bKnotLegs .nil pass0 (pa_cons (pv 0) pa_nil)) pa_nil)))), ?_⟩
    refine ⟨_, rfl, a, r, rfl, hT, hlen, R, fun H1 p1 o E1 legs s1 n1 h1 ok hl => ?_⟩
    exact ⟨p1, legs, rfl, h1, hl, fun H2 s2 => q H2 o E1 legs (s1.trans s2) ok⟩

def spTurnScore (K : PySem.W.Frag) : Sp := fun vs H Q _ => ∃ (a : Addr) (r : List Int), vs = [.ref a] ∧ SqT K H a (intsV r) ∧ r.length ≤ 40 ∧ IsRow r ∧
  ∀ H' o E legs, Same H H' → LegsOk r o E legs → Q (.int ((r.length : Int) + 1 - (rings r : Int) + ((cost legs : Nat) : Int))) H'

abbrev sTurnScore : Stmt := topS 22
theorem scTurnScore : FnScope ["row"] ["row"] (defScope sTurnScore) := ⟨rfl, rfl, rfl, by decide +kernel, rfl, by decide +kernel, by decide +kernel⟩
-- slots: {'row': 0}
theorem hasTurnScore {f : Addr} {fd : FuncData} (F : Fun K "turn_score" "turn_score" sTurnScore f fd) (b : Binds K fd ["row"] []) (g : mg "turn_score" = some (.ref f)) (M : Bi mg)
    (hTieRings : Has P w K mg base 4 "tie_rings" ["row"] (spTieRings K)) (hKnotCost : Has P w K mg base 6 "knot_cost" ["row"] (spKnotCost K)) :
    Has P w K mg base 7 "turn_score" ["row"] (spTurnScore K) := by
  obtain ⟨fTieRings, fdTieRings, GTieRings, kTieRings, bTieRings, gTieRings⟩ := hTieRings
  obtain ⟨fKnotCost, fdKnotCost, GKnotCost, kKnotCost, bKnotCost, gKnotCost⟩ := hKnotCost
  refine ⟨f, fd, F.ok scTurnScore (fun vs H Q E h => ?_) (fun cdv A outer s H vs Q E hr h => ?_), F.kp, b, g⟩
  · obtain ⟨a, r, rfl, hT, hlen, R, q⟩ := h
    rfl
  · obtain ⟨a, r, rfl, hT, hlen, R, q⟩ := h
    have nd := scTurnScore.nd
    refine ⟨_, (pss_one (ps_ret (pe_op  op_add (pe_op  op_sub (pe_op  op_add (pe_callB (r := Evl.rLenS K) call_len_seq (by rfl) M.m_len PySem.boot_len (pa_cons (pv 0) pa_nil)) pe_int) (pe_callB (r := Evl.rLenS K) call_len_seq (by rfl) M.m_len PySem.boot_len (pa_cons (pe_call GTieRings (hr.mono (by decide)) (by rfl) gTieRings kTieRings bTieRings .nil pass0 (pa_cons (pv 0) pa_nil)) pa_nil))) (pe_call GKnotCost (hr.mono (by decide)) (by rfl) gKnotCost kKnotCost bKnotCost .nil pass0 (pa_cons (pv 0) pa_nil))))), ?_⟩
    refine ⟨_, rfl, a, _, rfl, .inr hT, _, _, rfl, rfl, _, rfl, a, r, rfl, hT, hlen, R, fun H1 p1 xs s1 n1 h1 hx => ?_⟩
    refine ⟨p1, _, rfl, .inl (.inl (.inl h1)), _, _, rfl, rfl, _, rfl, a, r, rfl, sameT s1 hT, hlen, R, fun H2 o E1 legs s2 ok => ?_⟩
    refine ⟨_, _, rfl, rfl, ?_⟩
    rw [hx, ints_len]
    exact q H2 o E1 legs (s1.trans s2) ok
end
end WP
namespace WQ
open PySem PySem.Spec PyProof.Rows L2 WA WB WC WD WE KL

/-! ### signed rows, kept by turning -/
def Rw (l : List Int) : Prop := (l.map Int.natAbs).Perm (List.range' 1 l.length)
theorem Rw.of {l l' : List Int} (h : Rw l) (p : (l'.map Int.natAbs).Perm (l.map Int.natAbs)) : Rw l' := by
  have e : l'.length = l.length := by
    have := p.length_eq
    rwa [List.length_map, List.length_map] at this
  unfold Rw at *
  rw [e]
  exact p.trans h
theorem Rw.nil : Rw [] := List.Perm.nil
theorem Rw.snoc {l : List Int} (h : Rw l) : Rw (l ++ [((l.length : Nat) : Int) + 1]) := by
  unfold Rw at *
  rw [List.map_append, List.length_append, List.length_singleton, List.range'_1_concat]
  have e : [((l.length : Nat) : Int) + 1].map Int.natAbs = [1 + l.length] := by
    show [Int.natAbs (((l.length : Nat) : Int) + 1)] = _
    congr 1
    omega
  rw [e]
  exact h.append_right _
theorem Rw.rot {x : Int} {t : List Int} (h : Rw (x :: t)) : Rw (t ++ [x]) := h.of (by
  rw [List.map_append, List.map_cons]
  exact List.perm_append_comm (l₁ := t.map Int.natAbs) (l₂ := [x.natAbs]))
theorem Rw.turn {l st : List Int} {f : Nat} (h : Rw l) (p : (st.map Int.natAbs).Perm ((l.drop f).map Int.natAbs)) : Rw (l.take f ++ st) := h.of (by
  have e : l.map Int.natAbs = (l.take f).map Int.natAbs ++ (l.drop f).map Int.natAbs := by rw [← List.map_append, List.take_append_drop]
  rw [List.map_append, e]
  exact List.Perm.append_left _ p)
theorem Rw.row {l : List Int} (h : Rw l) : IsRow l := by
  refine ⟨fun x hx => ?_, ?_⟩
  · have := h.mem_iff.mp (List.mem_map.mpr ⟨x, hx, rfl⟩)
    rw [List.mem_range'_1] at this
    omega
  · exact h.nodup_iff.mpr (List.nodup_range' (step := 1))
theorem cut_from (l : List Int) (f : Nat) : cutV (intsV l) (some (f : Int)) none = intsV (l.drop f) := by
  unfold cutV
  rw [HT.sIx_nat, HT.sIx_none, ints_len]
  unfold intsV
  rw [← List.map_drop, ← List.map_take]
  congr 1
  by_cases h : f ≤ l.length
  · rw [show min f l.length = f by omega]
    exact List.take_of_length_le (by rw [List.length_drop]; exact Nat.le_refl _)
  · rw [show min f l.length = l.length by omega, List.drop_of_length_le (Nat.le_refl _), List.drop_of_length_le (by omega), List.take_nil]
theorem cdiv {i j : Int} (h1 : 0 < j) (h2 : j < 1073741824) : CDiv i j := ⟨h1, h2⟩
theorem cut_to (l : List Int) (f : Nat) : cutV (intsV l) none (some (f : Int)) = intsV (l.take f) := by
  unfold cutV
  rw [HT.sIx_nat, HT.sIx_none, ints_len]
  unfold intsV
  rw [← List.map_drop, ← List.map_take]
  congr 1
  rw [List.drop_zero, Nat.sub_zero]
  by_cases h : f ≤ l.length
  · rw [show min f l.length = f by omega]
  · rw [show min f l.length = l.length by omega, List.take_of_length_le (Nat.le_refl _), List.take_of_length_le (by omega)]

section
variable {P : Program} {w : World} {K : PySem.W.Frag} {mg : Str → Option Value} {base : Heap}

def spLawCellAt (K : PySem.W.Frag) : Sp := fun vs H Q _ => ∃ (a : Addr) (ns : List Int) (k : Nat), vs = [.ref a, .int (k : Int)] ∧ SqL K H a (intsV ns) ∧ ∀ H', Same H H' → Q (.int (ns.getD k 0)) H'

abbrev sLawCellAt : Stmt := topS 24
theorem scLawCellAt : FnScope ["script", "k"] ["script", "k"] (defScope sLawCellAt) := ⟨rfl, rfl, rfl, by decide +kernel, rfl, by decide +kernel, by decide +kernel⟩
-- slots: {'script': 0, 'k': 1}
theorem hasLawCellAt {f : Addr} {fd : FuncData} (F : Fun K "_law_cell_at" "_law_cell_at" sLawCellAt f fd) (b : Binds K fd ["script", "k"] []) (g : mg "_law_cell_at" = some (.ref f)) (M : Bi mg) :
    Has P w K mg base 1 "_law_cell_at" ["script", "k"] (spLawCellAt K) := by
  refine ⟨f, fd, F.ok scLawCellAt (fun vs H Q E h => ?_) (fun cdv A outer s H vs Q E hr h => ?_), F.kp, b, g⟩
  · obtain ⟨a, ns, k, rfl, hS, q⟩ := h
    rfl
  · obtain ⟨a, ns, k, rfl, hS, q⟩ := h
    have nd := scLawCellAt.nd
    refine ⟨_, (pss_cons (ps_if (pt_cmpR  op_lt (pv 1) (pe_callB (r := Evl.rLenS K) call_len_seq (by rfl) M.m_len PySem.boot_len (pa_cons (pv 0) pa_nil)) (nomark _))
      (pss_one (ps_ret (pe_ix (r := rIxL K) ix_list (pv 0) (pv 1) (fun _ _ => rfl))))
      pss_nil)
      (pss_one (ps_ret pe_int))), ?_⟩
    have keep := q H (fun _ _ h => h)
    refine ⟨_, rfl, _, rfl, a, _, rfl, .inl hS, _, _, rfl, rfl, decide (k < ns.length), ?_, ?_⟩
    · rw [ints_len]
      show V.bl (decide ((k : Int) < (ns.length : Int))) = _
      congr 1
      exact decide_eq_decide.mpr (by omega)
    rw [List.getD_eq_getElem?_getD] at keep
    by_cases c : k < ns.length
    · refine ifT (decide_eq_true c) ⟨_, rfl, _, rfl, a, _, _, _, rfl, rfl, hS, atI_nat (ints_get (List.getElem?_eq_getElem c)), ?_⟩
      rw [List.getElem?_eq_getElem c] at keep
      exact keep
    · refine ifF (decide_eq_false c) ?_
      rw [List.getElem?_eq_none (by omega)] at keep
      exact keep

def spLawRowOfKins (K : PySem.W.Frag) : Sp := fun vs H Q _ => ∃ (a : Addr) (ns : List Int) (at_ many : Nat), vs = [.ref a, .int (at_ : Int), .int (many : Int)] ∧ SqL K H a (intsV ns) ∧ many ≤ 40 ∧
  ∀ H' p r, Same H H' → H' p = some (.tup (intsV r)) → IsRow r → r.length ≤ 40 → Q (.ref p) H'

abbrev sLawRowOfKins : Stmt := topS 25
theorem scLawRowOfKins : FnScope ["script", "at", "many", "row", "k", "cell", "first", "stretch", "number"] ["script", "at", "many"] (defScope sLawRowOfKins) := ⟨rfl, rfl, rfl, by decide +kernel, rfl, by decide +kernel, by decide +kernel⟩
-- slots: {'script': 0, 'at': 1, 'many': 2, 'row': 3, 'k': 4, 'cell': 5, 'first': 6, 'stretch': 7, 'number': 8}
theorem hasLawRowOfKins {f : Addr} {fd : FuncData} (F : Fun K "_law_row_of_kins" "_law_row_of_kins" sLawRowOfKins f fd) (b : Binds K fd ["script", "at", "many"] []) (g : mg "_law_row_of_kins" = some (.ref f)) (M : Bi mg)
    (hLawCellAt : Has P w K mg base 1 "_law_cell_at" ["script", "k"] (spLawCellAt K)) :
    Has P w K mg base 2 "_law_row_of_kins" ["script", "at", "many"] (spLawRowOfKins K) := by
  obtain ⟨fLawCellAt, fdLawCellAt, GLawCellAt, kLawCellAt, bLawCellAt, gLawCellAt⟩ := hLawCellAt
  refine ⟨f, fd, F.ok scLawRowOfKins (fun vs H Q E h => ?_) (fun cdv A outer s H vs Q E hr h => ?_), F.kp, b, g⟩
  · obtain ⟨a, ns, at_, many, rfl, hS, hm, q⟩ := h
    rfl
  · obtain ⟨a, ns, at_, many, rfl, hS, hm, q⟩ := h
    have nd := scLawRowOfKins.nd
    refine ⟨_, (pss_cons (ps_set (i := 3) nd rfl (.inl rfl) (pe_lst pa_nil))
      (pss_cons (ps_for PassesOwn.never rfl (pi_range1 rfl M.m_range (pa_cons (pv 2) pa_nil)) (pg_name (i := 4) nd rfl (.inl rfl))
      (pss_cons (ps_set (i := 5) nd rfl (.inl rfl) (pe_op  op_mod (pe_call GLawCellAt (hr.mono (by decide)) (by rfl) gLawCellAt kLawCellAt bLawCellAt .nil pass0 (pa_cons (pv 0) (pa_cons (pe_op  op_add (pv 1) (pv 4)) pa_nil))) (pe_op  op_pow pe_int pe_int)))
        (Evl.pss_cut (ps_if (PW.pt (pw_and (pt_cmpR  op_eq (pe_op  op_mod (pe_op  op_fdiv (pv 5) pe_int) pe_int) pe_int (nomark _)) (pw_and1 (pt_cmpR  op_gt (pe_callB (r := Evl.rLenS K) call_len_seq (by rfl) M.m_len PySem.boot_len (pa_cons (pv 3) pa_nil)) pe_int (nomark _)))))
        (pss_one (ps_set (i := 3) nd rfl (.inl rfl) (pe_op  op_cat (pe_slice (r := rSlL K) sl_list (pv 3) (po_some pe_int) po_none) (pe_lst (pa_cons (pe_ix (r := rIxL K) ix_list (pv 3) pe_int (fun _ _ => rfl)) pa_nil)))))
        pss_nil)
        (pss_cons (ps_expr (pe_bm  PySem.F.plainAttrs_list PySem.F.slot_list_append PySem.F.type_list_append mt_append (pv 3) (pa_cons (pe_op  op_add (pv 4) pe_int) pa_nil)))
        (pss_one (ps_if (pt_cmpR  op_gt (pe_op  op_mod (pv 5) pe_int) pe_int (nomark _))
        (pss_cons (ps_set (i := 6) nd rfl (.inl rfl) (pe_callB  (call_max2 rfl) (by rfl) M.m_max (by decide +kernel) (pa_cons pe_int (pa_cons (pe_op  op_sub (pe_op  op_sub (pe_callB (r := Evl.rLenS K) call_len_seq (by rfl) M.m_len PySem.boot_len (pa_cons (pv 3) pa_nil)) pe_int) (pe_op  op_mod (pe_op  op_fdiv (pv 5) pe_int) pe_int)) pa_nil))))
          (pss_cons (ps_set (i := 7) nd rfl (.inl rfl) (pe_slice (r := rSlL K) sl_list (pv 3) (po_some (pv 6)) po_none))
          (Evl.pss_cut (ps_if (pt_cmpR  op_eq (pe_op  op_mod (pv 5) pe_int) pe_int (nomark _))
          (pss_one (ps_set (i := 7) nd rfl (.inl rfl) (WR4.pe_lstRev (by rfl) (by rfl) M.m_list (by rfl) M.m_reversed (pv 7))))
          pss_nil)
          (Evl.pss_cut (ps_if (pt_cmpR  op_eq (pe_op  op_mod (pv 5) pe_int) pe_int (nomark _))
          (pss_one (ps_setLc (i := 7) (own := [("number", 8)]) (g := (gName 8)) rfl nd rfl rfl (sw_true rfl rfl rfl (by decide +kernel)) (pi_reversed (by rfl) M.m_reversed (pa_cons (pv 7) pa_nil)) (blkOk_by (own := [("number", 8)]) (N := ["script", "at", "many", "row", "k", "cell", "first", "stretch", "number"]) (sc := defScope sLawRowOfKins) (by decide +kernel)) (fun _ _ _ _ _ => (pg_name (i := 8) nd rfl (Or.inl rfl))) (fun _ _ _ _ _ => pts_nil) (fun _ _ _ _ _ => (pe_op  op_sub pe_int (pv 8)))))
          pss_nil)
          (pss_one (ps_set (i := 3) nd rfl (.inl rfl) (pe_op  op_cat (pe_slice (r := rSlL K) sl_list (pv 3) po_none (po_some (pv 6))) (pv 7))))))))
        pss_nil))))))
      (pss_one (ps_ret (pe_callTy (T := "tuple") (r := WA.rTup K) call_tuple_of (by rfl) M.m_tuple (by decide +kernel) (pa_cons (pv 3) pa_nil)))))), ?_⟩
    refine ⟨Nat.zero_le _, fun p3 n3 => ?_⟩
    have s3 := same_upd (o := HO.lst []) n3
    refine ⟨_, rfl, _, rfl, ?_, ?_, ?_⟩
    · omega
    · show (many : Int) < 2 ^ 62; omega
    rw [show ((many : Int)).toNat = many by omega]
    refine for_it walk_rng0 (fun k σ H' => ∃ v4 v5 v6 v7 p l, σ = [some (.ref a), some (.int (at_ : Int)), some (.int (many : Int)), some (.ref p), v4, v5, v6, v7, none] ∧ Same H H' ∧ H p = none ∧ H' p = some (.lst (intsV l)) ∧ Rw l ∧ l.length = k)
      ⟨none, none, none, none, p3, [], rfl, s3, n3, upd_same, Rw.nil, rfl⟩ (fun _ _ _ _ _ => trivial) ?_ ?_
    · rintro k x σ H4 H5 hk ⟨v4, v5, v6, v7, p, l, rfl, sm, np, hp, hR, hl⟩ ⟨rfl, rfl⟩
      refine ⟨_, rfl, _, rfl, _, rfl, _, _, rfl, rfl, a, ns, at_ + k, rfl, Evl.ex_l sm hS, fun H6 s6 => ?_⟩
      refine ⟨_, _, rfl, rfl, ⟨by decide, by decide, by decide⟩, _, _, rfl, rfl, (by show (0 : Int) < 10 ^ 12; decide), ?_⟩
      dsimp only [gName]
      generalize ns.getD (at_ + k) 0 % (10 ^ (12 : Int).toNat) = c
      have sm6 := sm.trans s6
      have hp6 := s6 _ _ hp
      refine ⟨fun σ' H' => ∃ p l, σ' = [some (.ref a), some (.int (at_ : Int)), some (.int (many : Int)), some (.ref p), some (.int (k : Int)), some (.int c), v6, v7, none] ∧ Same H H' ∧ H p = none ∧ H' p = some (.lst (intsV l)) ∧ Rw l ∧ l.length = k, ?_, ?_⟩
      · refine ⟨_, rfl, _, _, rfl, rfl, cdiv (by decide) (by decide), _, _, rfl, rfl, (by show (0 : Int) < 3; decide), rfl, _, rfl, ?_⟩
        by_cases c1 : c / 4 % 3 = 1
        · refine ifT (by rw [dec_int]; exact decide_eq_true c1) ⟨_, rfl, p, _, rfl, .inl (.inl (.inl hp6)), _, _, rfl, rfl, decide (1 < l.length), ?_, ?_⟩
          · rw [ints_len]
            show V.bl (decide ((1 : Int) < (l.length : Int))) = _
            congr 1
            exact decide_eq_decide.mpr (by omega)
          by_cases c2 : 1 < l.length
          · obtain ⟨y, t, rfl⟩ : ∃ y t, l = y :: t := by
              cases l with
              | nil => exact absurd c2 (by simp)
              | cons y t => exact ⟨y, t, rfl⟩
            refine ifT (decide_eq_true c2) ⟨_, rfl, 1, rfl, p, _, rfl, .inl (.inl hp6), fun p7 n7 => ?_⟩
            rw [show cutV (intsV (y :: t)) (some 1) none = intsV t from cut_from (y :: t) 1]
            have s7 := same_upd (o := HO.lst (intsV t)) n7
            refine ⟨_, rfl, p, _, _, _, rfl, rfl, .inl (.inl (s7 _ _ hp6)), atI_nat (j := 0) (v := V.int y) rfl, line_ok (by show 1 ≤ 100000; decide), fun p8 n8 => ?_⟩
            have s8 := same_upd (o := HO.lst [V.int y]) n8
            have hlt : t.length + 1 = k := hl
            refine ⟨p7, p8, _, _, rfl, rfl, s8 _ _ upd_same, upd_same, ?_, fun p9 n9 => ?_⟩
            · rw [ints_len]
              exact line_ok (by show t.length + 1 ≤ 100000; omega)
            · refine ⟨p9, t ++ [y], rfl, (sm6.trans (s7.trans s8)).trans (same_upd n9), (sm6.trans (s7.trans s8)).free n9, ?_, hR.rot, by simpa using hlt⟩
              rw [upd_same]
              unfold intsV
              rw [List.map_append]
              rfl
          · refine ifF (decide_eq_false c2) ⟨p, l, rfl, sm6, np, hp6, hR, hl⟩
        · refine ifF (by rw [dec_int]; exact decide_eq_false c1) (ifF rfl ⟨p, l, rfl, sm6, np, hp6, hR, hl⟩)
      · rintro σ' H7 ⟨p, l, rfl, sm, np, hp, hR, hl⟩
        refine ⟨_, rfl, .inl ⟨rfl, _, .inl (.inl hp)⟩, _, rfl, _, _, rfl, rfl, p, _, _, rfl, rfl, hp, ?_, ?_⟩
        · rw [ints_len]
          exact line_lt (by omega)
        have ea : intsV l ++ [V.int ((k : Int) + 1)] = intsV (l ++ [(l.length : Int) + 1]) := by
          unfold intsV
          rw [List.map_append, hl]
          rfl
        rw [ea]
        have sm8 : Same H (upd H7 p (.lst (intsV (l ++ [(l.length : Int) + 1])))) := Same.put sm np
        have hp8 : (upd H7 p (.lst (intsV (l ++ [(l.length : Int) + 1])))) p = some (.lst (intsV (l ++ [(l.length : Int) + 1]))) := upd_same
        have hR8 := hR.snoc
        have hl8 : (l ++ [(l.length : Int) + 1]).length = k + 1 := by simp [hl]
        generalize upd H7 p (.lst (intsV (l ++ [(l.length : Int) + 1]))) = H8 at sm8 hp8
        generalize l ++ [(l.length : Int) + 1] = l8 at hp8 hR8 hl8
        refine ⟨_, rfl, _, _, rfl, rfl, (by show (0 : Int) < 4; decide), _, _, rfl, rfl, _, rfl, ?_⟩
        by_cases c1 : (0 : Int) < c % 4
        · refine ifT (decide_eq_true c1) ?_
          refine ⟨_, rfl, p, _, rfl, .inl (.inl (.inl hp8)), _, _, rfl, rfl, _, rfl, _, _, rfl, rfl, cdiv (by decide) (by decide), _, _, rfl, rfl, (by show (0 : Int) < 4; decide), _, _, rfl, rfl, _, _, rfl, ?_⟩
          obtain ⟨f, hf⟩ : ∃ f : Nat, (if (((intsV l8).length : Nat) : Int) - 1 - c / 12 % 4 > 0 then (((intsV l8).length : Nat) : Int) - 1 - c / 12 % 4 else 0) = (f : Int) := by
            split
            · exact ⟨((((intsV l8).length : Nat) : Int) - 1 - c / 12 % 4).toNat, by omega⟩
            · exact ⟨0, rfl⟩
          rw [hf]
          refine ⟨_, rfl, _, rfl, _, rfl, p, _, rfl, .inl (.inl hp8), fun p9 n9 => ?_⟩
          rw [cut_from]
          have s9 := same_upd (o := HO.lst (intsV (l8.drop f))) n9
          refine ⟨fun σ' H' => ∃ ps st, σ' = [some (.ref a), some (.int (at_ : Int)), some (.int (many : Int)), some (.ref p), some (.int (k : Int)), some (.int c), some (.int (f : Int)), some (.ref ps), none] ∧ Same H8 H' ∧ H' ps = some (.lst (intsV st)) ∧ (st.map Int.natAbs).Perm ((l8.drop f).map Int.natAbs), ?_, ?_⟩
          · refine ⟨_, rfl, _, _, rfl, rfl, (by show (0 : Int) < 4; decide), rfl, _, rfl, ?_⟩
            by_cases c2 : c % 4 = 1
            · refine ifT (by rw [dec_int]; exact decide_eq_true c2) ⟨_, rfl, p9, _, rfl, .inl (.inl upd_same), fun p10 n10 => ⟨p10, (l8.drop f).reverse, rfl, s9.trans (same_upd n10), ?_, ?_⟩⟩
              · rw [upd_same]
                unfold intsV
                rw [List.map_reverse]
              · rw [List.map_reverse]
                exact List.reverse_perm _
            · refine ifF (by rw [dec_int]; exact decide_eq_false c2) ⟨p9, l8.drop f, rfl, s9, upd_same, List.Perm.refl _⟩
          rintro σ' H10 ⟨ps, st, rfl, s10, hps, hst⟩
          refine ⟨fun σ' H' => ∃ ps st, σ' = [some (.ref a), some (.int (at_ : Int)), some (.int (many : Int)), some (.ref p), some (.int (k : Int)), some (.int c), some (.int (f : Int)), some (.ref ps), none] ∧ Same H8 H' ∧ H' ps = some (.lst (intsV st)) ∧ (st.map Int.natAbs).Perm ((l8.drop f).map Int.natAbs), ?_, ?_⟩
          · refine ⟨_, rfl, _, _, rfl, rfl, (by show (0 : Int) < 4; decide), rfl, _, rfl, ?_⟩
            by_cases c2 : c % 4 = 2
            · have hstl : st.length ≤ k + 1 := by
                have := hst.length_eq
                rw [List.length_map, List.length_map, List.length_drop] at this
                omega
              refine ifT (by rw [dec_int]; exact decide_eq_true c2) ⟨_, rfl, ps, _, rfl, .inl (.inl hps), fun D nD => lc_it (walk_rev (K := K) (a := ps) (xs := intsV st)) (fun i H' => Same H10 H' ∧ H' D = some (.lst (intsV ((st.reverse.take i).map fun x => 0 - x)))) ⟨same_upd nD, upd_same⟩ (fun _ _ _ h => .inl (.inl (h.1 _ _ hps))) ?_ ?_⟩
              · rintro i x H11 H12 hi ⟨sm11, hD⟩ ⟨rfl, hx⟩
                rw [ints_len] at hi hx
                obtain ⟨y, hy⟩ : ∃ y, st[st.length - 1 - i]? = some y := ⟨_, List.getElem?_eq_getElem (by omega)⟩
                rw [ints_get hy] at hx
                cases hx
                have hy2 : st.reverse[i]? = some y := by
                  rw [List.getElem?_reverse hi]
                  exact hy
                refine ⟨rfl, _, rfl, _, _, rfl, rfl, _, hD, ?_, Same.put sm11 nD, ?_⟩
                · rw [ints_len, List.length_map, List.length_take, List.length_reverse]
                  exact line_lt (by omega)
                · rw [upd_same, List.take_add_one, hy2, List.map_append]
                  unfold intsV
                  rw [List.map_append]
                  rfl
              rintro H11 ⟨sm11, hD⟩
              refine ⟨D, _, rfl, s10.trans sm11, hD, ?_⟩
              rw [ints_len, List.take_of_length_le (by rw [List.length_reverse]; exact Nat.le_refl _), List.map_map]
              have e : (Int.natAbs ∘ fun x => 0 - x) = Int.natAbs := by
                funext x
                show (0 - x).natAbs = x.natAbs
                omega
              rw [e, List.map_reverse]
              exact (List.reverse_perm _).trans hst
            · refine ifF (by rw [dec_int]; exact decide_eq_false c2) ⟨ps, st, rfl, s10, hps, hst⟩
          rintro σ' H11 ⟨ps, st, rfl, s11, hps, hst⟩
          refine ⟨_, rfl, _, rfl, _, rfl, p, _, rfl, .inl (.inl (s11 _ _ hp8)), fun p12 n12 => ?_⟩
          rw [cut_to]
          have s12 := same_upd (o := HO.lst (intsV (l8.take f))) n12
          have hRt := hR8.turn hst
          have hlt : (l8.take f ++ st).length = k + 1 := by
            have := hst.length_eq
            rw [List.length_map, List.length_map, List.length_drop] at this
            rw [List.length_append, List.length_take]
            omega
          refine ⟨_, rfl, p12, ps, _, _, rfl, rfl, upd_same, s12 _ _ hps, ?_, fun p13 n13 => ?_⟩
          · rw [ints_len, ints_len, ← List.length_append, hlt]
            exact line_ok (by omega)
          · have s13 := (s11.trans s12).trans (same_upd (o := HO.lst (intsV (l8.take f) ++ intsV st)) n13)
            refine ⟨_, _, _, _, p13, l8.take f ++ st, rfl, sm8.trans s13, sm8.free ((s11.trans s12).free n13), ?_, hRt, hlt⟩
            rw [upd_same]
            unfold intsV
            rw [List.map_append]
        · refine ifF (decide_eq_false c1) ⟨_, _, _, _, p, l8, rfl, sm8, np, hp8, hR8, hl8⟩
    · rintro σ H4 ⟨v4, v5, v6, v7, p, l, rfl, sm, np, hp, hR, hl⟩
      refine ⟨_, rfl, p, _, rfl, .inl ⟨.inl (.inl hp), fun t nt => ?_⟩⟩
      exact q _ t l (sm.trans (same_upd nt)) upd_same hR.row (by omega)
end
end WQ
namespace WS
open PySem PySem.Spec PyProof.Rows L2 WA WB WC WD WE WQ KL

/-! ### rows from nought, blown up at a place -/
def Zr (l : List Int) : Prop := l.Nodup ∧ ∀ x, x ∈ l → 0 ≤ x ∧ x < (l.length : Int)
def bump (low x : Int) : Int := x + 3 * (if low < x then 1 else 0)
theorem bump_eq (low x : Int) : bump low x = if low < x then x + 3 else x := by
  unfold bump
  split <;> omega
def blow (l : List Int) (s : Nat) (low : Int) (inner : List Int) : List Int := (l.map (bump low)).take s ++ inner ++ (l.map (bump low)).drop (s + 1)
theorem Zr.perm {l l' : List Int} (h : Zr l) (p : l'.Perm l) : Zr l' :=
  ⟨p.nodup_iff.mpr h.1, fun x hx => by
    rw [p.length_eq]
    exact h.2 x (p.mem_iff.mp hx)⟩
theorem Zr.up {l : List Int} {s : Nat} {low : Int} {inner : List Int} (h : Zr l) (hs : l[s]? = some low) (hp : inner.Perm [low, low + 1, low + 2, low + 3]) : Zr (blow l s low inner) ∧ (blow l s low inner).length = l.length + 3 := by
  have hsl := (List.getElem?_eq_some_iff.mp hs).1
  have hel : l = l.take s ++ low :: l.drop (s + 1) := by
    have e := (List.getElem?_eq_some_iff.mp hs).2
    rw [← e, List.getElem_cons_drop hsl, List.take_append_drop]
  have e1 : blow l s low inner = (l.take s).map (bump low) ++ inner ++ (l.drop (s + 1)).map (bump low) := by
    unfold blow
    rw [← List.map_take, ← List.map_drop]
  rw [e1]
  have hla : (l.take s).length + (l.drop (s + 1)).length + 1 = l.length := by
    rw [List.length_take, List.length_drop]
    omega
  generalize l.take s = a at hel hla
  generalize l.drop (s + 1) = c at hel hla
  have hp4 : inner.length = 4 := by
    have := hp.length_eq
    simpa using this
  have hlen : (a.map (bump low) ++ inner ++ c.map (bump low)).length = l.length + 3 := by
    simp only [List.length_append, List.length_map]
    omega
  refine ⟨?_, hlen⟩
  have P : (a.map (bump low) ++ inner ++ c.map (bump low)).Perm ((a ++ c).map (bump low) ++ [low, low + 1, low + 2, low + 3]) := by
    rw [List.map_append, List.append_assoc, List.append_assoc]
    refine List.Perm.append_left _ ?_
    exact (List.perm_append_comm).trans (List.Perm.append_left _ hp)
  have hnl : (low :: (a ++ c)).Nodup := by
    rw [hel] at h
    exact (List.perm_middle.nodup_iff).mp h.1
  have hno := (List.nodup_cons.mp hnl).1
  have hac := (List.nodup_cons.mp hnl).2
  have hb : ∀ x, x ∈ a ++ c → 0 ≤ x ∧ x < (l.length : Int) := by
    intro x hx
    apply h.2
    rw [hel]
    rcases List.mem_append.mp hx with q | q
    · exact List.mem_append_left _ q
    · exact List.mem_append_right _ (List.mem_cons_of_mem _ q)
  have hlow := h.2 low (by rw [hel]; simp)
  refine ⟨P.nodup_iff.mpr ?_, fun x hx => ?_⟩
  · rw [List.nodup_append]
    refine ⟨?_, ?_, ?_⟩
    · refine List.pairwise_map.mpr ?_
      refine List.Pairwise.imp ?_ hac
      intro x y hxy
      rw [bump_eq, bump_eq]
      split <;> split <;> omega
    · simp
      omega
    · intro x hx y hy e
      obtain ⟨z, hz, rfl⟩ := List.mem_map.mp hx
      have hzl : z ≠ low := fun e => hno (e ▸ hz)
      rw [bump_eq] at e
      simp only [List.mem_cons, List.not_mem_nil, or_false] at hy
      split at e <;> omega
  · rw [hlen]
    rcases List.mem_append.mp (P.mem_iff.mp hx) with q | q
    · obtain ⟨z, hz, rfl⟩ := List.mem_map.mp q
      have := hb z hz
      rw [bump_eq]
      split <;> omega
    · simp only [List.mem_cons, List.not_mem_nil, or_false] at q
      omega
theorem Zr.row {l fl : List Int} (h : Zr l) (e : fl.map Int.natAbs = l.map (fun x => (x + 1).natAbs)) : IsRow fl := by
  have hl : fl.length = l.length := by
    have := congrArg List.length e
    rwa [List.length_map, List.length_map] at this
  refine ⟨fun x hx => ?_, ?_⟩
  · have : x.natAbs ∈ l.map (fun x => (x + 1).natAbs) := by
      rw [← e]
      exact List.mem_map.mpr ⟨x, hx, rfl⟩
    obtain ⟨y, hy, e2⟩ := List.mem_map.mp this
    have := h.2 y hy
    omega
  · rw [e]
    refine List.pairwise_map.mpr (List.Pairwise.imp_of_mem ?_ h.1)
    intro x y hx hy hxy
    have := h.2 x hx
    have := h.2 y hy
    omega
theorem cmul3 (j : Int) : CMul 3 j := .inl ⟨by decide, by decide⟩
theorem bumpV (low x : Int) : V.int (x + 3 * (if decide (low < x) = true then 1 else 0)) = V.int (bump low x) := by
  unfold bump
  by_cases h : low < x
  · rw [if_pos (decide_eq_true h), if_pos h]
  · rw [if_neg (by simpa using h), if_neg h]
theorem ints_take {l : List Int} {i : Nat} {x : Int} (f : Int → Int) (h : l[i]? = some x) : intsV ((l.take (i + 1)).map f) = intsV ((l.take i).map f) ++ [V.int (f x)] := by
  rw [List.take_add_one, h]
  unfold intsV
  rw [List.map_append, List.map_append]
  rfl
theorem ints_at {l : List Int} {i : Nat} {x : V} (h : (intsV l)[i]? = some x) : ∃ g, l[i]? = some g ∧ x = .int g := by
  unfold intsV at h
  rw [List.getElem?_map] at h
  cases e : l[i]? with
  | none =>
    rw [e] at h
    cases h
  | some g =>
    rw [e] at h
    cases h
    exact ⟨g, rfl, rfl⟩
theorem ints_app (a b : List Int) : intsV (a ++ b) = intsV a ++ intsV b := List.map_append

section
variable {P : Program} {w : World} {K : PySem.W.Frag} {mg : Str → Option Value} {base : Heap}

def spLawPutIn (K : PySem.W.Frag) : Sp := fun vs H Q _ => ∃ (a : Addr) (l : List Int) (sp : Nat), vs = [.ref a, .int (sp : Int)] ∧ SqL K H a (intsV l) ∧ Zr l ∧ sp < l.length ∧ l.length ≤ 1000 ∧
  ∀ H' p l', Same H H' → H p = none → H' p = some (.lst (intsV l')) → Zr l' → l'.length = l.length + 3 → Q (.ref p) H'

abbrev sLawPutIn : Stmt := topS 27
theorem scLawPutIn : FnScope ["row", "spot", "low", "number"] ["row", "spot"] (defScope sLawPutIn) := ⟨rfl, rfl, rfl, by decide +kernel, rfl, by decide +kernel, by decide +kernel⟩
-- slots: {'row': 0, 'spot': 1, 'low': 2, 'number': 3}
theorem hasLawPutIn {f : Addr} {fd : FuncData} (F : Fun K "_law_put_in" "_law_put_in" sLawPutIn f fd) (b : Binds K fd ["row", "spot"] []) (g : mg "_law_put_in" = some (.ref f)) (M : Bi mg) :
    Has P w K mg base 1 "_law_put_in" ["row", "spot"] (spLawPutIn K) := by
  refine ⟨f, fd, F.ok scLawPutIn (fun vs H Q E h => ?_) (fun cdv A outer s H vs Q E hr h => ?_), F.kp, b, g⟩
  · obtain ⟨a, l, sp, rfl, hL, hZ, hs, hl, q⟩ := h
    rfl
  · obtain ⟨a, l, sp, rfl, hL, hZ, hs, hl, q⟩ := h
    have nd := scLawPutIn.nd
    refine ⟨_, (pss_cons (ps_set (i := 2) nd rfl (.inr rfl) (pe_ix (r := rIxL K) ix_list (pv 0) (pv 1) (fun _ _ => rfl)))
      (pss_cons (ps_setLc (i := 0) (own := [("number", 3)]) (g := (gName 3)) rfl nd rfl rfl (sw_true rfl rfl rfl (by decide +kernel)) (pi_list (pv 0)) (blkOk_by (own := [("number", 3)]) (N := ["row", "spot", "low", "number"]) (sc := defScope sLawPutIn) (by decide +kernel)) (fun _ _ _ _ _ => (pg_name (i := 3) nd rfl (Or.inl rfl))) (fun _ _ _ _ _ => pts_nil) (fun _ _ _ _ _ => (pe_op  op_add (pv 3) (pe_op  op_mul pe_int (pe_callTy (T := "int") (r := WA.rInt1) call_int1 (by rfl) M.m_int (by decide +kernel) (pa_cons (pe_cmpR  op_gt (pv 3) (pv 2) (nomark _)) pa_nil))))))
      (pss_one (ps_ret (pe_op  op_cat (pe_op  op_cat (pe_slice (r := rSlL K) sl_list (pv 0) po_none (po_some (pv 1))) (pe_lst (pa_cons (pv 2) (pa_cons (pe_op  op_add (pv 2) pe_int) (pa_cons (pe_op  op_add (pv 2) pe_int) (pa_cons (pe_op  op_add (pv 2) pe_int) pa_nil)))))) (pe_slice (r := rSlL K) sl_list (pv 0) (po_some (pe_op  op_add (pv 1) pe_int)) po_none)))))), ?_⟩
    obtain ⟨low, hlow⟩ : ∃ low, l[sp]? = some low := ⟨_, List.getElem?_eq_getElem hs⟩
    refine ⟨_, rfl, _, rfl, a, _, _, _, rfl, rfl, hL, atI_nat (ints_get hlow), ?_⟩
    refine ⟨_, rfl, a, rfl, ⟨_, hL⟩, fun D nD => lc_it (walk_list (xs := intsV l)) (fun i H' => Same H H' ∧ H' D = some (.lst (intsV ((l.take i).map (bump low))))) ⟨same_upd nD, upd_same⟩ (fun _ _ _ h => Evl.ex_l h.1 hL) ?_ ?_⟩
    · rintro i x H4 H5 hi ⟨sm, hD⟩ ⟨rfl, hx⟩
      obtain ⟨y, hy, rfl⟩ := ints_at hx
      refine ⟨rfl, _, rfl, _, rfl, _, rfl, _, _, rfl, rfl, .inr ⟨_, rfl, _, _, rfl, rfl, cmul3 _, _, _, rfl, rfl, _, hD, ?_, Same.put sm nD, ?_⟩⟩
      · rw [ints_len, List.length_map, List.length_take]
        exact line_lt (by omega)
      · rw [upd_same, ints_take (bump low) hy]
        congr 3
        exact congrArg (fun v => [v]) (bumpV low y)
    rintro H4 ⟨sm, hD⟩
    rw [ints_len, List.take_length] at hD
    refine ⟨_, rfl, _, rfl, _, rfl, D, _, rfl, .inl (.inl hD), fun p5 n5 => ?_⟩
    rw [cut_to]
    have s5 := same_upd (o := HO.lst (intsV ((l.map (bump low)).take sp))) n5
    refine ⟨_, rfl, _, rfl, _, _, rfl, rfl, _, rfl, _, _, rfl, rfl, _, rfl, _, _, rfl, rfl, line_ok (by show 4 ≤ 100000; decide), fun p6 n6 => ?_⟩
    have s6 := same_upd (o := HO.lst (intsV [low, low + 2, low + 1, low + 3])) n6
    refine ⟨p5, p6, _, intsV [low, low + 2, low + 1, low + 3], rfl, rfl, s6 _ _ upd_same, upd_same, ?_, fun p7 n7 => ?_⟩
    · rw [ints_len, ints_len, List.length_take, List.length_map]
      exact line_ok (by show min sp l.length + 4 ≤ 100000; omega)
    have s7 := same_upd (o := HO.lst (intsV ((l.map (bump low)).take sp) ++ intsV [low, low + 2, low + 1, low + 3])) n7
    have s57 := s5.trans (s6.trans s7)
    refine ⟨_, rfl, _, rfl, _, _, rfl, rfl, _, rfl, D, _, rfl, .inl (.inl (s57 _ _ hD)), fun p8 n8 => ?_⟩
    rw [show (sp : Int) + 1 = ((sp + 1 : Nat) : Int) by omega, cut_from]
    have s8 := same_upd (o := HO.lst (intsV ((l.map (bump low)).drop (sp + 1)))) n8
    have hZ2 := hZ.up hlow (inner := [low, low + 2, low + 1, low + 3]) (List.Perm.cons _ (List.Perm.swap _ _ _))
    have s48 := s57.trans s8
    refine ⟨p7, p8, _, _, rfl, rfl, s8 _ _ upd_same, upd_same, ?_, fun p9 n9 => ?_⟩
    · rw [← ints_app, ints_len, ints_len, ← List.length_append]
      have := hZ2.2
      unfold blow at this
      rw [this]
      exact line_ok (by omega)
    · refine q _ p9 _ ((sm.trans s48).trans (same_upd n9)) ((sm.trans s48).free n9) ?_ hZ2.1 hZ2.2
      rw [upd_same]
      unfold blow
      rw [ints_app, ints_app]

def spLawInflated (K : PySem.W.Frag) : Sp := fun vs H Q _ => ∃ (a : Addr) (ns : List Int) (at_ : Nat) (room : Int), vs = [.ref a, .int (at_ : Int), .int room] ∧ SqL K H a (intsV ns) ∧ ns.length ≤ 1000 ∧ at_ ≤ 1000 ∧ room ≤ 41 ∧
  ∀ H' p r, Same H H' → H' p = some (.tup (intsV r)) → IsRow r → r.length ≤ 40 → Q (.ref p) H'

abbrev sLawInflated : Stmt := topS 26
theorem scLawInflated : FnScope ["script", "at", "room", "row", "k", "cell", "spot", "low", "inner", "flipped", "number"] ["script", "at", "room"] (defScope sLawInflated) := ⟨rfl, rfl, rfl, by decide +kernel, rfl, by decide +kernel, by decide +kernel⟩
-- slots: {'script': 0, 'at': 1, 'room': 2, 'row': 3, 'k': 4, 'cell': 5, 'spot': 6, 'low': 7, 'inner': 8, 'flipped': 9, 'number': 10}
theorem hasLawInflated {f : Addr} {fd : FuncData} (F : Fun K "_law_inflated" "_law_inflated" sLawInflated f fd) (b : Binds K fd ["script", "at", "room"] []) (g : mg "_law_inflated" = some (.ref f)) (M : Bi mg) :
    Has P w K mg base 1 "_law_inflated" ["script", "at", "room"] (spLawInflated K) := by
  refine ⟨f, fd, F.ok scLawInflated (fun vs H Q E h => ?_) (fun cdv A outer s H vs Q E hr h => ?_), F.kp, b, g⟩
  · obtain ⟨a, ns, at_, room, rfl, hS, hns, hat, hroom, q⟩ := h
    rfl
  · obtain ⟨a, ns, at_, room, rfl, hS, hns, hat, hroom, q⟩ := h
    have nd := scLawInflated.nd
    refine ⟨_, (pss_cons (ps_set (i := 3) nd rfl (.inl rfl) (pe_lst (pa_cons pe_int (pa_cons pe_int (pa_cons pe_int (pa_cons pe_int pa_nil))))))
      (pss_cons (ps_for PassesOwn.never rfl (pi_range2 rfl M.m_range (pa_cons (pv 1) (pa_cons (pe_callB (r := Evl.rLenS K) call_len_seq (by rfl) M.m_len PySem.boot_len (pa_cons (pv 0) pa_nil)) pa_nil))) (pg_name (i := 4) nd rfl (.inl rfl))
      (pss_cons (ps_set (i := 5) nd rfl (.inl rfl) (pe_op  op_mod (pe_ix (r := rIxL K) ix_list (pv 0) (pv 4) (fun _ _ => rfl)) (pe_op  op_pow pe_int pe_int)))
        (pss_one (ps_if (pt_cmpR  op_lt (pe_op  op_add (pe_callB (r := Evl.rLenS K) call_len_seq (by rfl) M.m_len PySem.boot_len (pa_cons (pv 3) pa_nil)) pe_int) (pv 2) (nomark _))
        (pss_cons (ps_set (i := 6) nd rfl (.inl rfl) (pe_op  op_mod (pe_op  op_fdiv (pv 5) pe_int) (pe_callB (r := Evl.rLenS K) call_len_seq (by rfl) M.m_len PySem.boot_len (pa_cons (pv 3) pa_nil))))
          (pss_cons (ps_set (i := 7) nd rfl (.inr rfl) (pe_ix (r := rIxL K) ix_list (pv 3) (pv 6) (fun _ _ => rfl)))
          (pss_cons (ps_setLc (i := 3) (own := [("number", 10)]) (g := (gName 10)) rfl nd rfl rfl (sw_true rfl rfl rfl (by decide +kernel)) (pi_list (pv 3)) (blkOk_by (own := [("number", 10)]) (N := ["script", "at", "room", "row", "k", "cell", "spot", "low", "inner", "flipped", "number"]) (sc := defScope sLawInflated) (by decide +kernel)) (fun _ _ _ _ _ => (pg_name (i := 10) nd rfl (Or.inl rfl))) (fun _ _ _ _ _ => pts_nil) (fun _ _ _ _ _ => (pe_op  op_add (pv 10) (pe_op  op_mul pe_int (pe_callTy (T := "int") (r := WA.rInt1) call_int1 (by rfl) M.m_int (by decide +kernel) (pa_cons (pe_cmpR  op_gt (pv 10) (pv 7) (nomark _)) pa_nil))))))
          (pss_cons (ps_set (i := 8) nd rfl (.inl rfl) (pe_lst (pa_cons (pv 7) (pa_cons (pe_op  op_add (pv 7) pe_int) (pa_cons (pe_op  op_add (pv 7) pe_int) (pa_cons (pe_op  op_add (pv 7) pe_int) pa_nil))))))
          (Evl.pss_cut (ps_if (pt_cmpR  op_eq (pe_op  op_mod (pv 5) pe_int) pe_int (nomark _))
          (pss_one (ps_set (i := 8) nd rfl (.inl rfl) (pe_lst (pa_cons (pv 7) (pa_cons (pe_op  op_add (pv 7) pe_int) (pa_cons (pe_op  op_add (pv 7) pe_int) (pa_cons (pe_op  op_add (pv 7) pe_int) pa_nil)))))))
          pss_nil)
          (pss_one (ps_set (i := 3) nd rfl (.inl rfl) (pe_op  op_cat (pe_op  op_cat (pe_slice (r := rSlL K) sl_list (pv 3) po_none (po_some (pv 6))) (pv 8)) (pe_slice (r := rSlL K) sl_list (pv 3) (po_some (pe_op  op_add (pv 6) pe_int)) po_none)))))))))
        pss_nil))))
      (pss_cons (ps_setLc (i := 9) (own := [("number", 10)]) (g := (gName 10)) rfl nd rfl rfl (sw_true rfl rfl rfl (by decide +kernel)) (pi_list (pv 3)) (blkOk_by (own := [("number", 10)]) (N := ["script", "at", "room", "row", "k", "cell", "spot", "low", "inner", "flipped", "number"]) (sc := defScope sLawInflated) (by decide +kernel)) (fun _ _ _ _ _ => (pg_name (i := 10) nd rfl (Or.inl rfl))) (fun _ _ _ _ _ => pts_nil) (fun _ _ _ _ _ => (pe_op  op_add (pv 10) pe_int)))
      (pss_cons (ps_for PassesOwn.never rfl (pi_range2 rfl M.m_range (pa_cons (pv 1) (pa_cons (pe_callB (r := Evl.rLenS K) call_len_seq (by rfl) M.m_len PySem.boot_len (pa_cons (pv 0) pa_nil)) pa_nil))) (pg_name (i := 4) nd rfl (.inl rfl))
      (pss_cons (ps_set (i := 6) nd rfl (.inl rfl) (pe_op  op_mod (pe_op  op_fdiv (pe_ix (r := rIxL K) ix_list (pv 0) (pv 4) (fun _ _ => rfl)) pe_int) pe_int))
        (pss_one (ps_if (PW.pt (pw_and (pt_cmpR  op_eq (pe_op  op_mod (pe_ix (r := rIxL K) ix_list (pv 0) (pv 4) (fun _ _ => rfl)) pe_int) pe_int (nomark _)) (pw_and1 (pt_cmpR  op_lt (pv 6) (pe_callB (r := Evl.rLenS K) call_len_seq (by rfl) M.m_len PySem.boot_len (pa_cons (pv 3) pa_nil)) (nomark _)))))
        (pss_one (ps_asg (pe_op  op_sub pe_int (pe_ix (r := rIxL K) ix_list (pv 9) (pv 6) (fun _ _ => rfl))) (pg_sub (pv 9) (pv 6) set_list)))
        pss_nil))))
      (pss_one (ps_ret (pe_callTy (T := "tuple") (r := WA.rTup K) call_tuple_of (by rfl) M.m_tuple (by decide +kernel) (pa_cons (pv 9) pa_nil)))))))), ?_⟩
    refine ⟨line_ok (by show 4 ≤ 100000; decide), fun p3 n3 => ?_⟩
    have s3 := same_upd (o := HO.lst (intsV [0, 2, 1, 3])) n3
    have hZ0 : Zr [0, 2, 1, 3] := ⟨by decide, by decide⟩
    have hat_ : ∀ i, i < ns.length - at_ → ∃ z, ns[at_ + i]? = some z := fun i hi => ⟨_, List.getElem?_eq_getElem (by omega)⟩
    refine ⟨_, rfl, _, rfl, a, _, rfl, .inl (Evl.ex_l s3 hS), _, _, rfl, ⟨?_, ?_, ?_, ?_⟩, ?_⟩
    · omega
    · omega
    · omega
    · rw [ints_len]; omega
    have en : (((intsV ns).length : Int) - (at_ : Int)).toNat = ns.length - at_ := by rw [ints_len]; omega
    rw [en]
    refine for_it walk_rngN (fun k σ H' => ∃ v4 v5 v6 v7 v8 p l, σ = [some (.ref a), some (.int (at_ : Int)), some (.int room), some (.ref p), v4, v5, v6, v7, v8, none, none] ∧ Same H H' ∧ H' p = some (.lst (intsV l)) ∧ Zr l ∧ 1 ≤ l.length ∧ l.length ≤ 40)
      ⟨none, none, none, none, none, p3, _, rfl, s3, upd_same, hZ0, by decide, by decide⟩ (fun _ _ _ _ _ => trivial) ?_ ?_
    · rintro k x σ H4 H5 hk ⟨v4, v5, v6, v7, v8, p, l, rfl, sm, hp, hZ, h1, h40⟩ ⟨rfl, rfl⟩
      obtain ⟨z, hz⟩ := hat_ k hk
      refine ⟨_, rfl, _, rfl, a, _, _, _, rfl, rfl, Evl.ex_l sm hS, atI_nat (ints_get hz), _, _, rfl, rfl, ⟨by decide, by decide, by decide⟩, _, _, rfl, rfl, (by show (0 : Int) < 10 ^ 9; decide), ?_⟩
      dsimp only [gName]
      generalize z % (10 ^ (9 : Int).toNat) = c
      refine ⟨_, rfl, p, _, rfl, .inl (.inl (.inl hp)), _, _, rfl, rfl, _, rfl, _, _, rfl, rfl, _, rfl, ?_⟩
      by_cases c1 : (((intsV l).length : Nat) : Int) + 3 < room
      · rw [ints_len] at c1
        refine ifT (decide_eq_true (by rw [ints_len]; exact c1)) ?_
        refine ⟨_, rfl, _, _, rfl, rfl, cdiv (by decide) (by decide), _, rfl, p, _, rfl, .inl (.inl (.inl hp)), _, _, rfl, rfl, (by show (0 : Int) < ((intsV l).length : Int); rw [ints_len]; omega), ?_⟩
        obtain ⟨s0, hs0, hsl⟩ : ∃ s0 : Nat, c / 8 % (((intsV l).length : Nat) : Int) = (s0 : Int) ∧ s0 < l.length := by
          rw [ints_len]
          have h1 := Int.emod_nonneg (c / 8) (show (l.length : Int) ≠ 0 by omega)
          have h2 := Int.emod_lt_of_pos (c / 8) (show (0 : Int) < (l.length : Int) by omega)
          exact ⟨(c / 8 % (l.length : Int)).toNat, by omega, by omega⟩
        dsimp only [gName]
        rw [hs0]
        obtain ⟨low, hlow⟩ : ∃ low, l[s0]? = some low := ⟨_, List.getElem?_eq_getElem hsl⟩
        refine ⟨_, rfl, _, rfl, p, _, _, _, rfl, rfl, .inl (.inl hp), atI_nat (ints_get hlow), ?_⟩
        refine ⟨_, rfl, p, rfl, ⟨_, .inl (.inl hp)⟩, fun D nD => lc_it (walk_list (xs := intsV l)) (fun i H' => Same H5 H' ∧ H' D = some (.lst (intsV ((l.take i).map (bump low))))) ⟨same_upd nD, upd_same⟩ (fun _ _ _ h => .inl (.inl (h.1 _ _ hp))) ?_ ?_⟩
        · rintro i x H6 H7 hi ⟨sm, hD⟩ ⟨rfl, hx⟩
          obtain ⟨y, hy, rfl⟩ := ints_at hx
          refine ⟨rfl, _, rfl, _, rfl, _, rfl, _, _, rfl, rfl, .inr ⟨_, rfl, _, _, rfl, rfl, cmul3 _, _, _, rfl, rfl, _, hD, ?_, Same.put sm nD, ?_⟩⟩
          · rw [ints_len, List.length_map, List.length_take]
            exact line_lt (by omega)
          · rw [upd_same, ints_take (bump low) hy]
            congr 3
            exact congrArg (fun v => [v]) (bumpV low y)
        rintro H6 ⟨sm6, hD⟩
        rw [ints_len, List.take_length] at hD
        refine ⟨_, rfl, _, rfl, _, _, rfl, rfl, _, rfl, _, _, rfl, rfl, _, rfl, _, _, rfl, rfl, line_ok (by show 4 ≤ 100000; decide), fun p7 n7 => ?_⟩
        have s7 := same_upd (o := HO.lst (intsV [low, low + 2, low + 1, low + 3])) n7
        refine ⟨fun σ' H' => ∃ pi inner, σ' = [some (.ref a), some (.int (at_ : Int)), some (.int room), some (.ref D), some (.int ((at_ + k : Nat) : Int)), some (.int c), some (.int (s0 : Int)), some (.int low), some (.ref pi), none, none] ∧ Same H6 H' ∧ H' pi = some (.lst (intsV inner)) ∧ inner.Perm [low, low + 1, low + 2, low + 3], ?_, ?_⟩
        · refine ⟨_, rfl, _, _, rfl, rfl, (by show (0 : Int) < 4; decide), rfl, _, rfl, ?_⟩
          by_cases c2 : c % 4 = 1
          · refine ifT (by rw [dec_int]; exact decide_eq_true c2) ⟨_, rfl, _, rfl, _, _, rfl, rfl, _, rfl, _, _, rfl, rfl, _, rfl, _, _, rfl, rfl, line_ok (by show 4 ≤ 100000; decide), fun p8 n8 => ⟨p8, [low, low + 1, low + 2, low + 3], rfl, s7.trans (same_upd n8), upd_same, List.Perm.refl _⟩⟩
          · refine ifF (by rw [dec_int]; exact decide_eq_false c2) ⟨p7, [low, low + 2, low + 1, low + 3], rfl, s7, upd_same, List.Perm.cons _ (List.Perm.swap _ _ _)⟩
        rintro σ' H8 ⟨pi, inner, rfl, s8, hpi, hpm⟩
        have hil : inner.length = 4 := by simpa using hpm.length_eq
        have hZ2 := hZ.up hlow hpm
        have hD8 := s8 _ _ hD
        refine ⟨_, rfl, _, rfl, _, rfl, D, _, rfl, .inl (.inl hD8), fun p9 n9 => ?_⟩
        rw [cut_to]
        have s9 := same_upd (o := HO.lst (intsV ((l.map (bump low)).take s0))) n9
        refine ⟨_, rfl, p9, pi, _, _, rfl, rfl, upd_same, s9 _ _ hpi, ?_, fun p10 n10 => ?_⟩
        · rw [ints_len, ints_len, List.length_take, List.length_map, hil]
          exact line_ok (by omega)
        have s10 := same_upd (o := HO.lst (intsV ((l.map (bump low)).take s0) ++ intsV inner)) n10
        refine ⟨_, rfl, _, rfl, _, _, rfl, rfl, _, rfl, D, _, rfl, .inl (.inl (s10 _ _ (s9 _ _ hD8))), fun p11 n11 => ?_⟩
        rw [show (s0 : Int) + 1 = ((s0 + 1 : Nat) : Int) by omega, cut_from]
        have s11 := same_upd (o := HO.lst (intsV ((l.map (bump low)).drop (s0 + 1)))) n11
        refine ⟨p10, p11, _, _, rfl, rfl, s11 _ _ upd_same, upd_same, ?_, fun p12 n12 => ?_⟩
        · rw [← ints_app, ints_len, ints_len, ← List.length_append]
          have := hZ2.2
          unfold blow at this
          rw [this]
          exact line_ok (by omega)
        · have s612 := (s8.trans (s9.trans (s10.trans s11))).trans (same_upd (o := HO.lst (intsV ((l.map (bump low)).take s0) ++ intsV inner ++ intsV ((l.map (bump low)).drop (s0 + 1)))) n12)
          refine ⟨_, _, _, _, _, p12, blow l s0 low inner, rfl, (sm.trans sm6).trans s612, ?_, hZ2.1, by rw [hZ2.2]; omega, by rw [hZ2.2]; omega⟩
          rw [upd_same]
          unfold blow
          rw [ints_app, ints_app]
      · refine ifF (decide_eq_false c1) ⟨_, _, _, _, _, p, l, rfl, sm, hp, hZ, h1, h40⟩
    rintro σ H4 ⟨v4, v5, v6, v7, v8, p, l, rfl, sm, hp, hZ, h1, h40⟩
    -- flipped
    refine ⟨_, rfl, p, rfl, ⟨_, .inl (.inl hp)⟩, fun D nD => lc_it (walk_list (xs := intsV l)) (fun i H' => Same H4 H' ∧ H' D = some (.lst (intsV ((l.take i).map fun x => x + 1)))) ⟨same_upd nD, upd_same⟩ (fun _ _ _ h => .inl (.inl (h.1 _ _ hp))) ?_ ?_⟩
    · rintro i x H6 H7 hi ⟨sm, hD⟩ ⟨rfl, hx⟩
      obtain ⟨y, hy, rfl⟩ := ints_at hx
      refine ⟨rfl, _, rfl, _, _, rfl, rfl, _, hD, ?_, Same.put sm nD, ?_⟩
      · rw [ints_len, List.length_map, List.length_take]
        exact line_lt (by omega)
      · rw [upd_same, ints_take (fun x => x + 1) hy]
    rintro H5 ⟨sm5, hD5⟩
    rw [ints_len, List.take_length] at hD5
    have sm05 := sm.trans sm5
    have nD0 := sm.free nD
    refine ⟨_, rfl, _, rfl, a, _, rfl, .inl (Evl.ex_l sm05 hS), _, _, rfl, ⟨?_, ?_, ?_, ?_⟩, ?_⟩
    · omega
    · omega
    · omega
    · rw [ints_len]; omega
    rw [en]
    refine for_it walk_rngN (fun k σ H' => ∃ v4 v6 fl, σ = [some (.ref a), some (.int (at_ : Int)), some (.int room), some (.ref p), v4, v5, v6, v7, v8, some (.ref D), none] ∧ Same H4 H' ∧ H' D = some (.lst (intsV fl)) ∧ fl.map Int.natAbs = l.map (fun x => (x + 1).natAbs))
      ⟨v4, v6, _, rfl, sm5, hD5, by rw [List.map_map]; rfl⟩ (fun _ _ _ _ _ => trivial) ?_ ?_
    · rintro k x σ H6 H7 hk ⟨v4, v6, fl, rfl, sm7, hD, hfl⟩ ⟨rfl, rfl⟩
      obtain ⟨z, hz⟩ := hat_ k hk
      have hll : fl.length = l.length := by
        have := congrArg List.length hfl
        rwa [List.length_map, List.length_map] at this
      have hS7 := Evl.ex_l (sm.trans sm7) hS
      refine ⟨_, rfl, _, rfl, a, _, _, _, rfl, rfl, hS7, atI_nat (ints_get hz), _, _, rfl, rfl, cdiv (by decide) (by decide), _, _, rfl, rfl, (by show (0 : Int) < 40; decide), ?_⟩
      dsimp only [gName]
      obtain ⟨s0, hs0⟩ : ∃ s0 : Nat, z / 1009 % 40 = (s0 : Int) := ⟨(z / 1009 % 40).toNat, by omega⟩
      rw [hs0]
      refine ⟨_, rfl, _, rfl, a, _, _, _, rfl, rfl, hS7, atI_nat (ints_get hz), _, _, rfl, rfl, (by show (0 : Int) < 16; decide), rfl, _, rfl, ?_⟩
      by_cases c1 : z % 16 = 5
      · refine ifT (by rw [dec_int]; exact decide_eq_true c1) ⟨_, rfl, _, rfl, p, _, rfl, .inl (.inl (.inl (sm7 _ _ hp))), _, _, rfl, rfl, _, rfl, ?_⟩
        by_cases c2 : s0 < l.length
        · obtain ⟨y, hy⟩ : ∃ y, fl[s0]? = some y := ⟨_, List.getElem?_eq_getElem (by omega)⟩
          refine ifT (decide_eq_true (by rw [ints_len]; omega)) ⟨_, rfl, _, rfl, D, _, _, _, rfl, rfl, .inl (.inl hD), atI_nat (ints_get hy), _, _, rfl, rfl, _, rfl, _, rfl, D, _, _, s0, rfl, rfl, hD, Evl.ixN_nat (by rw [ints_len]; omega), ?_⟩
          refine ⟨_, _, fl.set s0 (0 - y), rfl, Same.put sm7 nD, ?_, ?_⟩
          · rw [upd_same]
            unfold intsV
            rw [List.map_set]
          · rw [List.map_set, ← hfl]
            have ey : (0 - y).natAbs = y.natAbs := by omega
            rw [ey]
            apply List.ext_getElem?
            intro m
            rw [List.getElem?_set]
            by_cases e : s0 = m
            · subst e
              rw [if_pos rfl, if_pos (by rw [List.length_map]; omega), List.getElem?_map, hy]
              rfl
            · rw [if_neg e]
        · refine ifF (decide_eq_false (by rw [ints_len]; omega)) ⟨_, _, fl, rfl, sm7, hD, hfl⟩
      · refine ifF (by rw [dec_int]; exact decide_eq_false c1) (ifF rfl ⟨_, _, fl, rfl, sm7, hD, hfl⟩)
    rintro σ H6 ⟨v4, v6, fl, rfl, sm6, hD, hfl⟩
    have hll : fl.length = l.length := by
      have := congrArg List.length hfl
      rwa [List.length_map, List.length_map] at this
    refine ⟨_, rfl, D, _, rfl, .inl ⟨.inl (.inl hD), fun t nt => ?_⟩⟩
    exact q _ t fl ((sm.trans sm6).trans (same_upd nt)) upd_same (hZ.row hfl) (by omega)

def spLawNests (K : PySem.W.Frag) : Sp := fun vs H Q _ => ∃ (c : Int), vs = [.int c] ∧ ∀ H' p r, Same H H' → H' p = some (.tup (intsV r)) → IsRow r → r.length ≤ 40 → Q (.ref p) H'

abbrev sLawNests : Stmt := topS 28
theorem scLawNests : FnScope ["cell", "row", "deep", "spot", "number"] ["cell"] (defScope sLawNests) := ⟨rfl, rfl, rfl, by decide +kernel, rfl, by decide +kernel, by decide +kernel⟩
-- slots: {'cell': 0, 'row': 1, 'deep': 2, 'spot': 3, 'number': 4}
theorem hasLawNests {f : Addr} {fd : FuncData} (F : Fun K "_law_nests" "_law_nests" sLawNests f fd) (b : Binds K fd ["cell"] []) (g : mg "_law_nests" = some (.ref f)) (M : Bi mg)
    (hLawPutIn : Has P w K mg base 1 "_law_put_in" ["row", "spot"] (spLawPutIn K)) :
    Has P w K mg base 2 "_law_nests" ["cell"] (spLawNests K) := by
  obtain ⟨fLawPutIn, fdLawPutIn, GLawPutIn, kLawPutIn, bLawPutIn, gLawPutIn⟩ := hLawPutIn
  refine ⟨f, fd, F.ok scLawNests (fun vs H Q E h => ?_) (fun cdv A outer s H vs Q E hr h => ?_), F.kp, b, g⟩
  · obtain ⟨c, rfl, q⟩ := h
    rfl
  · obtain ⟨c, rfl, q⟩ := h
    have nd := scLawNests.nd
    refine ⟨_, (pss_cons (ps_set (i := 1) nd rfl (.inl rfl) (pe_lst (pa_cons pe_int (pa_cons pe_int (pa_cons pe_int (pa_cons pe_int (pa_cons pe_int (pa_cons pe_int pa_nil))))))))
      (pss_cons (ps_set (i := 2) nd rfl (.inl rfl) (pe_op  op_mod (pe_op  op_fdiv (pv 0) pe_int) pe_int))
      (pss_cons (ps_for PassesOwn.never rfl (pi_list (pe_slice (r := rSlL K) sl_list (pe_lst (pa_cons pe_int (pa_cons pe_int (pa_cons pe_int (pa_cons pe_int pa_nil))))) po_none (po_some (pe_op  op_add pe_int (pe_op  op_mod (pv 0) pe_int))))) (pg_name (i := 3) nd rfl (.inl rfl))
      (pss_cons (ps_set (i := 1) nd rfl (.inl rfl) (pe_call GLawPutIn (hr.mono (by decide)) (by rfl) gLawPutIn kLawPutIn bLawPutIn .nil pass0 (pa_cons (pv 1) (pa_cons (pv 3) pa_nil))))
        (Evl.pss_cut (ps_if (pt_cmpR  op_eq (pe_op  op_mod (pv 2) pe_int) pe_int (nomark _))
        (pss_one (ps_set (i := 1) nd rfl (.inl rfl) (pe_call GLawPutIn (hr.mono (by decide)) (by rfl) gLawPutIn kLawPutIn bLawPutIn .nil pass0 (pa_cons (pv 1) (pa_cons (pe_op  op_add (pv 3) pe_int) pa_nil)))))
        pss_nil)
        (pss_one (ps_set (i := 2) nd rfl (.inl rfl) (pe_op  op_fdiv (pv 2) pe_int))))))
      (pss_one (ps_ret (pe_callTy (T := "tuple") (r := WA.rTup K) call_tuple_of (by rfl) M.m_tuple (by decide +kernel) (pa_cons (pe_lc (own := [("number", 4)]) (g := (gName 4)) (by rfl) nd (pi_list (pv 1)) (blkOk_by (own := [("number", 4)]) (N := ["cell", "row", "deep", "spot", "number"]) (sc := defScope sLawNests) (by decide +kernel)) (fun _ _ _ _ _ => (pg_name (i := 4) nd rfl (Or.inl rfl))) (fun _ _ _ _ _ => pts_nil) (fun _ _ _ _ _ => (pe_op  op_add (pv 4) pe_int))) pa_nil))))))), ?_⟩
    refine ⟨line_ok (by show 6 ≤ 100000; decide), fun p1 n1 => ?_⟩
    have s1 := same_upd (o := HO.lst (intsV [0, 2, 4, 1, 3, 5])) n1
    have hZ0 : Zr [0, 2, 4, 1, 3, 5] := ⟨by decide, by decide⟩
    refine ⟨_, rfl, _, _, rfl, rfl, cdiv (by decide) (by decide), _, _, rfl, rfl, (by show (0 : Int) < 16; decide), ?_⟩
    dsimp only [gName]
    obtain ⟨d, hd⟩ : ∃ d : Nat, 1 + c % 4 = (d : Int) := ⟨(1 + c % 4).toNat, by omega⟩
    refine ⟨line_ok (by show 4 ≤ 100000; decide), fun p2 n2 => ?_⟩
    have s2 := same_upd (o := HO.lst (intsV [4, 3, 2, 1])) n2
    refine ⟨_, rfl, _, _, rfl, rfl, (by show (0 : Int) < 4; decide), _, _, rfl, rfl, _, rfl, p2, intsV [4, 3, 2, 1], rfl, .inl (.inl upd_same), fun p3 n3 => ?_⟩
    rw [hd, cut_to]
    have s3 := same_upd (o := HO.lst (intsV ([4, 3, 2, 1].take d))) n3
    have s13 := s1.trans (s2.trans s3)
    have hp1 := s3 _ _ (s2 _ _ (upd_same (H := H) (a := p1) (o := HO.lst (intsV [0, 2, 4, 1, 3, 5]))))
    refine ⟨p3, rfl, ⟨_, .inl (.inl upd_same)⟩, ?_⟩
    have hq3 := upd_same (H := upd (upd H p1 (HO.lst (intsV [0, 2, 4, 1, 3, 5]))) p2 (.lst (intsV [4, 3, 2, 1]))) (a := p3) (o := HO.lst (intsV ([4, 3, 2, 1].take d)))
    generalize hH3 : upd (upd (upd H p1 (HO.lst (intsV [0, 2, 4, 1, 3, 5]))) p2 (.lst (intsV [4, 3, 2, 1]))) p3 (.lst (intsV ([4, 3, 2, 1].take d))) = H3
    have s13' : Same H H3 := by rw [← hH3]; exact s13
    have hp1' : H3 p1 = some (.lst (intsV [0, 2, 4, 1, 3, 5])) := by rw [← hH3]; exact hp1
    have hq3' : H3 p3 = some (.lst (intsV ([4, 3, 2, 1].take d))) := by rw [← hH3]; exact hq3
    have hdl : (intsV ([4, 3, 2, 1].take d)).length ≤ 4 := by
      rw [ints_len, List.length_take]
      show min d 4 ≤ 4
      omega
    refine for_it (walk_list (xs := intsV ([4, 3, 2, 1].take d))) (fun i σ H' => ∃ pr l dp v3, σ = [some (.int c), some (.ref pr), some (.int dp), v3, none] ∧ Same H3 H' ∧ H' pr = some (.lst (intsV l)) ∧ Zr l ∧ 6 ≤ l.length ∧ l.length ≤ 6 + 6 * i)
      ⟨p1, _, _, none, rfl, (by rw [← hH3]; exact fun _ _ h => h), hp1, hZ0, by decide, by decide⟩ (fun _ _ _ _ ⟨_, _, _, _, _, sm, _⟩ => .inl (.inl (sm _ _ hq3'))) ?_ ?_
    · rintro i x σ H4 H5 hi ⟨pr, l, dp, v3, rfl, sm, hp, hZ, h6, hl⟩ ⟨rfl, hx⟩
      obtain ⟨sp, rfl, hsp⟩ : ∃ sp : Nat, x = V.int (sp : Int) ∧ sp ≤ 4 := by
        obtain ⟨y, hy, rfl⟩ := ints_at hx
        have := List.mem_of_mem_take (List.mem_of_getElem? hy)
        simp only [List.mem_cons, List.not_mem_nil, or_false] at this
        rcases this with rfl | rfl | rfl | rfl
        · exact ⟨4, rfl, by decide⟩
        · exact ⟨3, rfl, by decide⟩
        · exact ⟨2, rfl, by decide⟩
        · exact ⟨1, rfl, by decide⟩
      refine ⟨_, rfl, _, rfl, pr, l, sp, rfl, .inl (.inl hp), hZ, by omega, by omega, fun H6 p6 l6 s6 n6 hp6 hZ6 hl6 => ?_⟩
      refine ⟨fun σ' H' => ∃ pr l, σ' = [some (.int c), some (.ref pr), some (.int dp), some (.int (sp : Int)), none] ∧ Same H3 H' ∧ H' pr = some (.lst (intsV l)) ∧ Zr l ∧ 6 ≤ l.length ∧ l.length ≤ 6 + 6 * (i + 1), ?_, ?_⟩
      · refine ⟨_, rfl, _, _, rfl, rfl, (by show (0 : Int) < 2; decide), rfl, _, rfl, ?_⟩
        by_cases c1 : dp % 2 = 1
        · refine ifT (by rw [dec_int]; exact decide_eq_true c1) ⟨_, rfl, _, rfl, _, _, rfl, rfl, p6, l6, sp + 1, rfl, .inl (.inl hp6), hZ6, by omega, by omega, fun H7 p7 l7 s7 n7 hp7 hZ7 hl7 => ?_⟩
          exact ⟨p7, l7, rfl, sm.trans (s6.trans s7), hp7, hZ7, by omega, by omega⟩
        · refine ifF (by rw [dec_int]; exact decide_eq_false c1) ⟨p6, l6, rfl, sm.trans s6, hp6, hZ6, by omega, by omega⟩
      rintro σ' H7 ⟨pr, l, rfl, sm7, hp7, hZ7, h67, hl7⟩
      exact ⟨_, rfl, _, _, rfl, rfl, cdiv (by decide) (by decide), pr, l, _, _, rfl, sm7, hp7, hZ7, h67, hl7⟩
    rintro σ H4 ⟨p, l, dp, v3, rfl, sm, hp, hZ, h6, hl⟩
    refine ⟨_, rfl, p, rfl, ⟨_, .inl (.inl hp)⟩, fun D nD => lc_it (walk_list (xs := intsV l)) (fun i H' => Same H4 H' ∧ H' D = some (.lst (intsV ((l.take i).map fun x => x + 1)))) ⟨same_upd nD, upd_same⟩ (fun _ _ _ h => .inl (.inl (h.1 _ _ hp))) ?_ ?_⟩
    · rintro i x H6 H7 hi ⟨sm, hD⟩ ⟨rfl, hx⟩
      obtain ⟨y, hy, rfl⟩ := ints_at hx
      refine ⟨rfl, _, rfl, _, _, rfl, rfl, _, hD, ?_, Same.put sm nD, ?_⟩
      · rw [ints_len, List.length_map, List.length_take]
        exact line_lt (by omega)
      · rw [upd_same, ints_take (fun x => x + 1) hy]
    rintro H5 ⟨sm5, hD5⟩
    rw [ints_len, List.take_length] at hD5
    refine ⟨D, _, rfl, .inl ⟨.inl (.inl hD5), fun t nt => ?_⟩⟩
    refine q _ t (l.map fun x => x + 1) ((s13'.trans (sm.trans sm5)).trans (same_upd nt)) upd_same (hZ.row (by rw [List.map_map]; rfl)) ?_
    rw [List.length_map]
    omega
end
end WS
namespace WT
open PySem PySem.Spec PyProof.Rows L2 WA WB WC WD WE WF WH WJ WQ WS KL KG KH KK KO

theorem pair_ints (x : Int) (h : 1 ≤ x.natAbs) : [V.int (2 * (if x < 0 then -x else x) - 1), V.int (2 * (if x < 0 then -x else x))] = natsV [2 * x.natAbs - 1, 2 * x.natAbs] := by
  rw [nabs]
  show _ = [V.int ((2 * x.natAbs - 1 : Nat) : Int), V.int ((2 * x.natAbs : Nat) : Int)]
  rw [show (2 : Int) * (x.natAbs : Int) - 1 = ((2 * x.natAbs - 1 : Nat) : Int) by omega, show (2 : Int) * (x.natAbs : Int) = ((2 * x.natAbs : Nat) : Int) by omega]
theorem cmul2 (j : Int) : CMul 2 j := .inl ⟨by decide, by decide⟩
def crs (l1 h1 l2 h2 : Nat) : Bool := if l1 < l2 then decide (l2 < h1) && decide (h1 < h2) else decide (l1 < h2) && decide (h2 < h1)
theorem crs_iff {r : List Int} (R : IsRow r) {j k : Nat} (hj : j < r.length + 1) (hk : k < r.length + 1) (hne : j ≠ k) : crs (tlo (pos r) j) (thi (pos r) j) (tlo (pos r) k) (thi (pos r) k) = true ↔ Crs (pos r) j k := by
  have Y := sys R
  have a1 : pos r (2 * j) ≠ pos r (2 * k) := fun e => hne (show j = k by have := Y.inj (2 * j) (2 * k) (by omega) (by omega) e; omega)
  have a2 : pos r (2 * j) ≠ pos r (2 * k + 1) := fun e => by have := Y.inj (2 * j) (2 * k + 1) (by omega) (by omega) e; omega
  have a3 : pos r (2 * j + 1) ≠ pos r (2 * k) := fun e => by have := Y.inj (2 * j + 1) (2 * k) (by omega) (by omega) e; omega
  have a4 : pos r (2 * j + 1) ≠ pos r (2 * k + 1) := fun e => hne (show j = k by have := Y.inj (2 * j + 1) (2 * k + 1) (by omega) (by omega) e; omega)
  unfold crs Crs tlo thi
  split
  · rw [Bool.and_eq_true, decide_eq_true_eq, decide_eq_true_eq]
    omega
  · rw [Bool.and_eq_true, decide_eq_true_eq, decide_eq_true_eq]
    omega
/-- the crossings seen so far -/
def adjK (r : List Int) (i j c d : Nat) : Prop := (d < i ∨ (d = i ∧ c < j)) ∧ c < d ∧ Crs (pos r) d c
theorem crs_symm {p : Nat → Nat} {j k : Nat} (h : Crs p j k) : Crs p k j := by
  unfold Crs at *
  omega
theorem kinds_of {r : List Int} {mk : Nat → Int} (H : Marks (r.length + 1) (adjK r (r.length + 1) 0) mk) : Kinds (r.length + 1) (pos r) mk := by
  refine ⟨fun j k hj hk h => ?_, fun P hP j k hj hk e => ?_⟩
  · rcases Nat.lt_trichotomy j k with q | q | q
    · exact H.resp j k hj hk ⟨.inl hk, q, crs_symm h⟩
    · rw [q]
    · exact (H.resp k j hk hj ⟨.inl hj, q, h⟩).symm
  · exact H.min j k hj hk e P fun a b ha hb hab => hP a b ha hb (crs_symm hab.2.2)
theorem adj_start (r : List Int) : Marks (r.length + 1) (adjK r 0 0) (fun k => (k : Int)) :=
  marks_congr (marks_start _) (fun a b _ _ h => by
    exfalso
    rcases h.1 with q | q <;> omega) (fun a b _ _ h => h.elim)
theorem adj_row {r : List Int} {i : Nat} {mk : Nat → Int} (H : Marks (r.length + 1) (adjK r i i) mk) : Marks (r.length + 1) (adjK r (i + 1) 0) mk :=
  marks_congr H (fun a b ha hb h => Conn.one ha hb ⟨by have := h.2.1; rcases h.1 with q | q <;> omega, h.2⟩) (fun a b ha hb h => Conn.one ha hb ⟨by rcases h.1 with q | q <;> omega, h.2⟩)
theorem adj_no {r : List Int} {i j : Nat} {mk : Nat → Int} (H : Marks (r.length + 1) (adjK r i j) mk) (hn : ¬ Crs (pos r) i j) : Marks (r.length + 1) (adjK r i (j + 1)) mk :=
  marks_congr H (fun a b ha hb h => by
    refine Conn.one ha hb ⟨?_, h.2⟩
    rcases h.1 with q | ⟨q1, q2⟩
    · exact .inl q
    · refine .inr ⟨q1, ?_⟩
      by_cases e : a = j
      · subst e
        rw [q1] at h
        exact absurd h.2.2 hn
      · omega) (fun a b ha hb h => Conn.one ha hb ⟨by rcases h.1 with q | q <;> omega, h.2⟩)
theorem adj_yes {r : List Int} {i j : Nat} {mk : Nat → Int} (hij : j < i) (hc : Crs (pos r) i j) (H : Marks (r.length + 1) (fun c d => adjK r i j c d ∨ (c = j ∧ d = i)) mk) : Marks (r.length + 1) (adjK r i (j + 1)) mk :=
  marks_congr H (fun a b ha hb h => by
    refine Conn.one ha hb ?_
    rcases h.1 with q | ⟨q1, q2⟩
    · exact .inl ⟨.inl q, h.2⟩
    · by_cases e : a = j
      · exact .inr ⟨e, q1⟩
      · exact .inl ⟨.inr ⟨q1, by omega⟩, h.2⟩) (fun a b ha hb h => by
    rcases h with h | ⟨rfl, rfl⟩
    · exact Conn.one ha hb ⟨by rcases h.1 with q | q <;> omega, h.2⟩
    · exact Conn.one ha hb ⟨.inr ⟨rfl, by omega⟩, hij, hc⟩)
def mksL (n : Nat) (mk : Nat → Int) : List Int := (List.range n).map mk
theorem mks_len (n : Nat) (mk : Nat → Int) : (mksL n mk).length = n := by simp [mksL]
theorem mks_get {n k : Nat} (mk : Nat → Int) (h : k < n) : (mksL n mk)[k]? = some (mk k) := by
  unfold mksL
  rw [List.getElem?_map, List.getElem?_range h]
  rfl
def arcsL (r : List Int) (n : Nat) : List (Nat × Nat) := (List.range n).map fun k => (tlo (pos r) k, thi (pos r) k)

section
variable {P : Program} {w : World} {K : PySem.W.Frag} {mg : Str → Option Value} {base : Heap}

def spLawSpots (K : PySem.W.Frag) : Sp := fun vs H Q _ => ∃ (a : Addr) (r : List Int), vs = [.ref a] ∧ SqT K H a (intsV r) ∧ r.length ≤ 40 ∧ IsRow r ∧
  ∀ H' p, Same H H' → H p = none → H' p = some (.lst (natsV (spotsL r))) → Q (.ref p) H'

abbrev sLawSpots : Stmt := topS 29
theorem scLawSpots : FnScope ["row", "line", "number", "pair", "spots", "spot"] ["row"] (defScope sLawSpots) := ⟨rfl, rfl, rfl, by decide +kernel, rfl, by decide +kernel, by decide +kernel⟩
-- slots: {'row': 0, 'line': 1, 'number': 2, 'pair': 3, 'spots': 4, 'spot': 5}
theorem hasLawSpots {f : Addr} {fd : FuncData} (F : Fun K "_law_spots" "_law_spots" sLawSpots f fd) (b : Binds K fd ["row"] []) (g : mg "_law_spots" = some (.ref f)) (M : Bi mg) :
    Has P w K mg base 1 "_law_spots" ["row"] (spLawSpots K) := by
  refine ⟨f, fd, F.ok scLawSpots (fun vs H Q E h => ?_) (fun cdv A outer s H vs Q E hr h => ?_), F.kp, b, g⟩
  · obtain ⟨a, r, rfl, hT, hlen, R, q⟩ := h
    rfl
  · obtain ⟨a, r, rfl, hT, hlen, R, q⟩ := h
    have nd := scLawSpots.nd
    refine ⟨_, (pss_cons (ps_set (i := 1) nd rfl (.inl rfl) (pe_lst (pa_cons pe_int pa_nil)))
      (pss_cons (ps_for PassesOwn.never rfl (pi_tup (pv 0)) (pg_name (i := 2) nd rfl (.inl rfl))
      (pss_cons (ps_set (i := 3) nd rfl (.inl rfl) (pe_lst (pa_cons (pe_op  op_sub (pe_op  op_mul pe_int (pe_callB  call_abs (by rfl) M.m_abs (by decide +kernel) (pa_cons (pv 2) pa_nil))) pe_int) (pa_cons (pe_op  op_mul pe_int (pe_callB  call_abs (by rfl) M.m_abs (by decide +kernel) (pa_cons (pv 2) pa_nil))) pa_nil))))
        (Evl.pss_cut (ps_if (pt_cmpR  op_lt (pv 2) pe_int (nomark _))
        (pss_one (ps_set (i := 3) nd rfl (.inl rfl) (WR4.pe_lstRev (by rfl) (by rfl) M.m_list (by rfl) M.m_reversed (pv 3))))
        pss_nil)
        (pss_one (ps_expr (pe_bm  PySem.F.plainAttrs_list PySem.F.slot_list_extend PySem.F.type_list_extend mt_extend (pv 1) (pa_cons (pv 3) pa_nil)))))))
      (pss_cons (ps_expr (pe_bm  PySem.F.plainAttrs_list PySem.F.slot_list_append PySem.F.type_list_append mt_append (pv 1) (pa_cons (pe_op  op_add (pe_op  op_mul pe_int (pe_callB (r := Evl.rLenS K) call_len_seq (by rfl) M.m_len PySem.boot_len (pa_cons (pv 0) pa_nil))) pe_int) pa_nil)))
      (pss_cons (ps_set (i := 4) nd rfl (.inl rfl) (pe_op  op_rep (pe_lst (pa_cons pe_int pa_nil)) (pe_callB (r := Evl.rLenS K) call_len_seq (by rfl) M.m_len PySem.boot_len (pa_cons (pv 1) pa_nil))))
      (pss_cons (ps_for PassesOwn.never rfl (pi_enum (by rfl) M.m_enumerate (pa_cons (pv 1) pa_nil)) (pg_tup rfl (pgs_cons (pg_name (i := 5) nd rfl (.inl rfl)) (pgs_cons (pg_name (i := 2) nd rfl (.inl rfl)) pgs_nil)))
      (pss_one (ps_asg (pv 5) (pg_sub (pv 4) (pv 2) set_list))))
      (pss_one (ps_ret (pv 4)))))))), ?_⟩
    refine ⟨line_ok (by show 1 ≤ 100000; decide), fun p1 n1 => ?_⟩
    have s1 := same_upd (o := HO.lst (natsV [0])) n1
    have hfl : ∀ i, ((r.take i).flatMap linePair).length ≤ 80 := fun i => by
      rw [flat_len _ pair_len, List.length_take]
      omega
    refine ⟨_, rfl, a, rfl, ⟨_, sameT s1 hT⟩, ?_⟩
    refine for_it (walk_tup (xs := intsV r)) (fun i σ H' => ∃ v2 v3, σ = [some (.ref a), some (.ref p1), v2, v3, none, none] ∧ Same H H' ∧ H' p1 = some (.lst (natsV (0 :: (r.take i).flatMap linePair))))
      ⟨none, none, rfl, s1, upd_same⟩ (fun _ _ _ _ ⟨_, _, _, sm, _⟩ => sameT sm hT) ?_ ?_
    · rintro i x σ H4 H5 hi ⟨v2, v3, rfl, sm, hL⟩ ⟨rfl, hx⟩
      obtain ⟨y, hy, rfl⟩ := ints_at hx
      have hy1 := (R.rng y (List.mem_of_getElem? hy)).1
      refine ⟨_, rfl, _, rfl, _, _, rfl, rfl, cmul2 _, _, _, rfl, rfl, _, rfl, _, rfl, _, _, rfl, rfl, cmul2 _, line_ok (by show 2 ≤ 100000; decide), fun p2 n2 => ?_⟩
      rw [pair_ints y hy1]
      have s2 := same_upd (o := HO.lst (natsV [2 * y.natAbs - 1, 2 * y.natAbs])) n2
      refine ⟨fun σ' H' => ∃ pp, σ' = [some (.ref a), some (.ref p1), some (.int y), some (.ref pp), none, none] ∧ Same H5 H' ∧ H' pp = some (.lst (natsV (linePair y))), ?_, ?_⟩
      · refine ⟨_, rfl, _, _, rfl, rfl, _, rfl, ?_⟩
        by_cases c : y < 0
        · refine ifT (decide_eq_true c) ⟨_, rfl, p2, _, rfl, .inl (.inl upd_same), fun p3 n3 => ⟨p3, rfl, s2.trans (same_upd n3), ?_⟩⟩
          rw [upd_same]
          unfold linePair
          rw [if_pos c]
          rfl
        · refine ifF (decide_eq_false c) ⟨p2, rfl, s2, ?_⟩
          rw [upd_same]
          unfold linePair
          rw [if_neg c]
      rintro σ' H6 ⟨pp, rfl, s6, hpp⟩
      have hL6 := s6 _ _ hL
      refine ⟨_, rfl, .inl ⟨rfl, _, .inl (.inl hL6)⟩, _, rfl, p1, pp, _, _, rfl, rfl, hL6, hpp, ?_, ?_⟩
      · rw [nats_len, nats_len, List.length_cons, pair_len]
        have := hfl i
        exact line_ok (by omega)
      · refine ⟨_, _, rfl, Same.put (sm.trans s6) n1, ?_⟩
        rw [upd_same, ← nats_app, List.take_add_one, hy, List.flatMap_append, List.cons_append]
        congr 4
        simp
    rintro σ H4 ⟨v2, v3, rfl, sm, hL⟩
    rw [ints_len, List.take_length] at hL
    refine ⟨_, rfl, .inl ⟨rfl, _, .inl (.inl hL)⟩, _, rfl, a, _, rfl, .inr (sameT sm hT), _, _, rfl, rfl, cmul2 _, _, _, rfl, rfl, p1, _, _, rfl, rfl, hL, ?_, ?_⟩
    · rw [nats_len, List.length_cons, flat_len _ pair_len]
      exact line_lt (by omega)
    have eL : natsV (0 :: r.flatMap linePair) ++ [V.int (2 * (((intsV r).length : Nat) : Int) + 1)] = natsV (lineN r) := by
      rw [ints_len, show (2 : Int) * (r.length : Int) + 1 = ((2 * r.length + 1 : Nat) : Int) by omega]
      exact (nats_app (0 :: r.flatMap linePair) [2 * r.length + 1]).symm
    rw [eL]
    have hL5 : (upd H4 p1 (.lst (natsV (lineN r)))) p1 = some (.lst (natsV (lineN r))) := upd_same
    have sm5 : Same H (upd H4 p1 (.lst (natsV (lineN r)))) := Same.put sm n1
    generalize upd H4 p1 (.lst (natsV (lineN r))) = H5 at hL5 sm5
    have hll : (natsV (lineN r)).length = 2 * (r.length + 1) := by rw [nats_len, line_len]
    refine ⟨line_ok (by show 1 ≤ 100000; decide), fun p2 n2 => ?_⟩
    have s2 : Same H5 (upd H5 p2 (.lst [.int 0])) := same_upd n2
    refine ⟨_, rfl, p1, _, rfl, .inl (.inl (.inl (s2 _ _ hL5))), p2, _, _, rfl, rfl, upd_same, by rw [hll]; omega, by rw [hll]; omega, ?_, fun p3 n3 => ?_⟩
    · rw [hll]
      exact line_ok (by show 1 * ((2 * (r.length + 1) : Nat) : Int).toNat ≤ 100000; omega)
    have e3 : (List.replicate (((natsV (lineN r)).length : Nat) : Int).toNat [V.int 0]).flatten = natsV (SP r 0) := by
      rw [hll, List.flatten_replicate_singleton, sp_zero]
      unfold natsV
      rw [List.map_replicate]
      rfl
    rw [e3]
    have s3 := same_upd (o := HO.lst (natsV (SP r 0))) n3
    have n35 : H5 p3 = none := s2.free n3
    refine ⟨_, rfl, p1, _, rfl, .inl (.inl (s3 _ _ (s2 _ _ hL5))), ?_⟩
    refine for_it (walk_enum (xs := natsV (lineN r))) (fun i σ H' => ∃ v2 v5, σ = [some (.ref a), some (.ref p1), v2, v3, some (.ref p3), v5] ∧ Same H5 H' ∧ H' p3 = some (.lst (natsV (SP r i))))
      ⟨v2, none, rfl, s2.trans s3, upd_same⟩ (fun i σ H' _ ⟨_, _, _, sm, _⟩ => .inl (.inl (sm _ _ hL5))) ?_ ?_
    · rintro i x σ H6 H7 hi ⟨v2, v5, rfl, sm6, hS⟩ ⟨T, y, z, rfl, nT, rfl, e1, e2⟩
      rw [hll] at hi
      cases e1
      replace e2 : (natsV (lineN r))[i]? = some z := e2
      obtain ⟨v, hv, rfl⟩ := nats_at e2
      obtain ⟨hvl, hset⟩ := sp_set R hi hv
      have hne : p3 ≠ T := ne_of_none hS nT
      refine ⟨T, _, rfl, .inl (.inl upd_same), rfl, _, _, rfl, _, _, rfl, rfl, ?_⟩
      refine ⟨_, rfl, _, rfl, _, rfl, p3, _, _, v, rfl, rfl, (upd_ne hne).trans hS, Evl.ixN_nat (by rw [nats_len, sp_len]; exact hvl), ?_⟩
      refine ⟨_, _, rfl, Same.put (sm6.trans (same_upd nT)) n35, ?_⟩
      rw [upd_same, ← hset]
      unfold natsV
      rw [List.map_set]
    · rintro σ H6 ⟨v2, v5, rfl, sm6, hS⟩
      rw [hll, sp_end R] at hS
      exact ⟨_, rfl, q H6 p3 (sm5.trans sm6) (sm5.free n35) hS⟩

def spLawCrossing (K : PySem.W.Frag) : Sp := fun vs H Q _ => ∃ (a1 a2 : Addr) (l1 h1 l2 h2 : Nat), vs = [.ref a1, .ref a2] ∧ SqT K H a1 (pairV (l1, h1)) ∧ SqT K H a2 (pairV (l2, h2)) ∧ ∀ H', Same H H' → Q (.bl (crs l1 h1 l2 h2)) H'

abbrev sLawCrossing : Stmt := topS 30
theorem scLawCrossing : FnScope ["one", "two"] ["one", "two"] (defScope sLawCrossing) := ⟨rfl, rfl, rfl, by decide +kernel, rfl, by decide +kernel, by decide +kernel⟩
-- slots: {'one': 0, 'two': 1}
theorem hasLawCrossing {f : Addr} {fd : FuncData} (F : Fun K "_law_crossing" "_law_crossing" sLawCrossing f fd) (b : Binds K fd ["one", "two"] []) (g : mg "_law_crossing" = some (.ref f)) (M : Bi mg) :
    Has P w K mg base 1 "_law_crossing" ["one", "two"] (spLawCrossing K) := by
  refine ⟨f, fd, F.ok scLawCrossing (fun vs H Q E h => ?_) (fun cdv A outer s H vs Q E hr h => ?_), F.kp, b, g⟩
  · obtain ⟨a1, a2, l1, h1, l2, h2, rfl, hA, hB, q⟩ := h
    rfl
  · obtain ⟨a1, a2, l1, h1, l2, h2, rfl, hA, hB, q⟩ := h
    have nd := scLawCrossing.nd
    refine ⟨_, (pss_cons (ps_if (pt_cmpR  op_lt (pe_ix (r := rIxT K) ix_tup (pv 0) pe_int (fun _ _ => rfl)) (pe_ix (r := rIxT K) ix_tup (pv 1) pe_int (fun _ _ => rfl)) (nomark _))
      (pss_one (ps_ret (pe_and (pe_cmpR  op_lt (pe_ix (r := rIxT K) ix_tup (pv 1) pe_int (fun _ _ => rfl)) (pe_ix (r := rIxT K) ix_tup (pv 0) pe_int (fun _ _ => rfl)) (nomark _)) (pe_one (pe_cmpR  op_lt (pe_ix (r := rIxT K) ix_tup (pv 0) pe_int (fun _ _ => rfl)) (pe_ix (r := rIxT K) ix_tup (pv 1) pe_int (fun _ _ => rfl)) (nomark _))))))
      pss_nil)
      (pss_one (ps_ret (pe_and (pe_cmpR  op_lt (pe_ix (r := rIxT K) ix_tup (pv 0) pe_int (fun _ _ => rfl)) (pe_ix (r := rIxT K) ix_tup (pv 1) pe_int (fun _ _ => rfl)) (nomark _)) (pe_one (pe_cmpR  op_lt (pe_ix (r := rIxT K) ix_tup (pv 1) pe_int (fun _ _ => rfl)) (pe_ix (r := rIxT K) ix_tup (pv 0) pe_int (fun _ _ => rfl)) (nomark _))))))), ?_⟩
    have keep := q H (fun _ _ h => h)
    unfold crs at keep
    refine ⟨_, rfl, a1, _, _, _, rfl, rfl, hA, rfl, _, rfl, a2, _, _, _, rfl, rfl, hB, rfl, _, _, rfl, rfl, decide (l1 < l2), ?_, ?_⟩
    · show V.bl (decide ((l1 : Int) < (l2 : Int))) = _
      congr 1
      exact decide_eq_decide.mpr (by omega)
    by_cases c : l1 < l2
    · rw [if_pos c] at keep
      refine ifT (decide_eq_true c) ⟨_, rfl, a2, _, _, _, rfl, rfl, hB, rfl, _, rfl, a1, _, _, _, rfl, rfl, hA, rfl, _, _, rfl, rfl, decide (l2 < h1), ?_, ?_⟩
      · show V.bl (decide ((l2 : Int) < (h1 : Int))) = _
        congr 1
        exact decide_eq_decide.mpr (by omega)
      cases d : decide (l2 < h1) with
      | true =>
        refine ifT rfl ⟨_, rfl, a1, _, _, _, rfl, rfl, hA, rfl, _, rfl, a2, _, _, _, rfl, rfl, hB, rfl, _, _, rfl, rfl, ?_⟩
        rw [d, Bool.true_and] at keep
        have e : decide ((h1 : Int) < (h2 : Int)) = decide (h1 < h2) := decide_eq_decide.mpr (by omega)
        show Q (V.bl (decide ((h1 : Int) < (h2 : Int)))) H
        rw [e]
        exact keep
      | false =>
        refine ifF rfl ?_
        rw [d, Bool.false_and] at keep
        exact keep
    · rw [if_neg c] at keep
      refine ifF (decide_eq_false c) ⟨_, rfl, a1, _, _, _, rfl, rfl, hA, rfl, _, rfl, a2, _, _, _, rfl, rfl, hB, rfl, _, _, rfl, rfl, decide (l1 < h2), ?_, ?_⟩
      · show V.bl (decide ((l1 : Int) < (h2 : Int))) = _
        congr 1
        exact decide_eq_decide.mpr (by omega)
      cases d : decide (l1 < h2) with
      | true =>
        refine ifT rfl ⟨_, rfl, a2, _, _, _, rfl, rfl, hB, rfl, _, rfl, a1, _, _, _, rfl, rfl, hA, rfl, _, _, rfl, rfl, ?_⟩
        rw [d, Bool.true_and] at keep
        have e : decide ((h2 : Int) < (h1 : Int)) = decide (h2 < h1) := decide_eq_decide.mpr (by omega)
        show Q (V.bl (decide ((h2 : Int) < (h1 : Int)))) H
        rw [e]
        exact keep
      | false =>
        refine ifF rfl ?_
        rw [d, Bool.false_and] at keep
        exact keep

def spLawKinds (K : PySem.W.Frag) : Sp := fun vs H Q _ => ∃ (a : Addr) (r : List Int) (xs : List V), vs = [.ref a] ∧ H a = some (.lst xs) ∧ PairsH H xs (arcsL r (r.length + 1)) ∧ r.length ≤ 40 ∧ IsRow r ∧
  ∀ H' p mk, Same H H' → H p = none → H' p = some (.lst (intsV (mksL (r.length + 1) mk))) → Kinds (r.length + 1) (pos r) mk → (∀ k, k < r.length + 1 → 0 ≤ mk k ∧ mk k < (r.length : Int) + 1) → Q (.ref p) H'

abbrev sLawKinds : Stmt := topS 31
theorem scLawKinds : FnScope ["arcs", "marks", "one", "two", "mark"] ["arcs"] (defScope sLawKinds) := ⟨rfl, rfl, rfl, by decide +kernel, rfl, by decide +kernel, by decide +kernel⟩
-- slots: {'arcs': 0, 'marks': 1, 'one': 2, 'two': 3, 'mark': 4}
theorem hasLawKinds {f : Addr} {fd : FuncData} (F : Fun K "_law_kinds" "_law_kinds" sLawKinds f fd) (b : Binds K fd ["arcs"] []) (g : mg "_law_kinds" = some (.ref f)) (M : Bi mg)
    (hLawCrossing : Has P w K mg base 1 "_law_crossing" ["one", "two"] (spLawCrossing K)) :
    Has P w K mg base 2 "_law_kinds" ["arcs"] (spLawKinds K) := by
  obtain ⟨fLawCrossing, fdLawCrossing, GLawCrossing, kLawCrossing, bLawCrossing, gLawCrossing⟩ := hLawCrossing
  refine ⟨f, fd, F.ok scLawKinds (fun vs H Q E h => ?_) (fun cdv A outer s H vs Q E hr h => ?_), F.kp, b, g⟩
  · obtain ⟨a, r, xs, rfl, hL, hP, hlen, R, q⟩ := h
    rfl
  · obtain ⟨a, r, xs, rfl, hL, hP, hlen, R, q⟩ := h
    have nd := scLawKinds.nd
    refine ⟨_, (pss_cons (ps_set (i := 1) nd rfl (.inr rfl) (pe_listRg (by rfl) (by rfl) M.m_list (prg_1 (by rfl) M.m_range (pe_callB (r := Evl.rLenS K) call_len_seq (by rfl) M.m_len PySem.boot_len (pa_cons (pv 0) pa_nil)))))
      (pss_cons (ps_for PassesOwn.never rfl (pi_range1 rfl M.m_range (pa_cons (pe_callB (r := Evl.rLenS K) call_len_seq (by rfl) M.m_len PySem.boot_len (pa_cons (pv 0) pa_nil)) pa_nil)) (pg_name (i := 2) nd rfl (.inr rfl))
      (pss_one (ps_for PassesOwn.never rfl (pi_range1 rfl M.m_range (pa_cons (pv 2) pa_nil)) (pg_name (i := 3) nd rfl (.inr rfl))
        (pss_one (ps_if (PW.pt (pw_and (pt_cmpR  op_ne (pe_ix (r := rIxL K) ix_list (pv 1) (pv 2) (fun _ _ => rfl)) (pe_ix (r := rIxL K) ix_list (pv 1) (pv 3) (fun _ _ => rfl)) (nomark _)) (pw_and1 (pt_val (pe_call GLawCrossing (hr.mono (by decide)) (by rfl) gLawCrossing kLawCrossing bLawCrossing .nil pass0 (pa_cons (pe_ix (r := rIxL K) ix_list (pv 0) (pv 2) (fun _ _ => rfl)) (pa_cons (pe_ix (r := rIxL K) ix_list (pv 0) (pv 3) (fun _ _ => rfl)) pa_nil)))))))
          (pss_one (ps_set (i := 1) nd rfl (.inr rfl) (pe_lc (own := [("mark", 4)]) (g := (gName 4)) (by rfl) nd (pi_list (pv 1)) (blkOk_by (own := [("mark", 4)]) (N := ["arcs", "marks", "one", "two", "mark"]) (sc := defScope sLawKinds) (by decide +kernel)) (fun _ _ _ _ _ => (pg_name (i := 4) nd rfl (Or.inl rfl))) (fun _ _ _ _ _ => pts_nil) (fun _ _ _ _ _ => (pe_ifExp (pt_cmpR  op_eq (pv 4) (pe_ix (r := rIxL K) ix_list (pv 1) (pv 2) (fun _ _ => rfl)) (nomark _)) (pe_ix (r := rIxL K) ix_list (pv 1) (pv 3) (fun _ _ => rfl)) (pv 4))))))
          pss_nil)))))
      (pss_one (ps_ret (pv 1))))), ?_⟩
    have hxl : xs.length = r.length + 1 := by rw [hP.1]; simp [arcsL]
    refine ⟨_, rfl, a, _, rfl, .inl (.inl (.inl hL)), _, rfl, RgOk.of_le (by decide) (by rw [hxl]; omega) (by decide) (by omega), fun p1 n1 => ?_⟩
    have e1 : rgV 0 ((xs.length : Nat) : Int) = intsV (mksL (r.length + 1) (fun k => (k : Int))) := by
      unfold rgV mksL intsV
      rw [hxl, List.map_map]
      apply List.map_congr_left
      intro k _
      show V.int (0 + (k : Int)) = V.int (k : Int)
      rw [Int.zero_add]
    rw [e1]
    have s1 := same_upd (o := HO.lst (intsV (mksL (r.length + 1) (fun k => (k : Int))))) n1
    refine ⟨_, rfl, a, _, rfl, .inl (.inl (.inl (s1 _ _ hL))), _, rfl, ?_, ?_, ?_⟩
    · omega
    · rw [hxl]; show ((r.length + 1 : Nat) : Int) < 2 ^ 62; omega
    rw [show ((xs.length : Nat) : Int).toNat = r.length + 1 by rw [hxl]; omega]
    refine for_it walk_rng0 (fun i σ H' => ∃ v2 v3 p mk, σ = [some (.ref a), some (.ref p), v2, v3, none] ∧ Same H H' ∧ H p = none ∧ H' p = some (.lst (intsV (mksL (r.length + 1) mk))) ∧ Marks (r.length + 1) (adjK r i 0) mk ∧ ∀ k, k < r.length + 1 → 0 ≤ mk k ∧ mk k < (r.length : Int) + 1)
      ⟨none, none, p1, _, rfl, s1, n1, upd_same, adj_start r, fun k hk => ⟨by omega, by omega⟩⟩ (fun _ _ _ _ _ => trivial) ?_ ?_
    · rintro i x σ H4 H5 hi ⟨v2, v3, p, mk, rfl, sm, np, hp, hM, hb⟩ ⟨rfl, rfl⟩
      refine ⟨_, rfl, _, rfl, ?_, ?_, ?_⟩
      · omega
      · show (i : Int) < 2 ^ 62; omega
      rw [show ((i : Nat) : Int).toNat = i by omega]
      refine for_it walk_rng0 (fun j σ H' => ∃ v3 p mk, σ = [some (.ref a), some (.ref p), some (.int (i : Int)), v3, none] ∧ Same H H' ∧ H p = none ∧ H' p = some (.lst (intsV (mksL (r.length + 1) mk))) ∧ Marks (r.length + 1) (adjK r i j) mk ∧ ∀ k, k < r.length + 1 → 0 ≤ mk k ∧ mk k < (r.length : Int) + 1)
        ⟨v3, p, mk, rfl, sm, np, hp, hM, hb⟩ (fun _ _ _ _ _ => trivial) ?_ ?_
      · rintro j x σ H6 H7 hj ⟨v3, p, mk, rfl, sm, np, hp, hM, hb⟩ ⟨rfl, rfl⟩
        have hj' : j < r.length + 1 := by omega
        have gi := atI_nat (ints_get (mks_get mk hi))
        have gj := atI_nat (ints_get (mks_get mk hj'))
        have hSp : SqL K H7 p (intsV (mksL (r.length + 1) mk)) := .inl (.inl hp)
        refine ⟨_, rfl, _, rfl, p, _, _, _, rfl, rfl, hSp, gi, _, rfl, _, rfl, p, _, _, _, rfl, rfl, hSp, gj, rfl, _, rfl, ?_⟩
        have en : (!decide (V.int (mk i) = V.int (mk j))) = !decide (mk i = mk j) := by
          rw [dec_int]
          rfl
        by_cases ce : mk i = mk j
        · refine ifF (by rw [en, decide_eq_true ce]; rfl) (ifF rfl ⟨_, p, mk, rfl, sm, np, hp, ?_, hb⟩)
          by_cases cc : Crs (pos r) i j
          · exact adj_yes hj cc (marks_skip hM hj' hi ce.symm)
          · exact adj_no hM cc
        · obtain ⟨ti, hxi, hti⟩ := (hP.mono sm).get (i := i) (p := (tlo (pos r) i, thi (pos r) i)) (by unfold arcsL; rw [List.getElem?_map, List.getElem?_range hi]; rfl)
          obtain ⟨tj, hxj, htj⟩ := (hP.mono sm).get (i := j) (p := (tlo (pos r) j, thi (pos r) j)) (by unfold arcsL; rw [List.getElem?_map, List.getElem?_range hj']; rfl)
          have hSa : SqL K H7 a xs := .inl (.inl (sm _ _ hL))
          refine ifT (by rw [en, decide_eq_false ce]; rfl) ⟨_, rfl, _, rfl, a, _, _, _, rfl, rfl, hSa, atI_nat hxi, _, rfl, _, rfl, a, _, _, _, rfl, rfl, hSa, atI_nat hxj, ti, tj, _, _, _, _, rfl, .inl (.inl hti), .inl (.inl htj), fun H8 s8 => ⟨_, rfl, ?_⟩⟩
          have ec := crs_iff R hi hj' (show i ≠ j by omega)
          have hp8 := s8 _ _ hp
          have sm8 := sm.trans s8
          have hSp8 : SqL K H8 p (intsV (mksL (r.length + 1) mk)) := .inl (.inl hp8)
          by_cases cc : Crs (pos r) i j
          · refine ifT (ec.mpr cc) ?_
            refine ⟨_, rfl, p, rfl, ⟨_, hSp8⟩, fun D nD => lc_it (walk_list (xs := intsV (mksL (r.length + 1) mk))) (fun m H' => Same H8 H' ∧ H' D = some (.lst (intsV (((mksL (r.length + 1) mk).take m).map fun c => if c = mk i then mk j else c)))) ⟨same_upd nD, upd_same⟩ (fun _ _ _ h => .inl (.inl (h.1 _ _ hp8))) ?_ ?_⟩
            · rintro m x H9 H10 hm ⟨sm9, hD⟩ ⟨rfl, hx⟩
              obtain ⟨y, hy, rfl⟩ := ints_at hx
              have hSp9 : SqL K H10 p (intsV (mksL (r.length + 1) mk)) := .inl (.inl (sm9 _ _ hp8))
              refine ⟨rfl, _, rfl, _, rfl, _, rfl, p, _, _, _, rfl, rfl, hSp9, gi, rfl, _, rfl, ?_⟩
              rw [ints_take (fun c => if c = mk i then mk j else c) hy]
              have hlen2 : (intsV (((mksL (r.length + 1) mk).take m).map fun c => if c = mk i then mk j else c)).length < 100000 := by
                rw [ints_len, List.length_map, List.length_take, mks_len]
                omega
              by_cases cy : y = mk i
              · refine ifT (by rw [dec_int]; exact decide_eq_true cy) ⟨_, rfl, _, rfl, p, _, _, _, rfl, rfl, hSp9, gj, _, hD, line_lt hlen2, Same.put sm9 nD, ?_⟩
                rw [upd_same, if_pos cy]
              · refine ifF (by rw [dec_int]; exact decide_eq_false cy) ⟨_, rfl, _, hD, line_lt hlen2, Same.put sm9 nD, ?_⟩
                rw [upd_same, if_neg cy]
            rintro H9 ⟨sm9, hD⟩
            rw [ints_len, List.take_length] at hD
            have e9 : (mksL (r.length + 1) mk).map (fun c => if c = mk i then mk j else c) = mksL (r.length + 1) (fun c => if mk c = mk i then mk j else mk c) := by
              unfold mksL
              rw [List.map_map]
              rfl
            rw [e9] at hD
            refine ⟨_, D, _, rfl, sm8.trans sm9, sm8.free nD, hD, adj_yes hj cc (marks_merge hM hj' hi), fun k hk => ?_⟩
            show 0 ≤ (if mk k = mk i then mk j else mk k) ∧ (if mk k = mk i then mk j else mk k) < (r.length : Int) + 1
            split
            · exact hb j hj'
            · exact hb k hk
          · refine ifF (by cases e : crs (tlo (pos r) i) (thi (pos r) i) (tlo (pos r) j) (thi (pos r) j) with | false => rfl | true => exact absurd (ec.mp e) cc) ⟨_, p, mk, rfl, sm8, np, hp8, adj_no hM cc, hb⟩
      · rintro σ H6 ⟨v3, p, mk, rfl, sm, np, hp, hM, hb⟩
        exact ⟨_, _, p, mk, rfl, sm, np, hp, adj_row hM, hb⟩
    · rintro σ H4 ⟨v2, v3, p, mk, rfl, sm, np, hp, hM, hb⟩
      exact ⟨_, rfl, q H4 p mk sm np hp (kinds_of hM) hb⟩
end
end WT
namespace WU
open PySem PySem.Spec PyProof.Rows L2 WA WB WC WD WE WQ WS WT KI KJ

theorem mt_cntK {X : Cx} {K : PySem.W.Frag} (e : X.K = K) : MtR X "list.count" (rCntI K) := by
  subst e
  exact mt_lcount
theorem pe_ofK {X : Cx} {e : Expr} {K : PySem.W.Frag} {f : PySem.W.Frag → TE} (h : X.K = K) (p : PE X e (f X.K)) : PE X e (f K) := by
  subst h
  exact p
theorem dp_all {K : PySem.W.Frag} {H : Hp} : ∀ l : List Int, DpAll K H (intsV l) (l.map PyData.int)
  | [] => DpAll.nil
  | x :: t => DpAll.cons (Dp.int x) (dp_all t)
theorem dp_ints {K : PySem.W.Frag} {H : Hp} {a : Addr} {l : List Int} (h : SqL K H a (intsV l)) : Dp K H (.ref a) (.list (l.map PyData.int)) := Dp.lst h (dp_all l)
theorem lay_ints : ∀ l : List Int, PyData.canLayAll0 (l.map PyData.int) = true
  | [] => rfl
  | x :: t => by
    show (PyData.canLay0 (.int x) && PyData.canLayAll0 (t.map PyData.int)) = true
    rw [lay_ints t]
    rfl
theorem depth_ints : ∀ l : List Int, PyData.depthAll (l.map PyData.int) ≤ 0
  | [] => Nat.le_refl _
  | x :: t => by
    show max (PyData.depth (.int x)) (PyData.depthAll (t.map PyData.int)) ≤ 0
    have := depth_ints t
    have : PyData.depth (.int x) = 0 := rfl
    omega
theorem shaped_ints (l : List Int) : SeqAt.shaped (.list (l.map PyData.int)) = true := by
  show (PyData.canLayAll0 (l.map PyData.int) && decide (PyData.depthAll (l.map PyData.int) + 1 ≤ 64)) = true
  rw [lay_ints]
  have := depth_ints l
  simp
  omega
theorem eqv_nil (l : List Int) : PyData.eqv (.list (l.map PyData.int)) (.list []) = decide (l = []) := by
  cases l <;> rfl
theorem atI_lastI {c : List Int} {x : Int} (h : c.getLast? = some x) : atI (intsV c) (-1) = some (.int x) := by
  have hne : c ≠ [] := by
    intro e
    rw [e] at h
    cases h
  have hl : 0 < c.length := List.length_pos_iff.mpr hne
  unfold atI ixN
  rw [if_neg (by decide), if_pos (by rw [ints_len]; omega), ints_len]
  show (intsV c)[((-1 : Int) + (c.length : Int)).toNat]? = _
  rw [show ((-1 : Int) + (c.length : Int)).toNat = c.length - 1 by omega]
  refine ints_get ?_
  rw [← List.getLast?_eq_getElem?]
  exact h
def bF (d : List Int) (l : Int) : List Int := if d = [] ∨ d.getLast? ≠ some l then d ++ [l] else d
theorem bF_succ {w : List Int} {i : Nat} {x : Int} (h : w[i]? = some x) : blocksF (w.take (i + 1)) = bF (blocksF (w.take i)) x := by
  unfold blocksF
  rw [List.take_add_one, h, List.foldl_append]
  rfl
theorem bF_len (w : List Int) : (blocksF w).length ≤ w.length := (ded_blocks w).sub.length_le
theorem blocks_mem {w : List Int} {x : Int} (h : x ∈ blocks w) : x ∈ w := by
  unfold blocks at h
  refine (ded_blocks w).sub.mem ?_
  split at h
  · exact List.dropLast_subset _ h
  · exact h
theorem blocks_len (w : List Int) : (blocks w).length ≤ w.length := by
  have := bF_len w
  unfold blocks
  split
  · rw [List.length_dropLast]
    omega
  · exact this
theorem count_dec (l : List Int) (x : Int) : (V.bl (decide (V.int ((l.count x : Nat) : Int) = V.int 1))) = V.bl (decide (l.count x = 1)) := by
  rw [dec_int]
  congr 1
  exact decide_eq_decide.mpr (by omega)
theorem hur_mem {w : List Int} {x : Int} (h : hur w x) : x ∈ blocks w := by
  unfold hur at h
  exact List.count_pos_iff.mp (by omega)
theorem small_len {L : List Int} (hL : L.Nodup) (h : ∀ x, x ∈ L → 0 ≤ x ∧ x < 60) : L.length ≤ 60 := by
  have := KJ.len_le (fun (a : Int) (b : Nat) => a = (b : Int)) L (List.range 60) hL (fun a ha => ⟨a.toNat, List.mem_range.mpr (by have := h a ha; omega), by have := h a ha; omega⟩) (fun a a' b _ _ e1 e2 => e1.trans e2.symm)
  rwa [List.length_range] at this
theorem inV_ints (a : Int) (l : List Int) : inV (.int a) (intsV l) = decide (a ∈ l) := by
  unfold inV intsV
  rw [List.any_map]
  apply Bool.eq_iff_iff.mpr
  rw [List.any_eq_true, decide_eq_true_eq]
  constructor
  · rintro ⟨x, hx, e⟩
    have e2 : (x == a) = true := e
    rw [beq_iff_eq] at e2
    rw [← e2]
    exact hx
  · intro h
    exact ⟨a, h, by show (a == a) = true; exact beq_self_eq_true _⟩
theorem ints_flat (l : List Int) : (intsV l).all flatV = true := by
  rw [List.all_eq_true]
  intro x hx
  obtain ⟨n, _, rfl⟩ := List.mem_map.mp hx
  rfl
theorem take_filter {l : List Int} {i : Nat} {x : Int} (f : Int → Bool) (h : l[i]? = some x) : (l.take (i + 1)).filter f = (l.take i).filter f ++ (if f x = true then [x] else []) := by
  rw [List.take_add_one, h, List.filter_append]
  show _ ++ List.filter _ [x] = _
  cases e : f x <;> simp [e]
theorem fil_len (l : List Int) (i : Nat) (f : Int → Bool) : ((l.take i).filter f).length ≤ l.length := by
  have h1 := List.length_filter_le f (l.take i)
  rw [List.length_take] at h1
  omega

section
variable {P : Program} {w : World} {K : PySem.W.Frag} {mg : Str → Option Value} {base : Heap}

def spLawBlocks (K : PySem.W.Frag) : Sp := fun vs H Q _ => ∃ (a : Addr) (ws : List Int), vs = [.ref a] ∧ SqL K H a (intsV ws) ∧ ws.length ≤ 1000 ∧ ∀ H' p, Same H H' → H p = none → H' p = some (.lst (intsV (blocks ws))) → Q (.ref p) H'

abbrev sLawBlocks : Stmt := topS 32
theorem scLawBlocks : FnScope ["labels", "found", "label"] ["labels"] (defScope sLawBlocks) := ⟨rfl, rfl, rfl, by decide +kernel, rfl, by decide +kernel, by decide +kernel⟩
-- slots: {'labels': 0, 'found': 1, 'label': 2}
theorem hasLawBlocks {f : Addr} {fd : FuncData} (F : Fun K "_law_blocks" "_law_blocks" sLawBlocks f fd) (b : Binds K fd ["labels"] []) (g : mg "_law_blocks" = some (.ref f)) (M : Bi mg) :
    Has P w K mg base 1 "_law_blocks" ["labels"] (spLawBlocks K) := by
  refine ⟨f, fd, F.ok scLawBlocks (fun vs H Q E h => ?_) (fun cdv A outer s H vs Q E hr h => ?_), F.kp, b, g⟩
  · obtain ⟨a, ws, rfl, hL, hl, q⟩ := h
    rfl
  · obtain ⟨a, ws, rfl, hL, hl, q⟩ := h
    have nd := scLawBlocks.nd
    refine ⟨_, (pss_cons (ps_set (i := 1) nd rfl (.inl rfl) (pe_lst pa_nil))
      (pss_cons (ps_for PassesOwn.never rfl (pi_list (pv 0)) (pg_name (i := 2) nd rfl (.inl rfl))
      (pss_one (ps_if (PW.pt (pw_or (pt_cmpR (r := rEqD K) (op_eqD hr.units) (pv 1) (pe_lst pa_nil) (nomark _)) (pw_or1 (pt_cmpR  op_ne (pe_ix (r := rIxL K) ix_list (pv 1) (pe_un un_neg pe_int) (fun _ _ => rfl)) (pv 2) (nomark _)))))
        (pss_one (ps_expr (pe_bm  PySem.F.plainAttrs_list PySem.F.slot_list_append PySem.F.type_list_append mt_append (pv 1) (pa_cons (pv 2) pa_nil))))
        pss_nil)))
      (Evl.pss_cut (ps_if (PW.pt (pw_and (pt_cmpR  op_gt (pe_callB (r := Evl.rLenS K) call_len_seq (by rfl) M.m_len PySem.boot_len (pa_cons (pv 1) pa_nil)) pe_int (nomark _)) (pw_and1 (pt_cmpR  op_eq (pe_ix (r := rIxL K) ix_list (pv 1) pe_int (fun _ _ => rfl)) (pe_ix (r := rIxL K) ix_list (pv 1) (pe_un un_neg pe_int) (fun _ _ => rfl)) (nomark _)))))
      (pss_one (ps_expr (pe_bm0 PySem.F.plainAttrs_list PySem.F.slot_list_pop PySem.F.type_list_pop mt_pop (pv 1))))
      pss_nil)
      (pss_one (ps_ret (pv 1)))))), ?_⟩
    refine ⟨Nat.zero_le _, fun p1 n1 => ?_⟩
    have s1 := same_upd (o := HO.lst []) n1
    refine ⟨_, rfl, a, rfl, ⟨_, Evl.ex_l s1 hL⟩, ?_⟩
    refine for_it (walk_list (xs := intsV ws)) (fun i σ H' => ∃ v2, σ = [some (.ref a), some (.ref p1), v2] ∧ Same H H' ∧ H' p1 = some (.lst (intsV (blocksF (ws.take i)))))
      ⟨none, rfl, s1, upd_same⟩ (fun _ _ _ _ ⟨_, _, sm, _⟩ => Evl.ex_l sm hL) ?_ ?_
    · rintro i x σ H4 H5 hi ⟨v2, rfl, sm, hp⟩ ⟨rfl, hx⟩
      obtain ⟨y, hy, rfl⟩ := ints_at hx
      rw [ints_len] at hi
      have hbl := bF_len (ws.take i)
      rw [List.length_take] at hbl
      rw [bF_succ hy]
      generalize hd : blocksF (ws.take i) = d at hp hbl
      have app : ∀ H6, Same H5 H6 → d = [] ∨ d.getLast? ≠ some y → ∃ (l : Addr) (xs : List V) (y' : V), V.ref p1 = .ref l ∧ [V.int y] = [y'] ∧ H6 l = some (.lst xs) ∧ xs.length < sizeLine ∧ (∃ v2, [some (V.ref a), some (.ref p1), some (.int y)] = [some (V.ref a), some (.ref p1), v2] ∧ Same H (upd H6 l (.lst (xs ++ [y']))) ∧ upd H6 l (.lst (xs ++ [y'])) p1 = some (.lst (intsV (bF d y)))) := fun H6 s6 hc => by
        refine ⟨p1, _, _, rfl, rfl, s6 _ _ hp, ?_, _, rfl, Same.put (sm.trans s6) n1, ?_⟩
        · rw [ints_len]
          exact line_lt (by omega)
        · rw [upd_same]
          unfold bF
          rw [if_pos hc, ints_app]
          rfl
      refine ⟨_, rfl, Nat.zero_le _, fun p2 n2 => ?_⟩
      have s2 := same_upd (o := HO.lst (intsV [])) n2
      refine ⟨_, .list [], dp_ints (.inl (.inl (s2 _ _ hp))), dp_ints (l := []) (.inl (.inl upd_same)), shaped_ints d, rfl, _, rfl, ?_⟩
      rw [eqv_nil]
      by_cases c1 : d = []
      · refine ifT (decide_eq_true c1) (ifT rfl ⟨_, rfl, .inl ⟨rfl, _, .inl (.inl (s2 _ _ hp))⟩, _, rfl, app _ s2 (.inl c1)⟩)
      · obtain ⟨z, hz⟩ : ∃ z, d.getLast? = some z := ⟨d.getLast c1, List.getLast?_eq_getLast c1⟩
        refine ifF (decide_eq_false c1) ⟨_, rfl, _, rfl, p1, _, _, _, rfl, rfl, .inl (.inl (s2 _ _ hp)), atI_lastI hz, _, rfl, rfl, _, rfl, ?_⟩
        have en : (!decide (V.int z = V.int y)) = !decide (z = y) := by
          rw [dec_int]
          rfl
        by_cases c2 : z = y
        · refine ifF (by rw [en, decide_eq_true c2]; rfl) ⟨_, rfl, sm.trans s2, ?_⟩
          refine (s2 _ _ hp).trans ?_
          unfold bF
          rw [if_neg]
          rintro (h | h)
          · exact c1 h
          · exact h (by rw [hz, c2])
        · refine ifT (by rw [en, decide_eq_false c2]; rfl) ⟨_, rfl, .inl ⟨rfl, _, .inl (.inl (s2 _ _ hp))⟩, _, rfl, app _ s2 (.inr (by rw [hz]; intro e; exact c2 (Option.some.inj e)))⟩
    rintro σ H4 ⟨v2, rfl, sm, hp⟩
    rw [ints_len, List.take_length] at hp
    have done : ∀ H', Same H H' → H' p1 = some (.lst (intsV (blocks ws))) → ∃ v, [some (V.ref a), some (.ref p1), v2][1]? = some (some v) ∧ Q v H' := fun H' s' h' => ⟨_, rfl, q H' p1 s' n1 h'⟩
    refine ⟨fun σ' H' => σ' = [some (.ref a), some (.ref p1), v2] ∧ Same H H' ∧ H' p1 = some (.lst (intsV (blocks ws))), ?_, ?_⟩
    · refine ⟨_, rfl, p1, _, rfl, .inl (.inl (.inl hp)), _, _, rfl, rfl, decide (1 < (blocksF ws).length), ?_, ?_⟩
      · rw [ints_len]
        show V.bl (decide ((1 : Int) < ((blocksF ws).length : Int))) = _
        congr 1
        exact decide_eq_decide.mpr (by omega)
      by_cases c1 : 1 < (blocksF ws).length
      · have hne : blocksF ws ≠ [] := by
          intro e
          rw [e] at c1
          exact absurd c1 (by simp)
        obtain ⟨z, hz⟩ : ∃ z, (blocksF ws).getLast? = some z := ⟨_, List.getLast?_eq_getLast hne⟩
        obtain ⟨y, hy⟩ : ∃ y, (blocksF ws)[0]? = some y := ⟨_, List.getElem?_eq_getElem (by omega)⟩
        have hy' : (blocksF ws).head? = some y := by rw [List.head?_eq_getElem?]; exact hy
        have hSp : SqL K H4 p1 (intsV (blocksF ws)) := .inl (.inl hp)
        refine ifT (decide_eq_true c1) ⟨_, rfl, p1, _, _, _, rfl, rfl, hSp, atI_nat (j := 0) (ints_get hy), _, rfl, _, rfl, p1, _, _, _, rfl, rfl, hSp, atI_lastI hz, rfl, _, rfl, ?_⟩
        by_cases c2 : y = z
        · have hzi : (intsV (blocksF ws))[(intsV (blocksF ws)).length - 1]? = some (V.int z) := by
            rw [ints_len]
            refine ints_get ?_
            rw [← List.getLast?_eq_getElem?]
            exact hz
          refine ifT (by rw [dec_int]; exact decide_eq_true c2) ⟨_, rfl, .inl ⟨rfl, _, hSp⟩, p1, _, _, rfl, rfl, hp, hzi, rfl, Same.put sm n1, ?_⟩
          rw [upd_same]
          unfold blocks
          rw [if_pos ⟨c1, by rw [hy', hz, c2]⟩]
          unfold intsV
          rw [← List.map_dropLast]
        · refine ifF (by rw [dec_int]; exact decide_eq_false c2) ⟨rfl, sm, ?_⟩
          rw [hp]
          unfold blocks
          rw [if_neg]
          rintro ⟨_, h⟩
          rw [hy', hz] at h
          exact c2 (Option.some.inj h)
      · refine ifF (decide_eq_false c1) (ifF rfl ⟨rfl, sm, ?_⟩)
        rw [hp]
        unfold blocks
        rw [if_neg (fun h => c1 h.1)]
    · rintro σ' H' ⟨rfl, sm', hp'⟩
      exact done H' sm' hp'

def spLawHurdles (K : PySem.W.Frag) : Sp := fun vs H Q _ => ∃ (a : Addr) (ws : List Int), vs = [.ref a] ∧ SqL K H a (intsV ws) ∧ ws.length ≤ 1000 ∧ (∀ x, x ∈ ws → 0 ≤ x ∧ x < 60) ∧
  ∀ H' p hs, Same H H' → H p = none → H' p = some (.lst (intsV hs)) → hs.Nodup → (∀ x, x ∈ hs ↔ hur ws x) → hs.length ≤ 60 → Q (.ref p) H'

abbrev sLawHurdles : Stmt := topS 33
theorem scLawHurdles : FnScope ["labels", "blocks", "label"] ["labels"] (defScope sLawHurdles) := ⟨rfl, rfl, rfl, by decide +kernel, rfl, by decide +kernel, by decide +kernel⟩
-- slots: {'labels': 0, 'blocks': 1, 'label': 2}
theorem hasLawHurdles {f : Addr} {fd : FuncData} (F : Fun K "_law_hurdles" "_law_hurdles" sLawHurdles f fd) (b : Binds K fd ["labels"] []) (g : mg "_law_hurdles" = some (.ref f)) (M : Bi mg)
    (hLawBlocks : Has P w K mg base 1 "_law_blocks" ["labels"] (spLawBlocks K)) :
    Has P w K mg base 2 "_law_hurdles" ["labels"] (spLawHurdles K) := by
  obtain ⟨fLawBlocks, fdLawBlocks, GLawBlocks, kLawBlocks, bLawBlocks, gLawBlocks⟩ := hLawBlocks
  refine ⟨f, fd, F.ok scLawHurdles (fun vs H Q E h => ?_) (fun cdv A outer s H vs Q E hr h => ?_), F.kp, b, g⟩
  · obtain ⟨a, ws, rfl, hL, hl, hb, q⟩ := h
    rfl
  · obtain ⟨a, ws, rfl, hL, hl, hb, q⟩ := h
    have nd := scLawHurdles.nd
    refine ⟨_, (pss_cons (ps_set (i := 1) nd rfl (.inr rfl) (pe_call GLawBlocks (hr.mono (by decide)) (by rfl) gLawBlocks kLawBlocks bLawBlocks .nil pass0 (pa_cons (pv 0) pa_nil)))
      (pss_one (ps_ret (pe_lc (own := [("label", 2)]) (g := (gName 2)) (by rfl) nd (pi_list (pe_callB (r := rSortedSet w) (cr_sortedSet rfl) (by rfl) M.m_sorted (by decide +kernel) (pa_cons (pe_callTy (T := "set") (r := WR3.rSetL K w) (WR3.cr_setL rfl) (by rfl) M.m_set (by decide +kernel) (pa_cons (pv 1) pa_nil)) pa_nil))) (blkOk_by (own := [("label", 2)]) (N := ["labels", "blocks", "label"]) (sc := defScope sLawHurdles) (by decide +kernel)) (fun _ _ _ _ _ => (pg_name (i := 2) nd rfl (Or.inl rfl))) (fun _ _ _ _ _ => pts_one (pt_cmpR  op_eq (pe_ofK (f := fun K' => tBM K' "list" (rCntI K) (tVar 1) (tCons (tVar 2) tNil)) rfl (pe_bm (r := rCntI K) PySem.F.plainAttrs_list PySem.F.slot_list_count PySem.F.type_list_count (mt_cntK rfl) (pv 1) (pa_cons (pv 2) pa_nil))) pe_int (nomark _))) (fun _ _ _ _ _ => (pv 2)))))), ?_⟩
    refine ⟨_, rfl, a, ws, rfl, hL, hl, fun H1 p1 s1 n1 h1 => ?_⟩
    have hbl := blocks_len ws
    refine ⟨_, rfl, p1, blocks ws, rfl, .inl (.inl h1), by omega, fun p2 L n2 hLn hLm => ?_⟩
    have s2 := same_upd (o := SetO w p2 (fun j => decide (j ∈ blocks ws)) L.length) n2
    have hL60 := small_len hLn (fun x hx => hb x (blocks_mem ((hLm x).mp hx)))
    refine ⟨p2, _, _, rfl, upd_same, by omega, fun ns p3 hns hnm hnl n3 => ?_⟩
    have s3 := same_upd (o := HO.lst (intsV ns)) n3
    have h13 := s3 _ _ (s2 _ _ h1)
    refine ⟨p3, rfl, ⟨_, .inl (.inl upd_same)⟩, fun D nD => ?_⟩
    have hq3 := upd_same (H := upd H1 p2 (SetO w p2 (fun j => decide (j ∈ blocks ws)) L.length)) (a := p3) (o := HO.lst (intsV ns))
    refine lc_it (walk_list (xs := intsV ns)) (fun i H' => Same (upd (upd H1 p2 (SetO w p2 (fun j => decide (j ∈ blocks ws)) L.length)) p3 (HO.lst (intsV ns))) H' ∧ H' D = some (.lst (intsV ((ns.take i).filter fun x => decide ((blocks ws).count x = 1))))) ⟨same_upd nD, upd_same⟩ (fun _ _ _ h => .inl (.inl (h.1 _ _ hq3))) ?_ ?_
    · rintro i x H4 H5 hi ⟨sm, hD⟩ ⟨rfl, hx⟩
      obtain ⟨y, hy, rfl⟩ := ints_at hx
      rw [take_filter _ hy]
      have hS : SqL K H5 p1 ((blocks ws).map V.int) := .inl (.inl (sm _ _ h13))
      refine ⟨rfl, _, rfl, .inl ⟨rfl, _, hS⟩, _, rfl, p1, blocks ws, y, rfl, rfl, hS, rfl, _, count_dec _ _, ?_⟩
      by_cases c : (blocks ws).count y = 1
      · refine ifT (decide_eq_true c) ⟨_, rfl, _, hD, ?_, Same.put sm nD, ?_⟩
        · rw [ints_len]
          have := fil_len ns i (fun x => decide ((blocks ws).count x = 1))
          exact line_lt (by omega)
        · rw [upd_same, if_pos (decide_eq_true c), ints_app]
          rfl
      · refine ifF (decide_eq_false c) ⟨sm, ?_⟩
        rw [if_neg (by rw [decide_eq_false c]; exact Bool.false_ne_true), List.append_nil]
        exact hD
    rintro H4 ⟨sm, hD⟩
    rw [ints_len, List.take_length] at hD
    refine q H4 D _ (s1.trans ((s2.trans s3).trans sm)) (s1.free ((s2.trans s3).free nD)) hD (List.Pairwise.filter _ (hns.imp fun h e => by omega)) (fun x => ?_) ?_
    · rw [List.mem_filter, decide_eq_true_eq, hnm, decide_eq_true_eq]
      exact ⟨fun h => h.2, fun h => ⟨hur_mem h, h⟩⟩
    · have := List.length_filter_le (fun x => decide ((blocks ws).count x = 1)) ns
      omega

noncomputable def spLawHurdleCost (K : PySem.W.Frag) : Sp := fun vs H Q _ => ∃ (a : Addr) (ws : List Int), vs = [.ref a] ∧ SqL K H a (intsV ws) ∧ ws.length ≤ 1000 ∧ (∀ x, x ∈ ws → 0 ≤ x ∧ x < 60) ∧
  ∀ H' Hs, Same H H' → Hs.Nodup → (∀ x, x ∈ Hs ↔ hur ws x) → Q (.int ((lawCost ws Hs : Nat) : Int)) H'

abbrev sLawHurdleCost : Stmt := topS 34
theorem scLawHurdleCost : FnScope ["labels", "hurdles", "hurdle", "left", "label"] ["labels"] (defScope sLawHurdleCost) := ⟨rfl, rfl, rfl, by decide +kernel, rfl, by decide +kernel, by decide +kernel⟩
-- slots: {'labels': 0, 'hurdles': 1, 'hurdle': 2, 'left': 3, 'label': 4}
theorem hasLawHurdleCost {f : Addr} {fd : FuncData} (F : Fun K "_law_hurdle_cost" "_law_hurdle_cost" sLawHurdleCost f fd) (b : Binds K fd ["labels"] []) (g : mg "_law_hurdle_cost" = some (.ref f)) (M : Bi mg)
    (hLawHurdles : Has P w K mg base 2 "_law_hurdles" ["labels"] (spLawHurdles K)) :
    Has P w K mg base 3 "_law_hurdle_cost" ["labels"] (spLawHurdleCost K) := by
  obtain ⟨fLawHurdles, fdLawHurdles, GLawHurdles, kLawHurdles, bLawHurdles, gLawHurdles⟩ := hLawHurdles
  refine ⟨f, fd, F.ok scLawHurdleCost (fun vs H Q E h => ?_) (fun cdv A outer s H vs Q E hr h => ?_), F.kp, b, g⟩
  · obtain ⟨a, ws, rfl, hL, hl, hb, q⟩ := h
    rfl
  · obtain ⟨a, ws, rfl, hL, hl, hb, q⟩ := h
    have nd := scLawHurdleCost.nd
    refine ⟨_, (pss_cons (ps_set (i := 1) nd rfl (.inr rfl) (pe_call GLawHurdles (hr.mono (by decide)) (by rfl) gLawHurdles kLawHurdles bLawHurdles .nil pass0 (pa_cons (pv 0) pa_nil)))
      (pss_cons (ps_for PassesOwn.never rfl (pi_list (pv 1)) (pg_name (i := 2) nd rfl (.inr rfl))
      (pss_cons (ps_set (i := 3) nd rfl (.inl rfl) (pe_call GLawHurdles (hr.mono (by decide)) (by rfl) gLawHurdles kLawHurdles bLawHurdles .nil pass0 (pa_cons (pe_lc (own := [("label", 4)]) (g := (gName 4)) (by rfl) nd (pi_list (pv 0)) (blkOk_by (own := [("label", 4)]) (N := ["labels", "hurdles", "hurdle", "left", "label"]) (sc := defScope sLawHurdleCost) (by decide +kernel)) (fun _ _ _ _ _ => (pg_name (i := 4) nd rfl (Or.inl rfl))) (fun _ _ _ _ _ => pts_one (pt_cmpR  op_ne (pv 4) (pv 2) (nomark _))) (fun _ _ _ _ _ => (pv 4))) pa_nil)))
        (pss_one (ps_if (pt_cmpR (r := rEqD K) (op_eqD hr.units) (pe_lc (own := [("label", 4)]) (g := (gName 4)) (by rfl) nd (pi_list (pv 3)) (blkOk_by (own := [("label", 4)]) (N := ["labels", "hurdles", "hurdle", "left", "label"]) (sc := defScope sLawHurdleCost) (by decide +kernel)) (fun _ _ _ _ _ => (pg_name (i := 4) nd rfl (Or.inl rfl))) (fun _ _ _ _ _ => pts_one (pt_cmpR (r := rIn K true) op_notIn_seq (pv 4) (pv 1) (by rfl))) (fun _ _ _ _ _ => (pv 4))) (pe_lst pa_nil) (nomark _))
        (pss_one (ps_ret (pe_callB (r := Evl.rLenS K) call_len_seq (by rfl) M.m_len PySem.boot_len (pa_cons (pv 1) pa_nil))))
        pss_nil))))
      (pss_one (ps_ret (pe_op  op_add (pe_callB (r := Evl.rLenS K) call_len_seq (by rfl) M.m_len PySem.boot_len (pa_cons (pv 1) pa_nil)) (pe_callTy (T := "int") (r := WA.rInt1) call_int1 (by rfl) M.m_int (by decide +kernel) (pa_cons (pe_cmpR  op_eq (pe_op  op_mod (pe_callB (r := Evl.rLenS K) call_len_seq (by rfl) M.m_len PySem.boot_len (pa_cons (pv 1) pa_nil)) pe_int) pe_int (nomark _)) pa_nil))))))), ?_⟩
    refine ⟨_, rfl, a, ws, rfl, hL, hl, hb, fun H1 p1 Hs s1 n1 h1 hnd hm h60 => ?_⟩
    refine ⟨_, rfl, p1, rfl, ⟨_, .inl (.inl h1)⟩, ?_⟩
    refine for_it (walk_list (xs := intsV Hs)) (fun i σ H' => ∃ v2 v3, σ = [some (.ref a), some (.ref p1), v2, v3, none] ∧ Same H1 H' ∧ ∀ x, x ∈ Hs.take i → newH ws x)
      ⟨none, none, rfl, fun _ _ h => h, fun x h => by simp at h⟩ (fun _ _ _ _ ⟨_, _, _, sm, _⟩ => .inl (.inl (sm _ _ h1))) ?_ ?_
    · rintro i x σ H4 H5 hi ⟨v2, v3, rfl, sm, hno⟩ ⟨rfl, hx⟩
      obtain ⟨h0, hh0, rfl⟩ := ints_at hx
      have hL5 := Evl.ex_l (s1.trans sm) hL
      refine ⟨_, rfl, a, rfl, ⟨_, hL5⟩, fun D nD => lc_it (walk_list (xs := intsV ws)) (fun j H' => Same H5 H' ∧ H' D = some (.lst (intsV ((ws.take j).filter fun x => decide (x ≠ h0))))) ⟨same_upd nD, upd_same⟩ (fun _ _ _ h => Evl.ex_l h.1 hL5) ?_ ?_⟩
      · rintro j x H6 H7 hj ⟨sm6, hD⟩ ⟨rfl, hx⟩
        obtain ⟨y, hy, rfl⟩ := ints_at hx
        rw [take_filter _ hy]
        have en : (!decide (V.int y = V.int h0)) = decide (y ≠ h0) := by
          rw [dec_int]
          show (!decide (y = h0)) = _
          simp
        refine ⟨rfl, _, rfl, _, rfl, rfl, _, rfl, ?_⟩
        by_cases c : y ≠ h0
        · refine ifT (by rw [en]; exact decide_eq_true c) ⟨_, rfl, _, hD, ?_, Same.put sm6 nD, ?_⟩
          · rw [ints_len]
            have := fil_len ws j (fun x => decide (x ≠ h0))
            exact line_lt (by omega)
          · rw [upd_same, if_pos (decide_eq_true c), ints_app]
            rfl
        · refine ifF (by rw [en]; exact decide_eq_false c) ⟨sm6, ?_⟩
          rw [if_neg (by rw [decide_eq_false c]; exact Bool.false_ne_true), List.append_nil]
          exact hD
      rintro H6 ⟨sm6, hD⟩
      rw [ints_len, List.take_length] at hD
      refine ⟨D, _, rfl, .inl (.inl hD), ?_, fun x hx => hb x (List.mem_filter.mp hx).1, fun H7 p7 hs7 s7 n7 h7 hn7 hm7 hl7 => ?_⟩
      · have := List.length_filter_le (fun x => decide (x ≠ h0)) ws
        omega
      have h17 := s7 _ _ (sm6 _ _ (sm _ _ h1))
      refine ⟨_, rfl, p7, rfl, ⟨_, .inl (.inl h7)⟩, fun D2 nD2 => lc_it (walk_list (xs := intsV hs7)) (fun j H' => Same H7 H' ∧ H' D2 = some (.lst (intsV ((hs7.take j).filter fun x => !decide (x ∈ Hs))))) ⟨same_upd nD2, upd_same⟩ (fun _ _ _ h => .inl (.inl (h.1 _ _ h7))) ?_ ?_⟩
      · rintro j x H8 H9 hj ⟨sm8, hD2⟩ ⟨rfl, hx⟩
        obtain ⟨y, hy, rfl⟩ := ints_at hx
        rw [take_filter _ hy]
        refine ⟨rfl, _, rfl, _, rfl, p1, _, rfl, .inl (.inl (.inl (sm8 _ _ h17))), rfl, ints_flat Hs, _, rfl, ?_⟩
        rw [inV_ints]
        cases c : decide (y ∈ Hs) with
        | true =>
          refine ifF rfl ⟨sm8, ?_⟩
          rw [if_neg (by rw [Bool.not_true]; exact Bool.false_ne_true), List.append_nil]
          exact hD2
        | false =>
          refine ifT rfl ⟨_, rfl, _, hD2, ?_, Same.put sm8 nD2, ?_⟩
          · rw [ints_len]
            have := fil_len hs7 j (fun x => !decide (x ∈ Hs))
            exact line_lt (by omega)
          · rw [upd_same, if_pos (by rfl), ints_app]
            rfl
      rintro H8 ⟨sm8, hD2⟩
      rw [ints_len, List.take_length] at hD2
      refine ⟨Nat.zero_le _, fun p9 n9 => ?_⟩
      have s9 := same_upd (o := HO.lst (intsV [])) n9
      refine ⟨_, .list [], dp_ints (.inl (.inl (s9 _ _ hD2))), dp_ints (l := []) (.inl (.inl upd_same)), shaped_ints _, rfl, _, rfl, ?_⟩
      rw [eqv_nil]
      have sm59 := (sm6.trans s7).trans (sm8.trans s9)
      have hnew : hs7.filter (fun x => !decide (x ∈ Hs)) = [] ↔ ¬ newH ws h0 := by
        rw [List.filter_eq_nil_iff]
        unfold newH
        constructor
        · rintro h ⟨x, hx, hx2⟩
          refine h x ((hm7 x).mpr hx) ?_
          rw [decide_eq_false (fun q => hx2 ((hm x).mp q))]
          rfl
        · intro h x hx hq
          refine h ⟨x, (hm7 x).mp hx, fun q => ?_⟩
          rw [decide_eq_true ((hm x).mpr q)] at hq
          cases hq
      by_cases c : hs7.filter (fun x => !decide (x ∈ Hs)) = []
      · refine ifT (decide_eq_true c) ⟨_, rfl, p1, _, rfl, .inl (.inl (.inl (sm59 _ _ (sm _ _ h1)))), ?_⟩
        have fin := q _ Hs (s1.trans (sm.trans sm59)) hnd hm
        unfold lawCost at fin
        rw [if_pos ⟨h0, List.mem_of_getElem? hh0, hnew.mp c⟩] at fin
        rw [ints_len]
        exact fin
      · refine ifF (decide_eq_false c) ⟨_, _, rfl, sm.trans sm59, fun x hx => ?_⟩
        rw [List.take_add_one, hh0] at hx
        rcases List.mem_append.mp hx with h | h
        · exact hno x h
        · have : x = h0 := by simpa using h
          rw [this]
          exact Classical.byContradiction fun hc => c (hnew.mpr hc)
    rintro σ H4 ⟨v2, v3, rfl, sm, hno⟩
    rw [ints_len, List.take_length] at hno
    have fin := q _ Hs (s1.trans sm) hnd hm
    unfold lawCost at fin
    rw [if_neg (fun ⟨x, hx, hx2⟩ => hx2 (hno x hx))] at fin
    have hSp : SqL K H4 p1 (intsV Hs) := .inl (.inl (sm _ _ h1))
    refine ⟨_, rfl, p1, _, rfl, .inl hSp, _, rfl, p1, _, rfl, .inl hSp, _, _, rfl, rfl, (by show (0 : Int) < 2; decide), rfl, .inr ⟨_, rfl, _, _, rfl, rfl, ?_⟩⟩
    have e : (((intsV Hs).length : Nat) : Int) + (if decide (V.int ((((intsV Hs).length : Nat) : Int) % 2) = V.int 1) = true then 1 else 0) = ((Hs.length + Hs.length % 2 : Nat) : Int) := by
      rw [ints_len, dec_int]
      by_cases h : (Hs.length : Int) % 2 = 1
      · rw [if_pos (beq_iff_eq.mpr h)]
        omega
      · rw [if_neg (fun q => h (beq_iff_eq.mp q))]
        omega
    show Q (V.int _) H4
    rw [e]
    exact fin
end
end WU
namespace WV
open PySem PySem.Spec PyProof.Rows L2 WA WB WC WD WE WF WH WJ WN WQ WS WT WU KL KG KH KK KN KO

def adjI (r : List Int) (i c d : Nat) : Prop := ∃ k, k < i ∧ c = hinder r k ∧ d = fore r k
theorem adjI_start (r : List Int) : Marks (r.length + 1) (adjI r 0) (fun k => (k : Int)) :=
  marks_congr (marks_start _) (fun a b _ _ h => by
    obtain ⟨k, hk, _⟩ := h
    exact absurd hk (Nat.not_lt_zero k)) (fun a b _ _ h => h.elim)
theorem adjI_step {r : List Int} (R : IsRow r) {i : Nat} {mk : Nat → Int} (hi : i < r.length + 1) (H : Marks (r.length + 1) (adjI r i) mk) : Marks (r.length + 1) (adjI r (i + 1)) (fun c => if mk c = mk (fore r i) then mk (hinder r i) else mk c) :=
  marks_congr (marks_merge H (hinder_lt R hi) (fore_lt R hi)) (fun a b ha hb h => by
    obtain ⟨k, hk, e1, e2⟩ := h
    refine Conn.one ha hb ?_
    by_cases e : k = i
    · subst e
      exact .inr ⟨e1, e2⟩
    · exact .inl ⟨k, by omega, e1, e2⟩) (fun a b ha hb h => by
    refine Conn.one ha hb ?_
    rcases h with ⟨k, hk, e1, e2⟩ | ⟨e1, e2⟩
    · exact ⟨k, by omega, e1, e2⟩
    · exact ⟨i, by omega, e1, e2⟩)
theorem hinder_eq {r : List Int} (k : Nat) : (place r k : Int) - (if decide (numAt r (place r k) < 0) = true then 1 else 0) = (hinder r k : Int) := by
  unfold hinder
  by_cases h : numAt r (place r k) < 0
  · rw [if_pos (decide_eq_true h), if_pos h]
    have := (neg_last h).2
    omega
  · rw [if_neg (by simpa using h), if_neg h]
    omega
theorem fore_eq {r : List Int} (R : IsRow r) {k : Nat} (hk : k < r.length + 1) : (place r (k + 1) : Int) - (if decide (0 ≤ numAt r (place r (k + 1))) = true then 1 else 0) = (fore r k : Int) := by
  have := place_pos R (show 1 ≤ k + 1 by omega) (by omega)
  unfold fore
  by_cases h : numAt r (place r (k + 1)) < 0
  · rw [if_neg (by rw [decide_eq_false (by omega)]; exact Bool.false_ne_true), if_pos h]
    omega
  · rw [if_pos (decide_eq_true (by omega)), if_neg h]
    omega

section
variable {P : Program} {w : World} {K : PySem.W.Frag} {mg : Str → Option Value} {base : Heap}

noncomputable def spLawRingCount (K : PySem.W.Frag) : Sp := fun vs H Q _ => ∃ (a : Addr) (r : List Int), vs = [.ref a] ∧ SqT K H a (intsV r) ∧ r.length ≤ 40 ∧ IsRow r ∧ ∀ H', Same H H' → Q (.int (rings r : Int)) H'

/-- where an amount stands -/
theorem ix_place {r : List Int} (R : IsRow r) {K : PySem.W.Frag} {H : Hp} {a : Addr} {Q : VK} {k : Nat} (hk : k < r.length + 2) (h : H a = some (.lst (natsV (amts r)))) (q : Q (.int (place r k : Int)) H) : rIndex K (.ref a) [.int (k : Int)] H Q := by
  have hp := place_lt R hk
  refine ⟨a, _, _, place r k, .int (k : Int), rfl, rfl, .inl (.inl h), rfl, nats_flat _, nats_get ?_, beq_self_eq_true (k : Int), fun m z hm hz => ?_, q⟩
  · rw [amts_get hp, place_abs R hk]
  · obtain ⟨g, hg, rfl⟩ := nats_at hz
    rw [amts_get (by omega)] at hg
    cases hg
    show (((numAt r m).natAbs : Int) == (k : Int)) = false
    rw [beq_eq_false_iff_ne]
    intro e
    have e2 : (numAt r m).natAbs = k := by omega
    have := abs_place R (show m < r.length + 2 by omega)
    rw [e2] at this
    omega

abbrev sLawRingCount : Stmt := topS 36
theorem scLawRingCount : FnScope ["row", "numbers", "amounts", "marks", "k", "spot", "other", "one", "two", "number", "mark"] ["row"] (defScope sLawRingCount) := ⟨rfl, rfl, rfl, by decide +kernel, rfl, by decide +kernel, by decide +kernel⟩
-- slots: {'row': 0, 'numbers': 1, 'amounts': 2, 'marks': 3, 'k': 4, 'spot': 5, 'other': 6, 'one': 7, 'two': 8, 'number': 9, 'mark': 10}
theorem hasLawRingCount {f : Addr} {fd : FuncData} (F : Fun K "_law_ring_count" "_law_ring_count" sLawRingCount f fd) (b : Binds K fd ["row"] []) (g : mg "_law_ring_count" = some (.ref f)) (M : Bi mg) :
    Has P w K mg base 1 "_law_ring_count" ["row"] (spLawRingCount K) := by
  refine ⟨f, fd, F.ok scLawRingCount (fun vs H Q E h => ?_) (fun cdv A outer s H vs Q E hr h => ?_), F.kp, b, g⟩
  · obtain ⟨a, r, rfl, hT, hlen, R, q⟩ := h
    rfl
  · obtain ⟨a, r, rfl, hT, hlen, R, q⟩ := h
    have nd := scLawRingCount.nd
    refine ⟨_, (pss_cons (ps_set (i := 1) nd rfl (.inl rfl) (pe_op  op_cat (pe_op  op_cat (pe_lst (pa_cons pe_int pa_nil)) (pe_callTy (T := "list") (r := Evl.rListS K) call_list_of (by rfl) M.m_list (by decide +kernel) (pa_cons (pv 0) pa_nil))) (pe_lst (pa_cons (pe_op  op_add (pe_callB (r := Evl.rLenS K) call_len_seq (by rfl) M.m_len PySem.boot_len (pa_cons (pv 0) pa_nil)) pe_int) pa_nil))))
      (pss_cons (ps_setLc (i := 2) (own := [("number", 9)]) (g := (gName 9)) rfl nd rfl rfl (sw_true rfl rfl rfl (by decide +kernel)) (pi_list (pv 1)) (blkOk_by (own := [("number", 9)]) (N := ["row", "numbers", "amounts", "marks", "k", "spot", "other", "one", "two", "number", "mark"]) (sc := defScope sLawRingCount) (by decide +kernel)) (fun _ _ _ _ _ => (pg_name (i := 9) nd rfl (Or.inl rfl))) (fun _ _ _ _ _ => pts_nil) (fun _ _ _ _ _ => (pe_callB  call_abs (by rfl) M.m_abs (by decide +kernel) (pa_cons (pv 9) pa_nil))))
      (pss_cons (ps_set (i := 3) nd rfl (.inr rfl) (pe_listRg (by rfl) (by rfl) M.m_list (prg_1 (by rfl) M.m_range (pe_op  op_add (pe_callB (r := Evl.rLenS K) call_len_seq (by rfl) M.m_len PySem.boot_len (pa_cons (pv 0) pa_nil)) pe_int))))
      (pss_cons (ps_for PassesOwn.never rfl (pi_range1 rfl M.m_range (pa_cons (pe_op  op_add (pe_callB (r := Evl.rLenS K) call_len_seq (by rfl) M.m_len PySem.boot_len (pa_cons (pv 0) pa_nil)) pe_int) pa_nil)) (pg_name (i := 4) nd rfl (.inl rfl))
      (pss_cons (ps_set (i := 5) nd rfl (.inl rfl) (pe_bm (r := rIndex K) PySem.F.plainAttrs_list PySem.F.slot_list_index PySem.F.type_list_index mt_index (pv 2) (pa_cons (pv 4) pa_nil)))
        (pss_cons (ps_set (i := 6) nd rfl (.inl rfl) (pe_bm (r := rIndex K) PySem.F.plainAttrs_list PySem.F.slot_list_index PySem.F.type_list_index mt_index (pv 2) (pa_cons (pe_op  op_add (pv 4) pe_int) pa_nil)))
        (pss_cons (ps_set (i := 7) nd rfl (.inr rfl) (pe_op  op_sub (pv 5) (pe_callTy (T := "int") (r := WA.rInt1) call_int1 (by rfl) M.m_int (by decide +kernel) (pa_cons (pe_cmpR  op_lt (pe_ix (r := rIxL K) ix_list (pv 1) (pv 5) (fun _ _ => rfl)) pe_int (nomark _)) pa_nil))))
        (pss_cons (ps_set (i := 8) nd rfl (.inr rfl) (pe_op  op_sub (pv 6) (pe_callTy (T := "int") (r := WA.rInt1) call_int1 (by rfl) M.m_int (by decide +kernel) (pa_cons (pe_cmpR  op_ge (pe_ix (r := rIxL K) ix_list (pv 1) (pv 6) (fun _ _ => rfl)) pe_int (nomark _)) pa_nil))))
        (pss_one (ps_set (i := 3) nd rfl (.inr rfl) (pe_lc (own := [("mark", 10)]) (g := (gName 10)) (by rfl) nd (pi_list (pv 3)) (blkOk_by (own := [("mark", 10)]) (N := ["row", "numbers", "amounts", "marks", "k", "spot", "other", "one", "two", "number", "mark"]) (sc := defScope sLawRingCount) (by decide +kernel)) (fun _ _ _ _ _ => (pg_name (i := 10) nd rfl (Or.inl rfl))) (fun _ _ _ _ _ => pts_nil) (fun _ _ _ _ _ => (pe_ifExp (pt_cmpR  op_eq (pv 10) (pe_ix (r := rIxL K) ix_list (pv 3) (pv 8) (fun _ _ => rfl)) (nomark _)) (pe_ix (r := rIxL K) ix_list (pv 3) (pv 7) (fun _ _ => rfl)) (pv 10)))))))))))
      (pss_one (ps_ret (pe_callB (r := WR3.rLenSet w) WR3.cr_lenSet (by rfl) M.m_len PySem.boot_len (pa_cons (pe_callTy (T := "set") (r := WR3.rSetL K w) (WR3.cr_setL rfl) (by rfl) M.m_set (by decide +kernel) (pa_cons (pv 3) pa_nil)) pa_nil)))))))), ?_⟩
    -- numbers
    refine ⟨line_ok (by show 1 ≤ 100000; decide), fun p1 n1 => ?_⟩
    have s1 := same_upd (o := HO.lst [V.int 0]) n1
    refine ⟨_, rfl, a, _, rfl, .inr (sameT s1 hT), fun p2 n2 => ?_⟩
    have s2 := same_upd (o := HO.lst (intsV r)) n2
    refine ⟨p1, p2, _, _, rfl, rfl, s2 _ _ upd_same, upd_same, ?_, fun p3 n3 => ?_⟩
    · rw [ints_len]
      exact line_ok (by show 1 + r.length ≤ 100000; omega)
    have s3 := same_upd (o := HO.lst ([V.int 0] ++ intsV r)) n3
    have s13 := s1.trans (s2.trans s3)
    refine ⟨_, rfl, a, _, rfl, .inr (sameT s13 hT), _, _, rfl, rfl, line_ok (by show 1 ≤ 100000; decide), fun p4 n4 => ?_⟩
    have s4 := same_upd (o := HO.lst [V.int ((((intsV r).length : Nat) : Int) + 1)]) n4
    refine ⟨p3, p4, _, _, rfl, rfl, s4 _ _ upd_same, upd_same, ?_, fun p5 n5 => ?_⟩
    · rw [List.length_append, ints_len]
      exact line_ok (by show 1 + r.length + 1 ≤ 100000; omega)
    have e5 : [V.int 0] ++ intsV r ++ [V.int ((((intsV r).length : Nat) : Int) + 1)] = intsV (nums r) := by
      rw [ints_len]
      show V.int 0 :: (intsV r ++ [V.int ((r.length : Int) + 1)]) = intsV (0 :: (r ++ [(r.length : Int) + 1]))
      unfold intsV
      rw [List.map_cons, List.map_append]
      rfl
    rw [e5]
    have s5 := same_upd (o := HO.lst (intsV (nums r))) n5
    have sm5 := s13.trans (s4.trans s5)
    have hp5 : (upd (upd (upd (upd (upd H p1 (HO.lst [V.int 0])) p2 (HO.lst (intsV r))) p3 (.lst ([V.int 0] ++ intsV r))) p4 (.lst [V.int ((((intsV r).length : Nat) : Int) + 1)])) p5 (.lst (intsV (nums r)))) p5 = some (.lst (intsV (nums r))) := upd_same
    generalize upd (upd (upd (upd (upd H p1 (HO.lst [V.int 0])) p2 (HO.lst (intsV r))) p3 (.lst ([V.int 0] ++ intsV r))) p4 (.lst [V.int ((((intsV r).length : Nat) : Int) + 1)])) p5 (.lst (intsV (nums r))) = H5 at sm5 hp5
    -- amounts
    refine ⟨_, rfl, p5, rfl, ⟨_, .inl (.inl hp5)⟩, fun D nD => lc_it (walk_list (xs := intsV (nums r))) (fun i H' => Same H5 H' ∧ H' D = some (.lst (natsV ((amts r).take i)))) ⟨same_upd nD, upd_same⟩ (fun _ _ _ h => .inl (.inl (h.1 _ _ hp5))) ?_ ?_⟩
    · rintro i x H6 H7 hi ⟨sm, hD⟩ ⟨rfl, hx⟩
      obtain ⟨y, hy, rfl⟩ := ints_at hx
      refine ⟨rfl, _, rfl, _, rfl, _, hD, ?_, Same.put sm nD, ?_⟩
      · rw [nats_len, List.length_take, amts_len]
        exact line_lt (by omega)
      · have hay : (amts r)[i]? = some y.natAbs := by
          unfold amts
          rw [List.getElem?_map, hy]
          rfl
        rw [upd_same, List.take_add_one, hay, nabs]
        show some (HO.lst (natsV _ ++ natsV [y.natAbs])) = _
        rw [← nats_app]
        rfl
    rintro H6 ⟨sm6, hD⟩
    rw [ints_len, nums_len, show (amts r).take (r.length + 2) = amts r from List.take_of_length_le (by rw [amts_len]; exact Nat.le_refl _)] at hD
    -- marks
    have sm06 := sm5.trans sm6
    have hp6 := sm6 _ _ hp5
    refine ⟨_, rfl, a, _, rfl, .inr (sameT sm06 hT), _, _, rfl, rfl, _, rfl, RgOk.of_le (by decide) (by rw [ints_len]; omega) (by decide) (by omega), fun p7 n7 => ?_⟩
    have e7 : rgV 0 ((((intsV r).length : Nat) : Int) + 1) = intsV (mksL (r.length + 1) (fun k => (k : Int))) := by
      unfold rgV mksL intsV
      rw [List.length_map, List.map_map, show ((r.length : Int) + 1 - 0).toNat = r.length + 1 by omega]
      apply List.map_congr_left
      intro k _
      show V.int (0 + (k : Int)) = V.int (k : Int)
      rw [Int.zero_add]
    rw [e7]
    have s7 := same_upd (o := HO.lst (intsV (mksL (r.length + 1) (fun k => (k : Int))))) n7
    refine ⟨_, rfl, a, _, rfl, .inr (sameT (sm06.trans s7) hT), _, _, rfl, rfl, _, rfl, ?_, ?_, ?_⟩
    · show -(2 ^ 62 : Int) ≤ ((intsV r).length : Int) + 1
      omega
    · show ((intsV r).length : Int) + 1 < (2 ^ 62 : Int)
      rw [ints_len]; omega
    rw [show ((((intsV r).length : Nat) : Int) + 1).toNat = r.length + 1 by rw [ints_len]; omega]
    refine for_it walk_rng0 (fun i σ H' => ∃ v4 v5 v6 v7 v8 p mk, σ = [some (.ref a), some (.ref p5), some (.ref D), some (.ref p), v4, v5, v6, v7, v8, none, none] ∧ Same H6 H' ∧ H' p = some (.lst (intsV (mksL (r.length + 1) mk))) ∧ Marks (r.length + 1) (adjI r i) mk)
      ⟨none, none, none, none, none, p7, _, rfl, s7, upd_same, adjI_start r⟩ (fun _ _ _ _ _ => trivial) ?_ ?_
    · rintro i x σ H7 H8 hi ⟨v4, v5, v6, v7, v8, p, mk, rfl, sm, hp, hM⟩ ⟨rfl, rfl⟩
      have hD8 := sm _ _ hD
      have h58 : SqL K H8 p5 (intsV (nums r)) := .inl (.inl (sm _ _ hp6))
      have at_ : ∀ m, m < r.length + 2 → atI (intsV (nums r)) (place r m : Int) = some (.int (numAt r (place r m))) := fun m hm => atI_nat (ints_get (numAt_get (place_lt R hm)))
      refine ⟨_, rfl, .inl ⟨rfl, _, .inl (.inl hD8)⟩, _, rfl, ?_⟩
      dsimp only [tNil]
      refine ix_place R (k := i) (by omega) hD8 ?_
      refine ⟨_, rfl, .inl ⟨rfl, _, .inl (.inl hD8)⟩, _, rfl, _, _, rfl, rfl, ?_⟩
      dsimp only [tNil]
      rw [show (i : Int) + 1 = ((i + 1 : Nat) : Int) by omega]
      refine ix_place R (k := i + 1) (by omega) hD8 ?_
      refine ⟨_, rfl, _, rfl, _, rfl, p5, _, _, _, rfl, rfl, h58, at_ i (by omega), _, _, rfl, rfl, .inr ⟨_, rfl, _, _, rfl, rfl, ?_⟩⟩
      dsimp only [gName]
      rw [hinder_eq]
      refine ⟨_, rfl, _, rfl, _, rfl, p5, _, _, _, rfl, rfl, h58, at_ (i + 1) (by omega), _, _, rfl, rfl, .inr ⟨_, rfl, _, _, rfl, rfl, ?_⟩⟩
      dsimp only [gName]
      rw [fore_eq R hi]
      have gi := atI_nat (ints_get (mks_get mk (hinder_lt R hi)))
      have gj := atI_nat (ints_get (mks_get mk (fore_lt R hi)))
      refine ⟨_, rfl, p, rfl, ⟨_, .inl (.inl hp)⟩, fun D2 nD2 => lc_it (walk_list (xs := intsV (mksL (r.length + 1) mk))) (fun m H' => Same H8 H' ∧ H' D2 = some (.lst (intsV (((mksL (r.length + 1) mk).take m).map fun c => if c = mk (fore r i) then mk (hinder r i) else c)))) ⟨same_upd nD2, upd_same⟩ (fun _ _ _ h => .inl (.inl (h.1 _ _ hp))) ?_ ?_⟩
      · rintro m x H9 H10 hm ⟨sm9, hD9⟩ ⟨rfl, hx⟩
        obtain ⟨y, hy, rfl⟩ := ints_at hx
        have hSp9 : SqL K H10 p (intsV (mksL (r.length + 1) mk)) := .inl (.inl (sm9 _ _ hp))
        refine ⟨rfl, _, rfl, _, rfl, _, rfl, p, _, _, _, rfl, rfl, hSp9, gj, rfl, _, rfl, ?_⟩
        rw [ints_take (fun c => if c = mk (fore r i) then mk (hinder r i) else c) hy]
        have hlen2 : (intsV (((mksL (r.length + 1) mk).take m).map fun c => if c = mk (fore r i) then mk (hinder r i) else c)).length < 100000 := by
          rw [ints_len, List.length_map, List.length_take, mks_len]
          omega
        by_cases cy : y = mk (fore r i)
        · refine ifT (by rw [dec_int]; exact decide_eq_true cy) ⟨_, rfl, _, rfl, p, _, _, _, rfl, rfl, hSp9, gi, _, hD9, line_lt hlen2, Same.put sm9 nD2, ?_⟩
          rw [upd_same, if_pos cy]
        · refine ifF (by rw [dec_int]; exact decide_eq_false cy) ⟨_, rfl, _, hD9, line_lt hlen2, Same.put sm9 nD2, ?_⟩
          rw [upd_same, if_neg cy]
      rintro H9 ⟨sm9, hD9⟩
      rw [ints_len, List.take_length] at hD9
      have e9 : (mksL (r.length + 1) mk).map (fun c => if c = mk (fore r i) then mk (hinder r i) else c) = mksL (r.length + 1) (fun c => if mk c = mk (fore r i) then mk (hinder r i) else mk c) := by
        unfold mksL
        rw [List.map_map]
        rfl
      rw [e9] at hD9
      exact ⟨_, _, _, _, _, D2, _, rfl, sm.trans sm9, hD9, adjI_step R hi hM⟩
    rintro σ H7 ⟨v4, v5, v6, v7, v8, p, mk, rfl, sm, hp, hM⟩
    refine ⟨_, rfl, p, mksL (r.length + 1) mk, rfl, .inl (.inl hp), by rw [mks_len]; omega, fun p8 L n8 hLn hLm => ?_⟩
    have hcount := rings_marks R (mk := mk) (marks_congr hM (fun a b ha hb h => Conn.one ha hb h) (fun a b ha hb h => Conn.one ha hb h)) L hLn (fun x => by
      rw [hLm]
      unfold mksL
      rw [List.mem_map]
      constructor
      · rintro ⟨k, hk, e⟩
        exact ⟨k, List.mem_range.mp hk, e⟩
      · rintro ⟨k, hk, e⟩
        exact ⟨k, List.mem_range.mpr hk, e⟩)
    refine ⟨p8, _, _, rfl, upd_same, ?_⟩
    rw [hcount]
    exact q _ (sm06.trans (sm.trans (same_upd n8)))
end
end WV
namespace WW
open PySem PySem.Spec PyProof.Rows L2 WA WB WC WD WE WF WH WJ WN WQ WS WT WU WV KL KG KH KI KJ KK KN KO KP

theorem spots_at {r : List Int} {v : Nat} (h : v < 2 * (r.length + 1)) : (spotsL r)[v]? = some (pos r v) := by
  unfold spotsL
  rw [List.getElem?_map, List.getElem?_range h]
  rfl
theorem cut_two {l : List Nat} {k x y : Nat} (h1 : l[k]? = some x) (h2 : l[k + 1]? = some y) : cutV (natsV l) (some (k : Int)) (some ((k + 2 : Nat) : Int)) = [V.int (x : Int), V.int (y : Int)] := by
  have b1 := (List.getElem?_eq_some_iff.mp h1).1
  have b2 := (List.getElem?_eq_some_iff.mp h2).1
  have e1 := (List.getElem?_eq_some_iff.mp h1).2
  have e2 := (List.getElem?_eq_some_iff.mp h2).2
  unfold cutV
  rw [HT.sIx_nat, HT.sIx_nat, nats_len, show min k l.length = k by omega, show min (k + 2) l.length - k = 2 by omega]
  unfold natsV
  rw [← List.map_drop, ← List.map_take, List.drop_eq_getElem_cons b1, List.drop_eq_getElem_cons b2, e1, e2]
  rfl
theorem inV_bls (f : Int → Bool) (l : List Int) : inV (.bl true) ((l.filter f).map fun x => V.bl (decide (x < 0))) = l.any fun x => f x && decide (x < 0) := by
  unfold inV
  rw [List.any_map, List.any_filter]
  congr 1
  funext x
  congr 1
  show (decide (x < 0) == true) = _
  cases decide (x < 0) <;> rfl
theorem bls_flat (f : Int → Bool) (l : List Int) : ((l.filter f).map fun x => V.bl (decide (x < 0))).all flatV = true := by
  rw [List.all_eq_true]
  intro x hx
  obtain ⟨n, _, rfl⟩ := List.mem_map.mp hx
  rfl
theorem any_one {r : List Int} (R : IsRow r) {k : Nat} (hk : k < r.length + 1) : ((signsL r).any fun x => (decide (x.natAbs = k) && decide (0 < k)) && decide (x < 0)) = neg (pos r) (2 * k) := by
  rw [neg_even R hk]
  apply Bool.eq_iff_iff.mpr
  rw [List.any_eq_true, decide_eq_true_eq]
  by_cases h0 : k = 0
  · subst h0
    rw [place_zero R, num_zero]
    constructor
    · rintro ⟨x, _, h⟩
      simp at h
    · intro h
      omega
  · rw [← signs_neg R (show 1 ≤ k by omega) (by omega)]
    constructor
    · rintro ⟨x, hx, h⟩
      rw [Bool.and_eq_true, Bool.and_eq_true, decide_eq_true_eq, decide_eq_true_eq] at h
      exact ⟨x, hx, h.1.1, of_decide_eq_true h.2⟩
    · rintro ⟨x, hx, h1, h2⟩
      refine ⟨x, hx, ?_⟩
      rw [decide_eq_true h1, decide_eq_true h2, decide_eq_true (show 0 < k by omega)]
      rfl
theorem any_two {r : List Int} (R : IsRow r) {k : Nat} (hk : k < r.length + 1) : ((signsL r).any fun x => decide (x.natAbs = k + 1) && decide (x < 0)) = neg (pos r) (2 * k + 1) := by
  rw [neg_odd R hk]
  apply Bool.eq_iff_iff.mpr
  rw [List.any_eq_true, decide_eq_true_eq, ← signs_neg R (show 1 ≤ k + 1 by omega) (by omega)]
  constructor
  · rintro ⟨x, hx, h⟩
    rw [Bool.and_eq_true, decide_eq_true_eq] at h
    exact ⟨x, hx, h.1, of_decide_eq_true h.2⟩
  · rintro ⟨x, hx, h1, h2⟩
    refine ⟨x, hx, ?_⟩
    rw [decide_eq_true h1, decide_eq_true h2]
    rfl
theorem take_bls {l : List Int} {i : Nat} {x : Int} (f : Int → Bool) (h : l[i]? = some x) : ((l.take (i + 1)).filter f).map (fun x => V.bl (decide (x < 0))) = ((l.take i).filter f).map (fun x => V.bl (decide (x < 0))) ++ (if f x = true then [V.bl (decide (x < 0))] else []) := by
  rw [take_filter f h, List.map_append]
  cases f x <;> rfl

/-- what the law's score is made of -/
structure ScOk (r : List Int) (mk : Nat → Int) (LB Hs : List Int) : Prop where
  kinds : Kinds (r.length + 1) (pos r) mk
  low : ∀ k, k < r.length + 1 → 0 ≤ mk k
  lab : Labels r mk LB
  nd : Hs.Nodup
  mem : ∀ x, x ∈ Hs ↔ hur (LB.filter fun l => decide (0 ≤ l)) x

section
variable {P : Program} {w : World} {K : PySem.W.Frag} {mg : Str → Option Value} {base : Heap}

noncomputable def spLawScore (K : PySem.W.Frag) : Sp := fun vs H Q _ => ∃ (a : Addr) (r : List Int), vs = [.ref a] ∧ SqT K H a (intsV r) ∧ r.length ≤ 40 ∧ IsRow r ∧
  ∀ H' mk LB Hs, Same H H' → ScOk r mk LB Hs → Q (.int ((r.length : Int) + 1 - (rings r : Int) + ((lawCost (LB.filter fun l => decide (0 ≤ l)) Hs : Nat) : Int))) H'

abbrev sLawScore : Stmt := topS 35
theorem scLawScore : FnScope ["row", "spots", "k", "arcs", "marks", "signs", "turned_marks", "one", "two", "labels", "number", "label"] ["row"] (defScope sLawScore) := ⟨rfl, rfl, rfl, by decide +kernel, rfl, by decide +kernel, by decide +kernel⟩
-- slots: {'row': 0, 'spots': 1, 'k': 2, 'arcs': 3, 'marks': 4, 'signs': 5, 'turned_marks': 6, 'one': 7, 'two': 8, 'labels': 9, 'number': 10, 'label': 11}
theorem hasLawScore {f : Addr} {fd : FuncData} (F : Fun K "_law_score" "_law_score" sLawScore f fd) (b : Binds K fd ["row"] []) (g : mg "_law_score" = some (.ref f)) (M : Bi mg)
    (hLawSpots : Has P w K mg base 1 "_law_spots" ["row"] (spLawSpots K)) (hLawKinds : Has P w K mg base 2 "_law_kinds" ["arcs"] (spLawKinds K)) (hLawHurdleCost : Has P w K mg base 3 "_law_hurdle_cost" ["labels"] (spLawHurdleCost K)) (hLawRingCount : Has P w K mg base 1 "_law_ring_count" ["row"] (spLawRingCount K)) :
    Has P w K mg base 4 "_law_score" ["row"] (spLawScore K) := by
  obtain ⟨fLawSpots, fdLawSpots, GLawSpots, kLawSpots, bLawSpots, gLawSpots⟩ := hLawSpots
  obtain ⟨fLawKinds, fdLawKinds, GLawKinds, kLawKinds, bLawKinds, gLawKinds⟩ := hLawKinds
  obtain ⟨fLawHurdleCost, fdLawHurdleCost, GLawHurdleCost, kLawHurdleCost, bLawHurdleCost, gLawHurdleCost⟩ := hLawHurdleCost
  obtain ⟨fLawRingCount, fdLawRingCount, GLawRingCount, kLawRingCount, bLawRingCount, gLawRingCount⟩ := hLawRingCount
  refine ⟨f, fd, F.ok scLawScore (fun vs H Q E h => ?_) (fun cdv A outer s H vs Q E hr h => ?_), F.kp, b, g⟩
  · obtain ⟨a, r, rfl, hT, hlen, R, q⟩ := h
    rfl
  · obtain ⟨a, r, rfl, hT, hlen, R, q⟩ := h
    have nd := scLawScore.nd
    refine ⟨_, (pss_cons (ps_set (i := 1) nd rfl (.inr rfl) (pe_call GLawSpots (hr.mono (by decide)) (by rfl) gLawSpots kLawSpots bLawSpots .nil pass0 (pa_cons (pv 0) pa_nil)))
      (pss_cons (ps_setLc (i := 3) (own := [("k", 2)]) (g := (gName 2)) rfl nd rfl rfl (sw_true rfl rfl rfl (by decide +kernel)) (pi_range1 rfl M.m_range (pa_cons (pe_op  op_add (pe_callB (r := Evl.rLenS K) call_len_seq (by rfl) M.m_len PySem.boot_len (pa_cons (pv 0) pa_nil)) pe_int) pa_nil)) (blkOk_by (own := [("k", 2)]) (N := ["row", "spots", "k", "arcs", "marks", "signs", "turned_marks", "one", "two", "labels", "number", "label"]) (sc := defScope sLawScore) (by decide +kernel)) (fun _ _ _ _ _ => (pg_name (i := 2) nd rfl (Or.inl rfl))) (fun _ _ _ _ _ => pts_nil) (fun _ _ _ _ _ => (pe_callTy (T := "tuple") (r := WA.rTup K) call_tuple_of (by rfl) M.m_tuple (by decide +kernel) (pa_cons (pe_callB (r := rSortedI K) cr_sortedI (by rfl) M.m_sorted (by decide +kernel) (pa_cons (pe_slice (r := rSlL K) sl_list (pv 1) (po_some (pe_op  op_mul pe_int (pv 2))) (po_some (pe_op  op_add (pe_op  op_mul pe_int (pv 2)) pe_int))) pa_nil)) pa_nil))))
      (pss_cons (ps_set (i := 4) nd rfl (.inl rfl) (pe_call GLawKinds (hr.mono (by decide)) (by rfl) gLawKinds kLawKinds bLawKinds .nil pass0 (pa_cons (pv 3) pa_nil)))
      (pss_cons (ps_set (i := 5) nd rfl (.inl rfl) (pe_op  op_cat (pe_op  op_cat (pe_lst (pa_cons pe_int pa_nil)) (pe_callTy (T := "list") (r := Evl.rListS K) call_list_of (by rfl) M.m_list (by decide +kernel) (pa_cons (pv 0) pa_nil))) (pe_lst (pa_cons pe_int pa_nil))))
      (pss_cons (ps_set (i := 6) nd rfl (.inl rfl) (pe_lst pa_nil))
      (pss_cons (ps_for PassesOwn.never rfl (pi_range1 rfl M.m_range (pa_cons (pe_callB (r := Evl.rLenS K) call_len_seq (by rfl) M.m_len PySem.boot_len (pa_cons (pv 3) pa_nil)) pa_nil)) (pg_name (i := 2) nd rfl (.inr rfl))
      (pss_cons (ps_setLc (i := 7) (own := [("number", 10)]) (g := (gName 10)) rfl nd rfl rfl (sw_true rfl rfl rfl (by decide +kernel)) (pi_list (pv 5)) (blkOk_by (own := [("number", 10)]) (N := ["row", "spots", "k", "arcs", "marks", "signs", "turned_marks", "one", "two", "labels", "number", "label"]) (sc := defScope sLawScore) (by decide +kernel)) (fun _ _ _ _ _ => (pg_name (i := 10) nd rfl (Or.inl rfl))) (fun _ _ _ _ _ => pts_one (PW.pt (pw_and (pt_cmpR  op_eq (pe_callB  call_abs (by rfl) M.m_abs (by decide +kernel) (pa_cons (pv 10) pa_nil)) (pv 2) (nomark _)) (pw_and1 (pt_cmpR  op_gt (pv 2) pe_int (nomark _)))))) (fun _ _ _ _ _ => (pe_cmpR  op_lt (pv 10) pe_int (nomark _))))
        (pss_cons (ps_setLc (i := 8) (own := [("number", 10)]) (g := (gName 10)) rfl nd rfl rfl (sw_true rfl rfl rfl (by decide +kernel)) (pi_list (pv 5)) (blkOk_by (own := [("number", 10)]) (N := ["row", "spots", "k", "arcs", "marks", "signs", "turned_marks", "one", "two", "labels", "number", "label"]) (sc := defScope sLawScore) (by decide +kernel)) (fun _ _ _ _ _ => (pg_name (i := 10) nd rfl (Or.inl rfl))) (fun _ _ _ _ _ => pts_one (pt_cmpR  op_eq (pe_callB  call_abs (by rfl) M.m_abs (by decide +kernel) (pa_cons (pv 10) pa_nil)) (pe_op  op_add (pv 2) pe_int) (nomark _))) (fun _ _ _ _ _ => (pe_cmpR  op_lt (pv 10) pe_int (nomark _))))
        (pss_one (ps_if (pt_cmpR  op_ne (pe_cmpR (r := rIn K false) op_in_seq pe_bl (pv 7) (by rfl)) (pe_cmpR (r := rIn K false) op_in_seq pe_bl (pv 8) (by rfl)) (nomark _))
        (pss_one (ps_expr (pe_bm  PySem.F.plainAttrs_list PySem.F.slot_list_append PySem.F.type_list_append mt_append (pv 6) (pa_cons (pe_ix (r := rIxL K) ix_list (pv 4) (pv 2) (fun _ _ => rfl)) pa_nil))))
        pss_nil)))))
      (pss_cons (ps_set (i := 9) nd rfl (.inl rfl) (pe_op  op_rep (pe_lst (pa_cons (pe_un un_neg pe_int) pa_nil)) (pe_op  op_add (pe_op  op_mul pe_int (pe_callB (r := Evl.rLenS K) call_len_seq (by rfl) M.m_len PySem.boot_len (pa_cons (pv 0) pa_nil))) pe_int)))
      (pss_cons (ps_for PassesOwn.never rfl (pi_range1 rfl M.m_range (pa_cons (pe_callB (r := Evl.rLenS K) call_len_seq (by rfl) M.m_len PySem.boot_len (pa_cons (pv 3) pa_nil)) pa_nil)) (pg_name (i := 2) nd rfl (.inr rfl))
      (pss_one (ps_if (PW.pt (pw_and (pt_cmpR  op_gt (pe_op  op_sub (pe_ix (r := rIxT K) ix_tup (pe_ix (r := rIxL K) ix_list (pv 3) (pv 2) (fun _ _ => rfl)) pe_int (fun _ _ => rfl)) (pe_ix (r := rIxT K) ix_tup (pe_ix (r := rIxL K) ix_list (pv 3) (pv 2) (fun _ _ => rfl)) pe_int (fun _ _ => rfl))) pe_int (nomark _)) (pw_and1 (pt_cmpR (r := rIn K true) op_notIn_seq (pe_ix (r := rIxL K) ix_list (pv 4) (pv 2) (fun _ _ => rfl)) (pv 6) (by rfl)))))
        (pss_cons (ps_asg (pe_ix (r := rIxL K) ix_list (pv 4) (pv 2) (fun _ _ => rfl)) (pg_sub (pv 9) (pe_ix (r := rIxT K) ix_tup (pe_ix (r := rIxL K) ix_list (pv 3) (pv 2) (fun _ _ => rfl)) pe_int (fun _ _ => rfl)) set_list))
          (pss_one (ps_asg (pe_ix (r := rIxL K) ix_list (pv 4) (pv 2) (fun _ _ => rfl)) (pg_sub (pv 9) (pe_ix (r := rIxT K) ix_tup (pe_ix (r := rIxL K) ix_list (pv 3) (pv 2) (fun _ _ => rfl)) pe_int (fun _ _ => rfl)) set_list))))
        pss_nil)))
      (pss_one (ps_ret (pe_op  op_add (pe_op  op_sub (pe_op  op_add (pe_callB (r := Evl.rLenS K) call_len_seq (by rfl) M.m_len PySem.boot_len (pa_cons (pv 0) pa_nil)) pe_int) (pe_call GLawRingCount (hr.mono (by decide)) (by rfl) gLawRingCount kLawRingCount bLawRingCount .nil pass0 (pa_cons (pv 0) pa_nil))) (pe_call GLawHurdleCost (hr.mono (by decide)) (by rfl) gLawHurdleCost kLawHurdleCost bLawHurdleCost .nil pass0 (pa_cons (pe_lc (own := [("label", 11)]) (g := (gName 11)) (by rfl) nd (pi_list (pv 9)) (blkOk_by (own := [("label", 11)]) (N := ["row", "spots", "k", "arcs", "marks", "signs", "turned_marks", "one", "two", "labels", "number", "label"]) (sc := defScope sLawScore) (by decide +kernel)) (fun _ _ _ _ _ => (pg_name (i := 11) nd rfl (Or.inl rfl))) (fun _ _ _ _ _ => pts_one (pt_cmpR  op_ge (pv 11) pe_int (nomark _))) (fun _ _ _ _ _ => (pv 11))) pa_nil))))))))))))), ?_⟩
    have Y := sys R
    refine ⟨_, rfl, a, r, rfl, hT, hlen, R, fun H1 p1 s1 n1 h1 => ?_⟩
    -- arcs
    refine ⟨_, rfl, a, _, rfl, .inr (sameT s1 hT), _, _, rfl, rfl, _, rfl, ?_, ?_, fun p3 n3 => ?_⟩
    · show -(2 ^ 62 : Int) ≤ ((intsV r).length : Int) + 1
      omega
    · show ((intsV r).length : Int) + 1 < (2 ^ 62 : Int)
      rw [ints_len]; omega
    rw [show ((((intsV r).length : Nat) : Int) + 1).toNat = r.length + 1 by rw [ints_len]; omega]
    refine lc_it walk_rng0 (fun i H' => ∃ ys, Same H1 H' ∧ H' p3 = some (.lst ys) ∧ PairsH H' ys (arcsL r i)) ⟨[], same_upd n3, upd_same, PairsH.nil⟩ (fun _ _ _ _ => trivial) ?_ ?_
    · rintro k x H4 H5 hk ⟨ys, sm, hD, hP⟩ ⟨rfl, rfl⟩
      have ek : (2 : Int) * (k : Int) = ((2 * k : Nat) : Int) := by omega
      have hcut := cut_two (spots_at (r := r) (v := 2 * k) (by omega)) (spots_at (r := r) (v := 2 * k + 1) (by omega))
      refine ⟨rfl, _, rfl, _, rfl, _, _, rfl, rfl, cmul2 _, _, rfl, _, rfl, _, _, rfl, rfl, cmul2 _, _, _, rfl, rfl, _, rfl, p1, _, rfl, .inl (.inl (sm _ _ h1)), fun q1 m1 => ?_⟩
      have ec : cutV (natsV (spotsL r)) (some (2 * (k : Int))) (some (2 * (k : Int) + 2)) = [(pos r (2 * k) : Int), (pos r (2 * k + 1) : Int)].map V.int := by
        rw [show (2 : Int) * (k : Int) + 2 = ((2 * k + 2 : Nat) : Int) by omega, ek]
        exact hcut
      rw [ec]
      have t1 := same_upd (o := HO.lst ([(pos r (2 * k) : Int), (pos r (2 * k + 1) : Int)].map V.int)) m1
      refine ⟨q1, _, rfl, .inl (.inl upd_same), fun ns q2 hpm hsd m2 => ?_⟩
      have t2 := same_upd (o := HO.lst (ns.map V.int)) m2
      refine ⟨q2, _, rfl, .inl ⟨.inl (.inl upd_same), fun q3 m3 => ?_⟩⟩
      have t3 := same_upd (o := HO.tup (ns.map V.int)) m3
      have t13 := t1.trans t2
      refine ⟨ys, t3 _ _ (t13 _ _ hD), ?_, ys ++ [.ref q3], Same.put (sm.trans (t13.trans t3)) n3, upd_same, ?_⟩
      · rw [hP.1]
        unfold arcsL
        rw [List.length_map, List.length_range]
        exact line_lt (by omega)
      · have en : ns.map V.int = pairV (tlo (pos r) k, thi (pos r) k) := by
          rw [sort_two hpm hsd]
          unfold tlo thi pairV
          show [V.int _, V.int _] = [V.int _, V.int _]
          congr 1
          · congr 1
            omega
          · congr 2
            omega
        have ea : arcsL r (k + 1) = arcsL r k ++ [(tlo (pos r) k, thi (pos r) k)] := by
          unfold arcsL
          rw [List.range_succ, List.map_append]
          rfl
        rw [ea]
        have fin := (hP.mono t13).add (t13 _ _ hD) m3 (tlo (pos r) k, thi (pos r) k)
        rw [← en] at fin
        exact fin
    rintro H4 ⟨ys, sm4, h4, hP4⟩
    -- marks
    refine ⟨_, rfl, p3, r, ys, rfl, h4, hP4, hlen, R, fun H5 p5 mk s5 n5 h5 hK hb => ?_⟩
    have sm5 := s1.trans (sm4.trans s5)
    have hP5 := hP4.mono s5
    have h45 := s5 _ _ h4
    -- signs
    refine ⟨line_ok (by show 1 ≤ 100000; decide), fun g1 m1 => ?_⟩
    have t1 := same_upd (o := HO.lst [V.int 0]) m1
    refine ⟨_, rfl, a, _, rfl, .inr (sameT (sm5.trans t1) hT), fun g2 m2 => ?_⟩
    have t2 := same_upd (o := HO.lst (intsV r)) m2
    refine ⟨g1, g2, _, _, rfl, rfl, t2 _ _ upd_same, upd_same, ?_, fun g3 m3 => ?_⟩
    · rw [ints_len]
      exact line_ok (by show 1 + r.length ≤ 100000; omega)
    have t3 := same_upd (o := HO.lst ([V.int 0] ++ intsV r)) m3
    refine ⟨line_ok (by show 1 ≤ 100000; decide), fun g4 m4 => ?_⟩
    have t4 := same_upd (o := HO.lst [V.int 0]) m4
    refine ⟨g3, g4, _, _, rfl, rfl, t4 _ _ upd_same, upd_same, ?_, fun g5 m5 => ?_⟩
    · rw [List.length_append, ints_len]
      exact line_ok (by show 1 + r.length + 1 ≤ 100000; omega)
    have e5 : [V.int 0] ++ intsV r ++ [V.int 0] = intsV (signsL r) := by
      show V.int 0 :: (intsV r ++ [V.int 0]) = intsV (0 :: (r ++ [0]))
      unfold intsV
      rw [List.map_cons, List.map_append]
      rfl
    rw [e5]
    have t5 := same_upd (o := HO.lst (intsV (signsL r))) m5
    have s6 := t1.trans (t2.trans (t3.trans (t4.trans t5)))
    have h6g : (upd (upd (upd (upd (upd H5 g1 (HO.lst [V.int 0])) g2 (HO.lst (intsV r))) g3 (.lst ([V.int 0] ++ intsV r))) g4 (.lst [V.int 0])) g5 (.lst (intsV (signsL r)))) g5 = some (.lst (intsV (signsL r))) := upd_same
    generalize upd (upd (upd (upd (upd H5 g1 (HO.lst [V.int 0])) g2 (HO.lst (intsV r))) g3 (.lst ([V.int 0] ++ intsV r))) g4 (.lst [V.int 0])) g5 (.lst (intsV (signsL r))) = H6 at s6 h6g
    have h46 := s6 _ _ h45
    have h56 := s6 _ _ h5
    have sm6 := sm5.trans s6
    have hP6 := hP5.mono s6
    have hyl : ys.length = r.length + 1 := by rw [hP4.1]; simp [arcsL]
    have hsl : (signsL r).length = r.length + 2 := by simp [signsL]
    -- turned marks
    refine ⟨Nat.zero_le _, fun p7 n7 => ?_⟩
    have t7 := same_upd (o := HO.lst []) n7
    refine ⟨_, rfl, p3, _, rfl, .inl (.inl (.inl (t7 _ _ h46))), _, rfl, ?_, ?_, ?_⟩
    · omega
    · rw [hyl]; show ((r.length + 1 : Nat) : Int) < 2 ^ 62; omega
    rw [show ((ys.length : Nat) : Int).toNat = r.length + 1 by rw [hyl]; omega]
    refine for_it walk_rng0 (fun k σ H' => ∃ v2 v7 v8, σ = [some (.ref a), some (.ref p1), v2, some (.ref p3), some (.ref p5), some (.ref g5), some (.ref p7), v7, v8, none, none, none] ∧ Same H6 H' ∧ H' p7 = some (.lst (intsV (TL r mk k))))
      ⟨none, none, none, rfl, t7, upd_same⟩ (fun _ _ _ _ _ => trivial) ?_ ?_
    · rintro k x σ H7 H8 hk ⟨v2, v7, v8, rfl, sm, hTL⟩ ⟨rfl, rfl⟩
      have hg8 := sm _ _ h6g
      have h58 : SqL K H8 p5 (intsV (mksL (r.length + 1) mk)) := .inl (.inl (sm _ _ h56))
      refine ⟨_, rfl, g5, rfl, ⟨_, .inl (.inl hg8)⟩, fun D nD => lc_it (walk_list (xs := intsV (signsL r))) (fun i H' => Same H8 H' ∧ H' D = some (.lst ((((signsL r).take i).filter fun x => decide (x.natAbs = k) && decide (0 < k)).map fun x => V.bl (decide (x < 0))))) ⟨same_upd nD, upd_same⟩ (fun _ _ _ h => .inl (.inl (h.1 _ _ hg8))) ?_ ?_⟩
      · rintro i x H9 H10 hi ⟨sm9, hD⟩ ⟨rfl, hx⟩
        obtain ⟨y, hy, rfl⟩ := ints_at hx
        rw [take_bls _ hy]
        have hll : ((((signsL r).take i).filter fun x => decide (x.natAbs = k) && decide (0 < k)).map fun x => V.bl (decide (x < 0))).length < 100000 := by
          rw [List.length_map]
          have := fil_len (signsL r) i (fun x => decide (x.natAbs = k) && decide (0 < k))
          omega
        refine ⟨rfl, _, rfl, _, rfl, _, rfl, rfl, decide (y.natAbs = k), ?_, ?_⟩
        · show V.bl (decide (V.int (if y < 0 then -y else y) = V.int (k : Int))) = _
          rw [nabs, dec_int]
          congr 1
          exact decide_eq_decide.mpr (by omega)
        by_cases c1 : y.natAbs = k
        · refine ifT (decide_eq_true c1) ⟨_, rfl, _, _, rfl, rfl, decide (0 < k), ?_, ?_⟩
          · show V.bl (decide ((0 : Int) < (k : Int))) = _
            congr 1
            exact decide_eq_decide.mpr (by omega)
          by_cases c2 : 0 < k
          · refine ifT (decide_eq_true c2) ⟨_, rfl, _, _, rfl, rfl, _, hD, line_lt hll, Same.put sm9 nD, ?_⟩
            rw [upd_same, if_pos (by rw [decide_eq_true c1, decide_eq_true c2]; rfl)]
          · refine ifF (decide_eq_false c2) ⟨sm9, ?_⟩
            rw [if_neg (by rw [decide_eq_false c2, Bool.and_false]; exact Bool.false_ne_true), List.append_nil]
            exact hD
        · refine ifF (decide_eq_false c1) (ifF rfl ⟨sm9, ?_⟩)
          rw [if_neg (by rw [decide_eq_false c1, Bool.false_and]; exact Bool.false_ne_true), List.append_nil]
          exact hD
      rintro H9 ⟨sm9, hD⟩
      rw [ints_len, List.take_length] at hD
      have hg9 := sm9 _ _ hg8
      refine ⟨_, rfl, g5, rfl, ⟨_, .inl (.inl hg9)⟩, fun D2 nD2 => lc_it (walk_list (xs := intsV (signsL r))) (fun i H' => Same H9 H' ∧ H' D2 = some (.lst ((((signsL r).take i).filter fun x => decide (x.natAbs = k + 1)).map fun x => V.bl (decide (x < 0))))) ⟨same_upd nD2, upd_same⟩ (fun _ _ _ h => .inl (.inl (h.1 _ _ hg9))) ?_ ?_⟩
      · rintro i x H10 H11 hi ⟨sm10, hD2⟩ ⟨rfl, hx⟩
        obtain ⟨y, hy, rfl⟩ := ints_at hx
        rw [take_bls _ hy]
        have hll : ((((signsL r).take i).filter fun x => decide (x.natAbs = k + 1)).map fun x => V.bl (decide (x < 0))).length < 100000 := by
          rw [List.length_map]
          have := fil_len (signsL r) i (fun x => decide (x.natAbs = k + 1))
          omega
        refine ⟨rfl, _, rfl, _, rfl, _, rfl, _, _, rfl, rfl, rfl, decide (y.natAbs = k + 1), ?_, ?_⟩
        · show V.bl (decide (V.int (if y < 0 then -y else y) = V.int ((k : Int) + 1))) = _
          rw [nabs, dec_int]
          congr 1
          exact decide_eq_decide.mpr (by omega)
        by_cases c1 : y.natAbs = k + 1
        · refine ifT (decide_eq_true c1) ⟨_, rfl, _, _, rfl, rfl, _, hD2, line_lt hll, Same.put sm10 nD2, ?_⟩
          rw [upd_same, if_pos (decide_eq_true c1)]
        · refine ifF (decide_eq_false c1) ⟨sm10, ?_⟩
          rw [if_neg (by rw [decide_eq_false c1]; exact Bool.false_ne_true), List.append_nil]
          exact hD2
      rintro H10 ⟨sm10, hD2⟩
      rw [ints_len, List.take_length] at hD2
      have hD10 := sm10 _ _ hD
      refine ⟨_, rfl, D, _, rfl, .inl (.inl (.inl hD10)), rfl, bls_flat _ _, _, rfl, D2, _, rfl, .inl (.inl (.inl hD2)), rfl, bls_flat _ _, rfl, trn r k, ?_, ?_⟩
      · have ea := (inV_bls (fun x => decide (x.natAbs = k) && decide (0 < k)) (signsL r)).trans (any_one R hk)
        have eb := (inV_bls (fun x => decide (x.natAbs = k + 1)) (signsL r)).trans (any_two R hk)
        show V.bl (!decide (V.bl (inV (.bl true) _) = V.bl (inV (.bl true) _))) = _
        rw [ea, eb]
        unfold trn
        congr 1
        cases neg (pos r) (2 * k) <;> cases neg (pos r) (2 * k + 1) <;> rfl
      have et : TL r mk (k + 1) = TL r mk k ++ (if trn r k = true then [mk k] else []) := by
        unfold TL
        rw [List.range_succ, List.filter_append, List.map_append]
        cases h : trn r k <;> simp [h]
      rw [et]
      have sm810 := sm9.trans sm10
      have hT10 := sm810 _ _ hTL
      cases ht : trn r k with
      | true =>
        have gi := atI_nat (ints_get (mks_get mk hk))
        refine ifT rfl ⟨_, rfl, .inl ⟨rfl, _, .inl (.inl hT10)⟩, _, rfl, _, rfl, p5, _, _, _, rfl, rfl, Evl.ex_l sm810 h58, gi, p7, _, _, rfl, rfl, hT10, ?_, ?_⟩
        · rw [ints_len]
          unfold TL
          rw [List.length_map]
          have := List.length_filter_le (trn r) (List.range k)
          rw [List.length_range] at this
          exact line_lt (by omega)
        · refine ⟨_, _, _, rfl, Same.put (sm.trans sm810) n7, ?_⟩
          rw [upd_same, if_pos rfl, ints_app]
          rfl
      | false =>
        refine ifF rfl ⟨_, _, _, rfl, sm.trans sm810, ?_⟩
        rw [if_neg Bool.false_ne_true, List.append_nil]
        exact hT10
    rintro σ H7 ⟨v2, v7, v8, rfl, sm7, hTL⟩
    have sm07 := sm6.trans sm7
    -- labels
    refine ⟨_, rfl, line_ok (by show 1 ≤ 100000; decide), fun q1 m1 => ?_⟩
    have t1 : Same H7 (upd H7 q1 (.lst [.int (-1)])) := same_upd m1
    refine ⟨_, rfl, a, _, rfl, .inr (sameT (sm07.trans t1) hT), _, _, rfl, rfl, cmul2 _, _, _, rfl, rfl, q1, _, _, rfl, rfl, upd_same, ?_, ?_, ?_, fun p9 n9 => ?_⟩
    · rw [ints_len]; omega
    · rw [ints_len]; omega
    · rw [ints_len]
      exact line_ok (by show 1 * (2 * (r.length : Int) + 2).toNat ≤ 100000; omega)
    have e9 : (List.replicate (2 * (((intsV r).length : Nat) : Int) + 2).toNat [V.int (-1)]).flatten = intsV (List.replicate (2 * (r.length + 1)) (-1)) := by
      rw [ints_len, List.flatten_replicate_singleton]
      unfold intsV
      rw [List.map_replicate]
      congr 1 <;> omega
    rw [e9]
    have t9 := same_upd (o := HO.lst (intsV (List.replicate (2 * (r.length + 1)) (-1)))) n9
    have t79 := t1.trans t9
    have n97 : H7 p9 = none := t1.free n9
    have h37 := sm7 _ _ h46
    have h57 : SqL K H7 p5 (intsV (mksL (r.length + 1) mk)) := .inl (.inl (sm7 _ _ h56))
    refine ⟨_, rfl, p3, _, rfl, .inl (.inl (.inl (t79 _ _ h37))), _, rfl, ?_, ?_, ?_⟩
    · omega
    · rw [hyl]; show ((r.length + 1 : Nat) : Int) < 2 ^ 62; omega
    rw [show ((ys.length : Nat) : Int).toNat = r.length + 1 by rw [hyl]; omega]
    refine for_it walk_rng0 (fun k σ H' => ∃ v2 v7 v8 LB, σ = [some (.ref a), some (.ref p1), v2, some (.ref p3), some (.ref p5), some (.ref g5), some (.ref p7), v7, v8, some (.ref p9), none, none] ∧ Same H7 H' ∧ H' p9 = some (.lst (intsV LB)) ∧ LabI r mk LB k ∧ ∀ x, x ∈ LB → x < (r.length : Int) + 1)
      ⟨v2, v7, v8, _, rfl, t79, upd_same, lab_start R mk, fun x hx => by have := List.eq_of_mem_replicate hx; omega⟩ (fun _ _ _ _ _ => trivial) ?_ ?_
    · rintro k x σ H8 H9 hk ⟨v2, v7, v8, LB, rfl, sm, hLB, hLI, hLx⟩ ⟨rfl, rfl⟩
      have h39 : SqL K H9 p3 ys := .inl (.inl (sm _ _ h37))
      obtain ⟨tk, hyk, htk⟩ := (hP6.mono (sm7.trans sm)).get (i := k) (p := (tlo (pos r) k, thi (pos r) k)) (by unfold arcsL; rw [List.getElem?_map, List.getElem?_range hk]; rfl)
      have gk := atI_nat hyk
      have hS : SqT K H9 tk (pairV (tlo (pos r) k, thi (pos r) k)) := .inl (.inl htk)
      have h59 := Evl.ex_l sm h57
      have gm := atI_nat (ints_get (mks_get mk hk))
      have hle : tlo (pos r) k ≤ thi (pos r) k := by
        unfold tlo thi
        omega
      have gi := good_iff (r := r) (mk := mk) (k := k)
      refine ⟨_, rfl, _, rfl, p3, _, _, _, rfl, rfl, h39, gk, tk, _, _, _, rfl, rfl, hS, rfl, _, rfl, _, rfl, p3, _, _, _, rfl, rfl, h39, gk, tk, _, _, _, rfl, rfl, hS, rfl, _, _, rfl, rfl, _, _, rfl, rfl, decide (1 < thi (pos r) k - tlo (pos r) k), ?_, ?_⟩
      · show V.bl (decide ((1 : Int) < (thi (pos r) k : Int) - (tlo (pos r) k : Int))) = _
        congr 1
        exact decide_eq_decide.mpr (by omega)
      by_cases c1 : 1 < thi (pos r) k - tlo (pos r) k
      · refine ifT (decide_eq_true c1) ⟨_, rfl, _, rfl, p5, _, _, _, rfl, rfl, h59, gm, _, rfl, p7, _, rfl, .inl (.inl (.inl (sm _ _ hTL))), rfl, ints_flat _, _, rfl, ?_⟩
        rw [inV_ints]
        cases c2 : decide (mk k ∈ TL r mk (r.length + 1)) with
        | true =>
          refine ifF rfl ⟨_, _, _, LB, rfl, sm, hLB, lab_no hLI (fun h => (gi.mp h).2 (of_decide_eq_true c2)), hLx⟩
        | false =>
          have hgood : GoodT r mk k := gi.mpr ⟨c1, of_decide_eq_false c2⟩
          have hlo : tlo (pos r) k < 2 * (r.length + 1) := by
            have := Y.lt (2 * k) (by omega)
            unfold tlo
            omega
          have hhi : thi (pos r) k < 2 * (r.length + 1) := by
            have := Y.lt (2 * k) (by omega)
            have := Y.lt (2 * k + 1) (by omega)
            unfold thi
            omega
          refine ifT rfl ⟨_, rfl, _, rfl, p5, _, _, _, rfl, rfl, h59, gm, _, rfl, _, rfl, _, rfl, p3, _, _, _, rfl, rfl, h39, gk, tk, _, _, _, rfl, rfl, hS, rfl, p9, _, _, tlo (pos r) k, rfl, rfl, hLB, Evl.ixN_nat (by rw [ints_len, hLI.len]; exact hlo), ?_⟩
          have hne3 : p3 ≠ p9 := ne_of_none h37 n97
          have u1 : Same H7 (upd H9 p9 (.lst ((intsV LB).set (tlo (pos r) k) (.int (mk k))))) := Same.put sm n97
          have hS1 : SqT K (upd H9 p9 (.lst ((intsV LB).set (tlo (pos r) k) (.int (mk k))))) tk (pairV (tlo (pos r) k, thi (pos r) k)) := (NL.put hLB).sq hS
          refine ⟨_, rfl, _, rfl, p5, _, _, _, rfl, rfl, Evl.ex_l u1 h57, gm, _, rfl, _, rfl, _, rfl, p3, _, _, _, rfl, rfl, .inl (.inl (u1 _ _ h37)), gk, tk, _, _, _, rfl, rfl, hS1, rfl, p9, _, _, thi (pos r) k, rfl, rfl, upd_same, Evl.ixN_nat (by rw [List.length_set, ints_len, hLI.len]; exact hhi), ?_⟩
          refine ⟨_, _, _, (LB.set (tlo (pos r) k) (mk k)).set (thi (pos r) k) (mk k), rfl, Same.put u1 n97, ?_, lab_yes R hk hLI hgood, fun x hx => ?_⟩
          · rw [upd_same]
            unfold intsV
            rw [List.map_set, List.map_set]
          · rcases List.mem_or_eq_of_mem_set hx with h | h
            · rcases List.mem_or_eq_of_mem_set h with h | h
              · exact hLx x h
              · rw [h]
                exact (hb k hk).2
            · rw [h]
              exact (hb k hk).2
      · refine ifF (decide_eq_false c1) (ifF rfl ⟨_, _, _, LB, rfl, sm, hLB, lab_no hLI (fun h => c1 (gi.mp h).1), hLx⟩)
    rintro σ H8 ⟨v2, v7, v8, LB, rfl, sm8, hLB, hLI, hLx⟩
    have sm08 := sm07.trans sm8
    -- the score
    refine ⟨_, rfl, a, _, rfl, .inr (sameT sm08 hT), _, _, rfl, rfl, _, rfl, a, r, rfl, sameT sm08 hT, hlen, R, fun H9 s9 => ?_⟩
    refine ⟨_, _, rfl, rfl, ?_⟩
    have hLB9 := s9 _ _ hLB
    refine ⟨_, rfl, p9, rfl, ⟨_, .inl (.inl hLB9)⟩, fun D nD => lc_it (walk_list (xs := intsV LB)) (fun i H' => Same H9 H' ∧ H' D = some (.lst (intsV ((LB.take i).filter fun l => decide (0 ≤ l))))) ⟨same_upd nD, upd_same⟩ (fun _ _ _ h => .inl (.inl (h.1 _ _ hLB9))) ?_ ?_⟩
    · rintro i x H10 H11 hi ⟨sm10, hD⟩ ⟨rfl, hx⟩
      obtain ⟨y, hy, rfl⟩ := ints_at hx
      rw [take_filter _ hy]
      refine ⟨rfl, _, rfl, _, _, rfl, rfl, decide (0 ≤ y), rfl, ?_⟩
      by_cases c : 0 ≤ y
      · refine ifT (decide_eq_true c) ⟨_, rfl, _, hD, ?_, Same.put sm10 nD, ?_⟩
        · rw [ints_len]
          have := fil_len LB i (fun l => decide (0 ≤ l))
          have := hLI.len
          exact line_lt (by omega)
        · rw [upd_same, if_pos (decide_eq_true c), ints_app]
          rfl
      · refine ifF (decide_eq_false c) ⟨sm10, ?_⟩
        rw [if_neg (by rw [decide_eq_false c]; exact Bool.false_ne_true), List.append_nil]
        exact hD
    rintro H10 ⟨sm10, hD⟩
    rw [ints_len, List.take_length] at hD
    refine ⟨D, _, rfl, .inl (.inl hD), ?_, fun x hx => ?_, fun H11 Hs s11 hnd hm => ?_⟩
    · have := List.length_filter_le (fun l => decide (0 ≤ l)) LB
      have := hLI.len
      omega
    · have h := List.mem_filter.mp hx
      have := hLx x h.1
      have := of_decide_eq_true h.2
      omega
    · refine ⟨_, _, rfl, rfl, ?_⟩
      rw [ints_len]
      exact q H11 mk LB Hs (sm08.trans (s9.trans (sm10.trans s11))) ⟨hK, fun k hk => (hb k hk).1, lab_end hLI, hnd, hm⟩
end
end WW
namespace WX
open PySem PySem.Spec PyProof.Rows L2 WA WB WC WD WE WF WG WH WJ WK WL WM WN WO WP WQ WS WT WU WV WW KL KN

section
variable {P : Program} {w : World} {K : PySem.W.Frag} {mg : Str → Option Value} {base : Heap}

def spLaw (K : PySem.W.Frag) : Sp := fun vs H Q _ => ∃ (a : Addr) (ns : List Int), vs = [.ref a] ∧ SqL K H a (ns.map V.int) ∧ ns.length ≤ 63 ∧ ∀ H', Q (.bl true) H'

abbrev sLaw : Stmt := topS 37
theorem scLaw : FnScope ["script", "head", "row", "found"] ["script"] (defScope sLaw) := ⟨rfl, rfl, rfl, by decide +kernel, rfl, by decide +kernel, by decide +kernel⟩
-- slots: {'script': 0, 'head': 1, 'row': 2, 'found': 3}
theorem okLaw {f : Addr} {fd : FuncData} (F : Fun K "law" "law" sLaw f fd) (M : Bi mg)
    (hTurnScore : Has P w K mg base 7 "turn_score" ["row"] (spTurnScore K)) (hLawCellAt : Has P w K mg base 1 "_law_cell_at" ["script", "k"] (spLawCellAt K)) (hLawRowOfKins : Has P w K mg base 2 "_law_row_of_kins" ["script", "at", "many"] (spLawRowOfKins K)) (hLawInflated : Has P w K mg base 1 "_law_inflated" ["script", "at", "room"] (spLawInflated K)) (hLawNests : Has P w K mg base 2 "_law_nests" ["cell"] (spLawNests K)) (hLawScore : Has P w K mg base 4 "_law_score" ["row"] (spLawScore K)) :
    FnOk P w K mg base CX0 8 f fd ["script"] (spLaw K) := by
  obtain ⟨fTurnScore, fdTurnScore, GTurnScore, kTurnScore, bTurnScore, gTurnScore⟩ := hTurnScore
  obtain ⟨fLawCellAt, fdLawCellAt, GLawCellAt, kLawCellAt, bLawCellAt, gLawCellAt⟩ := hLawCellAt
  obtain ⟨fLawRowOfKins, fdLawRowOfKins, GLawRowOfKins, kLawRowOfKins, bLawRowOfKins, gLawRowOfKins⟩ := hLawRowOfKins
  obtain ⟨fLawInflated, fdLawInflated, GLawInflated, kLawInflated, bLawInflated, gLawInflated⟩ := hLawInflated
  obtain ⟨fLawNests, fdLawNests, GLawNests, kLawNests, bLawNests, gLawNests⟩ := hLawNests
  obtain ⟨fLawScore, fdLawScore, GLawScore, kLawScore, bLawScore, gLawScore⟩ := hLawScore
  refine F.ok scLaw (fun vs H Q E h => ?_) (fun cdv A outer s H vs Q E hr h => ?_)
  · obtain ⟨a, ns, rfl, hS, hl, q⟩ := h
    rfl
  · obtain ⟨a, ns, rfl, hS, hl, q⟩ := h
    have nd := scLaw.nd
    refine ⟨_, (pss_cons (ps_set (i := 1) nd rfl (.inl rfl) (pe_call GLawCellAt (hr.mono (by decide)) (by rfl) gLawCellAt kLawCellAt bLawCellAt .nil pass0 (pa_cons (pv 0) (pa_cons pe_int pa_nil))))
      (pss_cons (ps_set (i := 2) nd rfl (.inl rfl) (pe_call GLawRowOfKins (hr.mono (by decide)) (by rfl) gLawRowOfKins kLawRowOfKins bLawRowOfKins .nil pass0 (pa_cons (pv 0) (pa_cons pe_int (pa_cons (pe_op  op_mod (pv 1) pe_int) pa_nil)))))
      (Evl.pss_cut (ps_if (pt_cmpR  op_eq (pe_op  op_mod (pe_op  op_fdiv (pv 1) pe_int) pe_int) pe_int (nomark _))
      (pss_one (ps_set (i := 2) nd rfl (.inl rfl) (pe_call GLawInflated (hr.mono (by decide)) (by rfl) gLawInflated kLawInflated bLawInflated .nil pass0 (pa_cons (pv 0) (pa_cons pe_int (pa_cons (pe_op  op_add pe_int (pe_op  op_mod (pe_op  op_fdiv (pv 1) pe_int) pe_int)) pa_nil))))))
      pss_nil)
      (Evl.pss_cut (ps_if (pt_cmpR  op_eq (pe_op  op_mod (pe_op  op_fdiv (pv 1) pe_int) pe_int) pe_int (nomark _))
      (pss_one (ps_set (i := 2) nd rfl (.inl rfl) (pe_call GLawNests (hr.mono (by decide)) (by rfl) gLawNests kLawNests bLawNests .nil pass0 (pa_cons (pe_op  op_fdiv (pv 1) pe_int) pa_nil))))
      pss_nil)
      (pss_cons (ps_set (i := 3) nd rfl (.inl rfl) (pe_call GTurnScore (hr.mono (by decide)) (by rfl) gTurnScore kTurnScore bTurnScore .nil pass0 (pa_cons (pv 2) pa_nil)))
      (pss_cons (ps_if (PW.pt (pw_or (pt_not (pt_val (pe_callB (r := rIsi K) call_isi (by rfl) M.m_isinstance (by decide +kernel) (pa_cons (pv 3) (pa_cons (pe_bltn (v := .ty "int") (u := .type "int") (by rfl) M.m_int (by decide +kernel) rfl) pa_nil))))) (pw_or1 (pt_val (pe_callB (r := rIsi K) call_isi (by rfl) M.m_isinstance (by decide +kernel) (pa_cons (pv 3) (pa_cons (pe_bltn (v := .ty "bool") (u := .type "bool") (by rfl) M.m_bool (by decide +kernel) rfl) pa_nil)))))))
      (pss_one (ps_ret pe_bl))
      pss_nil)
      (pss_one (ps_ret (pe_cmpR  op_eq (pv 3) (pe_call GLawScore (hr.mono (by decide)) (by rfl) gLawScore kLawScore bLawScore .nil pass0 (pa_cons (pv 2) pa_nil)) (nomark _)))))))))), ?_⟩
    refine ⟨_, rfl, a, ns, 0, rfl, hS, fun H1 s1 => ?_⟩
    dsimp only [gName]
    generalize ns.getD 0 0 = hd
    obtain ⟨m, hm, hm40⟩ : ∃ m : Nat, hd % 17 = (m : Int) ∧ m ≤ 40 := ⟨(hd % 17).toNat, by omega, by omega⟩
    have hS1 := Evl.ex_l s1 hS
    refine ⟨_, rfl, _, rfl, _, _, rfl, rfl, (by show (0 : Int) < 17; decide), a, ns, 1, m, (by show [V.ref a, V.int 1, V.int (hd % 17)] = _; rw [hm]; rfl), hS1, hm40, fun H2 p2 r2 s2 h2 R2 l2 => ?_⟩
    have s02 := s1.trans s2
    refine ⟨fun σ' H' => ∃ p r, σ' = [some (.ref a), some (.int hd), some (.ref p), none] ∧ Same H H' ∧ H' p = some (.tup (intsV r)) ∧ IsRow r ∧ r.length ≤ 40, ?_, ?_⟩
    · refine ⟨_, rfl, _, _, rfl, rfl, cdiv (by decide) (by decide), _, _, rfl, rfl, (by show (0 : Int) < 3; decide), rfl, _, rfl, ?_⟩
      by_cases c : hd / 17 % 3 = 1
      · refine ifT (by rw [dec_int]; exact decide_eq_true c) ⟨_, rfl, _, rfl, _, _, rfl, rfl, cdiv (by decide) (by decide), _, _, rfl, rfl, (by show (0 : Int) < 37; decide), _, _, rfl, rfl, a, ns, 1, 5 + hd / 51 % 37, rfl, Evl.ex_l s02 hS, by omega, by omega, by omega, fun H3 p3 r3 s3 h3 R3 l3 => ?_⟩
        exact ⟨p3, r3, rfl, s02.trans s3, h3, R3, l3⟩
      · refine ifF (by rw [dec_int]; exact decide_eq_false c) ⟨p2, r2, rfl, s02, h2, R2, l2⟩
    rintro σ' H3 ⟨p3, r3, rfl, s03, h3, R3, l3⟩
    refine ⟨fun σ' H' => ∃ p r, σ' = [some (.ref a), some (.int hd), some (.ref p), none] ∧ Same H H' ∧ H' p = some (.tup (intsV r)) ∧ IsRow r ∧ r.length ≤ 40, ?_, ?_⟩
    · refine ⟨_, rfl, _, _, rfl, rfl, cdiv (by decide) (by decide), _, _, rfl, rfl, (by show (0 : Int) < 3; decide), rfl, _, rfl, ?_⟩
      by_cases c : hd / 17 % 3 = 2
      · refine ifT (by rw [dec_int]; exact decide_eq_true c) ⟨_, rfl, _, _, rfl, rfl, cdiv (by decide) (by decide), _, rfl, fun H4 p4 r4 s4 h4 R4 l4 => ?_⟩
        exact ⟨p4, r4, rfl, s03.trans s4, h4, R4, l4⟩
      · refine ifF (by rw [dec_int]; exact decide_eq_false c) ⟨p3, r3, rfl, s03, h3, R3, l3⟩
    rintro σ' H4 ⟨p, r, rfl, s04, h4, R, hlen⟩
    have hT : SqT K H4 p (intsV r) := .inl (.inl h4)
    refine ⟨_, rfl, p, r, rfl, hT, hlen, R, fun H5 o E1 legs s5 ok => ?_⟩
    refine ⟨_, rfl, _, .ty "int", .type "int", .type "int", true, rfl, ClsV.ty _, TyX.base (TyOf.int _), kit_ty (by decide +kernel), true, rfl, ?_⟩
    refine ifF rfl ⟨_, rfl, _, .ty "bool", .type "int", .type "bool", false, rfl, ClsV.ty _, TyX.base (TyOf.int _), kit_ty (by decide +kernel), false, rfl, ?_⟩
    refine ifF rfl ⟨_, rfl, _, rfl, p, r, rfl, sameT s5 hT, hlen, R, fun H6 mk LB Hs s6 sc => ⟨rfl, ?_⟩⟩
    have hc := costs R sc.kinds ok.ow sc.low sc.lab ok.nd ok.mem ok.len ok.res sc.nd sc.mem
    rw [hc, decide_eq_true rfl]
    exact q H6
end
end WX
namespace WY
open PySem L2 WA WB WC WE WF WG WH WJ WK WL WM WN WO WP WQ WS WT WU WV WW WX
theorem all_mk {l : PySem.W.OpenLaw} {w : World} {K : PySem.W.Frag} {h : Heap} {mg : Str → Option Value} {fa f1 f2 f3 f4 f5 f6 f7 f8 f9 f10 f11 f12 f13 f14 f15 f16 f17 f18 f19 f20 f21 f22 f23 f24 f25 f26 f27 f28 f29 f30 f31 f32 f33 f34 f35 : Addr} (X : K.In h) (G : h.Ns mainGlobals mg) (hfa : mg "law" = some (.ref fa))
    {od1 an1 od2 an2 od3 an3 od4 an4 od5 an5 od6 an6 od7 an7 od8 an8 od9 an9 od10 an10 od11 an11 od12 an12 od13 an13 od14 an14 od15 an15 od16 an16 od17 an17 od18 an18 od19 an19 od20 an20 od21 an21 od22 an22 od23 an23 od24 an24 od25 an25 od26 an26 od27 an27 od28 an28 od29 an29 od30 an30 od31 an31 od32 an32 od33 an33 od34 an34 od35 an35 : Option Addr} {sl1 sl2 sl3 sl4 sl5 sl6 sl7 sl8 sl9 sl10 sl11 sl12 sl13 sl14 sl15 sl16 sl17 sl18 sl19 sl20 sl21 sl22 sl23 sl24 sl25 sl26 sl27 sl28 sl29 sl30 sl31 sl32 sl33 sl34 sl35 : Array (Option Value)} {oc1 kV1 dc1 pm1 cd1 ct1 oc2 kV2 dc2 pm2 cd2 ct2 oc3 kV3 dc3 pm3 cd3 ct3 oc4 kV4 dc4 pm4 cd4 ct4 oc5 kV5 dc5 pm5 cd5 ct5 oc6 kV6 dc6 pm6 cd6 ct6 oc7 kV7 dc7 pm7 cd7 ct7 oc8 kV8 dc8 pm8 cd8 ct8 oc9 kV9 dc9 pm9 cd9 ct9 oc10 kV10 dc10 pm10 cd10 ct10 oc11 kV11 dc11 pm11 cd11 ct11 oc12 kV12 dc12 pm12 cd12 ct12 oc13 kV13 dc13 pm13 cd13 ct13 oc14 kV14 dc14 pm14 cd14 ct14 oc15 kV15 dc15 pm15 cd15 ct15 oc16 kV16 dc16 pm16 cd16 ct16 oc17 kV17 dc17 pm17 cd17 ct17 oc18 kV18 dc18 pm18 cd18 ct18 oc19 kV19 dc19 pm19 cd19 ct19 oc20 kV20 dc20 pm20 cd20 ct20 oc21 kV21 dc21 pm21 cd21 ct21 oc22 kV22 dc22 pm22 cd22 ct22 oc23 kV23 dc23 pm23 cd23 ct23 oc24 kV24 dc24 pm24 cd24 ct24 oc25 kV25 dc25 pm25 cd25 ct25 oc26 kV26 dc26 pm26 cd26 ct26 oc27 kV27 dc27 pm27 cd27 ct27 oc28 kV28 dc28 pm28 cd28 ct28 oc29 kV29 dc29 pm29 cd29 ct29 oc30 kV30 dc30 pm30 cd30 ct30 oc31 kV31 dc31 pm31 cd31 ct31 oc32 kV32 dc32 pm32 cd32 ct32 oc33 kV33 dc33 pm33 cd33 ct33 oc34 kV34 dc34 pm34 cd34 ct34 oc35 kV35 dc35 pm35 cd35 ct35 : Value}
    (a1 : PySem.W.nsIn K mainGlobals "framed" = some (some (.ref f1))) (l1 : K.lookup f1 = some ⟨oc1, od1, .func (PySem.W.fnOf "framed" "framed" (defArgs WB.sFramed) (defBody WB.sFramed) (defScope WB.sFramed) .none kV1 dc1 pm1 an1 cd1 ct1), sl1⟩) (c1 : PySem.W.codeIn K cd1 "framed" = true) (k1 : PySem.W.keepIn K (.ref f1) = true)
    (a2 : PySem.W.nsIn K mainGlobals "open_gaps" = some (some (.ref f2))) (l2 : K.lookup f2 = some ⟨oc2, od2, .func (PySem.W.fnOf "open_gaps" "open_gaps" (defArgs WB.sOpen) (defBody WB.sOpen) (defScope WB.sOpen) .none kV2 dc2 pm2 an2 cd2 ct2), sl2⟩) (c2 : PySem.W.codeIn K cd2 "open_gaps" = true) (k2 : PySem.W.keepIn K (.ref f2) = true)
    (a3 : PySem.W.nsIn K mainGlobals "amount_places" = some (some (.ref f3))) (l3 : K.lookup f3 = some ⟨oc3, od3, .func (PySem.W.fnOf "amount_places" "amount_places" (defArgs WC.sPlaces) (defBody WC.sPlaces) (defScope WC.sPlaces) .none kV3 dc3 pm3 an3 cd3 ct3), sl3⟩) (c3 : PySem.W.codeIn K cd3 "amount_places" = true) (k3 : PySem.W.keepIn K (.ref f3) = true)
    (a4 : PySem.W.nsIn K mainGlobals "tie_gaps" = some (some (.ref f4))) (l4 : K.lookup f4 = some ⟨oc4, od4, .func (PySem.W.fnOf "tie_gaps" "tie_gaps" (defArgs WC.sTieGaps) (defBody WC.sTieGaps) (defScope WC.sTieGaps) .none kV4 dc4 pm4 an4 cd4 ct4), sl4⟩) (c4 : PySem.W.codeIn K cd4 "tie_gaps" = true) (k4 : PySem.W.keepIn K (.ref f4) = true)
    (a5 : PySem.W.nsIn K mainGlobals "tie_rings" = some (some (.ref f5))) (l5 : K.lookup f5 = some ⟨oc5, od5, .func (PySem.W.fnOf "tie_rings" "tie_rings" (defArgs sTieRings) (defBody sTieRings) (defScope sTieRings) .none kV5 dc5 pm5 an5 cd5 ct5), sl5⟩) (c5 : PySem.W.codeIn K cd5 "tie_rings" = true) (k5 : PySem.W.keepIn K (.ref f5) = true)
    (a6 : PySem.W.nsIn K mainGlobals "whole_stretches" = some (some (.ref f6))) (l6 : K.lookup f6 = some ⟨oc6, od6, .func (PySem.W.fnOf "whole_stretches" "whole_stretches" (defArgs sWholeStretches) (defBody sWholeStretches) (defScope sWholeStretches) .none kV6 dc6 pm6 an6 cd6 ct6), sl6⟩) (c6 : PySem.W.codeIn K cd6 "whole_stretches" = true) (k6 : PySem.W.keepIn K (.ref f6) = true)
    (a7 : PySem.W.nsIn K mainGlobals "is_parted" = some (some (.ref f7))) (l7 : K.lookup f7 = some ⟨oc7, od7, .func (PySem.W.fnOf "is_parted" "is_parted" (defArgs sIsParted) (defBody sIsParted) (defScope sIsParted) .none kV7 dc7 pm7 an7 cd7 ct7), sl7⟩) (c7 : PySem.W.codeIn K cd7 "is_parted" = true) (k7 : PySem.W.keepIn K (.ref f7) = true)
    (a8 : PySem.W.nsIn K mainGlobals "kin_spans" = some (some (.ref f8))) (l8 : K.lookup f8 = some ⟨oc8, od8, .func (PySem.W.fnOf "kin_spans" "kin_spans" (defArgs sKinSpans) (defBody sKinSpans) (defScope sKinSpans) .none kV8 dc8 pm8 an8 cd8 ct8), sl8⟩) (c8 : PySem.W.codeIn K cd8 "kin_spans" = true) (k8 : PySem.W.keepIn K (.ref f8) = true)
    (a9 : PySem.W.nsIn K mainGlobals "owners_by" = some (some (.ref f9))) (l9 : K.lookup f9 = some ⟨oc9, od9, .func (PySem.W.fnOf "owners_by" "owners_by" (defArgs sOwnersBy) (defBody sOwnersBy) (defScope sOwnersBy) .none kV9 dc9 pm9 an9 cd9 ct9), sl9⟩) (c9 : PySem.W.codeIn K cd9 "owners_by" = true) (k9 : PySem.W.keepIn K (.ref f9) = true)
    (a10 : PySem.W.nsIn K mainGlobals "is_knot" = some (some (.ref f10))) (l10 : K.lookup f10 = some ⟨oc10, od10, .func (PySem.W.fnOf "is_knot" "is_knot" (defArgs sIsKnot) (defBody sIsKnot) (defScope sIsKnot) .none kV10 dc10 pm10 an10 cd10 ct10), sl10⟩) (c10 : PySem.W.codeIn K cd10 "is_knot" = true) (k10 : PySem.W.keepIn K (.ref f10) = true)
    (a11 : PySem.W.nsIn K mainGlobals "knots_among" = some (some (.ref f11))) (l11 : K.lookup f11 = some ⟨oc11, od11, .func (PySem.W.fnOf "knots_among" "knots_among" (defArgs sKnotsAmong) (defBody sKnotsAmong) (defScope sKnotsAmong) .none kV11 dc11 pm11 an11 cd11 ct11), sl11⟩) (c11 : PySem.W.codeIn K cd11 "knots_among" = true) (k11 : PySem.W.keepIn K (.ref f11) = true)
    (a12 : PySem.W.nsIn K mainGlobals "kin_chains" = some (some (.ref f12))) (l12 : K.lookup f12 = some ⟨oc12, od12, .func (PySem.W.fnOf "kin_chains" "kin_chains" (defArgs sKinChains) (defBody sKinChains) (defScope sKinChains) .none kV12 dc12 pm12 an12 cd12 ct12), sl12⟩) (c12 : PySem.W.codeIn K cd12 "kin_chains" = true) (k12 : PySem.W.keepIn K (.ref f12) = true)
    (a13 : PySem.W.nsIn K mainGlobals "kin_around" = some (some (.ref f13))) (l13 : K.lookup f13 = some ⟨oc13, od13, .func (PySem.W.fnOf "kin_around" "kin_around" (defArgs sKinAround) (defBody sKinAround) (defScope sKinAround) .none kV13 dc13 pm13 an13 cd13 ct13), sl13⟩) (c13 : PySem.W.codeIn K cd13 "kin_around" = true) (k13 : PySem.W.keepIn K (.ref f13) = true)
    (a14 : PySem.W.nsIn K mainGlobals "web_links" = some (some (.ref f14))) (l14 : K.lookup f14 = some ⟨oc14, od14, .func (PySem.W.fnOf "web_links" "web_links" (defArgs sWebLinks) (defBody sWebLinks) (defScope sWebLinks) .none kV14 dc14 pm14 an14 cd14 ct14), sl14⟩) (c14 : PySem.W.codeIn K cd14 "web_links" = true) (k14 : PySem.W.keepIn K (.ref f14) = true)
    (a15 : PySem.W.nsIn K mainGlobals "thin_web" = some (some (.ref f15))) (l15 : K.lookup f15 = some ⟨oc15, od15, .func (PySem.W.fnOf "thin_web" "thin_web" (defArgs sThinWeb) (defBody sThinWeb) (defScope sThinWeb) .none kV15 dc15 pm15 an15 cd15 ct15), sl15⟩) (c15 : PySem.W.codeIn K cd15 "thin_web" = true) (k15 : PySem.W.keepIn K (.ref f15) = true)
    (a16 : PySem.W.nsIn K mainGlobals "leg_knots" = some (some (.ref f16))) (l16 : K.lookup f16 = some ⟨oc16, od16, .func (PySem.W.fnOf "leg_knots" "leg_knots" (defArgs sLegKnots) (defBody sLegKnots) (defScope sLegKnots) .none kV16 dc16 pm16 an16 cd16 ct16), sl16⟩) (c16 : PySem.W.codeIn K cd16 "leg_knots" = true) (k16 : PySem.W.keepIn K (.ref f16) = true)
    (a17 : PySem.W.nsIn K mainGlobals "knot_web" = some (some (.ref f17))) (l17 : K.lookup f17 = some ⟨oc17, od17, .func (PySem.W.fnOf "knot_web" "knot_web" (defArgs sKnotWeb) (defBody sKnotWeb) (defScope sKnotWeb) .none kV17 dc17 pm17 an17 cd17 ct17), sl17⟩) (c17 : PySem.W.codeIn K cd17 "knot_web" = true) (k17 : PySem.W.keepIn K (.ref f17) = true)
    (a18 : PySem.W.nsIn K mainGlobals "knot_legs" = some (some (.ref f18))) (l18 : K.lookup f18 = some ⟨oc18, od18, .func (PySem.W.fnOf "knot_legs" "knot_legs" (defArgs sKnotLegs) (defBody sKnotLegs) (defScope sKnotLegs) .none kV18 dc18 pm18 an18 cd18 ct18), sl18⟩) (c18 : PySem.W.codeIn K cd18 "knot_legs" = true) (k18 : PySem.W.keepIn K (.ref f18) = true)
    (a19 : PySem.W.nsIn K mainGlobals "cost_of_legs" = some (some (.ref f19))) (l19 : K.lookup f19 = some ⟨oc19, od19, .func (PySem.W.fnOf "cost_of_legs" "cost_of_legs" (defArgs sCostOfLegs) (defBody sCostOfLegs) (defScope sCostOfLegs) .none kV19 dc19 pm19 an19 cd19 ct19), sl19⟩) (c19 : PySem.W.codeIn K cd19 "cost_of_legs" = true) (k19 : PySem.W.keepIn K (.ref f19) = true)
    (a20 : PySem.W.nsIn K mainGlobals "knot_cost" = some (some (.ref f20))) (l20 : K.lookup f20 = some ⟨oc20, od20, .func (PySem.W.fnOf "knot_cost" "knot_cost" (defArgs sKnotCost) (defBody sKnotCost) (defScope sKnotCost) .none kV20 dc20 pm20 an20 cd20 ct20), sl20⟩) (c20 : PySem.W.codeIn K cd20 "knot_cost" = true) (k20 : PySem.W.keepIn K (.ref f20) = true)
    (a21 : PySem.W.nsIn K mainGlobals "turn_score" = some (some (.ref f21))) (l21 : K.lookup f21 = some ⟨oc21, od21, .func (PySem.W.fnOf "turn_score" "turn_score" (defArgs sTurnScore) (defBody sTurnScore) (defScope sTurnScore) .none kV21 dc21 pm21 an21 cd21 ct21), sl21⟩) (c21 : PySem.W.codeIn K cd21 "turn_score" = true) (k21 : PySem.W.keepIn K (.ref f21) = true)
    (a22 : PySem.W.nsIn K mainGlobals "_law_cell_at" = some (some (.ref f22))) (l22 : K.lookup f22 = some ⟨oc22, od22, .func (PySem.W.fnOf "_law_cell_at" "_law_cell_at" (defArgs sLawCellAt) (defBody sLawCellAt) (defScope sLawCellAt) .none kV22 dc22 pm22 an22 cd22 ct22), sl22⟩) (c22 : PySem.W.codeIn K cd22 "_law_cell_at" = true) (k22 : PySem.W.keepIn K (.ref f22) = true)
    (a23 : PySem.W.nsIn K mainGlobals "_law_row_of_kins" = some (some (.ref f23))) (l23 : K.lookup f23 = some ⟨oc23, od23, .func (PySem.W.fnOf "_law_row_of_kins" "_law_row_of_kins" (defArgs sLawRowOfKins) (defBody sLawRowOfKins) (defScope sLawRowOfKins) .none kV23 dc23 pm23 an23 cd23 ct23), sl23⟩) (c23 : PySem.W.codeIn K cd23 "_law_row_of_kins" = true) (k23 : PySem.W.keepIn K (.ref f23) = true)
    (a24 : PySem.W.nsIn K mainGlobals "_law_inflated" = some (some (.ref f24))) (l24 : K.lookup f24 = some ⟨oc24, od24, .func (PySem.W.fnOf "_law_inflated" "_law_inflated" (defArgs sLawInflated) (defBody sLawInflated) (defScope sLawInflated) .none kV24 dc24 pm24 an24 cd24 ct24), sl24⟩) (c24 : PySem.W.codeIn K cd24 "_law_inflated" = true) (k24 : PySem.W.keepIn K (.ref f24) = true)
    (a25 : PySem.W.nsIn K mainGlobals "_law_put_in" = some (some (.ref f25))) (l25 : K.lookup f25 = some ⟨oc25, od25, .func (PySem.W.fnOf "_law_put_in" "_law_put_in" (defArgs sLawPutIn) (defBody sLawPutIn) (defScope sLawPutIn) .none kV25 dc25 pm25 an25 cd25 ct25), sl25⟩) (c25 : PySem.W.codeIn K cd25 "_law_put_in" = true) (k25 : PySem.W.keepIn K (.ref f25) = true)
    (a26 : PySem.W.nsIn K mainGlobals "_law_nests" = some (some (.ref f26))) (l26 : K.lookup f26 = some ⟨oc26, od26, .func (PySem.W.fnOf "_law_nests" "_law_nests" (defArgs sLawNests) (defBody sLawNests) (defScope sLawNests) .none kV26 dc26 pm26 an26 cd26 ct26), sl26⟩) (c26 : PySem.W.codeIn K cd26 "_law_nests" = true) (k26 : PySem.W.keepIn K (.ref f26) = true)
    (a27 : PySem.W.nsIn K mainGlobals "_law_spots" = some (some (.ref f27))) (l27 : K.lookup f27 = some ⟨oc27, od27, .func (PySem.W.fnOf "_law_spots" "_law_spots" (defArgs sLawSpots) (defBody sLawSpots) (defScope sLawSpots) .none kV27 dc27 pm27 an27 cd27 ct27), sl27⟩) (c27 : PySem.W.codeIn K cd27 "_law_spots" = true) (k27 : PySem.W.keepIn K (.ref f27) = true)
    (a28 : PySem.W.nsIn K mainGlobals "_law_crossing" = some (some (.ref f28))) (l28 : K.lookup f28 = some ⟨oc28, od28, .func (PySem.W.fnOf "_law_crossing" "_law_crossing" (defArgs sLawCrossing) (defBody sLawCrossing) (defScope sLawCrossing) .none kV28 dc28 pm28 an28 cd28 ct28), sl28⟩) (c28 : PySem.W.codeIn K cd28 "_law_crossing" = true) (k28 : PySem.W.keepIn K (.ref f28) = true)
    (a29 : PySem.W.nsIn K mainGlobals "_law_kinds" = some (some (.ref f29))) (l29 : K.lookup f29 = some ⟨oc29, od29, .func (PySem.W.fnOf "_law_kinds" "_law_kinds" (defArgs sLawKinds) (defBody sLawKinds) (defScope sLawKinds) .none kV29 dc29 pm29 an29 cd29 ct29), sl29⟩) (c29 : PySem.W.codeIn K cd29 "_law_kinds" = true) (k29 : PySem.W.keepIn K (.ref f29) = true)
    (a30 : PySem.W.nsIn K mainGlobals "_law_blocks" = some (some (.ref f30))) (l30 : K.lookup f30 = some ⟨oc30, od30, .func (PySem.W.fnOf "_law_blocks" "_law_blocks" (defArgs sLawBlocks) (defBody sLawBlocks) (defScope sLawBlocks) .none kV30 dc30 pm30 an30 cd30 ct30), sl30⟩) (c30 : PySem.W.codeIn K cd30 "_law_blocks" = true) (k30 : PySem.W.keepIn K (.ref f30) = true)
    (a31 : PySem.W.nsIn K mainGlobals "_law_hurdles" = some (some (.ref f31))) (l31 : K.lookup f31 = some ⟨oc31, od31, .func (PySem.W.fnOf "_law_hurdles" "_law_hurdles" (defArgs sLawHurdles) (defBody sLawHurdles) (defScope sLawHurdles) .none kV31 dc31 pm31 an31 cd31 ct31), sl31⟩) (c31 : PySem.W.codeIn K cd31 "_law_hurdles" = true) (k31 : PySem.W.keepIn K (.ref f31) = true)
    (a32 : PySem.W.nsIn K mainGlobals "_law_hurdle_cost" = some (some (.ref f32))) (l32 : K.lookup f32 = some ⟨oc32, od32, .func (PySem.W.fnOf "_law_hurdle_cost" "_law_hurdle_cost" (defArgs sLawHurdleCost) (defBody sLawHurdleCost) (defScope sLawHurdleCost) .none kV32 dc32 pm32 an32 cd32 ct32), sl32⟩) (c32 : PySem.W.codeIn K cd32 "_law_hurdle_cost" = true) (k32 : PySem.W.keepIn K (.ref f32) = true)
    (a33 : PySem.W.nsIn K mainGlobals "_law_score" = some (some (.ref f33))) (l33 : K.lookup f33 = some ⟨oc33, od33, .func (PySem.W.fnOf "_law_score" "_law_score" (defArgs sLawScore) (defBody sLawScore) (defScope sLawScore) .none kV33 dc33 pm33 an33 cd33 ct33), sl33⟩) (c33 : PySem.W.codeIn K cd33 "_law_score" = true) (k33 : PySem.W.keepIn K (.ref f33) = true)
    (a34 : PySem.W.nsIn K mainGlobals "_law_ring_count" = some (some (.ref f34))) (l34 : K.lookup f34 = some ⟨oc34, od34, .func (PySem.W.fnOf "_law_ring_count" "_law_ring_count" (defArgs sLawRingCount) (defBody sLawRingCount) (defScope sLawRingCount) .none kV34 dc34 pm34 an34 cd34 ct34), sl34⟩) (c34 : PySem.W.codeIn K cd34 "_law_ring_count" = true) (k34 : PySem.W.keepIn K (.ref f34) = true)
    (a35 : PySem.W.nsIn K mainGlobals "law" = some (some (.ref f35))) (l35 : K.lookup f35 = some ⟨oc35, od35, .func (PySem.W.fnOf "law" "law" (defArgs sLaw) (defBody sLaw) (defScope sLaw) .none kV35 dc35 pm35 an35 cd35 ct35), sl35⟩) (c35 : PySem.W.codeIn K cd35 "law" = true) (k35 : PySem.W.keepIn K (.ref f35) = true)
    (z0 : PySem.W.nsIn K mainGlobals "len" = some none) (z1 : PySem.W.nsIn K mainGlobals "range" = some none) (z2 : PySem.W.nsIn K mainGlobals "enumerate" = some none) (z3 : PySem.W.nsIn K mainGlobals "abs" = some none) (z4 : PySem.W.nsIn K mainGlobals "min" = some none) (z5 : PySem.W.nsIn K mainGlobals "max" = some none) (z6 : PySem.W.nsIn K mainGlobals "sorted" = some none) (z7 : PySem.W.nsIn K mainGlobals "list" = some none) (z8 : PySem.W.nsIn K mainGlobals "tuple" = some none) (z9 : PySem.W.nsIn K mainGlobals "reversed" = some none) (z10 : PySem.W.nsIn K mainGlobals "set" = some none) (z11 : PySem.W.nsIn K mainGlobals "isinstance" = some none) (z12 : PySem.W.nsIn K mainGlobals "int" = some none) (z13 : PySem.W.nsIn K mainGlobals "bool" = some none) :
    ∃ fd : FuncData, (∀ (s : Shared) (v : Value), BindsTo s fd ⟨[v], []⟩ [("script", v)]) ∧ ∀ base : Heap, K.In base → base.Ns mainGlobals mg → FnOk l.prog w K mg base CX0 8 fa fd ["script"] (spLaw K) := by
  have e := hfa.symm.trans (PySem.W.mg_of X G a35)
  cases e
  have M : Bi mg := ⟨PySem.W.mg_none_of X G z0, PySem.W.mg_none_of X G z1, PySem.W.mg_none_of X G z2, PySem.W.mg_none_of X G z3, PySem.W.mg_none_of X G z4, PySem.W.mg_none_of X G z5, PySem.W.mg_none_of X G z6, PySem.W.mg_none_of X G z7, PySem.W.mg_none_of X G z8, PySem.W.mg_none_of X G z9, PySem.W.mg_none_of X G z10, PySem.W.mg_none_of X G z11, PySem.W.mg_none_of X G z12, PySem.W.mg_none_of X G z13⟩
  have F1 := fun_mk (st := WB.sFramed) l1 c1 k1
  have b1 := F1.binds (ps := ["row"]) fun _ _ _ _ _ _ us hl => match us, hl with | [_], _ => rfl
  have F2 := fun_mk (st := WB.sOpen) l2 c2 k2
  have b2 := F2.binds (ps := ["row"]) fun _ _ _ _ _ _ us hl => match us, hl with | [_], _ => rfl
  have F3 := fun_mk (st := WC.sPlaces) l3 c3 k3
  have b3 := F3.binds (ps := ["row"]) fun _ _ _ _ _ _ us hl => match us, hl with | [_], _ => rfl
  have F4 := fun_mk (st := WC.sTieGaps) l4 c4 k4
  have b4 := F4.binds (ps := ["row"]) fun _ _ _ _ _ _ us hl => match us, hl with | [_], _ => rfl
  have F5 := fun_mk (st := sTieRings) l5 c5 k5
  have b5 := F5.binds (ps := ["row"]) fun _ _ _ _ _ _ us hl => match us, hl with | [_], _ => rfl
  have F6 := fun_mk (st := sWholeStretches) l6 c6 k6
  have b6 := F6.binds (ps := ["row"]) fun _ _ _ _ _ _ us hl => match us, hl with | [_], _ => rfl
  have F7 := fun_mk (st := sIsParted) l7 c7 k7
  have b7 := F7.binds (ps := ["stretches", "first", "last"]) fun _ _ _ _ _ _ us hl => match us, hl with | [_, _, _], _ => rfl
  have F8 := fun_mk (st := sKinSpans) l8 c8 k8
  have b8 := F8.binds (ps := ["row"]) fun _ _ _ _ _ _ us hl => match us, hl with | [_], _ => rfl
  have F9 := fun_mk (st := sOwnersBy) l9 c9 k9
  have b9 := F9.binds (ps := ["spans", "many"]) fun _ _ _ _ _ _ us hl => match us, hl with | [_, _], _ => rfl
  have F10 := fun_mk (st := sIsKnot) l10 c10 k10
  have b10 := F10.binds (ps := ["numbers", "gaps"]) fun _ _ _ _ _ _ us hl => match us, hl with | [_, _], _ => rfl
  have F11 := fun_mk (st := sKnotsAmong) l11 c11 k11
  have b11 := F11.binds (ps := ["row", "spans"]) fun _ _ _ _ _ _ us hl => match us, hl with | [_, _], _ => rfl
  have F12 := fun_mk (st := sKinChains) l12 c12 k12
  have b12 := F12.binds (ps := ["spans"]) fun _ _ _ _ _ _ us hl => match us, hl with | [_], _ => rfl
  have F13 := fun_mk (st := sKinAround) l13 c13 k13
  have b13 := F13.binds (ps := ["spans", "chain"]) fun _ _ _ _ _ _ us hl => match us, hl with | [_, _], _ => rfl
  have F14 := fun_mk (st := sWebLinks) l14 c14 k14
  have b14 := F14.binds (ps := ["spans"]) fun _ _ _ _ _ _ us hl => match us, hl with | [_], _ => rfl
  have F15 := fun_mk (st := sThinWeb) l15 c15 k15
  have b15 := F15.binds (ps := ["links", "knotted"]) fun _ _ _ _ _ _ us hl => match us, hl with | [_, _], _ => rfl
  have F16 := fun_mk (st := sLegKnots) l16 c16 k16
  have b16 := F16.binds (ps := ["left", "knotted", "end"]) fun _ _ _ _ _ _ us hl => match us, hl with | [_, _, _], _ => rfl
  have F17 := fun_mk (st := sKnotWeb) l17 c17 k17
  have b17 := F17.binds (ps := ["row"]) fun _ _ _ _ _ _ us hl => match us, hl with | [_], _ => rfl
  have F18 := fun_mk (st := sKnotLegs) l18 c18 k18
  have b18 := F18.binds (ps := ["row"]) fun _ _ _ _ _ _ us hl => match us, hl with | [_], _ => rfl
  have F19 := fun_mk (st := sCostOfLegs) l19 c19 k19
  have b19 := F19.binds (ps := ["legs"]) fun _ _ _ _ _ _ us hl => match us, hl with | [_], _ => rfl
  have F20 := fun_mk (st := sKnotCost) l20 c20 k20
  have b20 := F20.binds (ps := ["row"]) fun _ _ _ _ _ _ us hl => match us, hl with | [_], _ => rfl
  have F21 := fun_mk (st := sTurnScore) l21 c21 k21
  have b21 := F21.binds (ps := ["row"]) fun _ _ _ _ _ _ us hl => match us, hl with | [_], _ => rfl
  have F22 := fun_mk (st := sLawCellAt) l22 c22 k22
  have b22 := F22.binds (ps := ["script", "k"]) fun _ _ _ _ _ _ us hl => match us, hl with | [_, _], _ => rfl
  have F23 := fun_mk (st := sLawRowOfKins) l23 c23 k23
  have b23 := F23.binds (ps := ["script", "at", "many"]) fun _ _ _ _ _ _ us hl => match us, hl with | [_, _, _], _ => rfl
  have F24 := fun_mk (st := sLawInflated) l24 c24 k24
  have b24 := F24.binds (ps := ["script", "at", "room"]) fun _ _ _ _ _ _ us hl => match us, hl with | [_, _, _], _ => rfl
  have F25 := fun_mk (st := sLawPutIn) l25 c25 k25
  have b25 := F25.binds (ps := ["row", "spot"]) fun _ _ _ _ _ _ us hl => match us, hl with | [_, _], _ => rfl
  have F26 := fun_mk (st := sLawNests) l26 c26 k26
  have b26 := F26.binds (ps := ["cell"]) fun _ _ _ _ _ _ us hl => match us, hl with | [_], _ => rfl
  have F27 := fun_mk (st := sLawSpots) l27 c27 k27
  have b27 := F27.binds (ps := ["row"]) fun _ _ _ _ _ _ us hl => match us, hl with | [_], _ => rfl
  have F28 := fun_mk (st := sLawCrossing) l28 c28 k28
  have b28 := F28.binds (ps := ["one", "two"]) fun _ _ _ _ _ _ us hl => match us, hl with | [_, _], _ => rfl
  have F29 := fun_mk (st := sLawKinds) l29 c29 k29
  have b29 := F29.binds (ps := ["arcs"]) fun _ _ _ _ _ _ us hl => match us, hl with | [_], _ => rfl
  have F30 := fun_mk (st := sLawBlocks) l30 c30 k30
  have b30 := F30.binds (ps := ["labels"]) fun _ _ _ _ _ _ us hl => match us, hl with | [_], _ => rfl
  have F31 := fun_mk (st := sLawHurdles) l31 c31 k31
  have b31 := F31.binds (ps := ["labels"]) fun _ _ _ _ _ _ us hl => match us, hl with | [_], _ => rfl
  have F32 := fun_mk (st := sLawHurdleCost) l32 c32 k32
  have b32 := F32.binds (ps := ["labels"]) fun _ _ _ _ _ _ us hl => match us, hl with | [_], _ => rfl
  have F33 := fun_mk (st := sLawScore) l33 c33 k33
  have b33 := F33.binds (ps := ["row"]) fun _ _ _ _ _ _ us hl => match us, hl with | [_], _ => rfl
  have F34 := fun_mk (st := sLawRingCount) l34 c34 k34
  have b34 := F34.binds (ps := ["row"]) fun _ _ _ _ _ _ us hl => match us, hl with | [_], _ => rfl
  refine ⟨PySem.W.fnOf "law" "law" (defArgs sLaw) (defBody sLaw) (defScope sLaw) .none kV35 dc35 pm35 an35 cd35 ct35, fun s v => .of_eq rfl, fun base _ _ => ?_⟩
  have h1 := WC.hasFramed (P := l.prog) (w := w) (base := base) F1 b1 (PySem.W.mg_of X G a1) M 
  have h7 := hasIsParted (P := l.prog) (w := w) (base := base) F7 b7 (PySem.W.mg_of X G a7) M 
  have h9 := hasOwnersBy (P := l.prog) (w := w) (base := base) F9 b9 (PySem.W.mg_of X G a9) M 
  have h10 := hasIsKnot (P := l.prog) (w := w) (base := base) F10 b10 (PySem.W.mg_of X G a10) M 
  have h12 := hasKinChains (P := l.prog) (w := w) (base := base) F12 b12 (PySem.W.mg_of X G a12) M 
  have h13 := hasKinAround (P := l.prog) (w := w) (base := base) F13 b13 (PySem.W.mg_of X G a13) M 
  have h15 := hasThinWeb (P := l.prog) (w := w) (base := base) F15 b15 (PySem.W.mg_of X G a15) M 
  have h16 := hasLegKnots (P := l.prog) (w := w) (base := base) F16 b16 (PySem.W.mg_of X G a16) M 
  have h19 := hasCostOfLegs (P := l.prog) (w := w) (base := base) F19 b19 (PySem.W.mg_of X G a19) M 
  have h22 := hasLawCellAt (P := l.prog) (w := w) (base := base) F22 b22 (PySem.W.mg_of X G a22) M 
  have h24 := hasLawInflated (P := l.prog) (w := w) (base := base) F24 b24 (PySem.W.mg_of X G a24) M 
  have h25 := hasLawPutIn (P := l.prog) (w := w) (base := base) F25 b25 (PySem.W.mg_of X G a25) M 
  have h27 := hasLawSpots (P := l.prog) (w := w) (base := base) F27 b27 (PySem.W.mg_of X G a27) M 
  have h28 := hasLawCrossing (P := l.prog) (w := w) (base := base) F28 b28 (PySem.W.mg_of X G a28) M 
  have h30 := hasLawBlocks (P := l.prog) (w := w) (base := base) F30 b30 (PySem.W.mg_of X G a30) M 
  have h34 := hasLawRingCount (P := l.prog) (w := w) (base := base) F34 b34 (PySem.W.mg_of X G a34) M 
  have h2 := WC.hasOpenGaps (P := l.prog) (w := w) (base := base) F2 b2 (PySem.W.mg_of X G a2) M h1
  have h3 := WC.hasAmountPlaces (P := l.prog) (w := w) (base := base) F3 b3 (PySem.W.mg_of X G a3) M h1
  have h6 := hasWholeStretches (P := l.prog) (w := w) (base := base) F6 b6 (PySem.W.mg_of X G a6) M h1
  have h14 := hasWebLinks (P := l.prog) (w := w) (base := base) F14 b14 (PySem.W.mg_of X G a14) M h12 h13
  have h23 := hasLawRowOfKins (P := l.prog) (w := w) (base := base) F23 b23 (PySem.W.mg_of X G a23) M h22
  have h26 := hasLawNests (P := l.prog) (w := w) (base := base) F26 b26 (PySem.W.mg_of X G a26) M h25
  have h29 := hasLawKinds (P := l.prog) (w := w) (base := base) F29 b29 (PySem.W.mg_of X G a29) M h28
  have h31 := hasLawHurdles (P := l.prog) (w := w) (base := base) F31 b31 (PySem.W.mg_of X G a31) M h30
  have h4 := WC.hasTieGaps (P := l.prog) (w := w) (base := base) F4 b4 (PySem.W.mg_of X G a4) M h1 h3
  have h8 := hasKinSpans (P := l.prog) (w := w) (base := base) F8 b8 (PySem.W.mg_of X G a8) M h6 h7
  have h11 := hasKnotsAmong (P := l.prog) (w := w) (base := base) F11 b11 (PySem.W.mg_of X G a11) M h1 h2 h9 h10
  have h32 := hasLawHurdleCost (P := l.prog) (w := w) (base := base) F32 b32 (PySem.W.mg_of X G a32) M h31
  have h5 := hasTieRings (P := l.prog) (w := w) (base := base) F5 b5 (PySem.W.mg_of X G a5) M h4
  have h17 := hasKnotWeb (P := l.prog) (w := w) (base := base) F17 b17 (PySem.W.mg_of X G a17) M h8 h11 h14 h15
  have h33 := hasLawScore (P := l.prog) (w := w) (base := base) F33 b33 (PySem.W.mg_of X G a33) M h27 h29 h32 h34
  have h18 := hasKnotLegs (P := l.prog) (w := w) (base := base) F18 b18 (PySem.W.mg_of X G a18) M h16 h17
  have h20 := hasKnotCost (P := l.prog) (w := w) (base := base) F20 b20 (PySem.W.mg_of X G a20) M h18 h19
  have h21 := hasTurnScore (P := l.prog) (w := w) (base := base) F21 b21 (PySem.W.mg_of X G a21) M h5 h20
  exact okLaw (fun_mk (st := sLaw) l35 c35 k35) M h21 h22 h23 h24 h26 h33
theorem walk {l : PySem.W.OpenLaw} {q : Program} {loose : List Str} {XP : (Str → Option Value) → Heap → Prop} {YP : World → Heap → Prop} {d : DefRec} {K : Params → PySem.W.Frag} (hn : l.most = some 63) (hdf : d.params.defaults = [])
    (hY : ∀ (w : World) (h : Heap), YP w h → (K w.params).In h)
    (F : ∀ (w : World) (mg : Str → Option Value) (fa : Addr) (h : Heap), (K w.params).In h → h.Ns mainGlobals mg → mg d.name = some (.ref fa) →
      ∃ fd : FuncData, (∀ (s : Shared) (u : Value), BindsTo s fd ⟨[u], []⟩ [("script", u)]) ∧ ∀ base : Heap, (K w.params).In base → base.Ns mainGlobals mg → FnOk l.prog w (K w.params) mg base CX0 8 fa fd ["script"] (spLaw (K w.params))) :
    PySem.W.WalkO q loose XP YP l.row.toRowW d [] (fun f vs => PySem.call f vs) :=
  L2.walk_of (n := 63) (k := 8) (x := "script") (CX := fun _ => CX0) (sp := fun w => spLaw (K w.params)) hn (by decide) hdf ⟨rfl, by decide, by decide⟩ hY F (fun _ _ a ns hl _ hS => ⟨a, ns, rfl, hS, hl, fun _ => rfl⟩) fun _ _ _ _ _ z => z
end WY

open PySem PySem.W PyProof.Rows in
set_option maxRecDepth 100000 in
set_option maxHeartbeats 0 in
theorem PySem.Challenge.cw_claspwork_k48_whole_score_by_crossing_ti_holds : PySem.Challenge.rw_claspwork_k48_whole_score_by_crossing_ti.Holds := by
  w_on; o_law; k_head; (case hw => w_witness2)
  k_fill
  refine WY.walk (l := PySem.Challenge.rw_claspwork_k48_whole_score_by_crossing_ti) rfl rfl (fun w h Y => PySem.W.kIn_of Y) ?F
  case F =>
    intro w mg fa h KX G hmg
    refine' WY.all_mk KX G hmg ?a1 ?l1 ?c1 ?k1 ?a2 ?l2 ?c2 ?k2 ?a3 ?l3 ?c3 ?k3 ?a4 ?l4 ?c4 ?k4 ?a5 ?l5 ?c5 ?k5 ?a6 ?l6 ?c6 ?k6 ?a7 ?l7 ?c7 ?k7 ?a8 ?l8 ?c8 ?k8 ?a9 ?l9 ?c9 ?k9 ?a10 ?l10 ?c10 ?k10 ?a11 ?l11 ?c11 ?k11 ?a12 ?l12 ?c12 ?k12 ?a13 ?l13 ?c13 ?k13 ?a14 ?l14 ?c14 ?k14 ?a15 ?l15 ?c15 ?k15 ?a16 ?l16 ?c16 ?k16 ?a17 ?l17 ?c17 ?k17 ?a18 ?l18 ?c18 ?k18 ?a19 ?l19 ?c19 ?k19 ?a20 ?l20 ?c20 ?k20 ?a21 ?l21 ?c21 ?k21 ?a22 ?l22 ?c22 ?k22 ?a23 ?l23 ?c23 ?k23 ?a24 ?l24 ?c24 ?k24 ?a25 ?l25 ?c25 ?k25 ?a26 ?l26 ?c26 ?k26 ?a27 ?l27 ?c27 ?k27 ?a28 ?l28 ?c28 ?k28 ?a29 ?l29 ?c29 ?k29 ?a30 ?l30 ?c30 ?k30 ?a31 ?l31 ?c31 ?k31 ?a32 ?l32 ?c32 ?k32 ?a33 ?l33 ?c33 ?k33 ?a34 ?l34 ?c34 ?k34 ?a35 ?l35 ?c35 ?k35 ?z0 ?z1 ?z2 ?z3 ?z4 ?z5 ?z6 ?z7 ?z8 ?z9 ?z10 ?z11 ?z12 ?z13
    (case a1 => k_is)
    (case l1 => k_is)
    (case c1 => k_is)
    (case k1 => k_is)
    (case a2 => k_is)
    (case l2 => k_is)
    (case c2 => k_is)
    (case k2 => k_is)
    (case a3 => k_is)
    (case l3 => k_is)
    (case c3 => k_is)
    (case k3 => k_is)
    (case a4 => k_is)
    (case l4 => k_is)
    (case c4 => k_is)
    (case k4 => k_is)
    (case a5 => k_is)
    (case l5 => k_is)
    (case c5 => k_is)
    (case k5 => k_is)
    (case a6 => k_is)
    (case l6 => k_is)
    (case c6 => k_is)
    (case k6 => k_is)
    (case a7 => k_is)
    (case l7 => k_is)
    (case c7 => k_is)
    (case k7 => k_is)
    (case a8 => k_is)
    (case l8 => k_is)
    (case c8 => k_is)
    (case k8 => k_is)
    (case a9 => k_is)
    (case l9 => k_is)
    (case c9 => k_is)
    (case k9 => k_is)
    (case a10 => k_is)
    (case l10 => k_is)
    (case c10 => k_is)
    (case k10 => k_is)
    (case a11 => k_is)
    (case l11 => k_is)
    (case c11 => k_is)
    (case k11 => k_is)
    (case a12 => k_is)
    (case l12 => k_is)
    (case c12 => k_is)
    (case k12 => k_is)
    (case a13 => k_is)
    (case l13 => k_is)
    (case c13 => k_is)
    (case k13 => k_is)
    (case a14 => k_is)
    (case l14 => k_is)
    (case c14 => k_is)
    (case k14 => k_is)
    (case a15 => k_is)
    (case l15 => k_is)
    (case c15 => k_is)
    (case k15 => k_is)
    (case a16 => k_is)
    (case l16 => k_is)
    (case c16 => k_is)
    (case k16 => k_is)
    (case a17 => k_is)
    (case l17 => k_is)
    (case c17 => k_is)
    (case k17 => k_is)
    (case a18 => k_is)
    (case l18 => k_is)
    (case c18 => k_is)
    (case k18 => k_is)
    (case a19 => k_is)
    (case l19 => k_is)
    (case c19 => k_is)
    (case k19 => k_is)
    (case a20 => k_is)
    (case l20 => k_is)
    (case c20 => k_is)
    (case k20 => k_is)
    (case a21 => k_is)
    (case l21 => k_is)
    (case c21 => k_is)
    (case k21 => k_is)
    (case a22 => k_is)
    (case l22 => k_is)
    (case c22 => k_is)
    (case k22 => k_is)
    (case a23 => k_is)
    (case l23 => k_is)
    (case c23 => k_is)
    (case k23 => k_is)
    (case a24 => k_is)
    (case l24 => k_is)
    (case c24 => k_is)
    (case k24 => k_is)
    (case a25 => k_is)
    (case l25 => k_is)
    (case c25 => k_is)
    (case k25 => k_is)
    (case a26 => k_is)
    (case l26 => k_is)
    (case c26 => k_is)
    (case k26 => k_is)
    (case a27 => k_is)
    (case l27 => k_is)
    (case c27 => k_is)
    (case k27 => k_is)
    (case a28 => k_is)
    (case l28 => k_is)
    (case c28 => k_is)
    (case k28 => k_is)
    (case a29 => k_is)
    (case l29 => k_is)
    (case c29 => k_is)
    (case k29 => k_is)
    (case a30 => k_is)
    (case l30 => k_is)
    (case c30 => k_is)
    (case k30 => k_is)
    (case a31 => k_is)
    (case l31 => k_is)
    (case c31 => k_is)
    (case k31 => k_is)
    (case a32 => k_is)
    (case l32 => k_is)
    (case c32 => k_is)
    (case k32 => k_is)
    (case a33 => k_is)
    (case l33 => k_is)
    (case c33 => k_is)
    (case k33 => k_is)
    (case a34 => k_is)
    (case l34 => k_is)
    (case c34 => k_is)
    (case k34 => k_is)
    (case a35 => k_is)
    (case l35 => k_is)
    (case c35 => k_is)
    (case k35 => k_is)
    (case z0 => k_is)
    (case z1 => k_is)
    (case z2 => k_is)
    (case z3 => k_is)
    (case z4 => k_is)
    (case z5 => k_is)
    (case z6 => k_is)
    (case z7 => k_is)
    (case z8 => k_is)
    (case z9 => k_is)
    (case z10 => k_is)
    (case z11 => k_is)
    (case z12 => k_is)
    (case z13 => k_is)
