import PyProof.Rows.All
import Wide.All
import OpenK.AllK
import Wide.FinOn
import KE.KStateDown
import HandS.ForMost
import HandS.WordsExc
import HandS.TupAny
import HandS.Defaults
import KE.SortData
import PyProof.P3In
import PyProof.ReprRoads
import HandS.ForExc
import HandS.ExcInit
import HandS.ExcField
import HandS.TryMany
import KE.KExcInit
import HandS.Property
import HandS.Star
import HandS.IsInst
import HandS.Style
import HandS.HeadHook4
import HandS.NamedTupGet
import HandS.Lambda
import KE.KDflt
import HandS.Conv
import HandS.Head0
import HandS.Head1
import HandS.Head2
import HandS.HeadEnd
import HandS.HeadWalk
import HandS.EndOwn
import PySem.Challenge.RW_joinsums_k28_whole_joinbooks
namespace Huf
/-! ### sorted lists of ints -/
def ins (x : Int) : List Int → List Int
  | [] => [x]
  | y :: l => if x ≤ y then x :: y :: l else y :: ins x l
def srt (l : List Int) : List Int := l.foldr ins []
def Up (l : List Int) : Prop := l.Pairwise (· ≤ ·)

theorem ins_perm (x : Int) : ∀ l, (ins x l).Perm (x :: l)
  | [] => List.Perm.refl _
  | y :: l => by
    unfold ins
    split
    · exact List.Perm.refl _
    · exact ((ins_perm x l).cons y).trans (List.Perm.swap x y l)
theorem srt_perm : ∀ l, (srt l).Perm l
  | [] => List.Perm.refl _
  | x :: l => (ins_perm x (srt l)).trans ((srt_perm l).cons x)
theorem ins_up (x : Int) : ∀ l, Up l → Up (ins x l)
  | [], _ => List.pairwise_cons.mpr ⟨fun _ h => (nomatch h), List.Pairwise.nil⟩
  | y :: l, h => by
    have h1 := List.pairwise_cons.mp h
    unfold ins
    split
    · rename_i hx
      refine List.pairwise_cons.mpr ⟨fun z hz => ?_, h⟩
      rcases List.mem_cons.mp hz with e | hz
      · rw [e]; exact hx
      · have := h1.1 z hz; omega
    · rename_i hx
      refine List.pairwise_cons.mpr ⟨fun z hz => ?_, ins_up x l h1.2⟩
      rcases List.mem_cons.mp ((ins_perm x l).mem_iff.mp hz) with e | hz
      · rw [e]; omega
      · exact h1.1 z hz
theorem srt_up : ∀ l, Up (srt l)
  | [] => List.Pairwise.nil
  | x :: l => ins_up x _ (srt_up l)
theorem up_one : ∀ {l m : List Int}, Up l → Up m → l.Perm m → l = m
  | [], m, _, _, p => (List.Perm.nil_eq p)
  | x :: l, [], _, _, p => absurd p.length_eq (by simp)
  | x :: l, y :: m, a, b, p => by
    have a1 := List.pairwise_cons.mp a
    have b1 := List.pairwise_cons.mp b
    have e : x = y := by
      have hx : x ∈ y :: m := p.mem_iff.mp (List.mem_cons_self ..)
      have hy : y ∈ x :: l := p.mem_iff.mpr (List.mem_cons_self ..)
      rcases List.mem_cons.mp hx with e | hx
      · exact e
      · rcases List.mem_cons.mp hy with e | hy
        · exact e.symm
        · have := b1.1 x hx
          have := a1.1 y hy
          omega
    subst e
    rw [up_one a1.2 b1.2 (List.Perm.cons_inv p)]
theorem srt_of {l m : List Int} (u : Up m) (p : m.Perm l) : m = srt l := up_one u (srt_up l) (p.trans (srt_perm l).symm)
theorem srt_self {l : List Int} (u : Up l) : srt l = l := (srt_of u (List.Perm.refl l)).symm
theorem srt_same {l m : List Int} (p : l.Perm m) : srt l = srt m := srt_of (srt_up l) ((srt_perm l).trans p)
theorem srt_len (l : List Int) : (srt l).length = l.length := (srt_perm l).length_eq

/-! ### the joins of the two least -/
/-- on a sorted list -/
def firsts : Nat → List Int → List Int
  | n + 1, x :: y :: r => (x + y) :: firsts n (srt (r ++ [x + y]))
  | _, _ => []
def hsum (l : List Int) : Int := (firsts l.length (srt l)).sum
theorem firsts_nil (n : Nat) : firsts n [] = [] := by cases n <;> rfl
theorem firsts_one (n : Nat) (x : Int) : firsts n [x] = [] := by cases n <;> rfl
theorem hsum_same {l m : List Int} (p : l.Perm m) : hsum l = hsum m := by
  unfold hsum
  rw [srt_same p, p.length_eq]
theorem hsum_step {l r : List Int} {x y : Int} (h : srt l = x :: y :: r) : hsum l = x + y + hsum ((x + y) :: r) := by
  have hl : l.length = r.length + 2 := by rw [← srt_len l, h]; rfl
  have e : srt ((x + y) :: r) = srt (r ++ [x + y]) := srt_same (List.perm_append_comm (l₁ := [x + y]) (l₂ := r))
  unfold hsum
  rw [hl, h, e]
  show (firsts (r.length + 1 + 1) (x :: y :: r)).sum = _
  simp only [firsts, List.sum_cons, List.length_cons]
theorem hsum_small {l : List Int} (h : l.length ≤ 1) : hsum l = 0 := by
  match l, h with
  | [], _ => rfl
  | [x], _ => rfl

/-! ### shapes of trees by the depths of their leaves -/
inductive Sh : List Nat → Prop
  | one : Sh [0]
  | split {d : Nat} {l : List Nat} : Sh (d :: l) → Sh ((d + 1) :: (d + 1) :: l)
  | perm {l l' : List Nat} : Sh l → l.Perm l' → Sh l'
theorem Sh.pos {l : List Nat} (h : Sh l) : 0 < l.length := by
  induction h with
  | one => exact Nat.one_pos
  | split _ _ => simp
  | perm _ p ih => rw [← p.length_eq]; exact ih
theorem Sh.single {l : List Nat} (h : Sh l) : l.length = 1 → l = [0] := by
  induction h with
  | one => intro _; rfl
  | split _ _ => intro e; simp at e
  | perm _ p ih =>
    intro e
    have := ih (p.length_eq.trans e)
    subst this
    exact (List.Perm.eq_singleton p.symm)
theorem Sh.deep {l : List Nat} (h : Sh l) : 2 ≤ l.length → ∃ D r, l.Perm ((D + 1) :: (D + 1) :: r) ∧ (∀ x ∈ r, x ≤ D + 1) ∧ Sh (D :: r) := by
  induction h with
  | one => intro e; simp at e
  | perm _ p ih =>
    intro e
    obtain ⟨D, r, q, b, s⟩ := ih (by rw [p.length_eq]; exact e)
    exact ⟨D, r, p.symm.trans q, b, s⟩
  | @split d l hs ih =>
    intro _
    by_cases hl : l = []
    · subst hl
      exact ⟨d, [], List.Perm.refl _, fun _ h => (nomatch h), hs⟩
    · have h2 : 2 ≤ (d :: l).length := by
        cases l with
        | nil => exact absurd rfl hl
        | cons a l => simp
      obtain ⟨D, r, q, b, s⟩ := ih h2
      by_cases hd : d = D + 1
      · refine ⟨d, l, List.Perm.refl _, fun x hx => ?_, hs⟩
        have hm : x ∈ (D + 1) :: (D + 1) :: r := q.mem_iff.mp (List.mem_cons_of_mem _ hx)
        rcases List.mem_cons.mp hm with e | hm
        · omega
        · rcases List.mem_cons.mp hm with e | hm
          · omega
          · have := b x hm
            omega
      · have hm : d ∈ r := by
          have hm : d ∈ (D + 1) :: (D + 1) :: r := q.mem_iff.mp (List.mem_cons_self ..)
          rcases List.mem_cons.mp hm with e | hm
          · exact absurd e hd
          · rcases List.mem_cons.mp hm with e | hm
            · exact absurd e hd
            · exact hm
        have pr : r.Perm (d :: r.erase d) := List.perm_cons_erase hm
        have hle : d ≤ D + 1 := b d hm
        have p1 : (d :: l).Perm (d :: (D + 1) :: (D + 1) :: r.erase d) := by
          refine q.trans (((pr.cons _).cons _).trans ?_)
          exact (((List.Perm.swap d (D + 1) _).cons _)).trans (List.Perm.swap d (D + 1) _)
        have p2 : l.Perm ((D + 1) :: (D + 1) :: r.erase d) := List.Perm.cons_inv p1
        refine ⟨D, (d + 1) :: (d + 1) :: r.erase d, ?_, fun x hx => ?_, ?_⟩
        · refine ((p2.cons _).cons _).trans ?_
          exact List.perm_append_comm (l₁ := [d + 1, d + 1]) (l₂ := [D + 1, D + 1]) |>.append_right _
        · rcases List.mem_cons.mp hx with e | hx
          · omega
          · rcases List.mem_cons.mp hx with e | hx
            · omega
            · exact b x (List.mem_of_mem_erase hx)
        · have s1 : Sh (d :: D :: r.erase d) := s.perm ((pr.cons D).trans (List.Perm.swap d D _))
          refine (Sh.split s1).perm ?_
          exact ((List.Perm.swap D (d + 1) _).cons _).trans (List.Perm.swap D (d + 1) _)

/-! ### weights at depths -/
def cost : List (Int × Nat) → Int
  | [] => 0
  | p :: l => p.1 * (p.2 : Int) + cost l
theorem cost_same {l m : List (Int × Nat)} (p : l.Perm m) : cost l = cost m := by
  induction p with
  | nil => rfl
  | cons x _ ih => simp only [cost, ih]
  | swap x y l => simp only [cost]; omega
  | trans _ _ a b => exact a.trans b
theorem take_out {α β : Type} [DecidableEq α] {f : α → β} {l : List α} {c : β} {m : List β} (h : (l.map f).Perm (c :: m)) : ∃ p r, l.Perm (p :: r) ∧ f p = c ∧ (r.map f).Perm m := by
  have hc : c ∈ l.map f := h.mem_iff.mpr (List.mem_cons_self ..)
  obtain ⟨p, hp, e⟩ := List.mem_map.mp hc
  have q : l.Perm (p :: l.erase p) := List.perm_cons_erase hp
  refine ⟨p, l.erase p, q, e, ?_⟩
  have q2 : (l.map f).Perm (c :: (l.erase p).map f) := by
    have := q.map f
    rw [List.map_cons, e] at this
    exact this
  exact List.Perm.cons_inv (q2.symm.trans h)
theorem pull {a x : Int} {E : Nat} {R : List (Int × Nat)} {ws : List Int} (hE : ∀ q ∈ R, q.2 ≤ E) (hw : (a :: R.map Prod.fst).Perm (x :: ws)) (hx : ∀ z ∈ ws, x ≤ z) :
    ∃ R', (R'.map Prod.fst).Perm ws ∧ (R'.map Prod.snd).Perm (R.map Prod.snd) ∧ cost ((x, E) :: R') ≤ cost ((a, E) :: R) := by
  by_cases e : a = x
  · subst e
    exact ⟨R, List.Perm.cons_inv hw, List.Perm.refl _, Int.le_refl _⟩
  · have hm : x ∈ R.map Prod.fst := by
      have hm : x ∈ a :: R.map Prod.fst := hw.mem_iff.mpr (List.mem_cons_self ..)
      rcases List.mem_cons.mp hm with q | hm
      · exact absurd q.symm e
      · exact hm
    obtain ⟨⟨x', d⟩, hp, e2⟩ := List.mem_map.mp hm
    have e2' : x' = x := e2
    subst e2'
    have q : R.Perm ((x', d) :: R.erase (x', d)) := List.perm_cons_erase hp
    have hd : d ≤ E := hE _ hp
    have hxa : x' ≤ a := by
      have hm : a ∈ x' :: ws := hw.mem_iff.mp (List.mem_cons_self ..)
      rcases List.mem_cons.mp hm with z | hm
      · omega
      · exact hx a hm
    refine ⟨(a, d) :: R.erase (x', d), ?_, ?_, ?_⟩
    · have w1 : (a :: R.map Prod.fst).Perm (x' :: a :: (R.erase (x', d)).map Prod.fst) :=
        ((q.map Prod.fst).cons a).trans (List.Perm.swap x' a _)
      exact List.Perm.cons_inv (w1.symm.trans hw)
    · exact (q.map Prod.snd).symm
    · have c1 : cost R = x' * (d : Int) + cost (R.erase (x', d)) := cost_same q
      simp only [cost]
      rw [c1]
      have z : 0 ≤ (a - x') * ((E : Int) - (d : Int)) := Int.mul_nonneg (by omega) (by omega)
      rw [Int.sub_mul, Int.mul_sub, Int.mul_sub] at z
      omega
theorem exchange {L : List (Int × Nat)} {x y : Int} {ws : List Int} (s : Sh (L.map Prod.snd)) (hw : (L.map Prod.fst).Perm (x :: y :: ws)) (hxy : x ≤ y) (hy : ∀ z ∈ ws, y ≤ z) :
    ∃ L', (L'.map Prod.fst).Perm ((x + y) :: ws) ∧ Sh (L'.map Prod.snd) ∧ cost L' + x + y ≤ cost L := by
  have h2 : 2 ≤ (L.map Prod.snd).length := by
    have := hw.length_eq
    simp only [List.length_map, List.length_cons] at this ⊢
    omega
  obtain ⟨D, r, q, b, s'⟩ := s.deep h2
  obtain ⟨⟨a, E⟩, R, p1, e1, q1⟩ := take_out q
  have e1' : E = D + 1 := e1
  subst e1'
  have hE1 : ∀ z ∈ R, z.2 ≤ D + 1 := fun z hz => by
    have : z.2 ∈ (D + 1) :: r := q1.mem_iff.mp (List.mem_map_of_mem hz)
    rcases List.mem_cons.mp this with e | h
    · omega
    · exact b _ h
  have w1 : (a :: R.map Prod.fst).Perm (x :: y :: ws) := (p1.map Prod.fst).symm.trans hw
  obtain ⟨R1, w2, d2, c2⟩ := pull (E := D + 1) hE1 w1 (fun z hz => by
    rcases List.mem_cons.mp hz with e | h
    · omega
    · have := hy z h
      omega)
  obtain ⟨⟨a2, E2⟩, R2, p2, e2, q2⟩ := take_out (f := Prod.snd) (d2.trans q1)
  have e2' : E2 = D + 1 := e2
  subst e2'
  have hE2 : ∀ z ∈ R2, z.2 ≤ D + 1 := fun z hz => b _ (q2.mem_iff.mp (List.mem_map_of_mem hz))
  have w3 : (a2 :: R2.map Prod.fst).Perm (y :: ws) := (p2.map Prod.fst).symm.trans w2
  obtain ⟨R3, w4, d4, c4⟩ := pull (E := D + 1) hE2 w3 hy
  refine ⟨(x + y, D) :: R3, ?_, ?_, ?_⟩
  · exact w4.cons _
  · exact s'.perm ((d4.trans q2).symm.cons D)
  · have k1 := cost_same p1
    have k2 := cost_same p2
    simp only [cost] at c2 c4 k1 k2 ⊢
    rw [Int.add_mul]
    have f : ((D + 1 : Nat) : Int) = (D : Int) + 1 := rfl
    rw [f] at c2 c4 k1 k2
    rw [Int.mul_add, Int.mul_one, Int.mul_add, Int.mul_one] at c2 c4
    rw [Int.mul_add, Int.mul_one] at k1 k2
    omega

theorem head_two {l : List Int} (h : 2 ≤ l.length) : ∃ x y r, srt l = x :: y :: r ∧ l.Perm (x :: y :: r) ∧ x ≤ y ∧ (∀ z ∈ r, y ≤ z) := by
  have hl := srt_len l
  have hu := srt_up l
  have hp := srt_perm l
  match e : srt l with
  | [] => rw [e] at hl; simp at hl; omega
  | [x] => rw [e] at hl; simp at hl; omega
  | x :: y :: r =>
    rw [e] at hu hp
    have u1 := List.pairwise_cons.mp hu
    have u2 := List.pairwise_cons.mp u1.2
    exact ⟨x, y, r, rfl, hp.symm, u1.1 y (List.mem_cons_self ..), u2.1⟩

theorem best : ∀ (n : Nat) (L : List (Int × Nat)), L.length = n → Sh (L.map Prod.snd) → hsum (L.map Prod.fst) ≤ cost L := by
  intro n
  induction n with
  | zero =>
    intro L hl s
    have := s.pos
    simp only [List.length_map] at this
    omega
  | succ n ih =>
    intro L hl s
    by_cases h2 : 2 ≤ (L.map Prod.fst).length
    · obtain ⟨x, y, r, e, p, hxy, hy⟩ := head_two h2
      obtain ⟨L', w, s', c⟩ := exchange s p hxy hy
      have hl' : L'.length = n := by
        have a := w.length_eq
        have b := p.length_eq
        simp only [List.length_map, List.length_cons] at a b
        omega
      have := ih L' hl' s'
      rw [hsum_step e, ← hsum_same w]
      omega
    · have h1 : L.length = 1 := by
        have := s.pos
        simp only [List.length_map] at this h2
        omega
      match L, h1 with
      | [(v, d)], _ =>
        have e := s.single rfl
        have e' : d = 0 := by simpa using e
        subst e'
        show hsum [v] ≤ v * ((0 : Nat) : Int) + 0
        rw [hsum_small (by simp)]
        simp
theorem reach : ∀ (n : Nat) (ws : List Int), ws.length = n + 1 → ∃ L : List (Int × Nat), (L.map Prod.fst).Perm ws ∧ Sh (L.map Prod.snd) ∧ cost L = hsum ws := by
  intro n
  induction n with
  | zero =>
    intro ws h
    match ws, h with
    | [v], _ => exact ⟨[(v, 0)], List.Perm.refl _, Sh.one, by rw [hsum_small (by simp)]; simp [cost]⟩
  | succ n ih =>
    intro ws h
    obtain ⟨x, y, r, e, p, _, _⟩ := head_two (l := ws) (by omega)
    have hr : ((x + y) :: r).length = n + 1 := by
      have := p.length_eq
      simp only [List.length_cons] at this ⊢
      omega
    obtain ⟨L, w, s, c⟩ := ih _ hr
    obtain ⟨⟨v, d⟩, R, pl, ev, wr⟩ := take_out w
    have ev' : v = x + y := ev
    subst ev'
    refine ⟨(x, d + 1) :: (y, d + 1) :: R, ?_, ?_, ?_⟩
    · exact ((wr.cons y).cons x).trans p.symm
    · exact Sh.split (s.perm (pl.map Prod.snd))
    · have k := cost_same pl
      rw [hsum_step e, ← c, k]
      simp only [cost]
      have f : ((d + 1 : Nat) : Int) = (d : Int) + 1 := rfl
      rw [f, Int.mul_add, Int.mul_one, Int.mul_add, Int.mul_one, Int.add_mul]
      omega
/-- a join of any two is paid by no less than it saves -/
theorem loss_ge {ws r : List Int} {a b : Int} (p : ws.Perm (a :: b :: r)) : hsum ws ≤ a + b + hsum ((a + b) :: r) := by
  obtain ⟨L, w, s, c⟩ := reach r.length ((a + b) :: r) rfl
  obtain ⟨⟨v, d⟩, R, pl, ev, wr⟩ := take_out w
  have ev' : v = a + b := ev
  subst ev'
  have s2 : Sh (((a, d + 1) :: (b, d + 1) :: R).map Prod.snd) := Sh.split (s.perm (pl.map Prod.snd))
  have h := best _ ((a, d + 1) :: (b, d + 1) :: R) rfl s2
  have w2 : (((a, d + 1) :: (b, d + 1) :: R).map Prod.fst).Perm ws := ((wr.cons b).cons a).trans p.symm
  rw [hsum_same w2] at h
  have k := cost_same pl
  rw [← c, k]
  simp only [cost] at h ⊢
  have f : ((d + 1 : Nat) : Int) = (d : Int) + 1 := rfl
  rw [f, Int.mul_add, Int.mul_one, Int.mul_add, Int.mul_one] at h
  rw [Int.add_mul]
  omega
/-- a join of two least ones is lost by nothing -/
theorem loss_zero {ws r : List Int} {a b : Int} (p : ws.Perm (a :: b :: r)) (ha : ∀ z ∈ r, a ≤ z) (hb : ∀ z ∈ r, b ≤ z) : hsum ws = a + b + hsum ((a + b) :: r) := by
  have u : Up (srt r) := srt_up r
  have m : ∀ z, z ∈ srt r → z ∈ r := fun z h => (srt_perm r).mem_iff.mp h
  by_cases h : a ≤ b
  · have e : srt ws = a :: b :: srt r := by
      refine (srt_of (List.pairwise_cons.mpr ⟨fun z hz => ?_, List.pairwise_cons.mpr ⟨fun z hz => hb z (m z hz), u⟩⟩) ((((srt_perm r).cons b).cons a).trans p.symm)).symm
      rcases List.mem_cons.mp hz with q | hz
      · omega
      · exact ha z (m z hz)
    rw [hsum_step e, hsum_same ((srt_perm r).cons (a + b))]
  · have e : srt ws = b :: a :: srt r := by
      refine (srt_of (List.pairwise_cons.mpr ⟨fun z hz => ?_, List.pairwise_cons.mpr ⟨fun z hz => ha z (m z hz), u⟩⟩) ((((srt_perm r).cons a).cons b).trans ((List.Perm.swap a b r).trans p.symm))).symm
      rcases List.mem_cons.mp hz with q | hz
      · omega
      · exact hb z (m z hz)
    rw [hsum_step e, Int.add_comm b a, hsum_same ((srt_perm r).cons (a + b))]
end Huf
set_option Elab.async false
set_option linter.all false
set_option maxRecDepth 100000
set_option maxHeartbeats 4000000
/-! Rules of my own over the hand layer: data with tuples, repr, sorted of tuples. -/
namespace JB
open PySem PySem.Spec PyProof.Rows L2

/-! ### heaps -/
/-- every tuple stays -/
def Ext (H H' : Hp) : Prop := ∀ b xs, H b = some (.tup xs) → H' b = some (.tup xs)
theorem Ext.refl (H : Hp) : Ext H H := fun _ _ h => h
theorem Ext.trans {H H1 H2 : Hp} (a : Ext H H1) (b : Ext H1 H2) : Ext H H2 := fun c xs h => b c xs (a c xs h)
theorem Ext.of {H H' : Hp} (s : Same H H') : Ext H H' := fun b xs h => s b _ h
theorem same_upd {H : Hp} {p : Addr} {o : HO} (h : H p = none) : Same H (upd H p o) := fun b u e => by rw [upd_ne (ne_of_none e h)]; exact e
/-- all but what stands at S stays -/
def But (S : List Addr) (H H' : Hp) : Prop := ∀ b o, H b = some o → b ∉ S → H' b = some o
theorem But.of {S : List Addr} {H H' : Hp} (s : Same H H') : But S H H' := fun b o e _ => s b o e
theorem But.trans {S : List Addr} {H H1 H2 : Hp} (a : But S H H1) (b : But S H1 H2) : But S H H2 := fun c o h n => b c o (a c o h n) n
theorem But.mono {S T : List Addr} {H H1 : Hp} (a : But S H H1) (h : ∀ x ∈ S, x ∈ T) : But T H H1 := fun c o e n => a c o e fun z => n (h c z)
theorem but_upd {H : Hp} {p : Addr} {o : HO} : But [p] H (upd H p o) := fun b u e n => by rw [upd_ne (fun z => n (by rw [z]; exact List.mem_singleton.mpr rfl))]; exact e

/-! ### tuples of ints, tuples of these -/
inductive All2 {α β : Type} (R : α → β → Prop) : List α → List β → Prop
  | nil : All2 R [] []
  | cons {a : α} {b : β} {as : List α} {bs : List β} : R a b → All2 R as bs → All2 R (a :: as) (b :: bs)
theorem All2.imp {α β : Type} {R S : α → β → Prop} (f : ∀ a b, R a b → S a b) : ∀ {as : List α} {bs : List β}, All2 R as bs → All2 S as bs
  | _, _, .nil => .nil
  | _, _, .cons h t => .cons (f _ _ h) (All2.imp f t)
theorem All2.length {α β : Type} {R : α → β → Prop} : ∀ {as : List α} {bs : List β}, All2 R as bs → as.length = bs.length
  | _, _, .nil => rfl
  | _, _, .cons _ t => congrArg Nat.succ (All2.length t)
theorem All2.get {α β : Type} {R : α → β → Prop} : ∀ {as : List α} {bs : List β} {i : Nat} {a : α}, All2 R as bs → as[i]? = some a → ∃ b, bs[i]? = some b ∧ R a b
  | _, _, _, _, .nil, e => by simp at e
  | _, _, 0, _, .cons h _, e => by simp at e; subst e; exact ⟨_, rfl, h⟩
  | _, _, i + 1, _, .cons _ t, e => by
    obtain ⟨b, h1, h2⟩ := All2.get (i := i) t (by simpa using e)
    exact ⟨b, by simpa using h1, h2⟩
theorem All2.back {α β : Type} {R : α → β → Prop} : ∀ {as : List α} {bs : List β} {i : Nat} {b : β}, All2 R as bs → bs[i]? = some b → ∃ a, as[i]? = some a ∧ R a b
  | _, _, _, _, .nil, e => by simp at e
  | _, _, 0, _, .cons h _, e => by simp at e; subst e; exact ⟨_, rfl, h⟩
  | _, _, i + 1, _, .cons _ t, e => by
    obtain ⟨b, h1, h2⟩ := All2.back (i := i) t (by simpa using e)
    exact ⟨b, by simpa using h1, h2⟩
theorem All2.append {α β : Type} {R : α → β → Prop} : ∀ {as as' : List α} {bs bs' : List β}, All2 R as bs → All2 R as' bs' → All2 R (as ++ as') (bs ++ bs')
  | _, _, _, _, .nil, h => h
  | _, _, _, _, .cons h t, h' => .cons h (All2.append t h')

/-- a tuple of ints -/
def TI (H : Hp) (v : V) (ns : List Int) : Prop := ∃ t, v = .ref t ∧ H t = some (.tup (ns.map V.int))
/-- a tuple of such -/
def TT (H : Hp) (v : V) (ts : List (List Int)) : Prop := ∃ t xs, v = .ref t ∧ H t = some (.tup xs) ∧ All2 (TI H) xs ts
theorem TI.ext {H H' : Hp} (e : Ext H H') {v : V} {ns : List Int} (h : TI H v ns) : TI H' v ns := by
  obtain ⟨t, h1, h2⟩ := h
  exact ⟨t, h1, e _ _ h2⟩
theorem TIs.ext {H H' : Hp} (e : Ext H H') {vs : List V} {ts : List (List Int)} (h : All2 (TI H) vs ts) : All2 (TI H') vs ts := h.imp fun _ _ x => x.ext e
theorem TT.ext {H H' : Hp} (e : Ext H H') {v : V} {ts : List (List Int)} (h : TT H v ts) : TT H' v ts := by
  obtain ⟨t, xs, h1, h2, h3⟩ := h
  exact ⟨t, xs, h1, e _ _ h2, TIs.ext e h3⟩

/-! ### data -/
mutual
inductive Dq (H : Hp) : V → PyData → Prop
  | non : Dq H .non .none
  | bl (b : Bool) : Dq H (.bl b) (.bool b)
  | int (i : Int) : Dq H (.int i) (.int i)
  | str (x : Str) : Dq H (.str x) (.str x)
  | lst {a : Addr} {xs : List V} {ds : List PyData} : H a = some (.lst xs) → DqA H xs ds → Dq H (.ref a) (.list ds)
  | tup {a : Addr} {xs : List V} {ds : List PyData} : H a = some (.tup xs) → DqA H xs ds → Dq H (.ref a) (.tuple ds)
  | dic {a : Addr} : H a = some (.dK []) → Dq H (.ref a) (.dict [])
inductive DqA (H : Hp) : List V → List PyData → Prop
  | nil : DqA H [] []
  | cons {v : V} {vs : List V} {d : PyData} {ds : List PyData} : Dq H v d → DqA H vs ds → DqA H (v :: vs) (d :: ds)
end
mutual
theorem Dq.same {H H' : Hp} (s : Same H H') : ∀ (d : PyData) (v : V), Dq H v d → Dq H' v d
  | .none, _, h => by cases h; exact .non
  | .bool b, _, h => by cases h; exact .bl b
  | .int i, _, h => by cases h; exact .int i
  | .str x, _, h => by cases h; exact .str x
  | .list ds, _, h => by
    cases h with
    | lst e t => exact .lst (s _ _ e) (DqA.same s ds _ t)
  | .tuple ds, _, h => by
    cases h with
    | tup e t => exact .tup (s _ _ e) (DqA.same s ds _ t)
  | .dict _, _, h => by
    cases h with
    | dic e => exact .dic (s _ _ e)
theorem DqA.same {H H' : Hp} (s : Same H H') : ∀ (ds : List PyData) (vs : List V), DqA H vs ds → DqA H' vs ds
  | [], _, h => by cases h; exact .nil
  | d :: ds, _, h => by
    cases h with
    | cons h1 h2 => exact .cons (Dq.same s d _ h1) (DqA.same s ds _ h2)
end
/-- sys.modules stands in the written part as a dict -/
def SysD (K : PySem.W.Frag) : Prop := ∃ o, K.lookup PySem.sysModules = some o ∧ o.cls = .type "dict"
section
variable {X : Cx} {pins : List (Addr × Obj)} {σ : L2.St} {H : Hp} {s : Shared}
mutual
theorem Dq.reads (I : Inv X pins σ H s) (hS : SysD X.K) : ∀ (d : PyData) (v : V) (u : Value), Dq H v d → RelV v u → ∃ as, Reads s.heap u d as ∧ PySem.sysModules ∉ as
  | .none, _, _, h, r => by cases h; cases r; exact ⟨_, Reads.none, by simp⟩
  | .bool b, _, _, h, r => by cases h; cases r; exact ⟨_, Reads.bool b, by simp⟩
  | .int i, _, _, h, r => by cases h; obtain ⟨t, rfl⟩ := r; exact ⟨_, Reads.int i t, by simp⟩
  | .str x, _, _, h, r => by cases h; obtain ⟨t, rfl⟩ := r; exact ⟨_, Reads.str x t, by simp⟩
  | .list ds, _, _, h, r => by
    cases h with
    | lst hs ha =>
      cases r
      obtain ⟨hz, its, n, rv, hob⟩ := I.hok _ _ hs
      obtain ⟨as, hr, hn⟩ := DqA.reads I hS ds _ its ha rv
      refine ⟨_, Reads.list hob rfl rfl (by simpa using hr), ?_⟩
      intro hm
      rcases List.mem_cons.mp hm with e | hm
      · obtain ⟨o, h1, h2⟩ := hS
        have h3 := I.kIn _ _ h1
        rw [e, hob] at h3
        cases h3
        exact absurd (Value.type.inj h2) (by decide)
      · exact hn hm
  | .tuple ds, _, _, h, r => by
    cases h with
    | tup hs ha =>
      cases r
      obtain ⟨hz, its, rv, o, ho, hc, n, hd⟩ := I.hok _ _ hs
      obtain ⟨as, hr, hn⟩ := DqA.reads I hS ds _ its ha rv
      exact ⟨_, Reads.tuple ho hc hd (by simpa using hr), hn⟩
  | .dict _, _, _, h, r => by
    cases h with
    | dic hs =>
      cases r
      obtain ⟨hz, hne, vs, kv, o, es, ep, ho, hex, hd, hes, hprs, _⟩ := I.hok _ _ hs
      cases kv
      have e0 : es.toList = [] := by
        generalize es.toList = l at hprs
        cases l with
        | nil => rfl
        | cons a l => cases hprs
      refine ⟨_, Reads.dict ho hex.1 hd (by rw [e0]; exact ReadsAll.nil) (by rw [e0]; exact ReadsAll.nil), ?_⟩
      intro hm
      rcases List.mem_cons.mp (show PySem.sysModules ∈ [_] from by simpa using hm) with e | hm
      · rw [← e] at hne
        exact absurd hne (by simp)
      · exact absurd hm (by simp)
theorem DqA.reads (I : Inv X pins σ H s) (hS : SysD X.K) : ∀ (ds : List PyData) (vs : List V) (us : List Value), DqA H vs ds → Vals vs us → ∃ as, ReadsAll s.heap us ds as ∧ PySem.sysModules ∉ as
  | [], _, _, h, r => by cases h; cases r; exact ⟨_, ReadsAll.nil, by simp⟩
  | d :: ds, _, _, h, r => by
    cases h with
    | cons h1 h2 =>
      cases r with
      | cons r1 r2 =>
        obtain ⟨as, q1, n1⟩ := Dq.reads I hS d _ _ h1 r1
        obtain ⟨bs, q2, n2⟩ := DqA.reads I hS ds _ _ h2 r2
        refine ⟨_, ReadsAll.cons q1 q2, ?_⟩
        intro hm
        rcases List.mem_append.mp hm with e | e
        · exact n1 e
        · exact n2 e
end
end

/-! ### what tuples are as data -/
def dT (ns : List Int) : PyData := .tuple (ns.map .int)
def dTT (ts : List (List Int)) : PyData := .tuple (ts.map dT)
theorem dqA_ints {H : Hp} : ∀ ns : List Int, DqA H (ns.map V.int) (ns.map .int)
  | [] => .nil
  | n :: r => .cons (.int n) (dqA_ints r)
theorem TI.dq {H : Hp} {v : V} {ns : List Int} (h : TI H v ns) : Dq H v (dT ns) := by
  obtain ⟨t, rfl, h2⟩ := h
  exact .tup h2 (dqA_ints ns)
theorem dqA_tis {H : Hp} : ∀ {vs : List V} {ts : List (List Int)}, All2 (TI H) vs ts → DqA H vs (ts.map dT)
  | _, _, .nil => .nil
  | _, _, .cons h t => .cons h.dq (dqA_tis t)
theorem TT.dq {H : Hp} {v : V} {ts : List (List Int)} (h : TT H v ts) : Dq H v (dTT ts) := by
  obtain ⟨t, xs, rfl, h2, h3⟩ := h
  exact .tup h2 (dqA_tis h3)
theorem lay_ints : ∀ ns : List Int, PyData.canLayAll0 (ns.map .int) = true
  | [] => by simp [PyData.canLayAll0]
  | n :: r => by simp [PyData.canLayAll0, PyData.canLay0, lay_ints r]
theorem deep_ints : ∀ ns : List Int, PyData.depthAll (ns.map .int) = 0
  | [] => by simp [PyData.depthAll]
  | n :: r => by simp [PyData.depthAll, PyData.depth, deep_ints r]
theorem lay_dT (ns : List Int) : (dT ns).canLay0 = true := by simp [dT, PyData.canLay0, lay_ints]
theorem deep_dT (ns : List Int) : (dT ns).depth = 1 := by simp [dT, PyData.depth, deep_ints]
theorem lay_dTs : ∀ ts : List (List Int), PyData.canLayAll0 (ts.map dT) = true
  | [] => by simp [PyData.canLayAll0]
  | t :: r => by simp [PyData.canLayAll0, lay_dT, lay_dTs r]
theorem deep_dTs : ∀ ts : List (List Int), PyData.depthAll (ts.map dT) ≤ 1
  | [] => by simp [PyData.depthAll]
  | t :: r => by
    have h1 := deep_dTs r
    have h2 := deep_dT t
    simp only [List.map_cons, PyData.depthAll]
    omega
theorem shaped_of {d : PyData} (h : d.canLay0 = true) (h2 : d.depth ≤ 64) : SeqAt.shaped d = true := by
  show (d.canLay0 && decide (d.depth ≤ 64)) = true
  rw [h, decide_eq_true h2]
  rfl
theorem shaped_dT (ns : List Int) : SeqAt.shaped (dT ns) = true := shaped_of (lay_dT ns) (by rw [deep_dT]; omega)
theorem lay_dTT (ts : List (List Int)) : (dTT ts).canLay0 = true := by simp [dTT, PyData.canLay0, lay_dTs]
theorem deep_dTT (ts : List (List Int)) : (dTT ts).depth ≤ 2 := by
  have h := deep_dTs ts
  simp only [dTT, PyData.depth]
  omega
theorem shaped_dTT (ts : List (List Int)) : SeqAt.shaped (dTT ts) = true := shaped_of (lay_dTT ts) (by have := deep_dTT ts; omega)
theorem eqv_intsA : ∀ ns ms : List Int, PyData.eqvAll (ns.map .int) (ms.map .int) = decide (ns = ms)
  | [], [] => by simp [PyData.eqvAll]
  | [], m :: ms => by simp [PyData.eqvAll]
  | n :: ns, [] => by simp [PyData.eqvAll]
  | n :: ns, m :: ms => by
    simp only [List.map_cons, PyData.eqvAll, PyData.eqv, eqv_intsA ns ms, List.cons.injEq]
    by_cases h : n = m
    · subst h
      by_cases h2 : ns = ms
      · simp [h2]
      · simp [h2]
    · simp [h]
theorem eqv_dT (ns ms : List Int) : PyData.eqv (dT ns) (dT ms) = decide (ns = ms) := by
  simp only [dT, PyData.eqv, eqv_intsA]
theorem eqv_dTs : ∀ as bs : List (List Int), PyData.eqvAll (as.map dT) (bs.map dT) = decide (as = bs)
  | [], [] => by simp [PyData.eqvAll]
  | [], m :: ms => by simp [PyData.eqvAll]
  | n :: ns, [] => by simp [PyData.eqvAll]
  | n :: ns, m :: ms => by
    simp only [List.map_cons, PyData.eqvAll, eqv_dT, eqv_dTs ns ms, List.cons.injEq]
    by_cases h : n = m
    · subst h
      by_cases h2 : ns = ms
      · simp [h2]
      · simp [h2]
    · simp [h]
theorem eqv_dTT (as bs : List (List Int)) : PyData.eqv (dTT as) (dTT bs) = decide (as = bs) := by
  simp only [dTT, PyData.eqv, eqv_dTs]
theorem any_dT (ns : List Int) : ∀ ts : List (List Int), ((ts.map dT).any fun z => PyData.eqv z (dT ns)) = decide (ns ∈ ts)
  | [] => by simp
  | t :: r => by
    simp only [List.map_cons, List.any_cons, any_dT ns r, eqv_dT, List.mem_cons]
    by_cases h : t = ns
    · subst h
      simp
    · have h' : ¬ ns = t := fun e => h e.symm
      simp [h, h']

/-! ### comparisons -/
section
variable {X : Cx}
/-- == and != of data without dicts -/
def rEqQ : R2 := fun x y H Q => ∃ d e, Dq H x d ∧ Dq H y e ∧ SeqAt.shaped d = true ∧ SeqAt.shaped e = true ∧ Q (.bl (PyData.eqv d e)) H
def rNeQ : R2 := fun x y H Q => ∃ d e, Dq H x d ∧ Dq H y e ∧ SeqAt.shaped d = true ∧ SeqAt.shaped e = true ∧ Q (.bl (!PyData.eqv d e)) H
theorem op_eqQ (hS : SysD X.K) (hu : X.A.units + 64 < cLine) : OpR X (compareOp .Eq) rEqQ := by
  intro pins s σ H x y v u Q I rx ry h
  obtain ⟨d, e, hd, he, sd, se, q⟩ := h
  obtain ⟨as, r1, _⟩ := Dq.reads I hS d x v hd rx
  obtain ⟨bs, r2, _⟩ := Dq.reads I hS e y u he ry
  exact SeqAt.compareEq_shaped r1 r2 sd se hu ⟨.bl _, H, I, rfl, q⟩
theorem op_neQ (hS : SysD X.K) (hu : X.A.units + 64 < cLine) : OpR X (compareOp .NotEq) rNeQ := by
  intro pins s σ H x y v u Q I rx ry h
  obtain ⟨d, e, hd, he, sd, se, q⟩ := h
  obtain ⟨as, r1, _⟩ := Dq.reads I hS d x v hd rx
  obtain ⟨bs, r2, _⟩ := Dq.reads I hS e y u he ry
  exact SeqAt.compareNe_shaped r1 r2 sd se hu ⟨.bl _, H, I, rfl, q⟩
/-- a tuple of ints is (not) in a tuple of such -/
def rInT : R2 := fun x y H Q => ∃ ns ts, TI H x ns ∧ TT H y ts ∧ Q (.bl (decide (ns ∈ ts))) H
def rNotInT : R2 := fun x y H Q => ∃ ns ts, TI H x ns ∧ TT H y ts ∧ Q (.bl (!decide (ns ∈ ts))) H
theorem op_inT (hS : SysD X.K) (hu : X.A.units + 65 < cLine) : OpR X (compareOp .In) rInT := by
  intro pins s σ H x y v u Q I rx ry h
  obtain ⟨ns, ts, hx, hy, q⟩ := h
  obtain ⟨as, r1, _⟩ := Dq.reads I hS _ x v hx.dq rx
  obtain ⟨bs, r2, _⟩ := Dq.reads I hS _ y u hy.dq ry
  refine SeqAt.in_tuple_reads r2 r1 (lay_dTs ts) (lay_dT ns) ?_ ?_
  · have h1 := deep_dTs ts
    have h2 := deep_dT ns
    show X.A.units + 1 + min (PyData.depthAll (ts.map dT)) (dT ns).depth < cLine
    omega
  · rw [any_dT]
    exact ⟨.bl _, H, I, rfl, q⟩
theorem op_notInT (hS : SysD X.K) (hu : X.A.units + 65 < cLine) : OpR X (compareOp .NotIn) rNotInT := by
  intro pins s σ H x y v u Q I rx ry h
  obtain ⟨ns, ts, hx, hy, q⟩ := h
  obtain ⟨as, r1, _⟩ := Dq.reads I hS _ x v hx.dq rx
  obtain ⟨bs, r2, _⟩ := Dq.reads I hS _ y u hy.dq ry
  refine SeqAt.notIn_tuple_reads r2 r1 (lay_dTs ts) (lay_dT ns) ?_ ?_
  · have h1 := deep_dTs ts
    have h2 := deep_dT ns
    show X.A.units + 1 + min (PyData.depthAll (ts.map dT)) (dT ns).depth < cLine
    omega
  · rw [any_dT]
    exact ⟨.bl _, H, I, rfl, q⟩

/-! ### repr -/
def rRepr : List V → Hp → VK → Prop := fun xs H Q => ∃ v d, xs = [v] ∧ Dq H v d ∧ ((∃ i, v = .int i) ∨ ∃ a, v = .ref a) ∧ d.showable = true ∧ d.depth ≤ 40 ∧ d.shown.length ≤ sizeLine ∧ Q (.str d.shown) H
theorem call_repr (hS : SysD X.K) (hg : X.A.guards = some []) (hu : X.A.units + 64 < cLine) : CallR X (.builtin "repr") rRepr := by
  intro pins s σ H xs us Q I r h
  obtain ⟨v, d, rfl, hd, hv, hs, hdp, hz, q⟩ := h
  obtain ⟨u, rfl, ru⟩ := vals1 r
  rcases hv with ⟨i, rfl⟩ | ⟨a, rfl⟩
  · cases hd
    obtain ⟨t, rfl⟩ := ru
    rw [PyData.shown_int] at q
    exact PySem.P.repr_of_int (by simpa [PyData.showable] using hs) ⟨.str _, H, I.tok _, ⟨_, rfl⟩, q⟩
  · obtain ⟨as, r1, n1⟩ := Dq.reads I hS d _ _ hd ru
    cases ru
    refine repr_of_reads' r1 hs (fun _ => n1) hg (by omega) (fun _ _ e => e) (fun h' u tk hk => ?_) hz
    exact ⟨.str d.shown, H, I.kept hk, ⟨_, rfl⟩, q⟩
end

/-! ### sorted of a tuple -/
section
variable {prog : Program} {w : World} {A : Around} {E : Value → Shared → Prop} {s : Shared} {l : Addr} {vs : List Value}
theorem gather_tup {Q : List Value → Shared → Prop} (ht : IsTup s.heap l vs.toArray) (hsz : vs.length ≤ sizeLine)
    (h : Q vs { s with heap := (s.heap.push (seqObj "list" #[] 0)).update s.heap.objs.size (Obj.mapSeq (· ++ vs.toArray)) }) : wpAny (model prog w) A (collect (.ref l)) Q E s := by
  obtain ⟨o, ho, hc, n, hd⟩ := id ht
  unfold collect
  refine wpAny_bind (wpAny_runValue (codeAny_builtin entry_proto_collect' ?_))
  show wpAny _ _ (do again (.builtin "list.__iadd__" ⟨[← newList [], .ref l], []⟩)) _ _ s
  refine wpAny_bind (wpAny_newList (wpAny_pure ⟨Code.quiet_builtin _ (by decide +kernel), codeAny_builtin entry_list_iadd' ?_⟩))
  show wpAny _ _ (Builtin.List.listExtendWith (.ref s.heap.objs.size) (.ref l) (.ref s.heap.objs.size)) _ _ { s with heap := s.heap.push (seqObj "list" #[] 0) }
  have ho' : (s.heap.push (seqObj "list" #[] 0)).get? l = some o := Heap.get?_push_of_some _ ho
  unfold Builtin.List.listExtendWith
  refine wpAny_bind (wpAny_typeOf (T := "tuple") ⟨o, ho', hc⟩ ?_)
  rw [if_pos (show (Builtin.List.listSameRef (.ref s.heap.objs.size) (.ref l) || Value.type "tuple" == Value.type "list" || Value.type "tuple" == Value.type "tuple") = true from by simp)]
  refine wpAny_bind (listItems_at ho' hd (wpAny_bind (listItems_at (xs := #[]) (n := 0) (Heap.get?_push_size _ rfl) rfl ?_)))
  rw [if_neg (by simp)]
  refine wpAny_bind (listUpdate_at (xs := #[]) (n := 0) (Heap.get?_push_size _ rfl) rfl (wpAny_pure ?_) (Nat.zero_le _) (by simp only [Array.size_append, List.size_toArray]; simp; omega))
  refine wpAny_bind (wpAny_load (get?_update_seq (Heap.get?_push_size _ rfl) _) ?_)
  have e : ((#[] : Array Value) ++ vs.toArray).toList = vs := by simp
  show wpAny _ _ (pure ((#[] : Array Value) ++ vs.toArray).toList) Q E _
  rw [e]
  exact wpAny_pure h
theorem sorted_tup {κ : KeyKind} {Q : Value → Shared → Prop} (ht : IsTup s.heap l vs.toArray) (S : PySem.W.SortsAt prog w A.in1.in1 { s with heap := PySem.W.sortingHeap (PySem.W.copyHeap s.heap vs) (s.heap.objs.size + 1) vs } κ vs) (hL : vs.length ≤ sizeLine)
    (h : Q (.ref (s.heap.objs.size + 1)) { s with heap := sortedAll s.heap vs (PySem.W.sortVals κ false vs vs).toArray }) : wpAny (model prog w) A (call (.builtin "sorted") [.ref l]) Q E s := by
  refine call_function_entry_kw kind_sorted plain_sorted entry_sorted (args_sorted1 _) ?_
  unfold Builtin.«sorted»
  refine wpAny_bind (m := checkCount "sorted" 1 1 _) (wpAny_pure (wpAny_bind (gather_tup ht hL (wpAny_bind (wpAny_newList ?_ hL)))))
  have hsz : ((s.heap.push (seqObj "list" #[] 0)).update s.heap.objs.size (Obj.mapSeq (· ++ vs.toArray))).objs.size = s.heap.objs.size + 1 := by
    rw [Heap.size_update, size_push']
  show wpAny _ _ _ _ _ { s with heap := PySem.W.copyHeap s.heap vs }
  rw [hsz]
  refine wpAny_bind (wpAny_holding (wpAny_call_entry_kw slot_list_sort ⟨_, PySem.W.copyHeap_at s.heap vs, rfl⟩ entry_list_sort ?_ (args_list_sort _)))
  exact PySem.W.list_sort_vals (s := { s with heap := PySem.W.copyHeap s.heap vs }) (PySem.W.copyHeap_at s.heap vs) S hL ⟨_, rfl, wpAny_pure ⟨_, rfl, h⟩⟩
end
end JB
set_option Elab.async false
set_option linter.all false
set_option maxRecDepth 100000
set_option maxHeartbeats 4000000
namespace JB
open PySem PySem.Spec PyProof.Rows L2
/-! ### lists of ints in order -/
def insT (x : List Int) : List (List Int) → List (List Int)
  | [] => [x]
  | y :: l => if x ≤ y then x :: y :: l else y :: insT x l
def sT (l : List (List Int)) : List (List Int) := l.foldr insT []
theorem le_total' (x y : List Int) : x ≤ y ∨ y ≤ x := by
  by_cases h : y < x
  · exact .inr (List.le_of_lt h)
  · exact .inl (List.not_lt.mp h)
theorem insT_perm (x : List Int) : ∀ l, (insT x l).Perm (x :: l)
  | [] => List.Perm.refl _
  | y :: l => by
    unfold insT
    split
    · exact List.Perm.refl _
    · exact ((insT_perm x l).cons y).trans (List.Perm.swap x y l)
theorem sT_perm : ∀ l, (sT l).Perm l
  | [] => List.Perm.refl _
  | x :: l => (insT_perm x (sT l)).trans ((sT_perm l).cons x)
theorem insT_up (x : List Int) : ∀ l, l.Pairwise (· ≤ ·) → (insT x l).Pairwise (· ≤ ·)
  | [], _ => List.pairwise_cons.mpr ⟨fun _ h => (nomatch h), List.Pairwise.nil⟩
  | y :: l, h => by
    have h1 := List.pairwise_cons.mp h
    unfold insT
    split
    · rename_i hx
      refine List.pairwise_cons.mpr ⟨fun z hz => ?_, h⟩
      rcases List.mem_cons.mp hz with e | hz
      · rw [e]; exact hx
      · exact List.le_trans hx (h1.1 z hz)
    · rename_i hx
      refine List.pairwise_cons.mpr ⟨fun z hz => ?_, insT_up x l h1.2⟩
      rcases List.mem_cons.mp ((insT_perm x l).mem_iff.mp hz) with e | hz
      · rw [e]
        exact (le_total' x y).resolve_left hx
      · exact h1.1 z hz
theorem sT_up : ∀ l, (sT l).Pairwise (· ≤ ·)
  | [] => List.Pairwise.nil
  | x :: l => insT_up x _ (sT_up l)
theorem up_oneT : ∀ {l m : List (List Int)}, l.Pairwise (· ≤ ·) → m.Pairwise (· ≤ ·) → l.Perm m → l = m
  | [], m, _, _, p => (List.Perm.nil_eq p)
  | x :: l, [], _, _, p => absurd p.length_eq (by simp)
  | x :: l, y :: m, a, b, p => by
    have a1 := List.pairwise_cons.mp a
    have b1 := List.pairwise_cons.mp b
    have e : x = y := by
      have hx : x ∈ y :: m := p.mem_iff.mp (List.mem_cons_self ..)
      have hy : y ∈ x :: l := p.mem_iff.mpr (List.mem_cons_self ..)
      rcases List.mem_cons.mp hx with e | hx
      · exact e
      · rcases List.mem_cons.mp hy with e | hy
        · exact e.symm
        · exact List.le_antisymm (a1.1 y hy) (b1.1 x hx)
    subst e
    rw [up_oneT a1.2 b1.2 (List.Perm.cons_inv p)]
theorem sT_len (l : List (List Int)) : (sT l).length = l.length := (sT_perm l).length_eq
theorem dataLe_dT : PySem.W.dataLe false dT = fun p q => decide (p ≤ q) := by
  funext p q
  show (!PySem.W.dataLt (.tuple (q.map .int)) (.tuple (p.map .int))) = _
  rw [PySem.W.dataLt_tuple]
  show (!PySem.W.rowLt (q.map .int) (p.map .int)) = _
  rw [PySem.W.dataLt_ints]
  by_cases h : q < p
  · have h' : ¬ p ≤ q := fun r => List.not_lt.mpr r h
    simp [h, h']
  · have h' : p ≤ q := List.not_lt.mp h
    simp [h, h']
theorem sort_sT (ts : List (List Int)) : ts.mergeSort (PySem.W.dataLe false dT) = sT ts := by
  rw [dataLe_dT]
  refine up_oneT ?_ (sT_up ts) ((List.mergeSort_perm ts _).trans (sT_perm ts).symm)
  have h := List.pairwise_mergeSort (le := fun p q : List Int => decide (p ≤ q)) (fun a b c h1 h2 => decide_eq_true (List.le_trans (of_decide_eq_true h1) (of_decide_eq_true h2)))
    (fun a b => by rcases le_total' a b with h | h <;> simp [h]) ts
  exact h.imp fun h => of_decide_eq_true h

/-! ### sorted -/
theorem vals_split {H : Hp} : ∀ {xs : List V} {us : List Value} {ts : List (List Int)}, Vals xs us → All2 (TI H) xs ts → PySem.W.EachIs (fun u t => ∃ x, RelV x u ∧ TI H x t) us ts
  | _, _, _, .nil, .nil => .nil
  | _, _, _, .cons r rs, .cons h hs => .cons ⟨_, r, h⟩ (vals_split rs hs)
theorem vals_join {H : Hp} : ∀ {us : List Value} {ts : List (List Int)}, PySem.W.EachIs (fun u t => ∃ x, RelV x u ∧ TI H x t) us ts → ∃ xs, Vals xs us ∧ All2 (TI H) xs ts
  | _, _, .nil => ⟨[], .nil, .nil⟩
  | _, _, .cons ⟨x, r, h⟩ t => by
    obtain ⟨xs, a, b⟩ := vals_join t
    exact ⟨x :: xs, .cons r a, .cons h b⟩
def rSortT : List V → Hp → VK → Prop := fun xs H Q => ∃ a ws ts, xs = [V.ref a] ∧ (H a = some (.lst ws) ∨ H a = some (.tup ws)) ∧ All2 (TI H) ws ts ∧ (∀ t ∈ ts, t ≠ []) ∧ ts.length ≤ 1000 ∧
  ∀ zs p, All2 (TI H) zs (sT ts) → H p = none → Q (.ref p) (upd H p (.lst zs))
def rSortI : List V → Hp → VK → Prop := fun xs H Q => ∃ a ns, xs = [V.ref a] ∧ (H a = some (.lst (ns.map V.int)) ∨ H a = some (.tup (ns.map V.int))) ∧ ns.length ≤ 1000 ∧
  ∀ p, H p = none → Q (.ref p) (upd H p (.lst ((Huf.srt ns).map V.int)))
theorem thousand {n : Nat} (h : n ≤ 1000) : n ≤ sizeLine := by rw [sizeLine_eq]; omega
section
variable {X : Cx}
theorem cr_sortT (hS : SysD X.K) (hu : X.A.units + 64 < cLine) : CallR X (.builtin "sorted") rSortT := by
  intro pins s σ H vs us Q I r h
  obtain ⟨a, ws, ts, rfl, hs, ht, hne, hlen, q⟩ := h
  rw [Vals.ref1 r]
  obtain ⟨its, rv, hsrc⟩ : ∃ its : List Value, Vals ws its ∧ (s.heap.IsList a its.toArray ∨ IsTup s.heap a its.toArray) := by
    rcases hs with hs | hs
    · obtain ⟨its, rv, hl, _⟩ := I.list (SqL.of hs)
      exact ⟨its, rv, .inl hl.isList⟩
    · obtain ⟨its, rv, hl, _⟩ := I.tuple (SqT.of hs)
      exact ⟨its, rv, .inr hl⟩
  have e1 := vals_split rv ht
  have er : PySem.W.EachIs (fun v b => ∃ as, Reads s.heap v (dT b) as) its ts := e1.mono fun u t ⟨x, rx, hx⟩ => by
    obtain ⟨as, hr, _⟩ := Dq.reads I hS _ x u hx.dq rx
    exact ⟨as, hr⟩
  have hal : PySem.W.AllAlike (ts.map dT) := PySem.W.AllAlike.of fun b b' => by
    show PySem.W.alike (.tuple (b.map .int)) (.tuple (b'.map .int)) = true
    simp only [PySem.W.alike]
    exact PySem.W.alike_ints b b'
  have hk : PySem.W.Sortable (ts.map dT) := .inl fun d hd => by
    obtain ⟨t, ht', rfl⟩ := List.mem_map.mp hd
    cases t with
    | nil => exact absurd rfl (hne _ ht')
    | cons x r => exact ⟨_, _, rfl⟩
  have hub : ∀ b, b ∈ ts → X.A.units + 2 + (dT b).depth < cLine := fun b _ => by rw [deep_dT]; omega
  have hL : ts.length ≤ sizeLine := thousand hlen
  have fin : ∀ out : List Value, out.length = ts.length → PySem.W.EachIs (fun u t => ∃ x, RelV x u ∧ TI H x t) out (ts.mergeSort (PySem.W.dataLe false dT)) → EP X pins σ Q (.ref (s.heap.objs.size + 1)) { s with heap := sortedAll s.heap its (List.toArray out) } := by
    intro out hol eo
    rw [sort_sT] at eo
    obtain ⟨zs, rz, hz⟩ := vals_join eo
    obtain ⟨ep, he'⟩ := sortedAll_at s.heap its out.toArray
    have hlz : zs.length ≤ sizeLine := by rw [rz.length, hol]; exact hL
    exact ⟨.ref _, upd H (s.heap.objs.size + 1) (.lst zs), I.laid (t' := s.toks) (fun _ _ => sortedAll_old) (Nat.le_succ _) ⟨hlz, out, ep, rz, he'⟩, rfl, q zs _ hz (I.hok.fresh (Nat.le_succ _))⟩
  rcases hsrc with hl | hl
  · exact PySem.W.sorted_data hl e1 er hal hk hL hub fun out h1 h2 => fin out h1 h2
  · have er' : PySem.W.EachIs (fun v b => ∃ as, Reads (PySem.W.sortingHeap (PySem.W.copyHeap s.heap its) (s.heap.objs.size + 1) its) v (dT b) as) its ts := er.mono fun _ _ ⟨as, r⟩ => ⟨as, PyProof.Rows.Reads.keeps (fun _ _ => PySem.W.sorting_copy_old) r⟩
    refine sorted_tup hl (PySem.W.SortsAt.data (s := { s with heap := PySem.W.sortingHeap (PySem.W.copyHeap s.heap its) (s.heap.objs.size + 1) its }) (PySem.W.each_map (R := fun v d => ∃ as, Reads (PySem.W.sortingHeap (PySem.W.copyHeap s.heap its) (s.heap.objs.size + 1) its) v d as) dT er') hal hk (PySem.W.bound_map hub)) (by rw [e1.length]; exact hL) ?_
    exact fin _ (by rw [PySem.W.sortVals_length false rfl]; exact e1.length) (PySem.W.sortVals_data false e1 er' hal)
theorem sort_srt (ns : List Int) : ns.mergeSort (PySem.W.dataLe false fun n : Int => PyData.int n) = Huf.srt ns := by
  rw [PySem.W.dataLe_int (fun n : Int => n)]
  refine Huf.srt_of ?_ (List.mergeSort_perm ns _)
  have h := List.pairwise_mergeSort (le := fun p q : Int => decide (p ≤ q)) (fun a b c h1 h2 => decide_eq_true (Int.le_trans (of_decide_eq_true h1) (of_decide_eq_true h2)))
    (fun a b => by rcases Int.le_total a b with h | h <;> simp [h]) ns
  exact h.imp fun h => of_decide_eq_true h
theorem each_ints : ∀ {ns : List Int} {us : List Value}, Vals (ns.map V.int) us → PySem.W.EachIs (fun u (n : Int) => RelV (.int n) u) us ns
  | [], _, r => by cases r; exact .nil
  | n :: ns, _, r => by
    cases r with
    | cons r1 r2 => exact .cons r1 (each_ints r2)
theorem ints_each : ∀ {ns : List Int} {us : List Value}, PySem.W.EachIs (fun u (n : Int) => RelV (.int n) u) us ns → Vals (ns.map V.int) us
  | _, _, .nil => .nil
  | _, _, .cons h t => .cons h (ints_each t)
theorem cr_sortI (hu : X.A.units + 64 < cLine) : CallR X (.builtin "sorted") rSortI := by
  intro pins s σ H vs us Q I r h
  obtain ⟨a, ns, rfl, hs, hlen, q⟩ := h
  rw [Vals.ref1 r]
  obtain ⟨its, rv, hsrc⟩ : ∃ its : List Value, Vals (ns.map V.int) its ∧ (s.heap.IsList a its.toArray ∨ IsTup s.heap a its.toArray) := by
    rcases hs with hs | hs
    · obtain ⟨its, rv, hl, _⟩ := I.list (SqL.of hs)
      exact ⟨its, rv, .inl hl.isList⟩
    · obtain ⟨its, rv, hl, _⟩ := I.tuple (SqT.of hs)
      exact ⟨its, rv, .inr hl⟩
  have e1 := each_ints rv
  have er : ∀ h : Heap, PySem.W.EachIs (fun v (b : Int) => ∃ as, Reads h v (PyData.int b) as) its ns := fun h => e1.mono fun u n hx => by
    obtain ⟨t, rfl⟩ := hx
    exact ⟨_, Reads.int n t⟩
  have hal : PySem.W.AllAlike (ns.map fun n : Int => PyData.int n) := PySem.W.AllAlike.of fun b b' => by simp [PySem.W.alike]
  have hk : PySem.W.Sortable (ns.map fun n : Int => PyData.int n) := PySem.W.Sortable.others fun b => ⟨(fun z => by cases z), fun xs z => by cases z⟩
  have hub : ∀ b : Int, b ∈ ns → X.A.units + 2 + (PyData.int b).depth < cLine := fun b _ => by simp only [PyData.depth]; omega
  have hL : ns.length ≤ sizeLine := thousand hlen
  have fin : ∀ out : List Value, out.length = ns.length → PySem.W.EachIs (fun u (n : Int) => RelV (.int n) u) out (ns.mergeSort (PySem.W.dataLe false fun n : Int => PyData.int n)) → EP X pins σ Q (.ref (s.heap.objs.size + 1)) { s with heap := sortedAll s.heap its (List.toArray out) } := by
    intro out hol eo
    rw [sort_srt] at eo
    have rz := ints_each eo
    obtain ⟨ep, he'⟩ := sortedAll_at s.heap its out.toArray
    have hlz : ((Huf.srt ns).map V.int).length ≤ sizeLine := by rw [rz.length, hol]; exact hL
    exact ⟨.ref _, upd H (s.heap.objs.size + 1) (.lst ((Huf.srt ns).map V.int)), I.laid (t' := s.toks) (fun _ _ => sortedAll_old) (Nat.le_succ _) ⟨hlz, out, ep, rz, he'⟩, rfl, q _ (I.hok.fresh (Nat.le_succ _))⟩
  rcases hsrc with hl | hl
  · exact PySem.W.sorted_data hl e1 (er _) hal hk hL hub fun out h1 h2 => fin out h1 h2
  · refine sorted_tup hl (PySem.W.SortsAt.data (s := { s with heap := PySem.W.sortingHeap (PySem.W.copyHeap s.heap its) (s.heap.objs.size + 1) its }) (PySem.W.each_map (R := fun v d => ∃ as, Reads (PySem.W.sortingHeap (PySem.W.copyHeap s.heap its) (s.heap.objs.size + 1) its) v d as) (fun n : Int => PyData.int n) (er _)) hal hk (PySem.W.bound_map hub)) (by rw [e1.length]; exact hL) ?_
    exact fin _ (by rw [PySem.W.sortVals_length false rfl]; exact e1.length) (PySem.W.sortVals_data false e1 (er _) hal)
end
end JB
set_option Elab.async false
set_option linter.all false
set_option maxRecDepth 100000
set_option maxHeartbeats 4000000
/-! Own errors whose __init__ calls the base's __init__ by its name and stores one field; the base: a class of the program over a built-in one, or a built-in one. -/
namespace JB
open PySem PySem.Spec PyProof.Rows L2
open Builtin Builtin.ObjectAttr

/-- classes of the program, then tl -/
def refsT (tl : List Value) : List Value → Bool
  | .ref _ :: r => refsT tl r
  | l => l == tl
theorem refsT_cases {tl : List Value} : ∀ l : List Value, refsT tl l = true → (∃ c r, l = .ref c :: r ∧ refsT tl r = true) ∨ l = tl
  | [], e => .inr (beq_iff_eq.mp e)
  | v :: r, e => by
    cases v with
    | ref c => exact .inl ⟨c, r, rfl, e⟩
    | _ => exact .inr (beq_iff_eq.mp e)
/-- what a built-in base is known by -/
structure Tl (tl : List Value) (B newId initId : String) : Prop where
  base : ExcBaseFacts B newId initId tl
  obj : tl.contains (.type "object") = true
  ne : tl.isEmpty = false
  pass : ∀ self : Value, refuseLoop self "__setattr__" tl = pure ()
abbrev veT : List Value := [.type "ValueError", .type "Exception", .type "BaseException", .type "object"]
abbrev oeT : List Value := [.type "OverflowError", .type "ArithmeticError", .type "Exception", .type "BaseException", .type "object"]
theorem tl_ve : Tl veT "ValueError" "ValueError.__new__" "ValueError.__init__" := ⟨PySem.F.excBase_ValueError, by decide +kernel, rfl, PySem.F.store_ValueError.passes⟩
theorem tl_oe : Tl oeT "OverflowError" "OverflowError.__new__" "OverflowError.__init__" := ⟨PySem.F.excBase_OverflowError, by decide +kernel, rfl, PySem.F.store_OverflowError.passes⟩
section
variable {tl : List Value} {B newId initId : String}
theorem refsT_pass (T : Tl tl B newId initId) (self : Value) : ∀ l : List Value, refsT tl l = true → refuseLoop self "__setattr__" l = pure () := by
  intro l
  induction l with
  | nil =>
    intro e
    rcases refsT_cases [] e with ⟨_, _, q, _⟩ | q
    · cases q
    · rw [q]; exact T.pass self
  | cons a r ih =>
    intro e
    rcases refsT_cases (a :: r) e with ⟨c, r', q, h⟩ | q
    · obtain ⟨rfl, rfl⟩ := List.cons.inj q
      rw [refuseLoop_ref]
      exact ih h
    · rw [q]; exact T.pass self
theorem refsT_has (X : String) : ∀ l : List Value, refsT tl l = true → l.contains (.type X) = tl.contains (.type X) := by
  intro l
  induction l with
  | nil =>
    intro e
    rcases refsT_cases [] e with ⟨_, _, q, _⟩ | q
    · cases q
    · rw [q]
  | cons a r ih =>
    intro e
    rcases refsT_cases (a :: r) e with ⟨c, r', q, h⟩ | q
    · obtain ⟨rfl, rfl⟩ := List.cons.inj q
      rw [List.contains_cons, ih h]
      rfl
    · rw [q]
theorem refsT_ne (T : Tl tl B newId initId) {l : List Value} (e : refsT tl l = true) : l.isEmpty = false := by
  rcases refsT_cases l e with ⟨c, r, q, _⟩ | q
  · rw [q]; rfl
  · rw [q]; exact T.ne
end
/-- what the written part says of the class -/
structure OexG (K : PySem.W.Frag) (tl : List Value) (newId : String) (C : Addr) : Prop where
  cls : ∃ nm q N bs bm sn sub ab col dd k0 k1 k2 k3 k5, K.lookup C = some (excClassObj nm q C N bs bm true sn sub ab col dd k0 k1 k2 k3 k5 newId) ∧ refsT tl bm = true
  sa : PySem.W.findIn K (.ref C) "__setattr__" = some (some (.builtin "object.__setattr__"))
  exC : PySem.W.subIn K (.ref C) (.type "BaseException") = some true
  tyC : PySem.W.typeIn K (.ref C) = some (.type "type")
  kC : PySem.W.keepIn K (.ref C) = true
section
variable {prog : Program} {w : World} {A : Around} {E : Value → Shared → Prop} {R : Result → Shared → Prop} {hp : Heap} {g : Array GenState} {d : Drawn} {t : Nat} {os : OsState} {tl : List Value} {B newId initId : String}
/-- the first field of such an error -/
theorem osaG {K : PySem.W.Frag} {name : Str} {tk : Tok} {v : Value} {x C : Addr} {fv : Array Value} {cd : ClassData} (T : Tl tl B newId initId)
    (X : K.In hp) (hx : hp.get? x = some { cls := .ref C, data := .fields fv }) (hcd : PySem.W.clsIn K C = some cd) (hm : refsT tl cd.mro = true) (hh : cd.hasDict = true) (ha : PySem.W.findIn K (.ref C) name = some none)
    (hq : ∀ h' tk' dx, (∀ b o, b ≠ x → hp.get? b = some o → h'.get? b = some o) → hp.objs.size ≤ dx → dx ≠ x → h'.get? x = some { cls := .ref C, dict := some dx, data := .fields fv } →
      h'.Ns1 dx (fun y => if y = name then some v else none) → R (.ok (.ret .none)) ⟨h', g, d, tk', os⟩) :
    codeAny (model prog w) A (.call (.builtin "object.__setattr__") ⟨[.ref x, .str name tk, v], []⟩) R ⟨hp, g, d, t, os⟩ := by
  have I : PySem.W.InstAt hp x { cls := .ref C, data := .fields fv } C none := ⟨hx, rfl, rfl, trivial⟩
  have SF := PySem.F.store_object
  have hxs : x ≠ hp.objs.size := Nat.ne_of_lt (Heap.lt_size hx)
  have hob : cd.mro.contains (.type "object") = true := (refsT_has "object" _ hm).trans T.obj
  have sub : PySem.W.Looks (model prog w) hp (isInstance (.ref x) (.type "object")) true :=
    I.type.andThen (PySem.W.looks_mroIn X (by unfold PySem.W.mroIn; rw [hcd, Option.bind_some, if_neg (by rw [refsT_ne T hm]; decide), hob]))
  refine codeAny_call_builtin SF.slot.plain SF.entry (@PySem.W.check_slot (model prog w) _ _ ⟨hp, g, d, t, os⟩ "object.__setattr__" "object" "__setattr__" (.ref x) [.str name tk, v] [] _ SF.kind SF.split sub (SF.args (.ref x) (.str name tk) v) ?_)
  have hcls : PySem.W.Looks (model prog w) hp (classData C) cd := PySem.W.looks_clsIn X hcd
  have hmr : PySem.W.Looks (model prog w) hp (mroOf (.ref C)) cd.mro := hcls.andThen .now
  have L3 : PySem.W.Looks (model prog w) hp (storeTaker? none) none := .now
  rw [PySem.W.osa_eq, refuse_eq]
  refine wpAny_bind (wpAny_bind (I.type.at (wpAny_bind (hmr.at ?_))))
  rw [refsT_pass T _ _ hm]
  refine wpAny_pure (wpAny_bind (I.type.at (wpAny_bind ((PySem.W.looks_findIn X ha).at (wpAny_bind (L3.at ?_))))))
  show wpAny _ _ (storeInOwnDict (.ref x) (.ref C) (.str name tk) name v false) _ _ _
  obtain ⟨nm, bs, mro, ns, qn, hd, sn, sb, ab, col, del⟩ := cd
  dsimp only at hh
  subst hh
  unfold storeInOwnDict ownDictForStores
  repeat (first | with_reducible refine PySem.HandSPX.store_in_new ?_ ?_ | with_reducible refine wpAny_loadPart_at hx ?_ | with_reducible refine hcls.at ?_ | wp_step)
  · exact ⟨_, #[], _, (Heap.get?_update_ne _ _ _ _ hxs.symm).trans (Heap.get?_push_at rfl rfl), rfl, fun e he => absurd he (by simp), fun _ => rfl⟩
  · intro h' tk' hn' hs
    refine hq h' tk' hp.objs.size (fun b o hb ho => ?_) (Nat.le_refl _) hxs.symm ?_ hn'
    · exact (hs.2 b (Nat.ne_of_lt (Heap.lt_size ho))).trans ((Heap.get?_update_ne _ _ _ _ hb).trans (Heap.get?_push_of_some _ ho))
    · exact (hs.2 x hxs).trans (Heap.get?_update_self _ (Heap.get?_push_of_some _ hx) rfl)
end
section
variable {X : Cx} {pins : List (Addr × Obj)} {σ : L2.St} {H : Hp} {s : Shared} {a C dx : Addr} {f : Str} {y : V} {u : Value} {E : Value → Shared → Prop} {A : Around} {tl : List Value} {B newId initId : String}
theorem clsG {K : PySem.W.Frag} (T : OexG K tl newId C) : ∃ cd, PySem.W.clsIn K C = some cd ∧ refsT tl cd.mro = true ∧ cd.hasDict = true := by
  obtain ⟨nm, q, N, bs, bm, sn, sub, ab, col, dd, k0, k1, k2, k3, k5, hC, hbm⟩ := T.cls
  refine ⟨{ name := nm, bases := bs, mro := .ref C :: bm, ns := N, qualname := q, hasDict := true, slotNames := sn, subclasses := sub, abstract := ab, collection := col, hasDel := false }, ?_, hbm, rfl⟩
  unfold PySem.W.clsIn
  rw [hC] <;> rfl
theorem ostG {Q : Unit → Shared → Prop} (F : Tl tl B newId initId) (T : OexG X.K tl newId C) (I : Inv X pins σ H s) (e : H a = some (exo a C none)) (hno : PySem.W.findIn X.K (.ref C) f = some none) (ry : RelV y u)
    (h : ∀ dx s', H dx = none → dx ≠ a → Inv X pins σ (upd (upd H dx (exd dx [(f, y)])) a (exo a C (some dx))) s' → Q () s') : wpAny (model X.prog X.w) A (setAttr (.ref a) f u) Q E s := by
  obtain ⟨cd, hcl, hm, hh⟩ := clsG T
  obtain ⟨t1, ho⟩ := exo_at I.hok e
  obtain ⟨hp, g, d, t, os⟩ := s
  refine PySem.W.set_plain I.kIn (ox := { cls := .ref C, dict := none, data := .fields #[.ref t1, .none, .none, .none, .bool false, .none] }) (od := none) ⟨ho, rfl, rfl, trivial⟩ T.sa ?_
  refine osaG F I.kIn ho hcl hm hh hno (fun h' tk' dx k dn dne hx hn => ?_)
  have hnd : H dx = none := I.hok.fresh dn
  have nd : ∀ {b : Addr} {o : Obj}, hp.get? b = some o → b ≠ dx := fun {b o} q => Nat.ne_of_lt (Nat.lt_of_lt_of_le (Heap.lt_size q) dn)
  have na : ∀ {b : Addr}, H b = none → b ≠ a := fun {b} n z => by
    rw [z, e] at n
    cases n
  have U : Un X.fs [] H (upd (upd H dx (exd dx [(f, y)])) a (exo a C (some dx))) hp h' :=
    ⟨fun b o q n _ _ => k b o (na n) q, fun b o q n _ _ => ⟨o.slots, k b o (na n) q⟩, fun b o q n _ => by rw [upd_ne (na n), upd_ne (nd q)]; exact n,
      fun b o q _ => by
        by_cases hb : b = a
        · exact ⟨_, by rw [hb]; exact hx⟩
        · exact ⟨o, k b o hb q⟩,
      fun b xs q => by rw [upd_ne (at_ne e q exo_tup), upd_ne (ne_of_none q hnd)]; exact q, fun b o v q => by rw [upd_ne (at_ne e q exo_frz), upd_ne (ne_of_none q hnd)]; exact q,
      fun b ps q => ⟨#[], by rw [upd_ne (at_ne e q exo_tbl), upd_ne (ne_of_none q hnd), q]; simp⟩⟩
  refine h dx _ hnd dne (I.un (t' := tk') U fun b o q => ?_)
  by_cases hb : b = a
  · subst hb
    rw [upd_same] at q
    cases q
    exact exo_ok hx
  · rw [upd_ne hb] at q
    by_cases hd : b = dx
    · subst hd
      rw [upd_same] at q
      cases q
      exact exd_ok hn (relO_put (fs := []) ry fun g => True.intro)
    · rw [upd_ne hd] at q
      exact (I.hok b o q).stay (fun c v hc z => k c v (by
          rcases hc with hc | hc
          · rw [hc]
            exact hb
          · exact at_ne e hc exo_own) z)
        (fun c hc => by rw [upd_ne (at_ne e hc exo_own), upd_ne (ne_of_none hc hnd)]; exact hc) (fun c xs hc => by rw [upd_ne (at_ne e hc exo_tup), upd_ne (ne_of_none hc hnd)]; exact hc)
/-- the built-in base's __init__ with the error and a text: nothing of it is told -/
theorem oinitG {us : List Value} {Q : Value → Shared → Prop} (F : Tl tl B newId initId) (T : OexG X.K tl newId C) (I : Inv X pins σ H s) (e : H a = some (exo a C none)) (hl : us.length ≤ sizeLine) (h : ∀ s', Inv X pins σ H s' → Q .none s') :
    wpAny (model X.prog X.w) A (call (.builtin initId) (.ref a :: us)) Q E s := by
  obtain ⟨nm, q, N, bs, bm, sn, sub, ab, col, dd, k0, k1, k2, k3, k5, hC, hbm⟩ := T.cls
  obtain ⟨t1, ho⟩ := exo_at I.hok e
  obtain ⟨hp, g, d, t, os⟩ := s
  refine wpAny_call (PySem.HandSPX.init_base F.base (fun Y => refsT_has Y bm hbm) (I.kIn _ _ hC) ho hl fun h' t2 k hx => ?_)
  have J := I.write (t' := t) (x := a) (e := a) (o := exo a C none) (by rw [e]; exact True.intro) (.inl rfl) k ⟨_, hx⟩ (exo_ok hx)
  have eu : upd H a (exo a C none) = H := by
    funext b
    by_cases hb : b = a
    · rw [hb, upd_same, e]
    · rw [upd_ne hb]
  rw [eu] at J
  exact h _ J
end
/-- base.__init__(self, ..) -/
def tInitG (K : PySem.W.Frag) (tl : List Value) (newId : String) (ta : TA) : TE := fun σ H Q => ta σ H fun vs H1 => ∃ (a C : Addr) (ws : List V), vs = .ref a :: ws ∧ ws.length ≤ 1000 ∧ OexG K tl newId C ∧ H1 a = some (exo a C none) ∧ Q .non H1
/-- self.f = e, the first field -/
def tOstG (K : PySem.W.Frag) (tl : List Value) (newId : String) (f : Str) (to te : TE) : TS := fun D σ H => te σ H fun y H1 => to σ H1 fun x H2 => ∃ a C : Addr, x = .ref a ∧ OexG K tl newId C ∧ PySem.W.findIn K (.ref C) f = some none ∧
  H2 a = some (exo a C none) ∧ ∀ dx, H2 dx = none → dx ≠ a → D.nx σ (upd (upd H2 dx (exd dx [(f, y)])) a (exo a C (some dx)))
section
variable {X : Cx} {o e : Expr} {es : List Expr} {to te : TE} {ta : TA} {f b : Str} {p' p1 p2 pos : Pos} {tl : List Value} {B newId initId : String}
theorem run_initG {pins : List (Addr × Obj)} {σ : L2.St} {H : Hp} {s : Shared} {Q : VK} (F : Tl tl B newId initId) (I : Inv X pins σ H s) (ha : PA X (e :: es) ta) (h : tInitG X.K tl newId ta σ H Q)
    (he : starEach (e :: es) X.env = (false, eval e X.env) :: starEach es X.env) (hpl : (backTo pos (starEach es X.env)).any (·.1) = false) :
    wpAny (model X.prog X.w) X.A (callWith pos (Value.builtin initId) [] (backTo pos (starEach (e :: es) X.env)) []) (EP X pins σ Q) X.xe s := by
  refine PyProof.Rows.callWith_method1 (thn (ha.run pos pins s σ H _ I h) fun us s1 ⟨vs, H1, I1, r1, a, C, ws, ev, hl, T, ea, q⟩ => ?_) he hpl
  subst ev
  cases r1 with
  | @cons _ u0 _ ur ra rw' =>
    obtain rfl : u0 = Value.ref a := ra
    exact oinitG F T I1 ea (thousand (by rw [← rw'.length]; exact hl)) fun s' J => ⟨.non, H1, J, rfl, q⟩
/-- the base is a built-in class -/
theorem pe_initB {pl : Sem Bool} (F : Tl tl B newId initId) (hg : Gl X b) (hm : X.mg b = none) (hv : bootBuiltins b = some (.type B)) (ht : typeOf (.type B) = pure (.type "type")) (hs : Manifest.isStub B = false)
    (vV : PySem.W.findCls X.K (.type B) (.type "type") "__init__" = some (.val (.builtin initId))) (hh : PySem.W.handedIn (.builtin initId) = true)
    (ha : PA X (e :: es) ta) (hd : (b == ("__debug__" : Str)) = false := by decide) (hnn : b ≠ "__name__" := by decide)
    (hc : eval (.Call (.Attribute (.Name b p1) "__init__" p2) (e :: es) [] pos) X.env = (do
      let ov ← eval (.Name b p1) X.env
      standAt p2.atName
      let (f, first) ← holding [ov] (getMethod ov "__init__" pl)
      callWith pos f first (backTo pos (starEach (e :: es) X.env)) (backToKw pos (keywordEach [] X.env))) := by rfl)
    (he : starEach (e :: es) X.env = (false, eval e X.env) :: starEach es X.env := by rfl) (hpl : (backTo pos (starEach es X.env)).any (·.1) = false := by rfl) :
    PE X (.Call (.Attribute (.Name b p1) "__init__" p2) (e :: es) [] pos) (tInitG X.K tl newId ta) := by
  refine ⟨fun pins s σ H Q I h => ?_⟩
  refine PySem.W.methodCall_KW (ld_blt I hg hm hv ?_ hnn hd) hc
  obtain ⟨m, fr⟩ := I.fr
  refine PySem.W.method_type fr I.ok.mod.kin ht hs vV hh ?_
  exact run_initG F (I.tok _) ha h he hpl
/-- the base is a class of the program, at J -/
theorem pe_initJ {pl : Sem Bool} {J : Addr} {mc : Value} (F : Tl tl B newId initId) (hg : Gl X b) (hm : X.mg b = some (.ref J)) (rd : PySem.W.readsIn X.K J mc = true) (ga : PySem.W.specialIn X.K (.ref J) "__getattribute__" = some (some (.builtin "type.__getattribute__")))
    (at_ : PySem.W.findCls X.K (.ref J) mc "__init__" = some (.val (.builtin initId))) (hh : PySem.W.handedIn (.builtin initId) = true) (ha : PA X (e :: es) ta) (hdb : (b == ("__debug__" : Str)) = false := by decide)
    (hc : eval (.Call (.Attribute (.Name b p1) "__init__" p2) (e :: es) [] pos) X.env = (do
      let ov ← eval (.Name b p1) X.env
      standAt p2.atName
      let (f, first) ← holding [ov] (getMethod ov "__init__" pl)
      callWith pos f first (backTo pos (starEach (e :: es) X.env)) (backToKw pos (keywordEach [] X.env))) := by rfl)
    (he : starEach (e :: es) X.env = (false, eval e X.env) :: starEach es X.env := by rfl) (hpl : (backTo pos (starEach es X.env)).any (·.1) = false := by rfl) :
    PE X (.Call (.Attribute (.Name b p1) "__init__" p2) (e :: es) [] pos) (tInitG X.K tl newId ta) := by
  refine ⟨fun pins s σ H Q I h => ?_⟩
  refine PySem.W.methodCall_KW (ld_glob I hg hm ?_ hdb) hc
  refine PySem.W.method_cls I.kIn ga (PySem.W.cls_value I.kIn rd at_ hh ?_)
  exact run_initG F (I.tok _) ha h he hpl
theorem ps_ostG (F : Tl tl B newId initId) (ho : PE X o to) (he : PE X e te) (hs : swapsWith e (some (.Attribute o f p')) pos.line X.env = pure false := by rfl) : PS X (.Assign [.Attribute o f p'] e pos) (tOstG X.K tl newId f to te) := by
  refine ⟨fun pins s σ H D I h => ?_⟩
  refine plainObj_wpAny_Assign_Attribute (thn (he.run pins s σ H _ I h) fun v s1 ⟨y, H1, I1, r1, q1⟩ => thn (ho.run pins s1 σ H1 _ I1 q1) fun u s2 ⟨x, H2, I2, r2, a, C, ex, T, hno, ea, q⟩ => ?_) hs
  subst ex
  obtain rfl : u = Value.ref a := r2
  exact ostG F T I2 ea hno r1 fun dx s' n ne J => ⟨σ, _, J, q dx n ne⟩
end

/-! ### the error made, raised -/
/-- the promise of such an __init__ -/
def spErr (f : Str) (C : Addr) : Sp := fun vs H Q _ => ∃ a v, vs = [V.ref a, v] ∧ H a = some (exo a C none) ∧ ∀ d, H d = none → d ≠ a → Q .non (upd (upd H d (exd d [(f, v)])) a (exo a C (some d)))
/-- C(e) -/
def tMkE (C : Addr) (f : Str) (ta : TA) : L2.St → Hp → XK → Prop := fun σ H Q => ta σ H fun vs H1 => ∃ v, vs = [v] ∧ ∀ d, H1 d = none → Q (.ref C) (some d) (upd H1 d (.xd [(f, v)]))
section
variable {X : Cx} {e : Expr} {es : List Expr} {ta : TA} {f x : Str} {p pos : Pos} {tl : List Value} {B newId initId : String} {C fI : Addr} {k : Nat} {fd : FuncData} {ps : List Str} {CX : CXT}
theorem pmk_err (F : Tl tl B newId initId) (T : OexG X.K tl newId C) (iC : PySem.W.findIn X.K (.ref C) "__init__" = some (some (.ref fI))) (tI : PySem.W.typeIn X.K (.ref fI) = some (.type "function"))
    (F1 : FnOk X.prog X.w X.K X.mg X.base CX k fI fd ps (spErr f C)) (hr : Room (k + 1) X.A) (hb : Binds X.K fd ps []) (hx : Passes CX X (fun _ _ _ => False)) (hg : Gl X x) (hm : X.mg x = some (.ref C)) (ha : PA X (e :: es) ta)
    (hdb : (x == ("__debug__" : Str)) = false := by decide) (he : starEach (e :: es) X.env = (false, eval e X.env) :: starEach es X.env := by rfl) (hpl : (backTo pos (starEach es X.env)).any (·.1) = false := by rfl) :
    PMk X (.Call (.Name x p) (e :: es) [] pos) (tMkE C f ta) := by
  intro pins s σ H Q I h
  obtain ⟨nm, q, N, bs, bm, sn, sub, ab, col, dd, k0, k1, k2, k3, k5, hC, hbm⟩ := T.cls
  refine wpAny_Call_Name_kw (ld_glob I hg hm ?_ hdb)
  refine PySem.W.callWith_K (h₀ := X.base) I.ok.mod.kin T.kC (thn (ha.run pos pins s σ H _ I h) fun us s1 ⟨vs, H1, I1, r1, v, ev, q1⟩ => ⟨I1.kIn, ?_⟩) he hpl
  subst ev
  show wpAny _ _ (call (.ref C) us) _ _ _
  obtain ⟨hp, g, dr, tk, os⟩ := s1
  have hsz : hp.objs.size ≤ hp.objs.size + 1 := Nat.le_succ _
  have hn : H1 (hp.objs.size + 1) = none := I1.hok.fresh hsz
  have kk : ∀ b o, hp.get? b = some o → ((hp.push (PySem.W.kdv_tup us)).push (PySem.HandSPX.excO C hp.objs.size)).get? b = some o := fun b o e => Heap.get?_push_of_some _ (Heap.get?_push_of_some _ e)
  have hget : ((hp.push (PySem.W.kdv_tup us)).push (PySem.HandSPX.excO C hp.objs.size)).get? (hp.objs.size + 1) = some (PySem.HandSPX.excO C hp.objs.size) := by heap_get
  have I2 : Inv X pins σ (upd H1 (hp.objs.size + 1) (exo (hp.objs.size + 1) C none)) ⟨(hp.push (PySem.W.kdv_tup us)).push (PySem.HandSPX.excO C hp.objs.size), g, dr, tk, os⟩ :=
    I1.laid (t' := tk) (a := hp.objs.size + 1) (o := exo (hp.objs.size + 1) C none) (h' := (hp.push (PySem.W.kdv_tup us)).push (PySem.HandSPX.excO C hp.objs.size)) kk hsz (exo_ok hget)
  have hq : spErr f C [V.ref (hp.objs.size + 1), v] (upd H1 (hp.objs.size + 1) (exo (hp.objs.size + 1) C none))
      (fun u H2 => u = .non ∧ ∃ d : Addr, H2 (hp.objs.size + 1) = some (exo (hp.objs.size + 1) C (some d)) ∧ H2 d = some (exd d [(f, v)]) ∧ H1 d = none ∧ upd (del H2 (hp.objs.size + 1)) d (.xd [(f, v)]) = upd H1 d (.xd [(f, v)])) (fun _ _ _ => False) := by
    refine ⟨_, v, rfl, upd_same, fun d hd hne => ⟨rfl, d, upd_same, ?_, ?_, ?_⟩⟩
    · rw [upd_ne hne, upd_same]
    · rw [upd_ne hne] at hd
      exact hd
    · funext b
      by_cases hb : b = d
      · rw [hb, upd_same, upd_same]
      · rw [upd_ne hb, upd_ne hb]
        by_cases hb2 : b = hp.objs.size + 1
        · rw [hb2, del_same, hn]
        · rw [del_ne hb2, upd_ne hb2, upd_ne hb, upd_ne hb2]
  have r2 : Vals [V.ref (hp.objs.size + 1), v] (Value.ref (hp.objs.size + 1) :: us) := .cons rfl r1
  have hl : (Value.ref (hp.objs.size + 1) :: us ++ []).length = ps.length := by
    have e := r2.length
    rw [F1.len _ _ _ _ hq] at e
    rw [List.append_nil]
    exact e.symm
  have hus : us.length ≤ sizeLine := by
    rw [← r1.length]
    exact thousand (by show 1 ≤ 1000; omega)
  have hbd := hb ⟨(hp.push (PySem.W.kdv_tup us)).push (PySem.HandSPX.excO C hp.objs.size), g, dr, tk, os⟩ (Value.ref (hp.objs.size + 1) :: us) I2.kIn hl
  rw [List.append_nil] at hbd
  refine wpAny_call (PySem.HandSPX.call_own F.base (fun Y => refsT_has Y bm hbm) (I1.kIn _ _ hC) (PySem.W.looks_findIn I1.kIn iC) (fun self => PySem.W.bind_fn I1.kIn self tI) hus
    (codeAny_mono (F1.run _ X.stack _ _ ⟨Value.ref (hp.objs.size + 1) :: us, []⟩ (Value.ref (hp.objs.size + 1) :: us) _ _ (fun _ _ _ => False) (hr.make C us []) (I2.env0.make C us []) hbd r2 hq) fun r s' hq' => ?_))
  cases r with
  | error er => exact hx pins σ _ _ er s' I2 hq'
  | ok fl =>
    cases fl with
    | ret u =>
      obtain ⟨w', H2, os2, bare2, un2, hok2, rv, ev, d, ea, ed, hd1, eH⟩ := hq'
      subst ev
      obtain ⟨h2, g2, d2, t2, os'⟩ := s'
      exact ⟨rv, mk_end (raises_own T.exC T.tyC) I1 hsz kk un2 hok2 os2 bare2 ea ed hd1 (by rw [eH]; exact q1 d hd1)⟩
    | next => exact False.elim hq'
    | brk => exact False.elim hq'
    | cont => exact False.elim hq'
end
end JB
set_option Elab.async false
set_option linter.all false
set_option maxRecDepth 100000
set_option maxHeartbeats 4000000
/-! The text by places, scopes, the record of what the written part says. -/
namespace JB
open PySem PySem.Spec PyProof.Rows L2
def top (i : Nat) : Stmt := PySem.Challenge.pw_joinsums_k28_whole_joinbooks.main.body.getD i (.Pass ⟨0, 0, 0, 0⟩)
/-- the getter of the property paid -/
def paidF (K : PySem.W.Frag) : Addr := match PySem.W.recIn K (He.ma K (He.ga K "Joinbook") "paid") "property" with
  | some (.ref g :: _) => g
  | _ => 0
/-- what the written part says of an error class -/
structure ErrF (K : PySem.W.Frag) (tl : List Value) (newId : String) (f : Str) (C fI : Addr) : Prop where
  ox : OexG K tl newId C
  no : PySem.W.findIn K (.ref C) f = some none
  init : PySem.W.findIn K (.ref C) "__init__" = some (some (.ref fI))
  tI : PySem.W.typeIn K (.ref fI) = some (.type "function")
  xf : XfC K C
abbrev s_BadNumber_init : Stmt := inClass (top 3) 0
abbrev s_BadTop_init : Stmt := inClass (top 4) 0
abbrev s_TooMany_init : Stmt := inClass (top 5) 0
abbrev s_is_integer : Stmt := top 8
abbrev s_is_between : Stmt := top 9
abbrev s_first_in : Stmt := top 11
abbrev s_Stand_init : Stmt := inClass (top 18) 0
abbrev s_Stand_weight_in : Stmt := inClass (top 18) 1
abbrev s_Stand_finish : Stmt := inClass (top 18) 2
abbrev s_Stand_come : Stmt := inClass (top 18) 3
abbrev s_Stand_joined : Stmt := inClass (top 18) 4
abbrev s_Stand_taken : Stmt := inClass (top 18) 5
abbrev s_Joinbook_init : Stmt := inClass (top 19) 0
abbrev s_Joinbook_paid : Stmt := inClass (top 19) 1
abbrev s_Joinbook_go_on : Stmt := inClass (top 19) 2
abbrev s_Joinbook_come : Stmt := inClass (top 19) 3
abbrev s_Joinbook_tops : Stmt := inClass (top 19) 4
abbrev s_Joinbook_is_top : Stmt := inClass (top 19) 5
abbrev s_Joinbook_need_top : Stmt := inClass (top 19) 6
abbrev s_Joinbook_need_two : Stmt := inClass (top 19) 7
abbrev s_Joinbook_weight : Stmt := inClass (top 19) 8
abbrev s_Joinbook_loss : Stmt := inClass (top 19) 9
abbrev s_Joinbook_join : Stmt := inClass (top 19) 10
abbrev s_Joinbook_take : Stmt := inClass (top 19) 11
abbrev s_Joinbook_finish : Stmt := inClass (top 19) 12
abbrev s_Joinbook_len : Stmt := inClass (top 19) 16
abbrev s_law_mixed : Stmt := top 21
abbrev s_law_begin : Stmt := top 22
abbrev s_law_draw : Stmt := top 23
abbrev s_law_of : Stmt := top 24
abbrev s_law_entry : Stmt := top 25
abbrev s_law_mass : Stmt := top 26
abbrev s_law_ending : Stmt := top 27
abbrev s_law_after : Stmt := top 28
abbrev s_law_deed : Stmt := top 29
abbrev s_law_due : Stmt := top 30
abbrev s_law_done : Stmt := top 31
abbrev s_law_shows : Stmt := top 32
abbrev s_law_stands : Stmt := top 33
abbrev s_law_told : Stmt := top 34
abbrev s_law_are : Stmt := top 35
abbrev s_law_losses_right : Stmt := top 36
abbrev s_law_doors_right : Stmt := top 37
abbrev s_law_right : Stmt := top 38
abbrev s_law_bounds_right : Stmt := top 39
abbrev s_law : Stmt := top 40
abbrev n_BadNumber_init : List Str := ["self", "given"]
theorem sc_BadNumber_init : FnScope n_BadNumber_init ["self", "given"] (defScope s_BadNumber_init) := ⟨rfl, rfl, rfl, by decide +kernel, rfl, by decide +kernel, by decide +kernel⟩
abbrev n_BadTop_init : List Str := ["self", "given"]
theorem sc_BadTop_init : FnScope n_BadTop_init ["self", "given"] (defScope s_BadTop_init) := ⟨rfl, rfl, rfl, by decide +kernel, rfl, by decide +kernel, by decide +kernel⟩
abbrev n_TooMany_init : List Str := ["self", "most"]
theorem sc_TooMany_init : FnScope n_TooMany_init ["self", "most"] (defScope s_TooMany_init) := ⟨rfl, rfl, rfl, by decide +kernel, rfl, by decide +kernel, by decide +kernel⟩
abbrev n_is_integer : List Str := ["thing"]
theorem sc_is_integer : FnScope n_is_integer ["thing"] (defScope s_is_integer) := ⟨rfl, rfl, rfl, by decide +kernel, rfl, by decide +kernel, by decide +kernel⟩
abbrev n_is_between : List Str := ["thing", "least", "most"]
theorem sc_is_between : FnScope n_is_between ["thing", "least", "most"] (defScope s_is_between) := ⟨rfl, rfl, rfl, by decide +kernel, rfl, by decide +kernel, by decide +kernel⟩
abbrev n_first_in : List Str := ["heaps", "left", "found"]
theorem sc_first_in : FnScope n_first_in ["heaps"] (defScope s_first_in) := ⟨rfl, rfl, rfl, by decide +kernel, rfl, by decide +kernel, by decide +kernel⟩
abbrev n_Stand_init : List Str := ["self", "deed", "weights_come", "tops_now", "paid_now"]
theorem sc_Stand_init : FnScope n_Stand_init ["self", "deed", "weights_come", "tops_now", "paid_now"] (defScope s_Stand_init) := ⟨rfl, rfl, rfl, by decide +kernel, rfl, by decide +kernel, by decide +kernel⟩
abbrev n_Stand_weight_in : List Str := ["self", "top", "number"]
theorem sc_Stand_weight_in : FnScope n_Stand_weight_in ["self", "top"] (defScope s_Stand_weight_in) := ⟨rfl, rfl, rfl, by decide +kernel, rfl, by decide +kernel, by decide +kernel⟩
abbrev n_Stand_finish : List Str := ["self", "top"]
theorem sc_Stand_finish : FnScope n_Stand_finish ["self"] (defScope s_Stand_finish) := ⟨rfl, rfl, rfl, by decide +kernel, rfl, by decide +kernel, by decide +kernel⟩
abbrev n_Stand_come : List Str := ["self", "weight", "fresh", "tops"]
theorem sc_Stand_come : FnScope n_Stand_come ["self", "weight"] (defScope s_Stand_come) := ⟨rfl, rfl, rfl, by decide +kernel, rfl, by decide +kernel, by decide +kernel⟩
abbrev n_Stand_joined : List Str := ["self", "top", "other", "both", "tops", "one", "paid"]
theorem sc_Stand_joined : FnScope n_Stand_joined ["self", "top", "other"] (defScope s_Stand_joined) := ⟨rfl, rfl, rfl, by decide +kernel, rfl, by decide +kernel, by decide +kernel⟩
abbrev n_Stand_taken : List Str := ["self", "top", "tops", "one"]
theorem sc_Stand_taken : FnScope n_Stand_taken ["self", "top"] (defScope s_Stand_taken) := ⟨rfl, rfl, rfl, by decide +kernel, rfl, by decide +kernel, by decide +kernel⟩
abbrev n_Joinbook_init : List Str := ["self"]
theorem sc_Joinbook_init : FnScope n_Joinbook_init ["self"] (defScope s_Joinbook_init) := ⟨rfl, rfl, rfl, by decide +kernel, rfl, by decide +kernel, by decide +kernel⟩
abbrev n_Joinbook_paid : List Str := ["self"]
theorem sc_Joinbook_paid : FnScope n_Joinbook_paid ["self"] (defScope s_Joinbook_paid) := ⟨rfl, rfl, rfl, by decide +kernel, rfl, by decide +kernel, by decide +kernel⟩
abbrev n_Joinbook_go_on : List Str := ["self", "stand"]
theorem sc_Joinbook_go_on : FnScope n_Joinbook_go_on ["self", "stand"] (defScope s_Joinbook_go_on) := ⟨rfl, rfl, rfl, by decide +kernel, rfl, by decide +kernel, by decide +kernel⟩
abbrev n_Joinbook_come : List Str := ["self", "weight", "stand"]
theorem sc_Joinbook_come : FnScope n_Joinbook_come ["self", "weight"] (defScope s_Joinbook_come) := ⟨rfl, rfl, rfl, by decide +kernel, rfl, by decide +kernel, by decide +kernel⟩
abbrev n_Joinbook_tops : List Str := ["self"]
theorem sc_Joinbook_tops : FnScope n_Joinbook_tops ["self"] (defScope s_Joinbook_tops) := ⟨rfl, rfl, rfl, by decide +kernel, rfl, by decide +kernel, by decide +kernel⟩
abbrev n_Joinbook_is_top : List Str := ["self", "thing", "one"]
theorem sc_Joinbook_is_top : FnScope n_Joinbook_is_top ["self", "thing"] (defScope s_Joinbook_is_top) := ⟨rfl, rfl, rfl, by decide +kernel, rfl, by decide +kernel, by decide +kernel⟩
abbrev n_Joinbook_need_top : List Str := ["self", "top"]
theorem sc_Joinbook_need_top : FnScope n_Joinbook_need_top ["self", "top"] (defScope s_Joinbook_need_top) := ⟨rfl, rfl, rfl, by decide +kernel, rfl, by decide +kernel, by decide +kernel⟩
abbrev n_Joinbook_need_two : List Str := ["self", "top", "other"]
theorem sc_Joinbook_need_two : FnScope n_Joinbook_need_two ["self", "top", "other"] (defScope s_Joinbook_need_two) := ⟨rfl, rfl, rfl, by decide +kernel, rfl, by decide +kernel, by decide +kernel⟩
abbrev n_Joinbook_weight : List Str := ["self", "top"]
theorem sc_Joinbook_weight : FnScope n_Joinbook_weight ["self", "top"] (defScope s_Joinbook_weight) := ⟨rfl, rfl, rfl, by decide +kernel, rfl, by decide +kernel, by decide +kernel⟩
abbrev n_Joinbook_loss : List Str := ["self", "top", "other", "stand"]
theorem sc_Joinbook_loss : FnScope n_Joinbook_loss ["self", "top", "other"] (defScope s_Joinbook_loss) := ⟨rfl, rfl, rfl, by decide +kernel, rfl, by decide +kernel, by decide +kernel⟩
abbrev n_Joinbook_join : List Str := ["self", "top", "other", "found"]
theorem sc_Joinbook_join : FnScope n_Joinbook_join ["self", "top", "other"] (defScope s_Joinbook_join) := ⟨rfl, rfl, rfl, by decide +kernel, rfl, by decide +kernel, by decide +kernel⟩
abbrev n_Joinbook_take : List Str := ["self", "top", "found"]
theorem sc_Joinbook_take : FnScope n_Joinbook_take ["self", "top"] (defScope s_Joinbook_take) := ⟨rfl, rfl, rfl, by decide +kernel, rfl, by decide +kernel, by decide +kernel⟩
abbrev n_Joinbook_finish : List Str := ["self"]
theorem sc_Joinbook_finish : FnScope n_Joinbook_finish ["self"] (defScope s_Joinbook_finish) := ⟨rfl, rfl, rfl, by decide +kernel, rfl, by decide +kernel, by decide +kernel⟩
abbrev n_Joinbook_len : List Str := ["self"]
theorem sc_Joinbook_len : FnScope n_Joinbook_len ["self"] (defScope s_Joinbook_len) := ⟨rfl, rfl, rfl, by decide +kernel, rfl, by decide +kernel, by decide +kernel⟩
abbrev n_law_mixed : List Str := ["_law_cell", "_law_k"]
theorem sc_law_mixed : FnScope n_law_mixed ["_law_cell", "_law_k"] (defScope s_law_mixed) := ⟨rfl, rfl, rfl, by decide +kernel, rfl, by decide +kernel, by decide +kernel⟩
abbrev n_law_begin : List Str := ["_law_script", "_law_cells", "_law_cell"]
theorem sc_law_begin : FnScope n_law_begin ["_law_script"] (defScope s_law_begin) := ⟨rfl, rfl, rfl, by decide +kernel, rfl, by decide +kernel, by decide +kernel⟩
abbrev n_law_draw : List Str := ["_law_state", "_law_many", "_law_at", "_law_place", "_law_left", "_law_number"]
theorem sc_law_draw : FnScope n_law_draw ["_law_state", "_law_many"] (defScope s_law_draw) := ⟨rfl, rfl, rfl, by decide +kernel, rfl, by decide +kernel, by decide +kernel⟩
abbrev n_law_of : List Str := ["_law_state", "_law_some"]
theorem sc_law_of : FnScope n_law_of ["_law_state", "_law_some"] (defScope s_law_of) := ⟨rfl, rfl, rfl, by decide +kernel, rfl, by decide +kernel, by decide +kernel⟩
abbrev n_law_entry : List Str := []
theorem sc_law_entry : FnScope n_law_entry [] (defScope s_law_entry) := ⟨rfl, rfl, rfl, by decide +kernel, rfl, by decide +kernel, by decide +kernel⟩
abbrev n_law_mass : List Str := ["_law_entry_here", "_law_top", "_law_one"]
theorem sc_law_mass : FnScope n_law_mass ["_law_entry_here", "_law_top"] (defScope s_law_mass) := ⟨rfl, rfl, rfl, by decide +kernel, rfl, by decide +kernel, by decide +kernel⟩
abbrev n_law_ending : List Str := ["_law_entry_here", "_law_left", "_law_got", "_law_top"]
theorem sc_law_ending : FnScope n_law_ending ["_law_entry_here"] (defScope s_law_ending) := ⟨rfl, rfl, rfl, by decide +kernel, rfl, by decide +kernel, by decide +kernel⟩
abbrev n_law_after : List Str := ["_law_entry_here", "_law_deed_here", "_law_loads", "_law_tops", "_law_paid_so", "_law_many", "_law_rest", "_law_top", "_law_both", "_law_one"]
theorem sc_law_after : FnScope n_law_after ["_law_entry_here", "_law_deed_here"] (defScope s_law_after) := ⟨rfl, rfl, rfl, by decide +kernel, rfl, by decide +kernel, by decide +kernel⟩
abbrev n_law_deed : List Str := ["_law_state", "_law_entry_here", "_law_loads", "_law_tops", "_law_paid_so", "_law_many", "_law_word", "_law_left", "_law_near"]
theorem sc_law_deed : FnScope n_law_deed ["_law_state", "_law_entry_here"] (defScope s_law_deed) := ⟨rfl, rfl, rfl, by decide +kernel, rfl, by decide +kernel, by decide +kernel⟩
abbrev n_law_due : List Str := ["_law_entry_here", "_law_deed_here"]
theorem sc_law_due : FnScope n_law_due ["_law_entry_here", "_law_deed_here"] (defScope s_law_due) := ⟨rfl, rfl, rfl, by decide +kernel, rfl, by decide +kernel, by decide +kernel⟩
abbrev n_law_done : List Str := ["_law_book_so", "_law_deed_here"]
theorem sc_law_done : FnScope n_law_done ["_law_book_so", "_law_deed_here"] (defScope s_law_done) := ⟨rfl, rfl, rfl, by decide +kernel, rfl, by decide +kernel, by decide +kernel⟩
abbrev n_law_shows : List Str := ["_law_book_so"]
theorem sc_law_shows : FnScope n_law_shows ["_law_book_so"] (defScope s_law_shows) := ⟨rfl, rfl, rfl, by decide +kernel, rfl, by decide +kernel, by decide +kernel⟩
abbrev n_law_stands : List Str := ["_law_book_so", "_law_entry_here", "_law_due_here"]
theorem sc_law_stands : FnScope n_law_stands ["_law_book_so", "_law_entry_here"] (defScope s_law_stands) := ⟨rfl, rfl, rfl, by decide +kernel, rfl, by decide +kernel, by decide +kernel⟩
abbrev n_law_told : List Str := ["_law_call", "e"]
theorem sc_law_told : FnScope n_law_told ["_law_call"] (defScope s_law_told) := ⟨rfl, rfl, rfl, by decide +kernel, rfl, by decide +kernel, by decide +kernel⟩
abbrev n_law_are : List Str := ["_law_calls", "_law_due_here", "_law_call"]
theorem sc_law_are : FnScope n_law_are ["_law_calls", "_law_due_here"] (defScope s_law_are) := ⟨rfl, rfl, rfl, by decide +kernel, rfl, by decide +kernel, by decide +kernel⟩
abbrev n_law_losses_right : List Str := ["_law_book_so", "_law_entry_here", "_law_tops", "_law_one", "_law_far", "_law_due_here", "_law_told_here", "_law_heavy", "_law_less", "_law_top"]
theorem sc_law_losses_right : FnScope n_law_losses_right ["_law_book_so", "_law_entry_here"] (defScope s_law_losses_right) := ⟨rfl, rfl, rfl, by decide +kernel, rfl, by decide +kernel, by decide +kernel⟩
abbrev n_law_doors_right : List Str := ["_law_book_so", "_law_entry_here", "_law_odd", "_law_tops", "_law_odds", "_law_top", "_law_one", "_law_calls"]
theorem sc_law_doors_right : FnScope n_law_doors_right ["_law_book_so", "_law_entry_here"] (defScope s_law_doors_right) := ⟨rfl, rfl, rfl, by decide +kernel, rfl, by decide +kernel, by decide +kernel⟩
abbrev n_law_right : List Str := ["_law_state", "_law_book_so", "_law_entry_here", "_law_turn", "_law_deed_here", "_law_due_here", "_law_kept_so"]
theorem sc_law_right : FnScope n_law_right ["_law_state"] (defScope s_law_right) := ⟨rfl, rfl, rfl, by decide +kernel, rfl, by decide +kernel, by decide +kernel⟩
abbrev n_law_bounds_right : List Str := ["_law_book_so", "_law_told_here", "_law_k"]
theorem sc_law_bounds_right : FnScope n_law_bounds_right [] (defScope s_law_bounds_right) := ⟨rfl, rfl, rfl, by decide +kernel, rfl, by decide +kernel, by decide +kernel⟩
abbrev n_law : List Str := ["_law_script", "_law_state", "_law_turn", "_law_book_so", "_law_told_here", "_law_w", "_law_due_here"]
theorem sc_law : FnScope n_law ["_law_script"] (defScope s_law) := ⟨rfl, rfl, rfl, by decide +kernel, rfl, by decide +kernel, by decide +kernel⟩
/-- what the written part says: defs by their places, names, classes -/
structure Txt (K : PySem.W.Frag) (mg : Str → Option Value) : Prop where
  d_BadNumber_init : ∃ fd, FunD K "__init__" "BadNumber.__init__" (defArgs s_BadNumber_init) (defBody s_BadNumber_init) (defScope s_BadNumber_init) [] [] (He.fAd K ("BadNumber", some "__init__")) fd
  d_BadTop_init : ∃ fd, FunD K "__init__" "BadTop.__init__" (defArgs s_BadTop_init) (defBody s_BadTop_init) (defScope s_BadTop_init) [] [] (He.fAd K ("BadTop", some "__init__")) fd
  d_TooMany_init : ∃ fd, FunD K "__init__" "TooMany.__init__" (defArgs s_TooMany_init) (defBody s_TooMany_init) (defScope s_TooMany_init) [] [] (He.fAd K ("TooMany", some "__init__")) fd
  d_is_integer : ∃ fd, FunD K "is_integer" "is_integer" (defArgs s_is_integer) (defBody s_is_integer) (defScope s_is_integer) [] [] (He.fAd K ("is_integer", none)) fd
  d_is_between : ∃ fd, FunD K "is_between" "is_between" (defArgs s_is_between) (defBody s_is_between) (defScope s_is_between) [] [] (He.fAd K ("is_between", none)) fd
  d_first_in : ∃ fd, FunD K "first_in" "first_in" (defArgs s_first_in) (defBody s_first_in) (defScope s_first_in) [] [] (He.fAd K ("first_in", none)) fd
  d_Stand_init : ∃ fd, FunD K "__init__" "Stand.__init__" (defArgs s_Stand_init) (defBody s_Stand_init) (defScope s_Stand_init) [] [] (He.fAd K ("Stand", some "__init__")) fd
  d_Stand_weight_in : ∃ fd, FunD K "weight_in" "Stand.weight_in" (defArgs s_Stand_weight_in) (defBody s_Stand_weight_in) (defScope s_Stand_weight_in) [] [] (He.fAd K ("Stand", some "weight_in")) fd
  d_Stand_finish : ∃ fd, FunD K "finish" "Stand.finish" (defArgs s_Stand_finish) (defBody s_Stand_finish) (defScope s_Stand_finish) [] [] (He.fAd K ("Stand", some "finish")) fd
  d_Stand_come : ∃ fd, FunD K "come" "Stand.come" (defArgs s_Stand_come) (defBody s_Stand_come) (defScope s_Stand_come) [] [] (He.fAd K ("Stand", some "come")) fd
  d_Stand_joined : ∃ fd, FunD K "joined" "Stand.joined" (defArgs s_Stand_joined) (defBody s_Stand_joined) (defScope s_Stand_joined) [] [] (He.fAd K ("Stand", some "joined")) fd
  d_Stand_taken : ∃ fd, FunD K "taken" "Stand.taken" (defArgs s_Stand_taken) (defBody s_Stand_taken) (defScope s_Stand_taken) [] [] (He.fAd K ("Stand", some "taken")) fd
  d_Joinbook_init : ∃ fd, FunD K "__init__" "Joinbook.__init__" (defArgs s_Joinbook_init) (defBody s_Joinbook_init) (defScope s_Joinbook_init) [] [] (He.fAd K ("Joinbook", some "__init__")) fd
  d_Joinbook_paid : ∃ fd, FunD K "paid" "Joinbook.paid" (defArgs s_Joinbook_paid) (defBody s_Joinbook_paid) (defScope s_Joinbook_paid) [] [] (paidF K) fd
  d_Joinbook_go_on : ∃ fd, FunD K "go_on" "Joinbook.go_on" (defArgs s_Joinbook_go_on) (defBody s_Joinbook_go_on) (defScope s_Joinbook_go_on) [] [] (He.fAd K ("Joinbook", some "go_on")) fd
  d_Joinbook_come : ∃ fd, FunD K "come" "Joinbook.come" (defArgs s_Joinbook_come) (defBody s_Joinbook_come) (defScope s_Joinbook_come) [] [] (He.fAd K ("Joinbook", some "come")) fd
  d_Joinbook_tops : ∃ fd, FunD K "tops" "Joinbook.tops" (defArgs s_Joinbook_tops) (defBody s_Joinbook_tops) (defScope s_Joinbook_tops) [] [] (He.fAd K ("Joinbook", some "tops")) fd
  d_Joinbook_is_top : ∃ fd, FunD K "is_top" "Joinbook.is_top" (defArgs s_Joinbook_is_top) (defBody s_Joinbook_is_top) (defScope s_Joinbook_is_top) [] [] (He.fAd K ("Joinbook", some "is_top")) fd
  d_Joinbook_need_top : ∃ fd, FunD K "need_top" "Joinbook.need_top" (defArgs s_Joinbook_need_top) (defBody s_Joinbook_need_top) (defScope s_Joinbook_need_top) [] [] (He.fAd K ("Joinbook", some "need_top")) fd
  d_Joinbook_need_two : ∃ fd, FunD K "need_two" "Joinbook.need_two" (defArgs s_Joinbook_need_two) (defBody s_Joinbook_need_two) (defScope s_Joinbook_need_two) [] [] (He.fAd K ("Joinbook", some "need_two")) fd
  d_Joinbook_weight : ∃ fd, FunD K "weight" "Joinbook.weight" (defArgs s_Joinbook_weight) (defBody s_Joinbook_weight) (defScope s_Joinbook_weight) [] [] (He.fAd K ("Joinbook", some "weight")) fd
  d_Joinbook_loss : ∃ fd, FunD K "loss" "Joinbook.loss" (defArgs s_Joinbook_loss) (defBody s_Joinbook_loss) (defScope s_Joinbook_loss) [] [] (He.fAd K ("Joinbook", some "loss")) fd
  d_Joinbook_join : ∃ fd, FunD K "join" "Joinbook.join" (defArgs s_Joinbook_join) (defBody s_Joinbook_join) (defScope s_Joinbook_join) [] [] (He.fAd K ("Joinbook", some "join")) fd
  d_Joinbook_take : ∃ fd, FunD K "take" "Joinbook.take" (defArgs s_Joinbook_take) (defBody s_Joinbook_take) (defScope s_Joinbook_take) [] [] (He.fAd K ("Joinbook", some "take")) fd
  d_Joinbook_finish : ∃ fd, FunD K "finish" "Joinbook.finish" (defArgs s_Joinbook_finish) (defBody s_Joinbook_finish) (defScope s_Joinbook_finish) [] [] (He.fAd K ("Joinbook", some "finish")) fd
  d_Joinbook_len : ∃ fd, FunD K "__len__" "Joinbook.__len__" (defArgs s_Joinbook_len) (defBody s_Joinbook_len) (defScope s_Joinbook_len) [] [] (He.fAd K ("Joinbook", some "__len__")) fd
  d_law_mixed : ∃ fd, FunD K "_law_mixed" "_law_mixed" (defArgs s_law_mixed) (defBody s_law_mixed) (defScope s_law_mixed) [] [] (He.fAd K ("_law_mixed", none)) fd
  d_law_begin : ∃ fd, FunD K "_law_begin" "_law_begin" (defArgs s_law_begin) (defBody s_law_begin) (defScope s_law_begin) [] [] (He.fAd K ("_law_begin", none)) fd
  d_law_draw : ∃ fd, FunD K "_law_draw" "_law_draw" (defArgs s_law_draw) (defBody s_law_draw) (defScope s_law_draw) [] [] (He.fAd K ("_law_draw", none)) fd
  d_law_of : ∃ fd, FunD K "_law_of" "_law_of" (defArgs s_law_of) (defBody s_law_of) (defScope s_law_of) [] [] (He.fAd K ("_law_of", none)) fd
  d_law_entry : ∃ fd, FunD K "_law_entry" "_law_entry" (defArgs s_law_entry) (defBody s_law_entry) (defScope s_law_entry) [] [] (He.fAd K ("_law_entry", none)) fd
  d_law_mass : ∃ fd, FunD K "_law_mass" "_law_mass" (defArgs s_law_mass) (defBody s_law_mass) (defScope s_law_mass) [] [] (He.fAd K ("_law_mass", none)) fd
  d_law_ending : ∃ fd, FunD K "_law_ending" "_law_ending" (defArgs s_law_ending) (defBody s_law_ending) (defScope s_law_ending) [] [] (He.fAd K ("_law_ending", none)) fd
  d_law_after : ∃ fd, FunD K "_law_after" "_law_after" (defArgs s_law_after) (defBody s_law_after) (defScope s_law_after) [] [] (He.fAd K ("_law_after", none)) fd
  d_law_deed : ∃ fd, FunD K "_law_deed" "_law_deed" (defArgs s_law_deed) (defBody s_law_deed) (defScope s_law_deed) [] [] (He.fAd K ("_law_deed", none)) fd
  d_law_due : ∃ fd, FunD K "_law_due" "_law_due" (defArgs s_law_due) (defBody s_law_due) (defScope s_law_due) [] [] (He.fAd K ("_law_due", none)) fd
  d_law_done : ∃ fd, FunD K "_law_done" "_law_done" (defArgs s_law_done) (defBody s_law_done) (defScope s_law_done) [] [] (He.fAd K ("_law_done", none)) fd
  d_law_shows : ∃ fd, FunD K "_law_shows" "_law_shows" (defArgs s_law_shows) (defBody s_law_shows) (defScope s_law_shows) [] [] (He.fAd K ("_law_shows", none)) fd
  d_law_stands : ∃ fd, FunD K "_law_stands" "_law_stands" (defArgs s_law_stands) (defBody s_law_stands) (defScope s_law_stands) [] [] (He.fAd K ("_law_stands", none)) fd
  d_law_told : ∃ fd, FunD K "_law_told" "_law_told" (defArgs s_law_told) (defBody s_law_told) (defScope s_law_told) [] [] (He.fAd K ("_law_told", none)) fd
  d_law_are : ∃ fd, FunD K "_law_are" "_law_are" (defArgs s_law_are) (defBody s_law_are) (defScope s_law_are) [] [] (He.fAd K ("_law_are", none)) fd
  d_law_losses_right : ∃ fd, FunD K "_law_losses_right" "_law_losses_right" (defArgs s_law_losses_right) (defBody s_law_losses_right) (defScope s_law_losses_right) [] [] (He.fAd K ("_law_losses_right", none)) fd
  d_law_doors_right : ∃ fd, FunD K "_law_doors_right" "_law_doors_right" (defArgs s_law_doors_right) (defBody s_law_doors_right) (defScope s_law_doors_right) [] [] (He.fAd K ("_law_doors_right", none)) fd
  d_law_right : ∃ fd, FunD K "_law_right" "_law_right" (defArgs s_law_right) (defBody s_law_right) (defScope s_law_right) [] [] (He.fAd K ("_law_right", none)) fd
  d_law_bounds_right : ∃ fd, FunD K "_law_bounds_right" "_law_bounds_right" (defArgs s_law_bounds_right) (defBody s_law_bounds_right) (defScope s_law_bounds_right) [] [] (He.fAd K ("_law_bounds_right", none)) fd
  d_law : ∃ fd, FunD K "law" "law" (defArgs s_law) (defBody s_law) (defScope s_law) [] [] (He.fAd K ("law", none)) fd
  g_JoinError : mg "JoinError" = some (.ref (He.ga K "JoinError"))
  g_BadNumber : mg "BadNumber" = some (.ref (He.ga K "BadNumber"))
  g_BadTop : mg "BadTop" = some (.ref (He.ga K "BadTop"))
  g_TooMany : mg "TooMany" = some (.ref (He.ga K "TooMany"))
  g_is_integer : mg "is_integer" = some (.ref (He.ga K "is_integer"))
  g_is_between : mg "is_between" = some (.ref (He.ga K "is_between"))
  g_first_in : mg "first_in" = some (.ref (He.ga K "first_in"))
  g_Stand : mg "Stand" = some (.ref (He.ga K "Stand"))
  g_Joinbook : mg "Joinbook" = some (.ref (He.ga K "Joinbook"))
  g_law_mixed : mg "_law_mixed" = some (.ref (He.ga K "_law_mixed"))
  g_law_begin : mg "_law_begin" = some (.ref (He.ga K "_law_begin"))
  g_law_draw : mg "_law_draw" = some (.ref (He.ga K "_law_draw"))
  g_law_of : mg "_law_of" = some (.ref (He.ga K "_law_of"))
  g_law_entry : mg "_law_entry" = some (.ref (He.ga K "_law_entry"))
  g_law_mass : mg "_law_mass" = some (.ref (He.ga K "_law_mass"))
  g_law_ending : mg "_law_ending" = some (.ref (He.ga K "_law_ending"))
  g_law_after : mg "_law_after" = some (.ref (He.ga K "_law_after"))
  g_law_deed : mg "_law_deed" = some (.ref (He.ga K "_law_deed"))
  g_law_due : mg "_law_due" = some (.ref (He.ga K "_law_due"))
  g_law_done : mg "_law_done" = some (.ref (He.ga K "_law_done"))
  g_law_shows : mg "_law_shows" = some (.ref (He.ga K "_law_shows"))
  g_law_stands : mg "_law_stands" = some (.ref (He.ga K "_law_stands"))
  g_law_told : mg "_law_told" = some (.ref (He.ga K "_law_told"))
  g_law_are : mg "_law_are" = some (.ref (He.ga K "_law_are"))
  g_law_losses_right : mg "_law_losses_right" = some (.ref (He.ga K "_law_losses_right"))
  g_law_doors_right : mg "_law_doors_right" = some (.ref (He.ga K "_law_doors_right"))
  g_law_right : mg "_law_right" = some (.ref (He.ga K "_law_right"))
  g_law_bounds_right : mg "_law_bounds_right" = some (.ref (He.ga K "_law_bounds_right"))
  g_law : mg "law" = some (.ref (He.ga K "law"))
  f_len : mg "len" = none
  f_sorted : mg "sorted" = none
  f_sum : mg "sum" = none
  f_all : mg "all" = none
  f_isinstance : mg "isinstance" = none
  f_int : mg "int" = none
  f_bool : mg "bool" = none
  f_tuple : mg "tuple" = none
  f_list : mg "list" = none
  f_range : mg "range" = none
  f_repr : mg "repr" = none
  f_min : mg "min" = none
  f_max : mg "max" = none
  f_OverflowError : mg "OverflowError" = none
  i_weight : ∃ t, mg "MOST_WEIGHT" = some (.int 1000000000 t)
  i_come : ∃ t, mg "MOST_COME" = some (.int 20 t)
  i_tops : ∃ t, mg "MOST_TOPS" = some (.int 8 t)
  s_come : ∃ t, mg "COME" = some (.str "come" t)
  s_join : ∃ t, mg "JOIN" = some (.str "join" t)
  s_take : ∃ t, mg "TAKE" = some (.str "take" t)
  clS : Cls K (He.ga K "Stand")
  clJ : Cls K (He.ga K "Joinbook")
  mkS : Mk K (He.ga K "Stand") (He.ma K (He.ga K "Stand") "__init__")
  mkJ : Mk K (He.ga K "Joinbook") (He.ma K (He.ga K "Joinbook") "__init__")
  n_deed : NoAttr K (He.ga K "Stand") "deed"
  n_weights_come : NoAttr K (He.ga K "Stand") "weights_come"
  n_tops_now : NoAttr K (He.ga K "Stand") "tops_now"
  n_paid_now : NoAttr K (He.ga K "Stand") "paid_now"
  n_own_past : NoAttr K (He.ga K "Joinbook") "own_past"
  m_Stand_weight_in : Meth K (He.ga K "Stand") "weight_in" (He.ma K (He.ga K "Stand") "weight_in")
  m_Stand_finish : Meth K (He.ga K "Stand") "finish" (He.ma K (He.ga K "Stand") "finish")
  m_Stand_come : Meth K (He.ga K "Stand") "come" (He.ma K (He.ga K "Stand") "come")
  m_Stand_joined : Meth K (He.ga K "Stand") "joined" (He.ma K (He.ga K "Stand") "joined")
  m_Stand_taken : Meth K (He.ga K "Stand") "taken" (He.ma K (He.ga K "Stand") "taken")
  m_Joinbook_go_on : Meth K (He.ga K "Joinbook") "go_on" (He.ma K (He.ga K "Joinbook") "go_on")
  m_Joinbook_come : Meth K (He.ga K "Joinbook") "come" (He.ma K (He.ga K "Joinbook") "come")
  m_Joinbook_tops : Meth K (He.ga K "Joinbook") "tops" (He.ma K (He.ga K "Joinbook") "tops")
  m_Joinbook_is_top : Meth K (He.ga K "Joinbook") "is_top" (He.ma K (He.ga K "Joinbook") "is_top")
  m_Joinbook_need_top : Meth K (He.ga K "Joinbook") "need_top" (He.ma K (He.ga K "Joinbook") "need_top")
  m_Joinbook_need_two : Meth K (He.ga K "Joinbook") "need_two" (He.ma K (He.ga K "Joinbook") "need_two")
  m_Joinbook_weight : Meth K (He.ga K "Joinbook") "weight" (He.ma K (He.ga K "Joinbook") "weight")
  m_Joinbook_loss : Meth K (He.ga K "Joinbook") "loss" (He.ma K (He.ga K "Joinbook") "loss")
  m_Joinbook_join : Meth K (He.ga K "Joinbook") "join" (He.ma K (He.ga K "Joinbook") "join")
  m_Joinbook_take : Meth K (He.ga K "Joinbook") "take" (He.ma K (He.ga K "Joinbook") "take")
  m_Joinbook_finish : Meth K (He.ga K "Joinbook") "finish" (He.ma K (He.ga K "Joinbook") "finish")
  m_Joinbook_len : Meth K (He.ga K "Joinbook") "__len__" (He.ma K (He.ga K "Joinbook") "__len__")
  pr : PropOf K (He.ga K "Joinbook") "paid" (He.ma K (He.ga K "Joinbook") "paid") (paidF K)
  sysd : SysD K
  e_number : ErrF K veT "ValueError.__new__" "given" (He.ga K "BadNumber") (He.ma K (He.ga K "BadNumber") "__init__")
  e_top : ErrF K veT "ValueError.__new__" "given" (He.ga K "BadTop") (He.ma K (He.ga K "BadTop") "__init__")
  e_many : ErrF K oeT "OverflowError.__new__" "most" (He.ga K "TooMany") (He.ma K (He.ga K "TooMany") "__init__")
  x_nn : PySem.W.exmOne K (.ref (He.ga K "BadNumber")) (.ref (He.ga K "BadNumber")) = some true
  x_tn : PySem.W.exmOne K (.ref (He.ga K "BadTop")) (.ref (He.ga K "BadNumber")) = some false
  x_tt : PySem.W.exmOne K (.ref (He.ga K "BadTop")) (.ref (He.ga K "BadTop")) = some true
  x_mn : PySem.W.exmOne K (.ref (He.ga K "TooMany")) (.ref (He.ga K "BadNumber")) = some false
  x_mt : PySem.W.exmOne K (.ref (He.ga K "TooMany")) (.ref (He.ga K "BadTop")) = some false
  x_mm : PySem.W.exmOne K (.ref (He.ga K "TooMany")) (.ref (He.ga K "TooMany")) = some true
  j_rd : PySem.W.readsIn K (He.ga K "JoinError") (.type "type") = true
  j_ga : PySem.W.specialIn K (.ref (He.ga K "JoinError")) "__getattribute__" = some (some (.builtin "type.__getattribute__"))
  j_in : PySem.W.findCls K (.ref (He.ga K "JoinError")) (.type "type") "__init__" = some (.val (.builtin "ValueError.__init__"))
  o_in : PySem.W.findCls K (.type "OverflowError") (.type "type") "__init__" = some (.val (.builtin "OverflowError.__init__"))

/-! ### a def by its address -/
structure Def (P : Program) (w : World) (K : PySem.W.Frag) (mg : Str → Option Value) (base : Heap) (CX : CXT) (k : Nat) (f : Addr) (sp : Sp) : Prop where
  ex : ∃ fd ps, FnOk P w K mg base CX k f fd ps sp ∧ PySem.W.keepIn K (.ref f) = true ∧ Binds K fd ps []
section
variable {P : Program} {w : World} {K : PySem.W.Frag} {mg : Str → Option Value} {base : Heap}
theorem Def.mono {CX : CXT} {j k : Nat} {f : Addr} {sp : Sp} (D : Def P w K mg base CX j f sp) (h : j ≤ k) : Def P w K mg base CX k f sp := by
  obtain ⟨fd, ps, F, hk, hb⟩ := D.ex
  exact ⟨fd, ps, F.mono h, hk, hb⟩
theorem defX {CX : CXT} {N ps : List Str} {k : Nat} {sp : Sp} {f : Addr} {st : Stmt} {x qual : Str} (F : ∃ fd, FunD K x qual (defArgs st) (defBody st) (defScope st) [] [] f fd) (S : FnScope N ps (defScope st))
    (hbind : ∀ (kV doc pm : Value) (an : Option Addr) (cdv ct : Value) (us : List Value), us.length = ps.length → bindArgs (PySem.W.fnOf x qual (defArgs st) (defBody st) (defScope st) .none kV doc pm an cdv ct) ⟨us, []⟩ = pure (ps.zip us))
    (len : ∀ vs H Q E, sp vs H Q E → vs.length = ps.length)
    (hbody : ∀ (cdv : Value) (A : Around) (outer : List Env) (s : Shared) (H : Hp) (vs : List V) (Q : VK) (E : XK), Room k (A.deeper (envOfC qual (defScope st) s.heap.objs.size f cdv)) → sp vs H Q E →
      ∃ t, PSs (cxOf CX P w K mg base N qual (defScope st) f cdv A outer s H E) (defBody st) t ∧ t { nx := fun _ H' => Q .non H', rt := Q } (start N vs) H) : Def P w K mg base CX (k + 1) f sp := by
  obtain ⟨fd, F⟩ := F
  exact ⟨fd, ps, F.ok S len hbody, F.kp, F.bindsN hbind⟩
theorem def0 {N ps : List Str} {k : Nat} {sp : Sp} {f : Addr} {st : Stmt} {x qual : Str} (F : ∃ fd, FunD K x qual (defArgs st) (defBody st) (defScope st) [] [] f fd) (S : FnScope N ps (defScope st))
    (hbind : ∀ (kV doc pm : Value) (an : Option Addr) (cdv ct : Value) (us : List Value), us.length = ps.length → bindArgs (PySem.W.fnOf x qual (defArgs st) (defBody st) (defScope st) .none kV doc pm an cdv ct) ⟨us, []⟩ = pure (ps.zip us))
    (len : ∀ vs H Q E, sp vs H Q E → vs.length = ps.length)
    (hbody : ∀ (cdv : Value) (A : Around) (outer : List Env) (s : Shared) (H : Hp) (vs : List V) (Q : VK) (E : XK), Room k (A.deeper (envOfC qual (defScope st) s.heap.objs.size f cdv)) → sp vs H Q E →
      ∃ t, PSs (cxOf CX0 P w K mg base N qual (defScope st) f cdv A outer s H E).nox (defBody st) t ∧ t { nx := fun _ H' => Q .non H', rt := Q } (start N vs) H) : Def P w K mg base CX0 (k + 1) f sp :=
  defX F S hbind len fun cdv A outer s H vs Q E hr hsp => let ⟨t, h, q⟩ := hbody cdv A outer s H vs Q E hr hsp; ⟨t, h.nox, q⟩
end
section
variable {X : Cx} {CX : CXT} {k : Nat} {f C : Addr} {sp : Sp} {E : XK} {x m : Str} {p pos apos : Pos} {e o : Expr} {es : List Expr} {ta : TE} {t : TA}
/-- f(e, ..) -/
theorem pe_cd (D : Def X.prog X.w X.K X.mg X.base CX k f sp) (hr : Room k X.A) (hm : X.mg x = some (.ref f)) (hx : Passes CX X E) (ha : PA X (e :: es) t) (hg : Gl X x := by rfl)
    (hdb : (x == ("__debug__" : Str)) = false := by decide) (he : starEach (e :: es) X.env = (false, eval e X.env) :: starEach es X.env := by rfl) (hpl : (backTo pos (starEach es X.env)).any (·.1) = false := by rfl) :
    PE X (.Call (.Name x p) (e :: es) [] pos) (tCall sp [] E t) := by
  obtain ⟨fd, ps, F, hk, hb⟩ := D.ex
  exact pe_call F hr hg hm hk hb .nil hx ha hdb he hpl
theorem pe_cd0 (D : Def X.prog X.w X.K X.mg X.base CX k f sp) (hr : Room k X.A) (hm : X.mg x = some (.ref f)) (hx : Passes CX X E) (hg : Gl X x := by rfl) (hdb : (x == ("__debug__" : Str)) = false := by decide) :
    PE X (.Call (.Name x p) [] [] pos) (tCall sp [] E tNil) := by
  obtain ⟨fd, ps, F, hk, hb⟩ := D.ex
  exact pe_call0 F hr hg hm hk hb .nil hx hdb
/-- o.m(e, ..) -/
theorem pe_md {pl : Sem Bool} (he : PE X o ta) (c : Cls X.K C) (hm : Meth X.K C m f) (D : Def X.prog X.w X.K X.mg X.base CX k f sp) (hr : Room k X.A) (hx : Passes CX X E) (ha : PA X (e :: es) t)
    (hst : starEach (e :: es) X.env = (false, eval e X.env) :: starEach es X.env := by rfl) (hpl : (backTo pos (starEach es X.env)).any (·.1) = false := by rfl)
    (ht : eval (.Call (.Attribute o m apos) (e :: es) [] pos) X.env = (do
      let ov ← eval o X.env
      standAt apos.atName
      let (f, first) ← holding [ov] (getMethod ov m pl)
      callWith pos f first (backTo pos (starEach (e :: es) X.env)) (backToKw pos (keywordEach [] X.env))) := by rfl) :
    PE X (.Call (.Attribute o m apos) (e :: es) [] pos) (tMeth C m sp [] E ta t) := by
  obtain ⟨fd, ps, F, hk, hb⟩ := D.ex
  exact pe_meth he c hm F hr hb .nil hx ha hst hpl ht
theorem pe_md0 {pl : Sem Bool} (he : PE X o ta) (c : Cls X.K C) (hm : Meth X.K C m f) (D : Def X.prog X.w X.K X.mg X.base CX k f sp) (hr : Room k X.A) (hx : Passes CX X E)
    (ht : eval (.Call (.Attribute o m apos) [] [] pos) X.env = (do
      let ov ← eval o X.env
      standAt apos.atName
      let (f, first) ← holding [ov] (getMethod ov m pl)
      callWith pos f first (backTo pos (starEach [] X.env)) (backToKw pos (keywordEach [] X.env))) := by rfl) :
    PE X (.Call (.Attribute o m apos) [] [] pos) (tMeth C m sp [] E ta tNil) := by
  obtain ⟨fd, ps, F, hk, hb⟩ := D.ex
  exact pe_meth0 he c hm F hr hb .nil hx ht
/-- C(e, ..) -/
theorem pe_new (M : Mk X.K C f) (D : Def X.prog X.w X.K X.mg X.base CX k f sp) (hr : Room (k + 1) X.A) (hm : X.mg x = some (.ref C)) (hx : Passes CX X E) (ha : PA X (e :: es) t) (hg : Gl X x := by rfl)
    (hdb : (x == ("__debug__" : Str)) = false := by decide) (he : starEach (e :: es) X.env = (false, eval e X.env) :: starEach es X.env := by rfl) (hpl : (backTo pos (starEach es X.env)).any (·.1) = false := by rfl) :
    PE X (.Call (.Name x p) (e :: es) [] pos) (tMake C sp [] E t) := by
  obtain ⟨fd, ps, F, hk, hb⟩ := D.ex
  exact pe_make M F hr hg hm hb .nil hx ha hdb he hpl
theorem pe_new0 (M : Mk X.K C f) (D : Def X.prog X.w X.K X.mg X.base CX k f sp) (hr : Room (k + 1) X.A) (hm : X.mg x = some (.ref C)) (hx : Passes CX X E) (hg : Gl X x := by rfl) (hdb : (x == ("__debug__" : Str)) = false := by decide) :
    PE X (.Call (.Name x p) [] [] pos) (tMake C sp [] E tNil) := by
  obtain ⟨fd, ps, F, hk, hb⟩ := D.ex
  exact pe_make0 M F hr hg hm hb .nil hx hdb
end
end JB
set_option Elab.async false
set_option linter.all false
set_option maxRecDepth 100000
set_option maxHeartbeats 4000000
namespace JB
open PySem PySem.Spec PyProof.Rows L2
/-! ### what kind a thing is -/
inductive Kn (H : Hp) : V → String → Prop
  | non : Kn H .non "NoneType"
  | bl (b : Bool) : Kn H (.bl b) "bool"
  | int (i : Int) : Kn H (.int i) "int"
  | str (x : Str) : Kn H (.str x) "str"
  | lst {a : Addr} {xs : List V} : H a = some (.lst xs) → Kn H (.ref a) "list"
  | tup {a : Addr} {xs : List V} : H a = some (.tup xs) → Kn H (.ref a) "tuple"
  | dic {a : Addr} {kvs : List (Key × V)} : H a = some (.dK kvs) → Kn H (.ref a) "dict"
theorem Kn.ty {K : PySem.W.Frag} {H : Hp} {x : V} {t : String} (h : Kn H x t) : TyX K H x (.type t) := by
  cases h with
  | non => exact .base .non
  | bl b => exact .base (.bl b)
  | int i => exact .base (.int i)
  | str x => exact .base (.str x)
  | lst e => exact .base (.lst e)
  | tup e => exact .base (.tup e)
  | dic e => exact .base (.dK e)
theorem Kn.same {H H' : Hp} (s : Same H H') {x : V} {t : String} (h : Kn H x t) : Kn H' x t := by
  cases h with
  | non => exact .non
  | bl b => exact .bl b
  | int i => exact .int i
  | str x => exact .str x
  | lst e => exact .lst (s _ _ e)
  | tup e => exact .tup (s _ _ e)
  | dic e => exact .dic (s _ _ e)
def isI : V → Bool
  | .int _ => true
  | _ => false
/-- what isinstance(x, T) answers -/
theorem Kn.isi {K : PySem.W.Frag} {H : Hp} {x : V} {t : String} (h : Kn H x t) : PySem.W.kitOne K (.type t) (.type "int") = some (t == "int" || t == "bool") ∧ PySem.W.kitOne K (.type t) (.type "bool") = some (t == "bool") ∧ PySem.W.kitOne K (.type t) (.type "tuple") = some (t == "tuple") := by
  cases h <;> exact ⟨kit_ty (by decide +kernel), kit_ty (by decide +kernel), kit_ty (by decide +kernel)⟩
theorem Kn.isI {H : Hp} {x : V} {t : String} (h : Kn H x t) : JB.isI x = (t == "int") := by
  cases h <;> rfl

def spIsInt : Sp := fun vs H Q _ => ∃ x t, vs = [x] ∧ Kn H x t ∧ Q (.bl (isI x)) H
section
variable {P : Program} {w : World} {K : PySem.W.Frag} {mg : Str → Option Value} {base : Heap}
theorem ok_is_integer (T : Txt K mg) : Def P w K mg base CX0 1 (He.ga K "is_integer") spIsInt := by
  refine def0 T.d_is_integer sc_is_integer (fun _ _ _ _ _ _ us hl => match us, hl with | [_], _ => rfl) (fun vs H Q E h => ?_) (fun cdv A outer s H vs Q E hr h => ?_)
  · obtain ⟨x, t, rfl, _⟩ := h
    rfl
  · obtain ⟨x, t, rfl, hk, q⟩ := h
    refine ⟨_, pss_one (ps_ret (pe_and (pe_callB call_isi rfl T.f_isinstance (by decide +kernel) (pa_cons (pv 0) (pa_cons (pe_bltn (v := .ty "int") rfl T.f_int (by decide +kernel) rfl) pa_nil)))
      (pe_one (pe_not (pe_callB call_isi rfl T.f_isinstance (by decide +kernel) (pa_cons (pv 0) (pa_cons (pe_bltn (v := .ty "bool") rfl T.f_bool (by decide +kernel) rfl) pa_nil))))))), ?_⟩
    obtain ⟨h1, h2, _⟩ := hk.isi (K := K)
    refine ⟨_, rfl, x, _, _, _, _, rfl, .ty "int", hk.ty, h1, _, rfl, ?_⟩
    rw [hk.isI] at q
    by_cases e : t = "int" ∨ t = "bool"
    · have e1 : (t == "int" || t == "bool") = true := by
        rcases e with e | e <;> rw [e] <;> rfl
      rw [e1]
      refine iteT ⟨_, rfl, x, _, _, _, _, rfl, .ty "bool", hk.ty, h2, _, rfl, ?_⟩
      have e2 : (!(t == "bool")) = (t == "int") := by
        rcases e with e | e <;> rw [e] <;> rfl
      rw [e2]
      exact q
    · have e1 : (t == "int" || t == "bool") = false := by
        simp only [not_or] at e
        simp [e.1, e.2]
      rw [e1]
      refine iteF ?_
      have e2 : (t == "int") = false := by
        simp only [not_or] at e
        simp [e.1]
      rw [e2] at q
      exact q
/-- is_between(thing, least, most) of ints least, most -/
def isB (x : V) (lo hi : Int) : Bool := match x with
  | .int i => decide (lo ≤ i) && decide (i ≤ hi)
  | _ => false
def spIsBet : Sp := fun vs H Q _ => ∃ x t lo hi, vs = [x, .int lo, .int hi] ∧ Kn H x t ∧ Q (.bl (isB x lo hi)) H
theorem ok_is_between (T : Txt K mg) : Def P w K mg base CX0 2 (He.ga K "is_between") spIsBet := by
  have D := ok_is_integer (P := P) (w := w) (base := base) T
  refine def0 T.d_is_between sc_is_between (fun _ _ _ _ _ _ us hl => match us, hl with | [_, _, _], _ => rfl) (fun vs H Q E h => ?_) (fun cdv A outer s H vs Q E hr h => ?_)
  · obtain ⟨x, t, lo, hi, rfl, _⟩ := h
    rfl
  · obtain ⟨x, t, lo, hi, rfl, hk, q⟩ := h
    refine ⟨_, pss_one (ps_ret (pe_and (pe_cd D hr T.g_is_integer pass0 (pa_cons (pv 0) pa_nil)) (pe_one (pe_chain op_le op_le (pv 1) (pv 0) (pv 2))))), ?_⟩
    refine ⟨_, rfl, x, t, rfl, hk, _, rfl, ?_⟩
    cases x with
    | int i =>
      refine iteT ?_
      have q' : Q (.bl (decide (lo ≤ i) && decide (i ≤ hi))) H := q
      refine ⟨_, rfl, _, rfl, _, _, rfl, rfl, _, rfl, ?_⟩
      by_cases hlo : lo ≤ i
      · rw [decide_eq_true hlo] at q' ⊢
        exact iteT ⟨_, rfl, _, _, rfl, rfl, q'⟩
      · rw [decide_eq_false hlo] at q' ⊢
        exact iteF q'
    | _ => exact iteF q
end
end JB
set_option Elab.async false
set_option linter.all false
set_option maxRecDepth 100000
set_option maxHeartbeats 4000000
namespace JB
open PySem PySem.Spec PyProof.Rows L2
theorem cutV_from {α : Type} (xs : List V) (n : Nat) (h : n ≤ xs.length) : cutV xs (some (n : Int)) none = xs.drop n := by
  unfold cutV
  have e1 : HT.sIx xs.length 0 (some (n : Int)) = n := by
    simp only [HT.sIx]
    first
      | omega
      | (split <;> omega)
      | simp <;> omega
  have e2 : HT.sIx xs.length xs.length none = xs.length := rfl
  rw [e1, e2, ← List.length_drop, List.take_length]
theorem at0 {xs : List V} {v : V} (h : xs[0]? = some v) : atI xs 0 = some v := atI_nat (j := 0) h
theorem at1 {xs : List V} {v : V} (h : xs[1]? = some v) : atI xs 1 = some v := atI_nat (j := 1) h
/-- the joins' sums, by a list of ints -/
def spFirst : Sp := fun vs H Q _ => ∃ a ns, vs = [V.ref a] ∧ H a = some (.lst (ns.map V.int)) ∧ ns.length ≤ 100 ∧
  ∀ H' p, Same H H' → H p = none → H' p = some (.lst ((Huf.firsts ns.length (Huf.srt ns)).map V.int)) → Q (.ref p) H'
section
variable {P : Program} {w : World} {K : PySem.W.Frag} {mg : Str → Option Value} {base : Heap}
theorem ok_first_in (T : Txt K mg) : Def P w K mg base CX0 1 (He.ga K "first_in") spFirst := by
  refine def0 T.d_first_in sc_first_in (fun _ _ _ _ _ _ us hl => match us, hl with | [_], _ => rfl) (fun vs H Q E h => ?_) (fun cdv A outer s H vs Q E hr h => ?_)
  · obtain ⟨a, ns, rfl, _⟩ := h
    rfl
  · obtain ⟨a, ns, rfl, ha, hlen, k⟩ := h
    have nd := sc_first_in.nd
    have hu := hr.units
    refine ⟨_, pss_cons (ps_par (i := 1) (j := 2) (by rfl) nd rfl rfl (by decide) rfl rfl (pa_cons (pe_callB (cr_sortI hu) rfl T.f_sorted boot_sorted (pa_cons (pv 0) pa_nil)) (pa_cons (pe_lst pa_nil) pa_nil)) (by rfl))
      (pss_cons (ps_while PassesOwn.never (pt_cmpR op_gt (pe_callB call_len_seq rfl T.f_len boot_len (pa_cons (pv 1) pa_nil)) pe_int (nomark _))
        (pss_cons (ps_expr (pe_bm PySem.F.plainAttrs_list PySem.F.slot_list_append PySem.F.type_list_append mt_append (pv 2) (pa_cons (pe_op op_add (pe_ix ix_list (pv 1) pe_int (fun _ _ => rfl)) (pe_ix ix_list (pv 1) pe_int (fun _ _ => rfl))) pa_nil)))
        (pss_one (ps_set (i := 1) nd rfl (Or.inl rfl) (pe_callB (cr_sortI hu) rfl T.f_sorted boot_sorted (pa_cons (pe_lst (StX.pa_star (pe_slice sl_list (pv 1) (po_some pe_int) po_none) (pa_cons (pe_ix ix_list (pv 2) (pe_un un_neg pe_int) (fun _ _ => rfl)) pa_nil))) pa_nil))))))
      (pss_one (ps_ret (pv 2)))), ?_⟩
    -- left, found = sorted(heaps), []
    refine ⟨_, rfl, a, ns, rfl, .inl ha, by omega, fun l hl => ?_⟩
    refine ⟨(by show 0 ≤ sizeLine; decide), fun f hf => ⟨_, _, rfl, ?_⟩⟩
    have s0 : Same H (upd (upd H l (.lst ((Huf.srt ns).map V.int))) f (.lst [])) := (same_upd hl).trans (same_upd hf)
    have nlf : l ≠ f := ne_of_none upd_same hf
    have hf0 : H f = none := (same_upd hl).free hf
    -- while len(left) > 1
    refine ⟨fun m σ H2 => ∃ l left done, σ = [some (.ref a), some (.ref l), some (.ref f)] ∧ m = left.length ∧ Same H H2 ∧ H2 l = some (.lst (left.map V.int)) ∧ H2 f = some (.lst (done.map V.int)) ∧ l ≠ f ∧
      done ++ Huf.firsts left.length left = Huf.firsts ns.length (Huf.srt ns) ∧ done.length + left.length ≤ 100, ⟨_, l, Huf.srt ns, [], rfl, rfl, s0, by rw [upd_ne nlf]; exact upd_same, upd_same, nlf, by rw [Huf.srt_len]; rfl, by rw [Huf.srt_len]; simp; omega⟩, ?_⟩
    rintro m σ H2 ⟨l, left, done, rfl, rfl, s2, h1, h2, n2, eq, hz⟩
    refine ⟨_, rfl, l, _, rfl, .inl (SqL.of h1), _, _, rfl, rfl, _, rfl, ?_⟩
    rw [List.length_map]
    by_cases hl2 : (1 : Int) < (left.length : Int)
    · rw [decide_eq_true hl2]
      obtain ⟨x, y, r, rfl⟩ : ∃ x y r, left = x :: y :: r := by
        match left, hl2 with
        | x :: y :: r, _ => exact ⟨x, y, r, rfl⟩
        | [], h => simp at h
        | [x], h => simp at h
      refine iteT ⟨fun σ' H' => ∃ l left' done', σ' = [some (.ref a), some (.ref l), some (.ref f)] ∧ r.length + 1 = left'.length ∧ Same H H' ∧ H' l = some (.lst (left'.map V.int)) ∧ H' f = some (.lst (done'.map V.int)) ∧ l ≠ f ∧
        done' ++ Huf.firsts left'.length left' = Huf.firsts ns.length (Huf.srt ns) ∧ done'.length + left'.length ≤ 100, fun σ' H' q => ⟨r.length + 1, by simp, q⟩, ?_⟩
      -- found.append(left[0] + left[1])
      refine ⟨_, rfl, .inl ⟨rfl, _, SqL.of h2⟩, _, rfl, l, _, _, _, rfl, rfl, SqL.of h1, at0 rfl, _, rfl, l, _, _, _, rfl, rfl, SqL.of h1, at1 rfl, _, _, rfl, rfl, f, _, _, rfl, rfl, h2, ?_, ?_⟩
      · rw [List.length_map, sizeLine_eq]
        omega
      have h1' : upd H2 f (.lst (done.map V.int ++ [V.int (x + y)])) l = some (.lst ((x :: y :: r).map V.int)) := by rw [upd_ne n2]; exact h1
      -- left = sorted([*left[2:], found[-1]])
      refine ⟨_, rfl, _, rfl, l, _, rfl, SqL.of h1', fun p hp => ⟨_, _, rfl, .inr (SqL.of upd_same), ?_⟩⟩
      have nfp : f ≠ p := ne_of_none upd_same hp
      have e0 : cutV (List.map V.int (x :: y :: r)) (some 2) none = r.map V.int := cutV_from (α := Nat) _ 2 (by simp)
      refine ⟨_, rfl, 1, rfl, f, _, -1, _, rfl, rfl, SqL.of (by rw [upd_ne nfp]; exact upd_same), atI_last _ _, ?_, fun q hq => ?_⟩
      · rw [e0, sizeLine_eq]
        simp at hz ⊢
        omega
      refine ⟨q, r ++ [x + y], rfl, .inl ?_, by simp at hz ⊢; omega, fun u hu' => ?_⟩
      · rw [upd_same, e0]
        simp
      have sp : Same H2 (upd (upd H2 f (.lst (done.map V.int ++ [V.int (x + y)]))) p (.lst (cutV (List.map V.int (x :: y :: r)) (some 2) none))) → True := fun _ => trivial
      have nfq : f ≠ q := ne_of_none (show upd (upd H2 f (.lst (done.map V.int ++ [V.int (x + y)]))) p _ f = some _ from by rw [upd_ne nfp]; exact upd_same) hq
      have nfu : f ≠ u := ne_of_none (show upd (upd (upd H2 f (.lst (done.map V.int ++ [V.int (x + y)]))) p _) q _ f = some _ from by rw [upd_ne nfq, upd_ne nfp]; exact upd_same) hu'
      refine ⟨u, Huf.srt (r ++ [x + y]), done ++ [x + y], rfl, by rw [Huf.srt_len]; simp, ?_, upd_same, ?_, Ne.symm nfu, ?_, ?_⟩
      · intro b o hb
        have nbf : b ≠ f := ne_of_none hb hf0
        have b1 : upd H2 f (.lst (done.map V.int ++ [V.int (x + y)])) b = some o := by rw [upd_ne nbf]; exact s2 _ _ hb
        have b2 := same_upd hp (o := .lst (cutV (List.map V.int (x :: y :: r)) (some 2) none)) _ _ b1
        have b3 := same_upd hq (o := .lst (cutV (List.map V.int (x :: y :: r)) (some 2) none ++ [V.int (x + y)])) _ _ b2
        exact same_upd hu' _ _ b3
      · rw [upd_ne nfu, upd_ne nfq, upd_ne nfp, upd_same]
        simp
      · rw [← eq, Huf.srt_len]
        simp [Huf.firsts]
      · rw [Huf.srt_len]
        simp at hz ⊢
        omega
    · rw [decide_eq_false hl2]
      refine iteF ⟨_, rfl, ?_⟩
      have e : Huf.firsts left.length left = [] := by
        match left, hl2 with
        | [], _ => rfl
        | [x], _ => rfl
        | x :: y :: r, h => exact absurd (show (1 : Int) < ((x :: y :: r).length : Int) from by simp; omega) h
      rw [e, List.append_nil] at eq
      exact k H2 f s2 hf0 (by rw [h2, eq])
end
end JB
set_option Elab.async false
set_option linter.all false
set_option maxRecDepth 100000
set_option maxHeartbeats 4000000
/-! The mirror: what stands in a book, as plain lists. -/
namespace JB
open PySem PySem.Spec PyProof.Rows L2
structure Std where
  loads : List Int
  tops : List (List Int)
  paid : Int
def wt (loads : List Int) (top : List Int) : Int := (top.map fun i => loads.getD i.toNat 0).sum
def InR (n : Nat) (top : List Int) : Prop := ∀ i ∈ top, 0 ≤ i ∧ i < (n : Int)
def Std.wt (S : Std) (top : List Int) : Int := JB.wt S.loads top
def Std.ws (S : Std) : List Int := S.tops.map S.wt
def Std.fin (S : Std) : Int := S.paid + Huf.hsum S.ws
def Std.come (S : Std) (w : Int) : Std := ⟨S.loads ++ [w], sT (S.tops ++ [[(S.loads.length : Int)]]), S.paid⟩
def both (t o : List Int) : List Int := Huf.srt (t ++ o)
def Std.joined (S : Std) (t o : List Int) : Std := ⟨S.loads, sT ((S.tops.filter fun x => !decide (x ∈ [t, o])) ++ [both t o]), S.paid + S.wt (both t o)⟩
def Std.taken (S : Std) (t : List Int) : Std := ⟨S.loads, S.tops.filter fun x => !decide (x = t), S.paid⟩
def std0 : Std := ⟨[], [], 0⟩
/-- what the program needs of what stands -/
structure Good (S : Std) : Prop where
  n20 : S.loads.length ≤ 20
  n8 : S.tops.length ≤ 8
  inr : ∀ t ∈ S.tops, InR S.loads.length t
  ne : ∀ t ∈ S.tops, t ≠ []
  short : ∀ t ∈ S.tops, t.length ≤ 20

/-! ### on the heap -/
def sF (dd wc tn pd : V) : List (Str × V) := [("deed", dd), ("weights_come", wc), ("tops_now", tn), ("paid_now", pd)]
def StandAt (C : Addr) (H : Hp) (v : V) (S : Std) : Prop := ∃ s dx dd wc tn, v = .ref s ∧ H s = some (.ins C dx (sF dd wc tn (.int S.paid))) ∧ TI H wc S.loads ∧ TT H tn S.tops
theorem StandAt.same {C : Addr} {H H' : Hp} (e : Same H H') {v : V} {S : Std} (h : StandAt C H v S) : StandAt C H' v S := by
  obtain ⟨s, dx, dd, wc, tn, h1, h2, h3, h4⟩ := h
  exact ⟨s, dx, dd, wc, tn, h1, e _ _ h2, h3.ext (Ext.of e), h4.ext (Ext.of e)⟩
def bF (p : V) : List (Str × V) := [("own_past", p)]
/-- a book at p: n deeds done, S stands -/
def BookAt (C D : Addr) (H : Hp) (p : Addr) (n : Nat) (S : Std) : Prop := ∃ dx t pre sv, H p = some (.ins D dx (bF (.ref t))) ∧ H t = some (.tup (pre ++ [sv])) ∧ pre.length = n ∧ StandAt C H sv S
theorem BookAt.same {C D : Addr} {H H' : Hp} (e : Same H H') {p : Addr} {n : Nat} {S : Std} (h : BookAt C D H p n S) : BookAt C D H' p n S := by
  obtain ⟨dx, t, pre, sv, h1, h2, h3, h4⟩ := h
  exact ⟨dx, t, pre, sv, e _ _ h1, e _ _ h2, h3, h4.same e⟩
end JB
set_option Elab.async false
set_option linter.all false
set_option maxRecDepth 100000
set_option maxHeartbeats 4000000
namespace JB
open PySem PySem.Spec PyProof.Rows L2
section
variable {P : Program} {w : World} {K : PySem.W.Frag} {mg : Str → Option Value} {base : Heap}
/-! ### the errors' __init__ -/
theorem ok_number_init (T : Txt K mg) : Def P w K mg base CX0 1 (He.ma K (He.ga K "BadNumber") "__init__") (spErr "given" (He.ga K "BadNumber")) := by
  refine def0 T.d_BadNumber_init sc_BadNumber_init (fun _ _ _ _ _ _ us hl => match us, hl with | [_, _], _ => rfl) (fun vs H Q E h => ?_) (fun cdv A outer s H vs Q E hr h => ?_)
  · obtain ⟨a, v, rfl, _⟩ := h
    rfl
  · obtain ⟨a, v, rfl, ha, k⟩ := h
    refine ⟨_, pss_cons (ps_expr (pe_initJ tl_ve rfl T.g_JoinError T.j_rd T.j_ga T.j_in (by decide +kernel) (pa_cons (pv 0) (pa_cons pe_str pa_nil)))) (pss_one (ps_ostG tl_ve (pv 0) (pv 1))), ?_⟩
    exact ⟨_, rfl, a, _, _, rfl, (by show 1 ≤ 1000; omega), T.e_number.ox, ha, _, rfl, _, rfl, a, _, rfl, T.e_number.ox, T.e_number.no, ha, k⟩
theorem ok_top_init (T : Txt K mg) : Def P w K mg base CX0 1 (He.ma K (He.ga K "BadTop") "__init__") (spErr "given" (He.ga K "BadTop")) := by
  refine def0 T.d_BadTop_init sc_BadTop_init (fun _ _ _ _ _ _ us hl => match us, hl with | [_, _], _ => rfl) (fun vs H Q E h => ?_) (fun cdv A outer s H vs Q E hr h => ?_)
  · obtain ⟨a, v, rfl, _⟩ := h
    rfl
  · obtain ⟨a, v, rfl, ha, k⟩ := h
    refine ⟨_, pss_cons (ps_expr (pe_initJ tl_ve rfl T.g_JoinError T.j_rd T.j_ga T.j_in (by decide +kernel) (pa_cons (pv 0) (pa_cons pe_str pa_nil)))) (pss_one (ps_ostG tl_ve (pv 0) (pv 1))), ?_⟩
    exact ⟨_, rfl, a, _, _, rfl, (by show 1 ≤ 1000; omega), T.e_top.ox, ha, _, rfl, _, rfl, a, _, rfl, T.e_top.ox, T.e_top.no, ha, k⟩
theorem ok_many_init (T : Txt K mg) : Def P w K mg base CX0 1 (He.ma K (He.ga K "TooMany") "__init__") (spErr "most" (He.ga K "TooMany")) := by
  refine def0 T.d_TooMany_init sc_TooMany_init (fun _ _ _ _ _ _ us hl => match us, hl with | [_, _], _ => rfl) (fun vs H Q E h => ?_) (fun cdv A outer s H vs Q E hr h => ?_)
  · obtain ⟨a, v, rfl, _⟩ := h
    rfl
  · obtain ⟨a, v, rfl, ha, k⟩ := h
    refine ⟨_, pss_cons (ps_expr (pe_initB tl_oe rfl T.f_OverflowError (by decide +kernel) (by kernel_rfl) (by decide +kernel) T.o_in (by decide +kernel) (pa_cons (pv 0) (pa_cons pe_str pa_nil)))) (pss_one (ps_ostG tl_oe (pv 0) (pv 1))), ?_⟩
    exact ⟨_, rfl, a, _, _, rfl, (by show 1 ≤ 1000; omega), T.e_many.ox, ha, _, rfl, _, rfl, a, _, rfl, T.e_many.ox, T.e_many.no, ha, k⟩
end
/-! ### raising -/
section
variable {X : Cx} {e : Expr} {ta : TA} {p pos pos2 : Pos} {W : WX}
theorem ps_number (T : Txt X.K X.mg) (hc : X.calm = true) (hr : Room 2 X.A) (tk : Takes X W) (ha : PA X [e] ta) (hg : Gl X "BadNumber" := by rfl) (he : starEach (e :: []) X.env = (false, eval e X.env) :: starEach [] X.env := by rfl) (hpl : (backTo pos (starEach [] X.env)).any (·.1) = false := by rfl) :
    PS X (.Raise (some (.Call (.Name "BadNumber" p) [e] [] pos)) none pos2) (fun _ σ H => tMkE (He.ga X.K "BadNumber") "given" ta σ H fun cls d H' => W cls d σ H') := by
  obtain ⟨fd, ps, F, hk, hb⟩ := (ok_number_init (P := X.prog) (w := X.w) (base := X.base) T).ex
  exact ps_raise hc tk (pmk_err tl_ve T.e_number.ox T.e_number.init T.e_number.tI F hr hb pass0 hg T.g_BadNumber ha (by decide) he hpl)
theorem ps_top (T : Txt X.K X.mg) (hc : X.calm = true) (hr : Room 2 X.A) (tk : Takes X W) (ha : PA X [e] ta) (hg : Gl X "BadTop" := by rfl) (he : starEach (e :: []) X.env = (false, eval e X.env) :: starEach [] X.env := by rfl) (hpl : (backTo pos (starEach [] X.env)).any (·.1) = false := by rfl) :
    PS X (.Raise (some (.Call (.Name "BadTop" p) [e] [] pos)) none pos2) (fun _ σ H => tMkE (He.ga X.K "BadTop") "given" ta σ H fun cls d H' => W cls d σ H') := by
  obtain ⟨fd, ps, F, hk, hb⟩ := (ok_top_init (P := X.prog) (w := X.w) (base := X.base) T).ex
  exact ps_raise hc tk (pmk_err tl_ve T.e_top.ox T.e_top.init T.e_top.tI F hr hb pass0 hg T.g_BadTop ha (by decide) he hpl)
theorem ps_many (T : Txt X.K X.mg) (hc : X.calm = true) (hr : Room 2 X.A) (tk : Takes X W) (ha : PA X [e] ta) (hg : Gl X "TooMany" := by rfl) (he : starEach (e :: []) X.env = (false, eval e X.env) :: starEach [] X.env := by rfl) (hpl : (backTo pos (starEach [] X.env)).any (·.1) = false := by rfl) :
    PS X (.Raise (some (.Call (.Name "TooMany" p) [e] [] pos)) none pos2) (fun _ σ H => tMkE (He.ga X.K "TooMany") "most" ta σ H fun cls d H' => W cls d σ H') := by
  obtain ⟨fd, ps, F, hk, hb⟩ := (ok_many_init (P := X.prog) (w := X.w) (base := X.base) T).ex
  exact ps_raise hc tk (pmk_err tl_oe T.e_many.ox T.e_many.init T.e_many.tI F hr hb pass0 hg T.g_TooMany ha (by decide) he hpl)
end
end JB
set_option Elab.async false
set_option linter.all false
set_option maxRecDepth 100000
set_option maxHeartbeats 4000000
/-! Comprehensions whose turns only add objects: what is gathered, by a word on the list so far. -/
namespace JB
open PySem PySem.Spec PyProof.Rows L2
theorem Same.tup {K : PySem.W.Frag} {H H' : Hp} {a : Addr} {xs : List V} (e : Same H H') (h : SqT K H a xs) : SqT K H' a xs := by
  rcases h with (h | ⟨o, h⟩) | h
  · exact .inl (.inl (e _ _ h))
  · exact .inl (.inr ⟨o, e _ _ h⟩)
  · exact .inr h
section
variable {K : PySem.W.Frag} {a : Addr} {xs : List V} {g : TG} {tt : L2.TT} {te : TE} {vs : List Nat} {σ : L2.St} {H1 : Hp} {D : Addr} {Qd : Hp → Prop}
/-- one turn -/
def Turn (g : TG) (tt : L2.TT) (te : TE) (vs : List Nat) (σ : L2.St) (H1 : Hp) (x : V) (H : Hp) (Ge : V → Prop) (Gn : Prop) : Prop :=
  ∀ (Qe : VK) (Qn : Hp → Prop), (∀ y H4, Ge y → Same H H4 → Qe y H4) → (∀ H4, Gn → Same H H4 → Qn H4) →
    g x (wipe σ vs) H fun σ2 H2 => wipe σ2 vs = wipe σ vs ∧ tt σ2 H2 fun b H3 => if b = true then te σ2 H3 Qe else Qn H3
/-- a turn of a comprehension without a test -/
theorem turn_yes {x : V} {H : Hp} {Ge : V → Prop} {Gn : Prop} (h : ∀ Qe : VK, (∀ y H4, Ge y → Same H H4 → Qe y H4) → g x (wipe σ vs) H fun σ2 H2 => wipe σ2 vs = wipe σ vs ∧ te σ2 H2 Qe) (hm : ∀ Q Q' : L2.St → Hp → Prop, (∀ s h, Q s h → Q' s h) → g x (wipe σ vs) H Q → g x (wipe σ vs) H Q') : Turn g tYes te vs σ H1 x H Ge Gn := by
  intro Qe Qn he hn
  refine hm _ _ (fun s h' q => ⟨q.1, ?_⟩) (h Qe he)
  show if true = true then te s h' Qe else Qn h'
  rw [if_pos rfl]
  exact q.2
theorem turn_name {i : Nat} {x : V} {H : Hp} {Ge : V → Prop} {Gn : Prop} (h : ∀ Qe : VK, (∀ y H4, Ge y → Same H H4 → Qe y H4) → wipe ((wipe σ vs).set i (some x)) vs = wipe σ vs ∧ te ((wipe σ vs).set i (some x)) H Qe) : Turn (gName i) tYes te vs σ H1 x H Ge Gn :=
  turn_yes h fun _ _ m q => m _ _ q
theorem turn_step {i : Nat} {x : V} {H : Hp} {G : Nat → List V → Prop} (hD : H1 D = none) (hi : i < 1000)
    (hs : ∀ acc, Same H1 H → G i acc → Turn g tt te vs σ H1 x H (fun y => G (i + 1) (acc ++ [y])) (G (i + 1) acc)) (hP : ∃ acc, H D = some (.lst acc) ∧ acc.length ≤ i ∧ Same H1 H ∧ G i acc) :
    g x (wipe σ vs) H fun σ2 H2 => wipe σ2 vs = wipe σ vs ∧ tt σ2 H2 fun b H3 =>
      if b = true then te σ2 H3 fun y H4 => ∃ acc, H4 D = some (.lst acc) ∧ acc.length < sizeLine ∧ (∃ acc', upd H4 D (.lst (acc ++ [y])) D = some (.lst acc') ∧ acc'.length ≤ i + 1 ∧ Same H1 (upd H4 D (.lst (acc ++ [y]))) ∧ G (i + 1) acc')
      else ∃ acc', H3 D = some (.lst acc') ∧ acc'.length ≤ i + 1 ∧ Same H1 H3 ∧ G (i + 1) acc' := by
  obtain ⟨acc, h1, h2, h3, h4⟩ := hP
  refine hs acc h3 h4 _ _ (fun y H4 hg s4 => ⟨acc, s4 _ _ h1, by rw [sizeLine_eq]; omega, acc ++ [y], upd_same, by simp; omega, fun b o e => ?_, hg⟩) (fun H4 hg s4 => ⟨acc, s4 _ _ h1, by omega, h3.trans s4, hg⟩)
  rw [upd_ne (ne_of_none e hD)]
  exact s4 _ _ (h3 _ _ e)
theorem lc_tupG (G : Nat → List V → Prop) (hx : SqT K H1 a xs) (hD : H1 D = none) (hlen : xs.length ≤ 1000) (h0 : G 0 [])
    (hs : ∀ i x H acc, xs[i]? = some x → Same H1 H → G i acc → Turn g tt te vs σ H1 x H (fun y => G (i + 1) (acc ++ [y])) (G (i + 1) acc))
    (hd : ∀ acc H, G xs.length acc → Same H1 H → H D = some (.lst acc) → Qd H) :
    ∃ W : Nat → Nat → Hp → Prop, (∃ m, W 0 m (upd H1 D (.lst []))) ∧ ∀ i m H, W i m H →
      ((Itt K a).stop i H ∧ Qd H) ∨ ((Itt K a).go i H ∧ ∃ Nx : Hp → Prop, (∀ H', Nx H' → ∃ m', m' < m ∧ W (i + 1) m' H') ∧ ∀ x H', (Itt K a).yld i H x H' → g x (wipe σ vs) H' fun σ2 H2 => wipe σ2 vs = wipe σ vs ∧ tt σ2 H2 fun b H3 =>
        if b = true then te σ2 H3 fun y H4 => ∃ acc, H4 D = some (.lst acc) ∧ acc.length < sizeLine ∧ Nx (upd H4 D (.lst (acc ++ [y]))) else Nx H3) := by
  refine lc_tup (K := K) (a := a) (xs := xs) (fun i H => ∃ acc, H D = some (.lst acc) ∧ acc.length ≤ i ∧ Same H1 H ∧ G i acc) ⟨[], upd_same, Nat.le_refl _, same_upd hD, h0⟩ (fun i H _ ⟨_, _, _, s, _⟩ => Same.tup s hx) (fun i x H hi hP => ?_) (fun H ⟨acc, h1, _, h3, h4⟩ => hd acc H h4 h3 h1)
  have hi' : i < 1000 := Nat.lt_of_lt_of_le (List.getElem?_eq_some_iff.mp hi).1 hlen
  exact turn_step hD hi' (fun acc s h => hs i x H acc hi s h) hP
theorem lc_listG (G : Nat → List V → Prop) (hx : SqL K H1 a xs) (hD : H1 D = none) (hlen : xs.length ≤ 1000) (h0 : G 0 [])
    (hs : ∀ i x H acc, xs[i]? = some x → Same H1 H → G i acc → Turn g tt te vs σ H1 x H (fun y => G (i + 1) (acc ++ [y])) (G (i + 1) acc))
    (hd : ∀ acc H, G xs.length acc → Same H1 H → H D = some (.lst acc) → Qd H) :
    ∃ W : Nat → Nat → Hp → Prop, (∃ m, W 0 m (upd H1 D (.lst []))) ∧ ∀ i m H, W i m H →
      ((Itl K a).stop i H ∧ Qd H) ∨ ((Itl K a).go i H ∧ ∃ Nx : Hp → Prop, (∀ H', Nx H' → ∃ m', m' < m ∧ W (i + 1) m' H') ∧ ∀ x H', (Itl K a).yld i H x H' → g x (wipe σ vs) H' fun σ2 H2 => wipe σ2 vs = wipe σ vs ∧ tt σ2 H2 fun b H3 =>
        if b = true then te σ2 H3 fun y H4 => ∃ acc, H4 D = some (.lst acc) ∧ acc.length < sizeLine ∧ Nx (upd H4 D (.lst (acc ++ [y]))) else Nx H3) := by
  refine lc_list (K := K) (a := a) (xs := xs) (fun i H => ∃ acc, H D = some (.lst acc) ∧ acc.length ≤ i ∧ Same H1 H ∧ G i acc) ⟨[], upd_same, Nat.le_refl _, same_upd hD, h0⟩ (fun i H _ ⟨_, _, _, s, _⟩ => s.seq hx) (fun i x H hi hP => ?_) (fun H ⟨acc, h1, _, h3, h4⟩ => hd acc H h4 h3 h1)
  have hi' : i < 1000 := Nat.lt_of_lt_of_le (List.getElem?_eq_some_iff.mp hi).1 hlen
  exact turn_step hD hi' (fun acc s h => hs i x H acc hi s h) hP
theorem lc_rangeG {lo : Int} {n : Nat} (G : Nat → List V → Prop) (hD : H1 D = none) (hlen : n ≤ 1000) (h0 : G 0 [])
    (hs : ∀ i H acc, i < n → Same H1 H → G i acc → Turn g tt te vs σ H1 (.int (lo + i)) H (fun y => G (i + 1) (acc ++ [y])) (G (i + 1) acc))
    (hd : ∀ acc H, G n acc → Same H1 H → H D = some (.lst acc) → Qd H) :
    ∃ W : Nat → Nat → Hp → Prop, (∃ m, W 0 m (upd H1 D (.lst []))) ∧ ∀ i m H, W i m H →
      ((Itr lo n).stop i H ∧ Qd H) ∨ ((Itr lo n).go i H ∧ ∃ Nx : Hp → Prop, (∀ H', Nx H' → ∃ m', m' < m ∧ W (i + 1) m' H') ∧ ∀ x H', (Itr lo n).yld i H x H' → g x (wipe σ vs) H' fun σ2 H2 => wipe σ2 vs = wipe σ vs ∧ tt σ2 H2 fun b H3 =>
        if b = true then te σ2 H3 fun y H4 => ∃ acc, H4 D = some (.lst acc) ∧ acc.length < sizeLine ∧ Nx (upd H4 D (.lst (acc ++ [y]))) else Nx H3) := by
  refine lc_range (lo := lo) (n := n) (fun i H => ∃ acc, H D = some (.lst acc) ∧ acc.length ≤ i ∧ Same H1 H ∧ G i acc) ⟨[], upd_same, Nat.le_refl _, same_upd hD, h0⟩ (fun i H hi hP => ?_) (fun H ⟨acc, h1, _, h3, h4⟩ => hd acc H h4 h3 h1)
  exact turn_step hD (by omega) (fun acc s h => hs i H acc hi s h) hP
end
theorem take_succ {α : Type} {l : List α} {i : Nat} {x : α} (h : l[i]? = some x) : l.take (i + 1) = l.take i ++ [x] := by
  rw [List.take_succ, h]
  rfl
theorem All2.map_int : ∀ ns : List Int, All2 (fun v (n : Int) => v = V.int n) (ns.map V.int) ns
  | [] => .nil
  | n :: r => .cons rfl (All2.map_int r)
/-- a filter, from the left -/
theorem filter_succ {α : Type} {l : List α} {p : α → Bool} {i : Nat} {x : α} (h : l[i]? = some x) : (l.take (i + 1)).filter p = (l.take i).filter p ++ (if p x = true then [x] else []) := by
  rw [take_succ h, List.filter_append]
  congr 1
  by_cases e : p x = true <;> simp [e]
end JB
set_option Elab.async false
set_option linter.all false
set_option maxRecDepth 100000
set_option maxHeartbeats 4000000
namespace JB
open PySem PySem.Spec PyProof.Rows L2
abbrev cS (K : PySem.W.Frag) : Addr := He.ga K "Stand"
abbrev cJ (K : PySem.W.Frag) : Addr := He.ga K "Joinbook"
def spStand (K : PySem.W.Frag) : Sp := fun vs H Q _ => ∃ s dx dd wc tn pd, vs = [V.ref s, dd, wc, tn, pd] ∧ H s = some (.ins (cS K) dx []) ∧
  ∀ H', H' s = some (.ins (cS K) dx (sF dd wc tn pd)) → (∀ b o, H b = some o → b ≠ s → H' b = some o) → Q .non H'
theorem getD_at {ns : List Int} {i : Int} (h0 : 0 ≤ i) (h : i < (ns.length : Int)) : ∃ j : Nat, i = (j : Int) ∧ (ns.map V.int)[j]? = some (V.int (ns.getD i.toNat 0)) := by
  refine ⟨i.toNat, by omega, ?_⟩
  have hj : i.toNat < ns.length := by omega
  rw [List.getElem?_map, List.getElem?_eq_getElem hj, List.getD_eq_getElem?_getD, List.getElem?_eq_getElem hj]
  rfl
def spWt (K : PySem.W.Frag) : Sp := fun vs H Q _ => ∃ sv tv S top, vs = [sv, tv] ∧ StandAt (cS K) H sv S ∧ TI H tv top ∧ InR S.loads.length top ∧ top.length ≤ 1000 ∧ ∀ H', Same H H' → Q (.int (S.wt top)) H'
section
variable {P : Program} {w : World} {K : PySem.W.Frag} {mg : Str → Option Value} {base : Heap}
theorem ok_stand_init (T : Txt K mg) : Def P w K mg base CX0 1 (He.ma K (cS K) "__init__") (spStand K) := by
  refine def0 T.d_Stand_init sc_Stand_init (fun _ _ _ _ _ _ us hl => match us, hl with | [_, _, _, _, _], _ => rfl) (fun vs H Q E h => ?_) (fun cdv A outer s H vs Q E hr h => ?_)
  · obtain ⟨s, dx, dd, wc, tn, pd, rfl, _⟩ := h
    rfl
  · obtain ⟨s, dx, dd, wc, tn, pd, rfl, hs, k⟩ := h
    refine ⟨_, pss_cons (ps_fld (pv 0) (pv 1) rfl) (pss_cons (ps_fld (pv 0) (pv 2) rfl) (pss_cons (ps_fld (pv 0) (pv 3) rfl) (pss_one (ps_fld (pv 0) (pv 4) rfl)))), ?_⟩
    refine ⟨_, rfl, _, rfl, s, _, dx, [], rfl, hs, T.clS, T.n_deed, (by show 0 < 1000; omega), ?_⟩
    refine ⟨_, rfl, _, rfl, s, _, dx, _, rfl, upd_same, T.clS, T.n_weights_come, (by show 1 < 1000; omega), ?_⟩
    refine ⟨_, rfl, _, rfl, s, _, dx, _, rfl, upd_same, T.clS, T.n_tops_now, (by show 2 < 1000; omega), ?_⟩
    refine ⟨_, rfl, _, rfl, s, _, dx, _, rfl, upd_same, T.clS, T.n_paid_now, (by show 3 < 1000; omega), ?_⟩
    exact k _ upd_same fun b o e n => by rw [upd_ne n, upd_ne n, upd_ne n, upd_ne n]; exact e
theorem ok_wt (T : Txt K mg) : Def P w K mg base CX0 1 (He.ma K (cS K) "weight_in") (spWt K) := by
  refine def0 T.d_Stand_weight_in sc_Stand_weight_in (fun _ _ _ _ _ _ us hl => match us, hl with | [_, _], _ => rfl) (fun vs H Q E h => ?_) (fun cdv A outer s H vs Q E hr h => ?_)
  · obtain ⟨sv, tv, S, top, rfl, _⟩ := h
    rfl
  · obtain ⟨sv, tv, S, top, rfl, ⟨s, dx, dd, wc, tn, rfl, hs, ⟨tw, rfl, hw⟩, htn⟩, ⟨tt, rfl, ht⟩, hin, hlen, k⟩ := h
    have nd := sc_Stand_weight_in.nd
    refine ⟨_, pss_one (ps_ret (pe_callB (cr_sum rfl) rfl T.f_sum (by decide +kernel) (pa_cons (pe_lc (own := [("number", 2)]) (g := gName 2) (tt := tYes) (te := tOp (rIxT K) (tFld K (tVar 0) "weights_come") (tVar 2)) rfl nd (pi_tup (pv 1)) (blkOk_by (own := [("number", 2)]) (N := n_Stand_weight_in) (sc := defScope s_Stand_weight_in) (by decide +kernel))
      (fun _ _ _ _ _ => pg_name (i := 2) nd rfl (Or.inl rfl)) (fun _ _ _ _ _ => pts_nil) (fun _ _ _ _ _ => pe_ix ix_tup (pe_fld (pv 0) rfl) (pv 2) (fun _ _ => rfl))) pa_nil))), ?_⟩
    refine ⟨_, rfl, tt, rfl, ⟨_, SqT.of ht⟩, fun D hD => ?_⟩
    refine lc_tupG (K := K) (a := tt) (xs := top.map V.int) (fun i acc => acc = ((top.take i).map fun i => V.int (S.loads.getD i.toNat 0))) (SqT.of ht) hD (by rw [List.length_map]; exact hlen) rfl ?_ ?_
    · intro i x H2 acc hi s2 ha
      rw [List.getElem?_map] at hi
      cases ei : top[i]? with
      | none => rw [ei] at hi; cases hi
      | some z =>
        rw [ei] at hi
        cases hi
        obtain ⟨h0, h1⟩ := hin z (List.mem_of_getElem? ei)
        obtain ⟨j, ej, hj⟩ := getD_at h0 h1
        refine turn_name fun Qe he => ⟨rfl, ?_⟩
        refine ⟨_, rfl, s, _, dx, _, _, rfl, s2 _ _ hs, T.clS, T.n_weights_come, rfl, _, rfl, tw, _, _, _, rfl, rfl, SqT.of (s2 _ _ hw), at_of ej hj, ?_⟩
        refine he _ _ ?_ (Same.refl _)
        rw [ha, take_succ ei]
        simp
    · intro acc H2 ha s2 hDs
      rw [List.length_map, List.take_length] at ha
      have ea : acc = (top.map fun i => S.loads.getD i.toNat 0).map V.int := by rw [ha, List.map_map]; rfl
      rw [ea] at hDs
      exact ⟨_, _, rfl, SqL.of hDs, k _ s2⟩
end
end JB
set_option Elab.async false
set_option linter.all false
set_option maxRecDepth 100000
set_option maxHeartbeats 4000000
namespace JB
open PySem PySem.Spec PyProof.Rows L2
/-- finish: what is paid when all is joined in the cheapest way -/
def spFin (K : PySem.W.Frag) : Sp := fun vs H Q _ => ∃ sv S, vs = [sv] ∧ StandAt (cS K) H sv S ∧ (∀ t ∈ S.tops, InR S.loads.length t ∧ t.length ≤ 1000) ∧ S.tops.length ≤ 100 ∧ ∀ H', Same H H' → Q (.int S.fin) H'
def spCome (K : PySem.W.Frag) : Sp := fun vs H Q _ => ∃ sv S w, vs = [sv, .int w] ∧ StandAt (cS K) H sv S ∧ (∀ t ∈ S.tops, t ≠ []) ∧ S.loads.length ≤ 100 ∧ S.tops.length ≤ 100 ∧ ∀ H' v, Same H H' → StandAt (cS K) H' v (S.come w) → Q v H'
theorem same_fresh {H H1 : Hp} {p : Addr} {o : HO} (s : Same H H1) (hp : H1 p = none) : Same H (upd H1 p o) := s.trans (same_upd hp)
section
variable {P : Program} {w : World} {K : PySem.W.Frag} {mg : Str → Option Value} {base : Heap}
theorem ok_stand_finish (T : Txt K mg) : Def P w K mg base CX0 2 (He.ma K (cS K) "finish") (spFin K) := by
  have D := ok_wt (P := P) (w := w) (base := base) T
  have DF := ok_first_in (P := P) (w := w) (base := base) T
  refine def0 T.d_Stand_finish sc_Stand_finish (fun _ _ _ _ _ _ us hl => match us, hl with | [_], _ => rfl) (fun vs H Q E h => ?_) (fun cdv A outer s H vs Q E hr h => ?_)
  · obtain ⟨sv, S, rfl, _⟩ := h
    rfl
  · obtain ⟨sv, S, rfl, ⟨s, dx, dd, wc, tn, rfl, hs, ⟨tw, rfl, hw⟩, ⟨tt, xs, rfl, ht, htl⟩⟩, hin, hlen, k⟩ := h
    have nd := sc_Stand_finish.nd
    refine ⟨_, pss_one (ps_ret (pe_op op_add (pe_fld (pv 0) rfl) (pe_callB (cr_sum rfl) rfl T.f_sum (by decide +kernel) (pa_cons (pe_cd DF hr T.g_first_in pass0 (pa_cons
      (pe_lc (own := [("top", 1)]) (g := gName 1) (tt := tYes) (te := tMeth (cS K) "weight_in" (spWt K) [] E0 (tVar 0) (tCons (tVar 1) tNil)) rfl nd (pi_tup (pe_fld (pv 0) rfl)) (blkOk_by (own := [("top", 1)]) (N := n_Stand_finish) (sc := defScope s_Stand_finish) (by decide +kernel))
      (fun _ _ _ _ _ => pg_name (i := 1) nd rfl (Or.inl rfl)) (fun _ _ _ _ _ => pts_nil) (fun _ _ _ _ _ => pe_md (pv 0) T.clS T.m_Stand_weight_in D hr pass0 (pa_cons (pv 1) pa_nil))) pa_nil)) pa_nil)))), ?_⟩
    refine ⟨_, rfl, s, _, dx, _, _, rfl, hs, T.clS, T.n_paid_now, rfl, _, rfl, s, _, dx, _, _, rfl, hs, T.clS, T.n_tops_now, rfl, tt, rfl, ⟨_, SqT.of ht⟩, fun D hD => ?_⟩
    refine lc_tupG (K := K) (a := tt) (xs := xs) (fun i acc => acc = (S.tops.take i).map fun t => V.int (S.wt t)) (SqT.of ht) hD (by rw [htl.length]; omega) rfl ?_ ?_
    · intro i x H2 acc hi s2 ha
      obtain ⟨t, et, hx⟩ := htl.get hi
      obtain ⟨h0, h1⟩ := hin t (List.mem_of_getElem? et)
      refine turn_name fun Qe he => ⟨rfl, _, rfl, s, dx, _, rfl, s2 _ _ hs, rfl, _, rfl, ?_⟩
      refine ⟨_, _, S, t, rfl, ⟨s, dx, dd, _, _, rfl, s2 _ _ hs, ⟨tw, rfl, s2 _ _ hw⟩, ⟨tt, xs, rfl, s2 _ _ ht, TIs.ext (Ext.of s2) htl⟩⟩, hx.ext (Ext.of s2), h0, h1, fun H' s' => he _ _ ?_ s'⟩
      rw [ha, take_succ et]
      simp
    · intro acc H2 ha s2 hDs
      rw [htl.length, List.take_length] at ha
      have ea : acc = S.ws.map V.int := by rw [ha, Std.ws, List.map_map]; rfl
      rw [ea] at hDs
      refine ⟨D, S.ws, rfl, hDs, by simp [Std.ws]; omega, fun H3 p s3 hp h3 => ?_⟩
      exact ⟨_, _, rfl, SqL.of h3, _, _, rfl, rfl, k _ (s2.trans s3)⟩
theorem ok_stand_come (T : Txt K mg) : Def P w K mg base CX0 3 (He.ma K (cS K) "come") (spCome K) := by
  have D := ok_stand_init (P := P) (w := w) (base := base) T
  refine def0 T.d_Stand_come sc_Stand_come (fun _ _ _ _ _ _ us hl => match us, hl with | [_, _], _ => rfl) (fun vs H Q E h => ?_) (fun cdv A outer s H vs Q E hr h => ?_)
  · obtain ⟨sv, S, n, rfl, _⟩ := h
    rfl
  · obtain ⟨sv, S, n, rfl, ⟨s, dx, dd, wc, tn, rfl, hs, ⟨tw, rfl, hw⟩, ⟨tt, xs, rfl, ht, htl⟩⟩, hne, hl1, hl2, k⟩ := h
    have nd := sc_Stand_come.nd
    have hu := hr.units
    obtain ⟨tk, hc⟩ := T.s_come
    refine ⟨_, pss_cons (ps_set (i := 2) nd rfl (Or.inl rfl) (pe_tup (pa_cons (pe_callB call_len_seq rfl T.f_len boot_len (pa_cons (pe_fld (pv 0) rfl) pa_nil)) pa_nil)))
      (pss_cons (ps_set (i := 3) nd rfl (Or.inl rfl) (pe_callTy call_tuple_of rfl T.f_tuple boot_tuple (pa_cons (pe_callB (cr_sortT T.sysd hu) rfl T.f_sorted boot_sorted (pa_cons (pe_lst (StX.pa_star (pe_fld (pv 0) rfl) (pa_cons (pv 2) pa_nil))) pa_nil)) pa_nil)))
      (pss_one (ps_ret (pe_new T.mkS D hr T.g_Stand pass0 (pa_cons (pe_tup (pa_cons (pe_glob (v := .str "come") rfl hc ⟨_, rfl⟩) (pa_cons (pv 1) pa_nil))) (pa_cons (pe_tup (StX.pa_star (pe_fld (pv 0) rfl) (pa_cons (pv 1) pa_nil))) (pa_cons (pv 3) (pa_cons (pe_fld (pv 0) rfl) pa_nil)))))))), ?_⟩
    refine ⟨_, rfl, s, _, dx, _, _, rfl, hs, T.clS, T.n_weights_come, rfl, tw, _, rfl, .inr (SqT.of hw), (by show 1 ≤ sizeLine; rw [sizeLine_eq]; omega), fun p hp => ?_⟩
    have s1 := same_upd (o := .tup [.int ((S.loads.map V.int).length : Int)]) hp
    refine ⟨_, rfl, s, _, dx, _, _, rfl, s1 _ _ hs, T.clS, T.n_tops_now, rfl, tt, xs, rfl, .inl (SqT.of (s1 _ _ ht)), _, rfl, ?_, fun q hq => ?_⟩
    · rw [List.length_append, htl.length, sizeLine_eq]
      simp
      omega
    have s2 := same_fresh (o := .lst (xs ++ [.ref p])) s1 hq
    have hfr : TI (upd (upd H p (.tup [.int ((S.loads.map V.int).length : Int)])) q (.lst (xs ++ [.ref p]))) (.ref p) [(S.loads.length : Int)] := ⟨p, rfl, by rw [same_upd hq _ _ upd_same, List.length_map]; rfl⟩
    refine ⟨q, _, S.tops ++ [[(S.loads.length : Int)]], rfl, .inl upd_same, All2.append (TIs.ext (Ext.of s2) htl) (.cons hfr .nil), ?_, by simp; omega, fun zs l hz hl => ?_⟩
    · intro t ht
      rcases List.mem_append.mp ht with h | h
      · exact hne t h
      · rw [List.mem_singleton.mp h]
        simp
    have s3 := same_fresh (o := .lst zs) s2 hl
    refine ⟨l, zs, rfl, .inl ⟨SqL.of upd_same, fun u hu => ?_⟩⟩
    have s4 := same_fresh (o := .tup zs) s3 hu
    refine ⟨_, rfl, (by show 2 ≤ sizeLine; rw [sizeLine_eq]; omega), fun d hd => ?_⟩
    have s5 := same_fresh (o := .tup [.str "come", .int n]) s4 hd
    refine ⟨_, rfl, s, _, dx, _, _, rfl, s5 _ _ hs, T.clS, T.n_weights_come, rfl, tw, _, rfl, .inl (SqT.of (s5 _ _ hw)), _, rfl, ?_, fun e he => ?_⟩
    · rw [List.length_append, List.length_map, sizeLine_eq]
      simp
      omega
    have s6 := same_fresh (o := .tup (S.loads.map V.int ++ [V.int n])) s5 he
    refine ⟨_, rfl, _, rfl, s, _, dx, _, _, rfl, s6 _ _ hs, T.clS, T.n_paid_now, rfl, fun x y hx hy hne' => ?_⟩
    have s7 := same_fresh (o := .own x) s6 hy
    have hx' : upd (upd (upd (upd (upd (upd (upd H p (.tup [.int ((S.loads.map V.int).length : Int)])) q (.lst (xs ++ [.ref p]))) l (.lst zs)) u (.tup zs)) d (.tup [.str "come", .int n])) e (.tup (S.loads.map V.int ++ [V.int n]))) y (.own x) x = none := by
      rw [upd_ne (Ne.symm hne')]
      exact hx
    refine ⟨x, y, _, _, _, _, rfl, upd_same, fun H' h1 h2 => ⟨rfl, ?_⟩⟩
    have s8 : Same (upd (upd (upd (upd (upd (upd (upd H p (.tup [.int ((S.loads.map V.int).length : Int)])) q (.lst (xs ++ [.ref p]))) l (.lst zs)) u (.tup zs)) d (.tup [.str "come", .int n])) e (.tup (S.loads.map V.int ++ [V.int n]))) y (.own x)) H' := fun b o hb => h2 b o (same_upd hx' _ _ hb) (ne_of_none hb hx')
    refine k _ _ (s7.trans s8) ⟨x, y, _, _, _, rfl, h1, ⟨e, rfl, ?_⟩, ⟨u, zs, rfl, ?_, ?_⟩⟩
    · have := s8 _ _ (same_upd hy _ _ (upd_same (o := .tup (S.loads.map V.int ++ [V.int n]))))
      rw [this]
      simp [Std.come]
    · exact s8 _ _ (same_upd hy _ _ (same_upd he _ _ (same_upd hd _ _ upd_same)))
    · exact TIs.ext ((Ext.of ((((same_upd hl).trans (same_upd hu)).trans (same_upd hd)).trans (same_upd he))).trans ((Ext.of (same_upd hy)).trans (Ext.of s8))) hz
end
end JB
set_option Elab.async false
set_option linter.all false
set_option maxRecDepth 100000
set_option maxHeartbeats 4000000
namespace JB
open PySem PySem.Spec PyProof.Rows L2
def spJoined (K : PySem.W.Frag) : Sp := fun vs H Q _ => ∃ sv tv ov S t o, vs = [sv, tv, ov] ∧ StandAt (cS K) H sv S ∧ TI H tv t ∧ TI H ov o ∧ t ≠ [] ∧ o ≠ [] ∧ t.length ≤ 100 ∧ o.length ≤ 100 ∧ InR S.loads.length (both t o) ∧
  (∀ x ∈ S.tops, x ≠ []) ∧ S.tops.length ≤ 100 ∧ ∀ H' v, Same H H' → StandAt (cS K) H' v (S.joined t o) → Q v H'
def spTaken (K : PySem.W.Frag) : Sp := fun vs H Q _ => ∃ sv tv S t, vs = [sv, tv] ∧ StandAt (cS K) H sv S ∧ TI H tv t ∧ S.tops.length ≤ 100 ∧ ∀ H' v, Same H H' → StandAt (cS K) H' v (S.taken t) → Q v H'
theorem u65 {k : Nat} {A : Around} (r : Room k A) : A.units + 65 < cLine := by have := r.un; omega
theorem InR.same {n : Nat} {t o : List Int} (h1 : InR n t) (h2 : InR n o) : InR n (both t o) := by
  intro i hi
  rcases List.mem_append.mp ((Huf.srt_perm _).mem_iff.mp hi) with h | h
  · exact h1 i h
  · exact h2 i h
theorem both_len (t o : List Int) : (both t o).length = t.length + o.length := by rw [both, Huf.srt_len, List.length_append]
theorem both_ne {t o : List Int} (h : t ≠ []) : both t o ≠ [] := by
  intro e
  have h1 : (both t o).length = (t ++ o).length := Huf.srt_len _
  rw [e] at h1
  cases t with
  | nil => exact h rfl
  | cons x r => simp at h1
section
variable {P : Program} {w : World} {K : PySem.W.Frag} {mg : Str → Option Value} {base : Heap}
theorem ok_stand_joined (T : Txt K mg) : Def P w K mg base CX0 3 (He.ma K (cS K) "joined") (spJoined K) := by
  have D := ok_stand_init (P := P) (w := w) (base := base) T
  have DW := (ok_wt (P := P) (w := w) (base := base) T).mono (show 1 ≤ 2 by omega)
  refine def0 T.d_Stand_joined sc_Stand_joined (fun _ _ _ _ _ _ us hl => match us, hl with | [_, _, _], _ => rfl) (fun vs H Q E h => ?_) (fun cdv A outer s H vs Q E hr h => ?_)
  · obtain ⟨sv, tv, ov, S, t, o, rfl, _⟩ := h
    rfl
  · obtain ⟨sv, tv, ov, S, t, o, rfl, ⟨s, dx, dd, wc, tn, rfl, hs, ⟨tw, rfl, hw⟩, ⟨tt, xs, rfl, ht, htl⟩⟩, ⟨ta, rfl, hta⟩, ⟨oa, rfl, hoa⟩, nt, no, lt, lo, hin, hne, hl2, k⟩ := h
    have nd := sc_Stand_joined.nd
    have hu := hr.units
    have hu5 := u65 hr
    obtain ⟨tk, hc⟩ := T.s_join
    refine ⟨_, pss_cons (ps_set (i := 3) nd rfl (Or.inl rfl) (pe_callTy call_tuple_of rfl T.f_tuple boot_tuple (pa_cons (pe_callB (cr_sortI hu) rfl T.f_sorted boot_sorted (pa_cons (pe_op op_catA (pv 1) (pv 2)) pa_nil)) pa_nil)))
      (pss_cons (ps_setLc (i := 4) (own := [("one", 5)]) (g := gName 5) (tt := tTest (tOp rNotInT (tVar 5) (tTup (tCons (tVar 1) (tCons (tVar 2) tNil))))) (te := tVar 5) rfl nd rfl rfl rfl (pi_tup (pe_fld (pv 0) rfl)) (blkOk_by (own := [("one", 5)]) (N := n_Stand_joined) (sc := defScope s_Stand_joined) (by decide +kernel))
        (fun _ _ _ _ _ => pg_name (i := 5) nd rfl (Or.inl rfl)) (fun _ _ _ _ _ => pts_one (pt_cmpR (op_notInT T.sysd hu5) (pv 5) (pe_tup (pa_cons (pv 1) (pa_cons (pv 2) pa_nil))) (by rfl))) (fun _ _ _ _ _ => pv 5))
      (pss_cons (ps_set (i := 6) nd rfl (Or.inl rfl) (pe_op op_add (pe_fld (pv 0) rfl) (pe_md (pv 0) T.clS T.m_Stand_weight_in DW hr pass0 (pa_cons (pv 3) pa_nil))))
      (pss_one (ps_ret (pe_new T.mkS D hr T.g_Stand pass0 (pa_cons (pe_tup (pa_cons (pe_glob (v := .str "join") rfl hc ⟨_, rfl⟩) (pa_cons (pv 1) (pa_cons (pv 2) pa_nil)))) (pa_cons (pe_fld (pv 0) rfl) (pa_cons (pe_callTy call_tuple_of rfl T.f_tuple boot_tuple (pa_cons (pe_callB (cr_sortT T.sysd hu) rfl T.f_sorted boot_sorted (pa_cons (pe_lst (StX.pa_star (pv 4) (pa_cons (pv 3) pa_nil))) pa_nil)) pa_nil)) (pa_cons (pv 6) pa_nil))))))))), ?_⟩
    -- both
    refine ⟨_, rfl, _, rfl, ta, oa, _, _, rfl, rfl, SqT.of hta, SqT.of hoa, (by rw [List.length_map, List.length_map, sizeLine_eq]; omega), (fun e => absurd (List.map_eq_nil_iff.mp e) nt), (fun _ e => absurd (List.map_eq_nil_iff.mp e) no), fun _ _ p hp => ?_⟩
    have s1 := same_upd (o := .tup (t.map V.int ++ o.map V.int)) hp
    refine ⟨p, t ++ o, rfl, .inr (by rw [upd_same, List.map_append]), by simp; omega, fun q hq => ⟨q, _, rfl, .inl ⟨SqL.of upd_same, fun b hb => ?_⟩⟩⟩
    have s2 := same_fresh (o := .lst ((Huf.srt (t ++ o)).map V.int)) s1 hq
    have s3 := same_fresh (o := .tup ((Huf.srt (t ++ o)).map V.int)) s2 hb
    have hbt : upd (upd (upd H p (.tup (t.map V.int ++ o.map V.int))) q (.lst ((Huf.srt (t ++ o)).map V.int))) b (.tup ((Huf.srt (t ++ o)).map V.int)) b = some (.tup ((both t o).map V.int)) := upd_same
    revert hbt s3
    generalize upd (upd (upd H p (.tup (t.map V.int ++ o.map V.int))) q (.lst ((Huf.srt (t ++ o)).map V.int))) b (.tup ((Huf.srt (t ++ o)).map V.int)) = H3
    intro s3 hbt
    -- tops
    refine ⟨_, rfl, s, _, dx, _, _, rfl, s3 _ _ hs, T.clS, T.n_tops_now, rfl, tt, rfl, ⟨_, SqT.of (s3 _ _ ht)⟩, fun D hD => ?_⟩
    have htl3 := TIs.ext (Ext.of s3) htl
    refine lc_tupG (K := K) (a := tt) (xs := xs) (fun i acc => All2 (TI H3) acc ((S.tops.take i).filter fun x => !decide (x ∈ [t, o]))) (SqT.of (s3 _ _ ht)) hD (by rw [htl.length]; omega) .nil ?_ ?_
    · intro i x H4 acc hi s4 ha Qe Qn he hn
      obtain ⟨z, ez, hx⟩ := htl3.get hi
      refine ⟨rfl, _, rfl, _, rfl, _, rfl, (by show 2 ≤ sizeLine; rw [sizeLine_eq]; omega), fun d hd => ?_⟩
      have s5 := same_upd (o := .tup [.ref ta, .ref oa]) hd
      have s35 := s4.trans s5
      refine ⟨z, [t, o], hx.ext (Ext.of s35), ⟨d, _, rfl, upd_same, .cons ⟨ta, rfl, s35 _ _ (s3 _ _ hta)⟩ (.cons ⟨oa, rfl, s35 _ _ (s3 _ _ hoa)⟩ .nil)⟩, _, rfl, ?_⟩
      rw [filter_succ ez] at he hn
      cases hz : decide (z ∈ [t, o]) with
      | true =>
        rw [hz] at he hn
        exact iteF (hn _ (by simpa using ha) s5)
      | false =>
        rw [hz] at he hn
        refine iteT ⟨_, rfl, he _ _ ?_ s5⟩
        exact All2.append ha (.cons hx .nil)
    · intro acc H4 ha s4 hDs
      rw [htl.length, List.take_length] at ha
      -- paid
      have s5 := s3.trans s4
      refine ⟨_, rfl, s, _, dx, _, _, rfl, s5 _ _ hs, T.clS, T.n_paid_now, rfl, _, rfl, s, dx, _, rfl, s5 _ _ hs, rfl, _, rfl, ?_⟩
      refine ⟨_, _, S, both t o, rfl, ⟨s, dx, dd, _, _, rfl, s5 _ _ hs, ⟨tw, rfl, s5 _ _ hw⟩, ⟨tt, xs, rfl, s5 _ _ ht, TIs.ext (Ext.of s5) htl⟩⟩, ⟨b, rfl, s4 _ _ hbt⟩, hin, by rw [both_len]; omega, fun H5 s6 => ?_⟩
      refine ⟨_, _, rfl, rfl, ?_⟩
      have s7 := s5.trans s6
      have hD5 := s6 _ _ hDs
      have ha5 := TIs.ext (Ext.of (s4.trans s6)) ha
      have hb5 := s6 _ _ (s4 _ _ hbt)
      -- the new stand
      refine ⟨_, rfl, _, rfl, (by show 3 ≤ sizeLine; rw [sizeLine_eq]; omega), fun d hd => ?_⟩
      have s8 := same_upd (o := .tup [.str "join", .ref ta, .ref oa]) hd
      refine ⟨_, rfl, s, _, dx, _, _, rfl, s8 _ _ (s7 _ _ hs), T.clS, T.n_weights_come, rfl, _, rfl, _, _, rfl, .inr (SqL.of (s8 _ _ hD5)), _, rfl, ?_, fun e he => ?_⟩
      · rw [List.length_append, ha5.length, sizeLine_eq]
        have := List.length_filter_le (fun x => !decide (x ∈ [t, o])) S.tops
        simp at this ⊢
        omega
      have s9 := same_fresh (o := .lst (acc ++ [.ref b])) s8 he
      refine ⟨e, _, (S.tops.filter fun x => !decide (x ∈ [t, o])) ++ [both t o], rfl, .inl upd_same, All2.append (TIs.ext (Ext.of s9) ha5) (.cons ⟨b, rfl, s9 _ _ hb5⟩ .nil), ?_, ?_, fun zs l hz hl => ?_⟩
      · intro x hx
        rcases List.mem_append.mp hx with h | h
        · exact hne x (List.mem_filter.mp h).1
        · rw [List.mem_singleton.mp h]
          exact both_ne nt
      · have := List.length_filter_le (fun x => !decide (x ∈ [t, o])) S.tops
        simp at this ⊢
        omega
      have s10 := same_fresh (o := .lst zs) s9 hl
      refine ⟨l, zs, rfl, .inl ⟨SqL.of upd_same, fun u hu => ?_⟩⟩
      have s11 := same_fresh (o := .tup zs) s10 hu
      have hut : upd (upd (upd (upd H5 d (.tup [.str "join", .ref ta, .ref oa])) e (.lst (acc ++ [.ref b]))) l (.lst zs)) u (.tup zs) u = some (.tup zs) := upd_same
      have hz11 := TIs.ext (Ext.of ((same_upd (o := .lst zs) hl).trans (same_upd (o := .tup zs) hu))) hz
      revert s11 hut hz11
      generalize upd (upd (upd (upd H5 d (.tup [.str "join", .ref ta, .ref oa])) e (.lst (acc ++ [.ref b]))) l (.lst zs)) u (.tup zs) = H6
      intro s11 hut hz11
      refine ⟨_, rfl, fun x y hx hy hne' => ?_⟩
      have s12 := same_upd (o := .own x) hy
      have hx' : upd H6 y (.own x) x = none := by
        rw [upd_ne (Ne.symm hne')]
        exact hx
      refine ⟨x, y, _, _, _, _, rfl, upd_same, fun H' h1 h2 => ⟨rfl, ?_⟩⟩
      have s13 : Same (upd H6 y (.own x)) H' := fun b o hb => h2 b o (same_upd hx' _ _ hb) (ne_of_none hb hx')
      have s14 := s12.trans s13
      exact k _ _ ((s7.trans s11).trans s14) ⟨x, y, _, _, _, rfl, h1, ⟨tw, rfl, s14 _ _ (s11 _ _ (s7 _ _ hw))⟩, ⟨u, zs, rfl, s14 _ _ hut, TIs.ext (Ext.of s14) hz11⟩⟩
theorem ok_stand_taken (T : Txt K mg) : Def P w K mg base CX0 3 (He.ma K (cS K) "taken") (spTaken K) := by
  have D := ok_stand_init (P := P) (w := w) (base := base) T
  refine def0 T.d_Stand_taken sc_Stand_taken (fun _ _ _ _ _ _ us hl => match us, hl with | [_, _], _ => rfl) (fun vs H Q E h => ?_) (fun cdv A outer s H vs Q E hr h => ?_)
  · obtain ⟨sv, tv, S, t, rfl, _⟩ := h
    rfl
  · obtain ⟨sv, tv, S, t, rfl, ⟨s, dx, dd, wc, tn, rfl, hs, ⟨tw, rfl, hw⟩, ⟨tt, xs, rfl, ht, htl⟩⟩, ⟨ta, rfl, hta⟩, hl2, k⟩ := h
    have nd := sc_Stand_taken.nd
    have hu := hr.units
    obtain ⟨tk, hc⟩ := T.s_take
    refine ⟨_, pss_cons (ps_set (i := 2) nd rfl (Or.inl rfl) (pe_callTy call_tuple_of rfl T.f_tuple boot_tuple (pa_cons (pe_lc (own := [("one", 3)]) (g := gName 3) (tt := tTest (tOp rNeQ (tVar 3) (tVar 1))) (te := tVar 3) rfl nd (pi_tup (pe_fld (pv 0) rfl)) (blkOk_by (own := [("one", 3)]) (N := n_Stand_taken) (sc := defScope s_Stand_taken) (by decide +kernel))
        (fun _ _ _ _ _ => pg_name (i := 3) nd rfl (Or.inl rfl)) (fun _ _ _ _ _ => pts_one (pt_cmpR (op_neQ T.sysd hu) (pv 3) (pv 1) (nomark _))) (fun _ _ _ _ _ => pv 3)) pa_nil)))
      (pss_one (ps_ret (pe_new T.mkS D hr T.g_Stand pass0 (pa_cons (pe_tup (pa_cons (pe_glob (v := .str "take") rfl hc ⟨_, rfl⟩) (pa_cons (pv 1) pa_nil))) (pa_cons (pe_fld (pv 0) rfl) (pa_cons (pv 2) (pa_cons (pe_fld (pv 0) rfl) pa_nil))))))), ?_⟩
    refine ⟨_, rfl, s, _, dx, _, _, rfl, hs, T.clS, T.n_tops_now, rfl, tt, rfl, ⟨_, SqT.of ht⟩, fun D hD => ?_⟩
    refine lc_tupG (K := K) (a := tt) (xs := xs) (fun i acc => All2 (TI H) acc ((S.tops.take i).filter fun x => !decide (x = t))) (SqT.of ht) hD (by rw [htl.length]; omega) .nil ?_ ?_
    · intro i x H4 acc hi s4 ha Qe Qn he hn
      obtain ⟨z, ez, hx⟩ := htl.get hi
      refine ⟨rfl, _, rfl, _, rfl, dT z, dT t, (hx.ext (Ext.of s4)).dq, TI.dq ⟨ta, rfl, s4 _ _ hta⟩, shaped_dT _, shaped_dT _, _, rfl, ?_⟩
      rw [filter_succ ez] at he hn
      rw [eqv_dT]
      cases hz : decide (z = t) with
      | true =>
        rw [hz] at he hn
        exact iteF (hn _ (by simpa using ha) (Same.refl _))
      | false =>
        rw [hz] at he hn
        refine iteT ⟨_, rfl, he _ _ ?_ (Same.refl _)⟩
        exact All2.append ha (.cons hx .nil)
    · intro acc H4 ha s4 hDs
      rw [htl.length, List.take_length] at ha
      refine ⟨D, acc, rfl, .inl ⟨SqL.of hDs, fun u hu => ?_⟩⟩
      have s5 := same_fresh (o := .tup acc) s4 hu
      refine ⟨_, rfl, (by show 2 ≤ sizeLine; rw [sizeLine_eq]; omega), fun d hd => ?_⟩
      have s6 := same_fresh (o := .tup [.str "take", .ref ta]) s5 hd
      have hut := same_upd (o := .tup [.str "take", .ref ta]) hd _ _ (upd_same (H := H4) (a := u) (o := .tup acc))
      revert s6 hut
      generalize upd (upd H4 u (.tup acc)) d (.tup [.str "take", .ref ta]) = H6
      intro s6 hut
      refine ⟨_, rfl, s, _, dx, _, _, rfl, s6 _ _ hs, T.clS, T.n_weights_come, rfl, _, rfl, _, rfl, s, _, dx, _, _, rfl, s6 _ _ hs, T.clS, T.n_paid_now, rfl, fun x y hx hy hne' => ?_⟩
      have s12 := same_upd (o := .own x) hy
      have hx' : upd H6 y (.own x) x = none := by
        rw [upd_ne (Ne.symm hne')]
        exact hx
      refine ⟨x, y, _, _, _, _, rfl, upd_same, fun H' h1 h2 => ⟨rfl, ?_⟩⟩
      have s13 : Same (upd H6 y (.own x)) H' := fun b o hb => h2 b o (same_upd hx' _ _ hb) (ne_of_none hb hx')
      have s14 := s12.trans s13
      exact k _ _ (s6.trans s14) ⟨x, y, _, _, _, rfl, h1, ⟨tw, rfl, s14 _ _ (s6 _ _ hw)⟩, ⟨u, acc, rfl, s14 _ _ hut, TIs.ext (Ext.of (s6.trans s14)) ha⟩⟩
end
end JB
set_option Elab.async false
set_option linter.all false
set_option maxRecDepth 100000
set_option maxHeartbeats 4000000
namespace JB
open PySem PySem.Spec PyProof.Rows L2
/-! ### the book: what does not raise -/
abbrev BookK (K : PySem.W.Frag) (H : Hp) (p : Addr) (n : Nat) (S : Std) : Prop := BookAt (cS K) (cJ K) H p n S
/-- a book is made anew at p -/
theorem StandAt.but {C D : Addr} {H H' : Hp} {v : V} {S : Std} {p dx : Addr} {t : V} (h : StandAt C H v S) (hp : H p = some (.ins D dx (bF t))) (e : But [p] H H') : StandAt C H' v S := by
  have ne : ∀ {b : Addr} {xs : List V}, H b = some (.tup xs) → b ∉ [p] := fun {b xs} hb hm => by
    rw [List.mem_singleton.mp hm, hp] at hb
    cases hb
  have ee : Ext H H' := fun b xs hb => e _ _ hb (ne hb)
  obtain ⟨s, dx', dd, wc, tn, h1, h2, h3, h4⟩ := h
  refine ⟨s, dx', dd, wc, tn, h1, e _ _ h2 fun hm => ?_, h3.ext ee, h4.ext ee⟩
  rw [List.mem_singleton.mp hm, hp] at h2
  simp [sF, bF] at h2
def spBook0 (K : PySem.W.Frag) : Sp := fun vs H Q _ => ∃ p dx, vs = [V.ref p] ∧ H p = some (.ins (cJ K) dx []) ∧ ∀ H', But [p] H H' → BookK K H' p 0 std0 → Q .non H'
def spPaid (K : PySem.W.Frag) : Sp := fun vs H Q _ => ∃ p n S, vs = [V.ref p] ∧ BookK K H p n S ∧ Q (.int S.paid) H
def spTops (K : PySem.W.Frag) : Sp := fun vs H Q _ => ∃ p n S, vs = [V.ref p] ∧ BookK K H p n S ∧ ∀ v, TT H v S.tops → Q v H
def spLen (K : PySem.W.Frag) : Sp := fun vs H Q _ => ∃ p n S, vs = [V.ref p] ∧ BookK K H p n S ∧ ∀ H', Same H H' → Q (.int n) H'
def spGoOn (K : PySem.W.Frag) : Sp := fun vs H Q _ => ∃ p n S0 sv S, vs = [V.ref p, sv] ∧ BookK K H p n S0 ∧ StandAt (cS K) H sv S ∧ n ≤ 1000 ∧ ∀ H', But [p] H H' → BookK K H' p (n + 1) S → Q .non H'
def spBFin (K : PySem.W.Frag) : Sp := fun vs H Q _ => ∃ p n S, vs = [V.ref p] ∧ BookK K H p n S ∧ Good S ∧ ∀ H', Same H H' → Q (.int S.fin) H'
/-- a thing given for a top: the ints of a tuple of ints, or what is no such -/
inductive Th (H : Hp) : V → Option (List Int) → Prop
  | yes {v : V} {ns : List Int} : TI H v ns → ns.length ≤ 1000 → Th H v (some ns)
  | other {v : V} {t : String} : Kn H v t → t ≠ "tuple" → Th H v none
  | odd {a : Addr} {xs : List V} : H a = some (.tup xs) → (∀ x ∈ xs, ∃ t, Kn H x t) → xs.all isI = false → xs.length ≤ 1000 → Th H (.ref a) none
def Std.has (S : Std) : Option (List Int) → Bool
  | some t => decide (t ∈ S.tops)
  | none => false
def spIsTop (K : PySem.W.Frag) : Sp := fun vs H Q _ => ∃ p n S v o, vs = [V.ref p, v] ∧ BookK K H p n S ∧ Th H v o ∧ ∀ H', Same H H' → Q (.bl (S.has o)) H'
theorem Good.fin {S : Std} (g : Good S) : (∀ t ∈ S.tops, InR S.loads.length t ∧ t.length ≤ 1000) ∧ S.tops.length ≤ 100 := by
  refine ⟨fun t ht => ⟨g.inr t ht, ?_⟩, ?_⟩
  · have := g.short t ht
    omega
  · have := g.n8
    omega
theorem all_isI (ns : List Int) : (ns.map V.int).all isI = true := by
  induction ns with
  | nil => rfl
  | cons n r ih => simpa [isI] using ih
theorem all_id (xs : List V) : (xs.map isI).all id = xs.all isI := by
  induction xs with
  | nil => rfl
  | cons x r ih => simp [ih]
section
variable {P : Program} {w : World} {K : PySem.W.Frag} {mg : Str → Option Value} {base : Heap}
theorem ok_book_init (T : Txt K mg) : Def P w K mg base CX0 3 (He.ma K (cJ K) "__init__") (spBook0 K) := by
  have D := ok_stand_init (P := P) (w := w) (base := base) T
  refine def0 T.d_Joinbook_init sc_Joinbook_init (fun _ _ _ _ _ _ us hl => match us, hl with | [_], _ => rfl) (fun vs H Q E h => ?_) (fun cdv A outer s H vs Q E hr h => ?_)
  · obtain ⟨p, dx, rfl, _⟩ := h
    rfl
  · obtain ⟨p, dx, rfl, hp, k⟩ := h
    refine ⟨_, pss_one (ps_fld (pv 0) (pe_tup (pa_cons (pe_new T.mkS D hr T.g_Stand pass0 (pa_cons (pe_tup pa_nil) (pa_cons (pe_tup pa_nil) (pa_cons (pe_tup pa_nil) (pa_cons pe_int pa_nil))))) pa_nil)) rfl), ?_⟩
    refine ⟨(by show 0 ≤ sizeLine; rw [sizeLine_eq]; omega), fun a ha => ⟨(by show 0 ≤ sizeLine; rw [sizeLine_eq]; omega), fun b hb => ⟨(by show 0 ≤ sizeLine; rw [sizeLine_eq]; omega), fun c hc => fun x y hx hy hne => ?_⟩⟩⟩
    have s1 := same_upd (o := .tup []) ha
    have s2 := same_fresh (o := .tup []) s1 hb
    have s3 := same_fresh (o := .tup []) s2 hc
    have hB := same_upd (o := .tup []) hc _ _ (upd_same (H := upd H a (.tup [])) (a := b) (o := .tup []))
    have hC : upd (upd (upd H a (.tup [])) b (.tup [])) c (.tup []) c = some (.tup []) := upd_same
    revert s3 hB hC
    generalize upd (upd (upd H a (.tup [])) b (.tup [])) c (.tup []) = H3 at hx hy ⊢
    intro s3 hB hC
    have s4 := same_upd (o := .own x) hy
    have hx' : upd H3 y (.own x) x = none := by
      rw [upd_ne (Ne.symm hne)]
      exact hx
    refine ⟨x, y, _, _, _, _, rfl, upd_same, fun H4 h1 h2 => ⟨rfl, (by show 1 ≤ sizeLine; rw [sizeLine_eq]; omega), fun t ht => ?_⟩⟩
    have s5 : Same (upd H3 y (.own x)) H4 := fun b o hb => h2 b o (same_upd hx' _ _ hb) (ne_of_none hb hx')
    have s6 := same_fresh (o := .tup [.ref x]) ((s3.trans s4).trans s5) ht
    refine ⟨_, rfl, p, _, dx, [], rfl, s6 _ _ hp, T.clJ, T.n_own_past, (by show 0 < 1000; omega), ?_⟩
    have s7 := (s4.trans s5).trans (same_upd (o := .tup [.ref x]) ht)
    have hpt : t ≠ p := fun e => by
      have := s5 _ _ (s4 _ _ (s3 _ _ hp))
      rw [← e, ht] at this
      cases this
    refine k _ ((But.of s6).trans but_upd) ⟨dx, t, [], .ref x, upd_same, by rw [upd_ne hpt]; exact upd_same, rfl, ?_⟩
    have hp7 : H3 p = some (.ins (cJ K) dx []) := s3 _ _ hp
    have hxp : x ≠ p := fun e => by
      rw [e, hp7] at hx
      cases hx
    have nb : ∀ {q : Addr}, H3 q = some (.tup []) → q ≠ p := fun {q} hq e => by
      rw [e, hp7] at hq
      cases hq
    refine ⟨x, y, _, _, _, rfl, by rw [upd_ne hxp]; exact (same_upd ht) _ _ h1, ⟨b, rfl, by rw [upd_ne (nb hB)]; exact s7 _ _ hB⟩, ⟨c, [], rfl, by rw [upd_ne (nb hC)]; exact s7 _ _ hC, .nil⟩⟩
theorem ok_paid (T : Txt K mg) : Def P w K mg base CX0 1 (paidF K) (spPaid K) := by
  refine def0 T.d_Joinbook_paid sc_Joinbook_paid (fun _ _ _ _ _ _ us hl => match us, hl with | [_], _ => rfl) (fun vs H Q E h => ?_) (fun cdv A outer s H vs Q E hr h => ?_)
  · obtain ⟨p, n, S, rfl, _⟩ := h
    rfl
  · obtain ⟨p, n, S, rfl, ⟨dx, t, pre, sv, hp, ht, hl, ⟨s, dy, dd, wc, tn, rfl, hs, hw, htn⟩⟩, q⟩ := h
    refine ⟨_, pss_one (ps_ret (pe_fld (pe_ix ix_tup (pe_fld (pv 0) rfl) (pe_un un_neg pe_int) (fun _ _ => rfl)) rfl)), ?_⟩
    refine ⟨_, rfl, p, _, dx, _, _, rfl, hp, T.clJ, T.n_own_past, rfl, 1, rfl, t, _, -1, _, rfl, rfl, SqT.of ht, atI_last _ _, s, _, dy, _, _, rfl, hs, T.clS, T.n_paid_now, rfl, q⟩
theorem ok_tops (T : Txt K mg) : Def P w K mg base CX0 1 (He.ma K (cJ K) "tops") (spTops K) := by
  refine def0 T.d_Joinbook_tops sc_Joinbook_tops (fun _ _ _ _ _ _ us hl => match us, hl with | [_], _ => rfl) (fun vs H Q E h => ?_) (fun cdv A outer s H vs Q E hr h => ?_)
  · obtain ⟨p, n, S, rfl, _⟩ := h
    rfl
  · obtain ⟨p, n, S, rfl, ⟨dx, t, pre, sv, hp, ht, hl, ⟨s, dy, dd, wc, tn, rfl, hs, hw, htn⟩⟩, q⟩ := h
    refine ⟨_, pss_one (ps_ret (pe_fld (pe_ix ix_tup (pe_fld (pv 0) rfl) (pe_un un_neg pe_int) (fun _ _ => rfl)) rfl)), ?_⟩
    refine ⟨_, rfl, p, _, dx, _, _, rfl, hp, T.clJ, T.n_own_past, rfl, 1, rfl, t, _, -1, _, rfl, rfl, SqT.of ht, atI_last _ _, s, _, dy, _, _, rfl, hs, T.clS, T.n_tops_now, rfl, q _ htn⟩
theorem ok_len (T : Txt K mg) : Def P w K mg base CX0 1 (He.ma K (cJ K) "__len__") (spLen K) := by
  refine def0 T.d_Joinbook_len sc_Joinbook_len (fun _ _ _ _ _ _ us hl => match us, hl with | [_], _ => rfl) (fun vs H Q E h => ?_) (fun cdv A outer s H vs Q E hr h => ?_)
  · obtain ⟨p, n, S, rfl, _⟩ := h
    rfl
  · obtain ⟨p, n, S, rfl, ⟨dx, t, pre, sv, hp, ht, hl, _⟩, q⟩ := h
    refine ⟨_, pss_one (ps_ret (pe_callB call_len_seq rfl T.f_len boot_len (pa_cons (pe_slice sl_tupA (pe_fld (pv 0) rfl) (po_some pe_int) po_none) pa_nil))), ?_⟩
    refine ⟨_, rfl, p, _, dx, _, _, rfl, hp, T.clJ, T.n_own_past, rfl, _, rfl, t, _, rfl, SqT.of ht, fun e => ?_, fun _ a ha => ?_⟩
    · have h1 := e.1
      have h2 : HT.sIx (pre ++ [sv]).length 0 (some 1) = 1 := by
        have : 1 ≤ (pre ++ [sv]).length := by simp
        simp only [HT.sIx]
        first
          | omega
          | (split <;> omega)
      rw [h2] at h1
      cases h1
    · refine ⟨a, _, rfl, .inr (SqT.of upd_same), ?_⟩
      have e : cutV (pre ++ [sv]) (some 1) none = (pre ++ [sv]).drop 1 := cutV_from (α := Nat) _ 1 (by simp)
      rw [e, List.length_drop, List.length_append, hl]
      have e2 : n + [sv].length - 1 = n := by simp
      rw [e2]
      exact q _ (same_upd ha)
theorem ok_go_on (T : Txt K mg) : Def P w K mg base CX0 1 (He.ma K (cJ K) "go_on") (spGoOn K) := by
  refine def0 T.d_Joinbook_go_on sc_Joinbook_go_on (fun _ _ _ _ _ _ us hl => match us, hl with | [_, _], _ => rfl) (fun vs H Q E h => ?_) (fun cdv A outer s H vs Q E hr h => ?_)
  · obtain ⟨p, n, S0, sv, S, rfl, _⟩ := h
    rfl
  · obtain ⟨p, n, S0, sv, S, rfl, ⟨dx, t, pre, sv0, hp, ht, hl, hs0⟩, hs, hn, k⟩ := h
    refine ⟨_, pss_one (ps_fld (pv 0) (pe_tup (StX.pa_star (pe_fld (pv 0) rfl) (pa_cons (pv 1) pa_nil))) rfl), ?_⟩
    refine ⟨_, rfl, p, _, dx, _, _, rfl, hp, T.clJ, T.n_own_past, rfl, t, _, rfl, .inl (SqT.of ht), _, rfl, ?_, fun q hq => ?_⟩
    · rw [List.length_append, List.length_append, hl, sizeLine_eq]
      simp
      omega
    have s1 := same_upd (o := .tup (pre ++ [sv0] ++ [sv])) hq
    refine ⟨_, rfl, p, _, dx, _, rfl, s1 _ _ hp, T.clJ, T.n_own_past, (by show 1 < 1000; omega), ?_⟩
    have hqp : q ≠ p := fun e => by
      rw [e, hp] at hq
      cases hq
    have bt := (But.of s1).trans (but_upd (p := p) (o := .ins (cJ K) dx (bF (.ref q))))
    exact k _ bt ⟨dx, q, pre ++ [sv0], sv, upd_same, by rw [upd_ne hqp]; exact upd_same, by rw [List.length_append, hl]; rfl, hs.but hp bt⟩
theorem ok_book_finish (T : Txt K mg) : Def P w K mg base CX0 3 (He.ma K (cJ K) "finish") (spBFin K) := by
  have D := ok_stand_finish (P := P) (w := w) (base := base) T
  refine def0 T.d_Joinbook_finish sc_Joinbook_finish (fun _ _ _ _ _ _ us hl => match us, hl with | [_], _ => rfl) (fun vs H Q E h => ?_) (fun cdv A outer s H vs Q E hr h => ?_)
  · obtain ⟨p, n, S, rfl, _⟩ := h
    rfl
  · obtain ⟨p, n, S, rfl, ⟨dx, t, pre, sv, hp, ht, hl, hs⟩, hg, k⟩ := h
    refine ⟨_, pss_one (ps_ret (pe_md0 (pe_ix ix_tup (pe_fld (pv 0) rfl) (pe_un un_neg pe_int) (fun _ _ => rfl)) T.clS T.m_Stand_finish D hr pass0)), ?_⟩
    have hs' := hs
    obtain ⟨s, dy, dd, wc, tn, rfl, hs1, hw, htn⟩ := hs'
    exact ⟨_, rfl, p, _, dx, _, _, rfl, hp, T.clJ, T.n_own_past, rfl, 1, rfl, t, _, -1, _, rfl, rfl, SqT.of ht, atI_last _ _, s, dy, _, rfl, hs1, rfl, _, S, rfl, hs, hg.fin.1, hg.fin.2, k⟩
theorem ok_is_top (T : Txt K mg) : Def P w K mg base CX0 2 (He.ma K (cJ K) "is_top") (spIsTop K) := by
  have D := ok_is_integer (P := P) (w := w) (base := base) T
  refine def0 T.d_Joinbook_is_top sc_Joinbook_is_top (fun _ _ _ _ _ _ us hl => match us, hl with | [_, _], _ => rfl) (fun vs H Q E h => ?_) (fun cdv A outer s H vs Q E hr h => ?_)
  · obtain ⟨p, n, S, v, o, rfl, _⟩ := h
    rfl
  · obtain ⟨p, n, S, v, o, rfl, ⟨dx, t, pre, sv, hp, ht, hl, ⟨s, dy, dd, wc, tn, rfl, hs, hw, htn⟩⟩, hth, k⟩ := h
    have nd := sc_Joinbook_is_top.nd
    have hu5 := u65 hr
    refine ⟨_, pss_cons (ps_if (PW.pt (pw_or (pt_not (pt_val (pe_callB call_isi rfl T.f_isinstance (by decide +kernel) (pa_cons (pv 1) (pa_cons (pe_bltn (v := .ty "tuple") rfl T.f_tuple boot_tuple rfl) pa_nil))))) (pw_or1 (pt_not (pt_val (pe_callB (cr_all rfl) rfl T.f_all (by decide +kernel) (pa_cons
        (pe_lc (own := [("one", 2)]) (g := gName 2) (tt := tYes) (te := tCall spIsInt [] E0 (tCons (tVar 2) tNil)) rfl nd (pi_tup (pv 1)) (blkOk_by (own := [("one", 2)]) (N := n_Joinbook_is_top) (sc := defScope s_Joinbook_is_top) (by decide +kernel))
        (fun _ _ _ _ _ => pg_name (i := 2) nd rfl (Or.inl rfl)) (fun _ _ _ _ _ => pts_nil) (fun _ _ _ _ _ => pe_cd D hr T.g_is_integer pass0 (pa_cons (pv 2) pa_nil))) pa_nil))))))) (pss_one (ps_ret pe_bl)) pss_nil)
      (pss_one (ps_ret (pe_cmpR (op_inT T.sysd hu5) (pv 1) (pe_fld (pe_ix ix_tup (pe_fld (pv 0) rfl) (pe_un un_neg pe_int) (fun _ _ => rfl)) rfl) (by rfl)))), ?_⟩
    refine ⟨_, rfl, v, ?_⟩
    cases hth with
    | @other _ ty hk ht =>
      obtain ⟨_, _, h3⟩ := hk.isi (K := K)
      refine ⟨_, _, _, _, rfl, .ty "tuple", hk.ty, h3, _, rfl, ?_⟩
      have e : (ty == "tuple") = false := by simp [ht]
      rw [e]
      exact iteT (iteT (k _ (Same.refl _)))
    | @odd a xs ha hk hall hlen =>
      obtain ⟨_, _, h3⟩ := (Kn.tup ha).isi (K := K)
      refine ⟨_, _, _, _, rfl, .ty "tuple", (Kn.tup ha).ty, h3, true, rfl, iteF ?_⟩
      refine ⟨_, rfl, a, rfl, ⟨_, SqT.of ha⟩, fun D hD => ?_⟩
      refine lc_tupG (K := K) (a := a) (xs := xs) (fun i acc => acc = (xs.take i).map fun x => V.bl (isI x)) (SqT.of ha) hD hlen rfl ?_ ?_
      · intro i x H2 acc hi s2 hacc
        obtain ⟨ty, hx⟩ := hk x (List.mem_of_getElem? hi)
        refine turn_name fun Qe he => ⟨rfl, _, rfl, x, ty, rfl, hx.same s2, he _ _ ?_ (Same.refl _)⟩
        rw [hacc, take_succ hi]
        simp
      · intro acc H2 hacc s2 hDs
        rw [List.take_length] at hacc
        have ea : acc = (xs.map isI).map V.bl := by rw [hacc, List.map_map]; rfl
        rw [ea] at hDs
        refine ⟨D, _, rfl, SqL.of hDs, _, rfl, ?_⟩
        rw [all_id, hall]
        exact iteT (k _ s2)
    | @yes _ ns hti hlen =>
      have hti' := hti
      obtain ⟨a, rfl, ha⟩ := hti'
      obtain ⟨_, _, h3⟩ := (Kn.tup ha).isi (K := K)
      refine ⟨_, _, _, _, rfl, .ty "tuple", (Kn.tup ha).ty, h3, true, rfl, iteF ?_⟩
      refine ⟨_, rfl, a, rfl, ⟨_, SqT.of ha⟩, fun D hD => ?_⟩
      refine lc_tupG (K := K) (a := a) (xs := ns.map V.int) (fun i acc => acc = ((ns.map V.int).take i).map fun x => V.bl (isI x)) (SqT.of ha) hD (by rw [List.length_map]; exact hlen) rfl ?_ ?_
      · intro i x H2 acc hi s2 hacc
        obtain ⟨j, _, rfl⟩ := List.mem_map.mp (List.mem_of_getElem? hi)
        refine turn_name fun Qe he => ⟨rfl, _, rfl, _, "int", rfl, .int j, he _ _ ?_ (Same.refl _)⟩
        rw [hacc, take_succ hi]
        simp
      · intro acc H2 hacc s2 hDs
        rw [List.take_length] at hacc
        have ea : acc = ((ns.map V.int).map isI).map V.bl := by rw [hacc]; simp
        rw [ea] at hDs
        refine ⟨D, _, rfl, SqL.of hDs, _, rfl, ?_⟩
        rw [all_id, all_isI]
        refine iteF ?_
        exact ⟨_, rfl, _, rfl, p, _, dx, _, _, rfl, s2 _ _ hp, T.clJ, T.n_own_past, rfl, 1, rfl, t, _, -1, _, rfl, rfl, SqT.of (s2 _ _ ht), atI_last _ _, s, _, dy, _, _, rfl, s2 _ _ hs, T.clS, T.n_tops_now, rfl, ns, S.tops, hti.ext (Ext.of s2), htn.ext (Ext.of s2), k _ s2⟩
end
end JB
set_option Elab.async false
set_option linter.all false
set_option maxRecDepth 100000
set_option maxHeartbeats 4000000
namespace JB
open PySem PySem.Spec PyProof.Rows L2
/-! ### the book: what raises -/
/-- the error of class C with x told -/
def BadE (K : PySem.W.Frag) (C f : String) (x : V) (H : Hp) (E : XK) : Prop := ∀ H' d, Same H H' → H' d = some (.xd [(f, x)]) → E (.ref (He.ga K C)) (some d) H'
theorem BadE.same {K : PySem.W.Frag} {C f : String} {x : V} {H H1 : Hp} {E : XK} (s : Same H H1) (h : BadE K C f x H E) : BadE K C f x H1 E := fun H' d s' e => h H' d (s.trans s') e
theorem Th.same {H H' : Hp} (s : Same H H') {v : V} {o : Option (List Int)} (h : Th H v o) : Th H' v o := by
  cases h with
  | yes h1 h2 => exact .yes (h1.ext (Ext.of s)) h2
  | other h1 h2 => exact .other (h1.same s) h2
  | odd h1 h2 h3 h4 => exact .odd (s _ _ h1) (fun x hx => (h2 x hx).elim fun t k => ⟨t, k.same s⟩) h3 h4
def spNeed (K : PySem.W.Frag) : Sp := fun vs H Q E => ∃ p n S v o, vs = [V.ref p, v] ∧ BookK K H p n S ∧ Th H v o ∧
  (S.has o = true → ∀ H', Same H H' → Q .non H') ∧ (S.has o = false → BadE K "BadTop" "given" v H E)
def Std.two (S : Std) (o1 o2 : Option (List Int)) : Bool := S.has o1 && S.has o2 && !decide (o1 = o2)
/-- what of two is told -/
def Std.told (S : Std) (o1 : Option (List Int)) (v1 v2 : V) : V := if S.has o1 = true then v2 else v1
def spNeed2 (K : PySem.W.Frag) : Sp := fun vs H Q E => ∃ p n S v o v2 o2, vs = [V.ref p, v, v2] ∧ BookK K H p n S ∧ Th H v o ∧ (S.has o = true → Th H v2 o2) ∧
  (S.two o o2 = true → ∀ H', Same H H' → Q .non H') ∧ (S.two o o2 = false → BadE K "BadTop" "given" (S.told o v v2) H E)
section
variable {P : Program} {w : World} {K : PySem.W.Frag} {mg : Str → Option Value} {base : Heap}
theorem ok_need_top (T : Txt K mg) : Def P w K mg base (L2.CX P w) 3 (He.ma K (cJ K) "need_top") (spNeed K) := by
  have D := ok_is_top (P := P) (w := w) (base := base) T
  refine defX T.d_Joinbook_need_top sc_Joinbook_need_top (fun _ _ _ _ _ _ us hl => match us, hl with | [_, _], _ => rfl) (fun vs H Q E h => ?_) (fun cdv A outer s H vs Q E hr h => ?_)
  · obtain ⟨p, n, S, v, o, rfl, _⟩ := h
    rfl
  · obtain ⟨p, n, S, v, o, rfl, hb, hth, k, kb⟩ := h
    refine ⟨_, pss_one (ps_if (pt_not (pt_val (pe_md (pv 0) T.clJ T.m_Joinbook_is_top D hr pass0 (pa_cons (pv 1) pa_nil)))) (pss_one (ps_top T rfl hr (takes_of rfl rfl rfl rfl) (pa_cons (pv 1) pa_nil))) pss_nil), ?_⟩
    have hb' := hb
    obtain ⟨dx, t, pre, sv, hp, _⟩ := hb'
    refine ⟨_, rfl, p, dx, _, rfl, hp, rfl, _, rfl, p, n, S, v, o, rfl, hb, hth, fun H1 s1 => ⟨_, rfl, ?_⟩⟩
    cases e : S.has o with
    | true => exact iteF (k e _ s1)
    | false => exact iteT ⟨_, rfl, _, rfl, fun d hd => kb e _ _ (same_fresh s1 hd) upd_same⟩
theorem ok_need_two (T : Txt K mg) : Def P w K mg base (L2.CX P w) 4 (He.ma K (cJ K) "need_two") (spNeed2 K) := by
  have D := ok_need_top (P := P) (w := w) (base := base) T
  refine defX T.d_Joinbook_need_two sc_Joinbook_need_two (fun _ _ _ _ _ _ us hl => match us, hl with | [_, _, _], _ => rfl) (fun vs H Q E h => ?_) (fun cdv A outer s H vs Q E hr h => ?_)
  · obtain ⟨p, n, S, v, o, v2, o2, rfl, _⟩ := h
    rfl
  · obtain ⟨p, n, S, v, o, v2, o2, rfl, hb, h1, h2, k, kb⟩ := h
    have tk : Takes (cxOf (L2.CX P w) P w K mg base n_Joinbook_need_two "Joinbook.need_two" (defScope s_Joinbook_need_two) (He.ma K (cJ K) "need_two") cdv A outer s H E) (fun cls d _ H => E cls d H) := takes_of rfl rfl rfl rfl
    refine ⟨_, pss_cons (ps_expr (pe_md (pv 0) T.clJ T.m_Joinbook_need_top D hr (passes_call tk fun _ _ _ _ h => h) (pa_cons (pv 1) pa_nil)))
      (pss_cons (ps_expr (pe_md (pv 0) T.clJ T.m_Joinbook_need_top D hr (passes_call tk fun _ _ _ _ h => h) (pa_cons (pv 2) pa_nil)))
      (pss_one (ps_if (pt_cmpR (op_eqQ T.sysd hr.units) (pv 1) (pv 2) (by rfl)) (pss_one (ps_top T rfl (hr.mono (by omega)) tk (pa_cons (pv 2) pa_nil))) pss_nil))), ?_⟩
    have hb' := hb
    obtain ⟨dx, t, pre, sv, hp, _⟩ := hb'
    refine ⟨_, rfl, p, dx, _, rfl, hp, rfl, _, rfl, p, n, S, v, o, rfl, hb, h1, fun e1 H1 s1 => ?_, fun e1 => ?_⟩
    · replace h2 := h2 e1
      refine ⟨_, rfl, p, dx, _, rfl, s1 _ _ hp, rfl, _, rfl, p, n, S, v2, o2, rfl, hb.same s1, h2.same s1, fun e2 H2 s2 => ?_, fun e2 => ?_⟩
      · have s12 := s1.trans s2
        cases h1 with
        | other _ _ => cases e1
        | odd _ _ _ _ => cases e1
        | @yes _ ns t1 l1 =>
          cases h2 with
          | other _ _ => cases e2
          | odd _ _ _ _ => cases e2
          | @yes _ ms t2 l2 =>
            refine ⟨_, rfl, _, rfl, dT ns, dT ms, (t1.ext (Ext.of s12)).dq, (t2.ext (Ext.of s12)).dq, shaped_dT _, shaped_dT _, _, rfl, ?_⟩
            rw [eqv_dT]
            by_cases e : ns = ms
            · rw [decide_eq_true e]
              have hf : S.two (some ns) (some ms) = false := by simp [Std.two, e]
              have ht : S.told (some ns) v v2 = v2 := by simp [Std.told, e1]
              refine iteT ⟨_, rfl, _, rfl, fun d hd => ?_⟩
              have := kb hf
              rw [ht] at this
              exact this _ _ (same_fresh s12 hd) upd_same
            · rw [decide_eq_false e]
              have hf : S.two (some ns) (some ms) = true := by simp [Std.two, e, e1, e2]
              exact iteF (k hf _ s12)
      · have hf : S.two o o2 = false := by simp [Std.two, e2]
        have ht : S.told o v v2 = v2 := by simp [Std.told, e1]
        have := kb hf
        rw [ht] at this
        exact this.same s1
    · have hf : S.two o o2 = false := by simp [Std.two, e1]
      have ht : S.told o v v2 = v := by simp [Std.told, e1]
      have := kb hf
      rw [ht] at this
      exact this
end
end JB
set_option Elab.async false
set_option linter.all false
set_option maxRecDepth 100000
set_option maxHeartbeats 4000000
namespace JB
open PySem PySem.Spec PyProof.Rows L2
def spBW (K : PySem.W.Frag) : Sp := fun vs H Q E => ∃ p n S v o, vs = [V.ref p, v] ∧ BookK K H p n S ∧ Good S ∧ Th H v o ∧
  (∀ t, o = some t → t ∈ S.tops → ∀ H', Same H H' → Q (.int (S.wt t)) H') ∧ (S.has o = false → BadE K "BadTop" "given" v H E)
def spTake (K : PySem.W.Frag) : Sp := fun vs H Q E => ∃ p n S v o, vs = [V.ref p, v] ∧ BookK K H p n S ∧ Good S ∧ n ≤ 1000 ∧ Th H v o ∧
  (∀ t, o = some t → t ∈ S.tops → ∀ H', But [p] H H' → BookK K H' p (n + 1) (S.taken t) → Q (.int (S.wt t)) H') ∧ (S.has o = false → BadE K "BadTop" "given" v H E)
/-- what a join loses against what could be -/
def Std.loss (S : Std) (t o : List Int) : Int := (S.joined t o).fin - S.fin
def spLoss (K : PySem.W.Frag) : Sp := fun vs H Q E => ∃ p n S v o v2 o2, vs = [V.ref p, v, v2] ∧ BookK K H p n S ∧ Good S ∧ Th H v o ∧ (S.has o = true → Th H v2 o2) ∧
  (∀ t u, o = some t → o2 = some u → t ∈ S.tops → u ∈ S.tops → t ≠ u → ∀ H', Same H H' → Q (.int (S.loss t u)) H') ∧ (S.two o o2 = false → BadE K "BadTop" "given" (S.told o v v2) H E)
def spJoin (K : PySem.W.Frag) : Sp := fun vs H Q E => ∃ p n S v o v2 o2, vs = [V.ref p, v, v2] ∧ BookK K H p n S ∧ Good S ∧ n ≤ 1000 ∧ Th H v o ∧ (S.has o = true → Th H v2 o2) ∧
  (∀ t u, o = some t → o2 = some u → t ∈ S.tops → u ∈ S.tops → t ≠ u → ∀ H', But [p] H H' → BookK K H' p (n + 1) (S.joined t u) → Q (.int (S.loss t u)) H') ∧ (S.two o o2 = false → BadE K "BadTop" "given" (S.told o v v2) H E)
def spBCome (K : PySem.W.Frag) : Sp := fun vs H Q E => ∃ p n S v ty, vs = [V.ref p, v] ∧ BookK K H p n S ∧ Good S ∧ n ≤ 1000 ∧ Kn H v ty ∧
  (isB v 1 1000000000 = false → BadE K "BadNumber" "given" v H E) ∧
  (isB v 1 1000000000 = true → S.loads.length = 20 → BadE K "TooMany" "most" (.int 20) H E) ∧
  (isB v 1 1000000000 = true → S.loads.length ≠ 20 → S.tops.length = 8 → BadE K "TooMany" "most" (.int 8) H E) ∧
  (∀ x, v = .int x → isB v 1 1000000000 = true → S.loads.length ≠ 20 → S.tops.length ≠ 8 → ∀ H', But [p] H H' → BookK K H' p (n + 1) (S.come x) → Q (.int S.loads.length) H')
theorem Std.has_of {S : Std} {o : Option (List Int)} (h : S.has o = true) : ∃ t, o = some t ∧ t ∈ S.tops := by
  cases o with
  | none => cases h
  | some t => exact ⟨t, rfl, of_decide_eq_true h⟩
theorem Std.two_of {S : Std} {o o2 : Option (List Int)} (h : S.two o o2 = true) : ∃ t u, o = some t ∧ o2 = some u ∧ t ∈ S.tops ∧ u ∈ S.tops ∧ t ≠ u := by
  simp only [Std.two, Bool.and_eq_true] at h
  obtain ⟨⟨h1, h2⟩, h3⟩ := h
  obtain ⟨t, rfl, ht⟩ := Std.has_of h1
  obtain ⟨u, rfl, hu⟩ := Std.has_of h2
  refine ⟨t, u, rfl, rfl, ht, hu, fun e => ?_⟩
  rw [e] at h3
  simp at h3
theorem Good.join {S : Std} (g : Good S) {t u : List Int} (ht : t ∈ S.tops) (hu : u ∈ S.tops) : (∀ x ∈ (S.joined t u).tops, InR (S.joined t u).loads.length x ∧ x.length ≤ 1000) ∧ (S.joined t u).tops.length ≤ 100 := by
  refine ⟨fun x hx => ?_, ?_⟩
  · have hx' := (sT_perm _).mem_iff.mp hx
    rcases List.mem_append.mp hx' with h | h
    · have hm := (List.mem_filter.mp h).1
      refine ⟨g.inr x hm, ?_⟩
      have := g.short x hm
      omega
    · rw [List.mem_singleton.mp h]
      refine ⟨(g.inr t ht).same (g.inr u hu), ?_⟩
      have h1 := g.short t ht
      have h2 := g.short u hu
      rw [both_len]
      omega
  · show (sT _).length ≤ 100
    rw [sT_len, List.length_append]
    have := List.length_filter_le (fun x => !decide (x ∈ [t, u])) S.tops
    have := g.n8
    show _ + 1 ≤ 100
    omega
section
variable {P : Program} {w : World} {K : PySem.W.Frag} {mg : Str → Option Value} {base : Heap}
theorem ok_book_weight (T : Txt K mg) : Def P w K mg base (L2.CX P w) 4 (He.ma K (cJ K) "weight") (spBW K) := by
  have D := ok_need_top (P := P) (w := w) (base := base) T
  have DW := (ok_wt (P := P) (w := w) (base := base) T).mono (show 1 ≤ 3 by omega)
  refine defX T.d_Joinbook_weight sc_Joinbook_weight (fun _ _ _ _ _ _ us hl => match us, hl with | [_, _], _ => rfl) (fun vs H Q E h => ?_) (fun cdv A outer s H vs Q E hr h => ?_)
  · obtain ⟨p, n, S, v, o, rfl, _⟩ := h
    rfl
  · obtain ⟨p, n, S, v, o, rfl, hb, hg, hth, k, kb⟩ := h
    have tk : Takes (cxOf (L2.CX P w) P w K mg base n_Joinbook_weight "Joinbook.weight" (defScope s_Joinbook_weight) (He.ma K (cJ K) "weight") cdv A outer s H E) (fun cls d _ H => E cls d H) := takes_of rfl rfl rfl rfl
    refine ⟨_, pss_cons (ps_expr (pe_md (pv 0) T.clJ T.m_Joinbook_need_top D hr (passes_call tk fun _ _ _ _ h => h) (pa_cons (pv 1) pa_nil)))
      (pss_one (ps_ret (pe_md (pe_ix ix_tup (pe_fld (pv 0) rfl) (pe_un un_neg pe_int) (fun _ _ => rfl)) T.clS T.m_Stand_weight_in DW hr pass0 (pa_cons (pv 1) pa_nil)))), ?_⟩
    have hb' := hb
    obtain ⟨dx, t, pre, sv, hp, ht, hl, hs⟩ := hb'
    refine ⟨_, rfl, p, dx, _, rfl, hp, rfl, _, rfl, p, n, S, v, o, rfl, hb, hth, fun e1 H1 s1 => ?_, fun e1 => kb e1⟩
    obtain ⟨z, rfl, hz⟩ := Std.has_of e1
    cases hth with
    | yes hti hlen =>
      have hs' := hs.same s1
      obtain ⟨s, dy, dd, wc, tn, rfl, hs1, hw, htn⟩ := id hs'
      exact ⟨_, rfl, p, _, dx, _, _, rfl, s1 _ _ hp, T.clJ, T.n_own_past, rfl, 1, rfl, t, _, -1, _, rfl, rfl, SqT.of (s1 _ _ ht), atI_last _ _, s, dy, _, rfl, hs1, rfl, _, rfl, _, _, S, z, rfl, hs', hti.ext (Ext.of s1), hg.inr z hz, hlen, fun H' s' => k z rfl hz _ (s1.trans s')⟩
theorem ok_book_take (T : Txt K mg) : Def P w K mg base (L2.CX P w) 5 (He.ma K (cJ K) "take") (spTake K) := by
  have D := ok_book_weight (P := P) (w := w) (base := base) T
  have DT := (ok_stand_taken (P := P) (w := w) (base := base) T).mono (show 3 ≤ 4 by omega)
  have DG := (ok_go_on (P := P) (w := w) (base := base) T).mono (show 1 ≤ 4 by omega)
  refine defX T.d_Joinbook_take sc_Joinbook_take (fun _ _ _ _ _ _ us hl => match us, hl with | [_, _], _ => rfl) (fun vs H Q E h => ?_) (fun cdv A outer s H vs Q E hr h => ?_)
  · obtain ⟨p, n, S, v, o, rfl, _⟩ := h
    rfl
  · obtain ⟨p, n, S, v, o, rfl, hb, hg, hn, hth, k, kb⟩ := h
    have nd := sc_Joinbook_take.nd
    have tk : Takes (cxOf (L2.CX P w) P w K mg base n_Joinbook_take "Joinbook.take" (defScope s_Joinbook_take) (He.ma K (cJ K) "take") cdv A outer s H E) (fun cls d _ H => E cls d H) := takes_of rfl rfl rfl rfl
    refine ⟨_, pss_cons (ps_set (i := 2) nd rfl (Or.inl rfl) (pe_md (pv 0) T.clJ T.m_Joinbook_weight D hr (passes_call tk fun _ _ _ _ h => h) (pa_cons (pv 1) pa_nil)))
      (pss_cons (ps_expr (pe_md (pv 0) T.clJ T.m_Joinbook_go_on DG hr pass0 (pa_cons (pe_md (pe_ix ix_tup (pe_fld (pv 0) rfl) (pe_un un_neg pe_int) (fun _ _ => rfl)) T.clS T.m_Stand_taken DT hr pass0 (pa_cons (pv 1) pa_nil)) pa_nil)))
      (pss_one (ps_ret (pv 2)))), ?_⟩
    have hb' := hb
    obtain ⟨dx, t, pre, sv, hp, ht, hl, hs⟩ := hb'
    refine ⟨_, rfl, p, dx, _, rfl, hp, rfl, _, rfl, p, n, S, v, o, rfl, hb, hg, hth, fun z ez hz H1 s1 => ?_, fun e1 => kb e1⟩
    subst ez
    cases hth with
    | yes hti hlen =>
      have hs' := hs.same s1
      obtain ⟨s, dy, dd, wc, tn, rfl, hs1, hw, htn⟩ := id hs'
      refine ⟨_, rfl, p, dx, _, rfl, s1 _ _ hp, rfl, _, rfl, p, _, dx, _, _, rfl, s1 _ _ hp, T.clJ, T.n_own_past, rfl, 1, rfl, t, _, -1, _, rfl, rfl, SqT.of (s1 _ _ ht), atI_last _ _, s, dy, _, rfl, hs1, rfl, _, rfl, _, _, S, z, rfl, hs', hti.ext (Ext.of s1), ?_, fun H2 nv s2 hnv => ?_⟩
      · have := hg.n8
        omega
      have s12 := s1.trans s2
      exact ⟨p, n, S, nv, _, rfl, hb.same s12, hnv, hn, fun H3 b3 hb3 => ⟨_, rfl, k z rfl hz _ ((But.of s12).trans b3) hb3⟩⟩
theorem ok_book_loss (T : Txt K mg) : Def P w K mg base (L2.CX P w) 5 (He.ma K (cJ K) "loss") (spLoss K) := by
  have D := ok_need_two (P := P) (w := w) (base := base) T
  have DJ := (ok_stand_joined (P := P) (w := w) (base := base) T).mono (show 3 ≤ 4 by omega)
  have DF := (ok_stand_finish (P := P) (w := w) (base := base) T).mono (show 2 ≤ 4 by omega)
  refine defX T.d_Joinbook_loss sc_Joinbook_loss (fun _ _ _ _ _ _ us hl => match us, hl with | [_, _, _], _ => rfl) (fun vs H Q E h => ?_) (fun cdv A outer s H vs Q E hr h => ?_)
  · obtain ⟨p, n, S, v, o, v2, o2, rfl, _⟩ := h
    rfl
  · obtain ⟨p, n, S, v, o, v2, o2, rfl, hb, hg, hth, hth2, k, kb⟩ := h
    have nd := sc_Joinbook_loss.nd
    have tk : Takes (cxOf (L2.CX P w) P w K mg base n_Joinbook_loss "Joinbook.loss" (defScope s_Joinbook_loss) (He.ma K (cJ K) "loss") cdv A outer s H E) (fun cls d _ H => E cls d H) := takes_of rfl rfl rfl rfl
    refine ⟨_, pss_cons (ps_expr (pe_md (pv 0) T.clJ T.m_Joinbook_need_two D hr (passes_call tk fun _ _ _ _ h => h) (pa_cons (pv 1) (pa_cons (pv 2) pa_nil))))
      (pss_cons (ps_set (i := 3) nd rfl (Or.inl rfl) (pe_ix ix_tup (pe_fld (pv 0) rfl) (pe_un un_neg pe_int) (fun _ _ => rfl)))
      (pss_one (ps_ret (pe_op op_sub (pe_md0 (pe_md (pv 3) T.clS T.m_Stand_joined DJ hr pass0 (pa_cons (pv 1) (pa_cons (pv 2) pa_nil))) T.clS T.m_Stand_finish DF hr pass0) (pe_md0 (pv 3) T.clS T.m_Stand_finish DF hr pass0))))), ?_⟩
    have hb' := hb
    obtain ⟨dx, t, pre, sv, hp, ht, hl, hs⟩ := hb'
    refine ⟨_, rfl, p, dx, _, rfl, hp, rfl, _, rfl, _, rfl, p, n, S, v, o, v2, o2, rfl, hb, hth, hth2, fun e1 H1 s1 => ?_, fun e1 => kb e1⟩
    obtain ⟨z, y, rfl, rfl, hz, hy, hzy⟩ := Std.two_of e1
    replace hth2 := hth2 (decide_eq_true hz)
    cases hth with
    | yes hti hlen =>
      cases hth2 with
      | yes hti2 hlen2 =>
        have hs' := hs.same s1
        obtain ⟨s, dy, dd, wc, tn, rfl, hs1, hw, htn⟩ := id hs'
        have e8 := hg.n8
        have ez := hg.short z hz
        have ey := hg.short y hy
        refine ⟨_, rfl, p, _, dx, _, _, rfl, s1 _ _ hp, T.clJ, T.n_own_past, rfl, 1, rfl, t, _, -1, _, rfl, rfl, SqT.of (s1 _ _ ht), atI_last _ _, ?_⟩
        refine ⟨_, rfl, s, dy, _, rfl, hs1, rfl, _, rfl, _, rfl, _, _, _, S, z, y, rfl, hs', hti.ext (Ext.of s1), hti2.ext (Ext.of s1), hg.ne z hz, hg.ne y hy, by omega, by omega, (hg.inr z hz).same (hg.inr y hy), hg.ne, by omega, fun H2 nv s2 hnv => ?_⟩
        obtain ⟨s', dy', dd', wc', tn', rfl, hs2, hw2, htn2⟩ := id hnv
        refine ⟨s', dy', _, rfl, hs2, rfl, _, _, rfl, hnv, (hg.join hz hy).1, (hg.join hz hy).2, fun H3 s3 => ?_⟩
        have s23 := s2.trans s3
        refine ⟨_, rfl, s, dy, _, rfl, s23 _ _ hs1, rfl, _, S, rfl, hs'.same s23, hg.fin.1, hg.fin.2, fun H4 s4 => ⟨_, _, rfl, rfl, ?_⟩⟩
        exact k z y rfl rfl hz hy hzy _ ((s1.trans s23).trans s4)
theorem ok_book_join (T : Txt K mg) : Def P w K mg base (L2.CX P w) 6 (He.ma K (cJ K) "join") (spJoin K) := by
  have D := ok_book_loss (P := P) (w := w) (base := base) T
  have DJ := (ok_stand_joined (P := P) (w := w) (base := base) T).mono (show 3 ≤ 5 by omega)
  have DG := (ok_go_on (P := P) (w := w) (base := base) T).mono (show 1 ≤ 5 by omega)
  refine defX T.d_Joinbook_join sc_Joinbook_join (fun _ _ _ _ _ _ us hl => match us, hl with | [_, _, _], _ => rfl) (fun vs H Q E h => ?_) (fun cdv A outer s H vs Q E hr h => ?_)
  · obtain ⟨p, n, S, v, o, v2, o2, rfl, _⟩ := h
    rfl
  · obtain ⟨p, n, S, v, o, v2, o2, rfl, hb, hg, hn, hth, hth2, k, kb⟩ := h
    have nd := sc_Joinbook_join.nd
    have tk : Takes (cxOf (L2.CX P w) P w K mg base n_Joinbook_join "Joinbook.join" (defScope s_Joinbook_join) (He.ma K (cJ K) "join") cdv A outer s H E) (fun cls d _ H => E cls d H) := takes_of rfl rfl rfl rfl
    refine ⟨_, pss_cons (ps_set (i := 3) nd rfl (Or.inl rfl) (pe_md (pv 0) T.clJ T.m_Joinbook_loss D hr (passes_call tk fun _ _ _ _ h => h) (pa_cons (pv 1) (pa_cons (pv 2) pa_nil))))
      (pss_cons (ps_expr (pe_md (pv 0) T.clJ T.m_Joinbook_go_on DG hr pass0 (pa_cons (pe_md (pe_ix ix_tup (pe_fld (pv 0) rfl) (pe_un un_neg pe_int) (fun _ _ => rfl)) T.clS T.m_Stand_joined DJ hr pass0 (pa_cons (pv 1) (pa_cons (pv 2) pa_nil))) pa_nil)))
      (pss_one (ps_ret (pv 3)))), ?_⟩
    have hb' := hb
    obtain ⟨dx, t, pre, sv, hp, ht, hl, hs⟩ := hb'
    refine ⟨_, rfl, p, dx, _, rfl, hp, rfl, _, rfl, _, rfl, p, n, S, v, o, v2, o2, rfl, hb, hg, hth, hth2, fun z y ez ey hz hy hzy H1 s1 => ?_, fun e1 => kb e1⟩
    subst ez
    subst ey
    replace hth2 := hth2 (decide_eq_true hz)
    cases hth with
    | yes hti hlen =>
      cases hth2 with
      | yes hti2 hlen2 =>
        have hs' := hs.same s1
        obtain ⟨s, dy, dd, wc, tn, rfl, hs1, hw, htn⟩ := id hs'
        have e8 := hg.n8
        have ez := hg.short z hz
        have ey := hg.short y hy
        refine ⟨_, rfl, p, dx, _, rfl, s1 _ _ hp, rfl, _, rfl, p, _, dx, _, _, rfl, s1 _ _ hp, T.clJ, T.n_own_past, rfl, 1, rfl, t, _, -1, _, rfl, rfl, SqT.of (s1 _ _ ht), atI_last _ _, s, dy, _, rfl, hs1, rfl, _, rfl, _, rfl, _, _, _, S, z, y, rfl, hs', hti.ext (Ext.of s1), hti2.ext (Ext.of s1), hg.ne z hz, hg.ne y hy, by omega, by omega, (hg.inr z hz).same (hg.inr y hy), hg.ne, by omega, fun H2 nv s2 hnv => ?_⟩
        have s12 := s1.trans s2
        exact ⟨p, n, S, nv, _, rfl, hb.same s12, hnv, hn, fun H3 b3 hb3 => ⟨_, rfl, k z y rfl rfl hz hy hzy _ ((But.of s12).trans b3) hb3⟩⟩
theorem ok_book_come (T : Txt K mg) : Def P w K mg base (L2.CX P w) 4 (He.ma K (cJ K) "come") (spBCome K) := by
  have D := (ok_is_between (P := P) (w := w) (base := base) T).mono (show 2 ≤ 3 by omega)
  have DC := ok_stand_come (P := P) (w := w) (base := base) T
  have DG := (ok_go_on (P := P) (w := w) (base := base) T).mono (show 1 ≤ 3 by omega)
  refine defX T.d_Joinbook_come sc_Joinbook_come (fun _ _ _ _ _ _ us hl => match us, hl with | [_, _], _ => rfl) (fun vs H Q E h => ?_) (fun cdv A outer s H vs Q E hr h => ?_)
  · obtain ⟨p, n, S, v, ty, rfl, _⟩ := h
    rfl
  · obtain ⟨p, n, S, v, ty, rfl, hb, hg, hn, hk, k1, k2, k3, k⟩ := h
    have nd := sc_Joinbook_come.nd
    have tk : Takes (cxOf (L2.CX P w) P w K mg base n_Joinbook_come "Joinbook.come" (defScope s_Joinbook_come) (He.ma K (cJ K) "come") cdv A outer s H E) (fun cls d _ H => E cls d H) := takes_of rfl rfl rfl rfl
    obtain ⟨t1, hw1⟩ := T.i_weight
    obtain ⟨t2, hw2⟩ := T.i_come
    obtain ⟨t3, hw3⟩ := T.i_tops
    have hr2 := hr.mono (show 2 ≤ 3 by omega)
    refine ⟨_, pss_cons (ps_set (i := 2) nd rfl (Or.inl rfl) (pe_ix ix_tup (pe_fld (pv 0) rfl) (pe_un un_neg pe_int) (fun _ _ => rfl)))
      (pss_cons (ps_if (pt_not (pt_val (pe_cd D hr T.g_is_between pass0 (pa_cons (pv 1) (pa_cons pe_int (pa_cons (pe_glob (v := .int 1000000000) rfl hw1 ⟨_, rfl⟩) pa_nil)))))) (pss_one (ps_number T rfl hr2 tk (pa_cons (pv 1) pa_nil))) pss_nil)
      (pss_cons (ps_if (pt_cmpR op_eq (pe_callB call_len_seq rfl T.f_len boot_len (pa_cons (pe_fld (pv 2) rfl) pa_nil)) (pe_glob (v := .int 20) rfl hw2 ⟨_, rfl⟩) (by rfl)) (pss_one (ps_many T rfl hr2 tk (pa_cons (pe_glob (v := .int 20) rfl hw2 ⟨_, rfl⟩) pa_nil))) pss_nil)
      (pss_cons (ps_if (pt_cmpR op_eq (pe_callB call_len_seq rfl T.f_len boot_len (pa_cons (pe_fld (pv 2) rfl) pa_nil)) (pe_glob (v := .int 8) rfl hw3 ⟨_, rfl⟩) (by rfl)) (pss_one (ps_many T rfl hr2 tk (pa_cons (pe_glob (v := .int 8) rfl hw3 ⟨_, rfl⟩) pa_nil))) pss_nil)
      (pss_cons (ps_expr (pe_md (pv 0) T.clJ T.m_Joinbook_go_on DG hr pass0 (pa_cons (pe_md (pv 2) T.clS T.m_Stand_come DC hr pass0 (pa_cons (pv 1) pa_nil)) pa_nil)))
      (pss_one (ps_ret (pe_callB call_len_seq rfl T.f_len boot_len (pa_cons (pe_fld (pv 2) rfl) pa_nil)))))))), ?_⟩
    have hb' := hb
    obtain ⟨dx, t, pre, sv, hp, ht, hl, hs⟩ := hb'
    have e8 := hg.n8
    have e20 := hg.n20
    obtain ⟨s, dy, dd, wc, tn, rfl, hs1, ⟨tw, rfl, hw⟩, ⟨tt, xs, rfl, htt, htl⟩⟩ := id hs
    refine ⟨_, rfl, p, _, dx, _, _, rfl, hp, T.clJ, T.n_own_past, rfl, 1, rfl, t, _, -1, _, rfl, rfl, SqT.of ht, atI_last _ _, ?_⟩
    refine ⟨_, rfl, v, ty, 1, 1000000000, rfl, hk, _, rfl, ?_⟩
    cases eb : isB v 1 1000000000 with
    | false => exact iteT ⟨_, rfl, _, rfl, fun d hd => k1 eb _ _ (same_upd hd) upd_same⟩
    | true =>
      refine iteF ⟨_, rfl, s, _, dy, _, _, rfl, hs1, T.clS, T.n_weights_come, rfl, tw, _, rfl, .inr (SqT.of hw), rfl, _, rfl, ?_⟩
      rw [List.length_map]
      by_cases e2 : S.loads.length = 20
      · rw [decide_eq_true (show V.int (S.loads.length : Int) = V.int 20 by rw [e2]; rfl)]
        exact iteT ⟨_, rfl, fun d hd => k2 eb e2 _ _ (same_upd hd) upd_same⟩
      · rw [decide_eq_false (show ¬ V.int (S.loads.length : Int) = V.int 20 from fun e => e2 (by have := V.int.inj e; omega))]
        refine iteF ⟨_, rfl, s, _, dy, _, _, rfl, hs1, T.clS, T.n_tops_now, rfl, tt, _, rfl, .inr (SqT.of htt), rfl, _, rfl, ?_⟩
        rw [htl.length]
        by_cases e3 : S.tops.length = 8
        · rw [decide_eq_true (show V.int (S.tops.length : Int) = V.int 8 by rw [e3]; rfl)]
          exact iteT ⟨_, rfl, fun d hd => k3 eb e2 e3 _ _ (same_upd hd) upd_same⟩
        · rw [decide_eq_false (show ¬ V.int (S.tops.length : Int) = V.int 8 from fun e => e3 (by have := V.int.inj e; omega))]
          cases v with
          | int x =>
            refine iteF ⟨_, rfl, p, dx, _, rfl, hp, rfl, _, rfl, s, dy, _, rfl, hs1, rfl, _, rfl, _, S, x, rfl, hs, hg.ne, by omega, by omega, fun H1 nv s1 hnv => ?_⟩
            refine ⟨p, n, S, nv, _, rfl, hb.same s1, hnv, hn, fun H2 b2 hb2 => ?_⟩
            have hs2 := (hs.same s1).but (s1 _ _ hp) b2
            have ne1 : s ∉ [p] := fun hm => by
              rw [List.mem_singleton.mp hm, hp] at hs1
              simp [sF, bF] at hs1
            have ne2 : tw ∉ [p] := fun hm => by
              rw [List.mem_singleton.mp hm, hp] at hw
              cases hw
            refine ⟨_, rfl, s, _, dy, _, _, rfl, b2 _ _ (s1 _ _ hs1) ne1, T.clS, T.n_weights_come, rfl, tw, _, rfl, .inr (SqT.of (b2 _ _ (s1 _ _ hw) ne2)), ?_⟩
            rw [List.length_map]
            exact k x rfl eb e2 e3 _ ((But.of s1).trans b2) hb2
          | _ => cases eb
end
end JB
set_option Elab.async false
set_option linter.all false
set_option maxRecDepth 100000
set_option maxHeartbeats 4000000
/-! Several except clauses that all name the error with the same name. -/
namespace JB
open PySem PySem.Spec PyProof.Rows L2
/-- what the clauses wish: slot i is the name's -/
def wManyA (K : PySem.W.Frag) (i : Nat) (Wout : WX) (D : Ends) : List (Value × (Addr → Value → Option Addr → TS)) → WX
  | [] => Wout
  | (c, ts) :: r => fun cls d σ H => ∃ b, PySem.W.exmOne K cls c = some b ∧
      (b = true → ∀ a, H a = none → ts a cls d { nx := fun σ' H' => D.nx (σ'.set i none) H', rt := D.rt, bk := fun σ' H' => D.bk (σ'.set i none) H', ct := fun σ' H' => D.ct (σ'.set i none) H' } (σ.set i (some (.ref a))) H) ∧
      (b = false → wManyA K i Wout D r cls d σ H)
inductive HdsA (X : Cx) (n : Str) : List ExceptHandler → List (Value × (Addr → Value → Option Addr → TS)) → Prop
  | nil : HdsA X n [] []
  | cons {x : Str} {c : Value} {ts : Addr → Value → Option Addr → TS} {b₀ : Stmt} {suite : List Stmt} {np pos' : Pos} {hds : List ExceptHandler} {l : List (Value × (Addr → Value → Option Addr → TS))} (hc : Names X x c)
      (hsu : ∀ (a : Addr) (oe : Obj) (cls : Value) (d : Option Addr) (pn : List (Addr × Obj)), Zc cls d oe → (∃ vs, oe.data = .fields vs) → PSs (X.suite a ((a, oe) :: pn)) (b₀ :: suite) (ts a cls d)) (r : HdsA X n hds l) :
      HdsA X n (.ExceptHandler (some (.Name x np)) (some n) (b₀ :: suite) pos' :: hds) ((c, ts) :: l)
section
variable {X : Cx} {body : List Stmt} {n : Str} {i : Nat} {h₀ : ExceptHandler} {hds : List ExceptHandler} {l : List (Value × (Addr → Value → Option Addr → TS))} {pos : Pos} {tb : WX → TS} {Wout : WX}
theorem ps_try_manyA (hs : X.stack = X.env :: X.outer) (hf : X.env.frame = some X.env.locals) (hN : X.N.Nodup) (hi : X.N[i]? = some n) (hln : X.env.kindOf n = some .local) (tk : Takes X Wout)
    (hb : ∀ (W : WX) (pn : List (Addr × Obj)) (xe : Value → Shared → Prop), Takes (X.tr pn xe) W → PassesOwn (model X.prog X.w) X.A X.env xe → PSs (X.tr pn xe) body (tb W))
    (hh : HdsA X n (h₀ :: hds) l) : PS X (.Try body (h₀ :: hds) [] [] pos) (fun D σ H => tb (wManyA X.K i Wout D l) D σ H) := by
  refine ⟨fun pins s σ H D I h => ?_⟩
  have ok := I.ok
  have hfr : X.A.frames = some (X.env :: X.outer) := by rw [ok.frames, hs]
  have hloc : Loc X.env.scope n := .inl hln
  refine wpAny_Try_except ?_
  refine wpAny_mono ((hb (wManyA X.K i Wout D l) (X.pn ++ pins) (fun e s₁ => wpAny (model X.prog X.w) X.A (noteFrame e X.env) (fun _ s₂ => wpAny (model X.prog X.w) X.A (setFlight e none) (fun _ s₃ =>
    wpAny (model X.prog X.w) X.A (handleBy e X.env (h₀ :: hds)) (SP X pins D) X.xe s₃) X.xe s₂) X.xe s₁) (fun u s' xx => ?_) PassesOwn.looking).run [] s σ H D (I.toTry _) h) (fun f s1 hsp => ?_) (fun e s1 he => he)
  · obtain ⟨a, B, sI, pins', σ', H', cls, d, rfl, J', nb, up, sky, na, os, ag, w⟩ := xx
    have J : Inv X pins σ' H' sI := J'.ofTry ok
    have sky' : Sky B (X.env :: X.outer) a (Zc cls d) X.env.locals s'.heap := by rw [← hs]; exact sky
    show wpAny (model X.prog X.w) X.A (noteFrame (.ref a) X.env) _ _ _
    refine Sky.land Zc.steady hfr hf sky' fun h3 fl3 up3 => ?_
    have J3 : Inv X pins σ' H' { s' with heap := h3 } := J.landed nb fl3.1 (up.trans up3) os ag
    obtain ⟨oe3, vs3, he3, hz3, hd3⟩ := fl3.there
    have notFr : ∀ {h : Heap} {o : Obj} {vs : Array Value}, h.FunFrames B (X.env :: X.outer) → h.get? a = some o → o.data = .fields vs → a ∉ frs (X.env :: X.outer) := fun {h o vs} ff e dd hm => by
      obtain ⟨_, o', e', hnf⟩ := ff.mem hm
      rw [e] at e'; cases e'
      exact hnf _ dd
    have nfr := notFr fl3.2.2.1 he3 hd3
    have nL : a ≠ X.env.locals := fun z => nfr (List.mem_filterMap.mpr ⟨X.env, List.mem_cons_self, by rw [hf, z]⟩)
    have nF : a ∉ X.fs := fun hm => by
      obtain ⟨e, he, q⟩ := List.mem_filterMap.mp hm
      exact nfr (List.mem_filterMap.mpr ⟨e, List.mem_cons_of_mem _ he, q⟩)
    have S3 := J3.suite he3 hd3 na nL nF
    have go : ∀ {hds' : List ExceptHandler} {l' : List (Value × (Addr → Value → Option Addr → TS))}, HdsA X n hds' l' → wManyA X.K i Wout D l' cls d σ' H' →
        wpAny (model X.prog X.w) X.A (handleBy (.ref a) X.env hds') (SP X pins D) X.xe { s' with heap := h3 } := by
      intro hds' l' hk
      induction hk with
      | nil =>
        intro w
        refine wpAny_handleBy_nil ?_
        obtain ⟨k1, k2, k3, oe, vs, T, oT, ts', he, hz, hd, h1, hr⟩ := id fl3
        unfold PySem.passOn
        refine wpAny_bind (wpAny_field he hd h1 ?_)
        rw [if_neg (show ¬ ((Value.ref T == Value.none) = true) from by simp)]
        have fin : wpAny (model X.prog X.w) X.A (setFlight (.ref a) X.env.frame) (fun _ s4 => wpAny (model X.prog X.w) X.A (throw (.ref a) : Sem Flow) (SP X pins D) X.xe s4) X.xe { s' with heap := h3 } := by
          rw [hf]
          refine HandSPX.setFlight_upZ fl3 fun h4 hh4 up4 => wpAny_throw (tk _ _ ?_)
          exact ⟨a, B, sI, pins, σ', H', cls, d, rfl, J, nb, (up.trans up3).trans up4, .inr (.inr (by rw [hs]; exact hh4)), na, os, ag, w⟩
        first
          | exact wpAny_bind (wpAny_pure (wpAny_bind fin))
          | exact wpAny_bind fin
      | @cons x c ts b₀ suite np pos' hds2 l2 hc hsu r ih =>
        intro w
        obtain ⟨b, hb1, hyes, hno⟩ := w
        refine wpAny_handleBy_cons (codeAny_handlers_test ?_) (by intro q; cases q)
        have LT : PySem.W.Looks (model X.prog X.w) h3 (typeOf (.ref a)) cls := fun A Q E s k q => wpAny_typeOf_ref (k _ _ he3) (by rw [hz3.1]; exact q)
        have LM := PySem.W.exm_one (M := model X.prog X.w) (J3.kIn) LT hb1
        have test : ∀ {Q : Value → Shared → Prop} {E : Value → Shared → Prop}, Q c { s' with heap := h3 } → wpAny (model X.prog X.w) (X.A.mark (some (.ref a))) (eval (.Name x np) X.env) Q E { s' with heap := h3 } := fun {Q E} q => by
          obtain ⟨hg, hdbg, hm | ⟨hm, hv, hnn⟩⟩ := hc
          · exact ld_glob (X := X.suite a ((a, oe3) :: (X.pn ++ pins))) S3 hg hm q hdbg
          · exact ld_blt (X := X.suite a ((a, oe3) :: (X.pn ++ pins))) S3 hg hm hv q hnn hdbg
        refine test (LM.here ?_)
        cases b with
        | true =>
          refine codeAny_handlers_suite_as ?_
          refine HandSPX.lands_againZ fl3 fun h4 fl4 up4 => ?_
          have J4 : Inv X pins σ' H' { s' with heap := h4 } := J.landed nb fl4.1 ((up.trans up3).trans up4) os ag
          obtain ⟨oe4, vs4, he4, hz4, hd4⟩ := fl4.there
          have S4 := J4.suite he4 hd4 na nL nF
          refine store_ok (X := X.suite a ((a, oe4) :: (X.pn ++ pins))) (v := .ref a) S4 hN hi hloc rfl (fun s5 S5 => ?_) (.inr hln)
          refine wpAny_mono ((hsu a oe4 cls d (X.pn ++ pins) hz4 ⟨_, hd4⟩).run [] s5 _ H' _ S5 (hyes rfl a na)) (fun f s6 hsp => ?_) (fun _ _ z => False.elim z)
          have end_ : ∀ {σ6 : L2.St} {H6 : Hp} {Q : Shared → Prop}, Inv (X.suite a ((a, oe4) :: (X.pn ++ pins))) [] σ6 H6 s6 → (∀ s7, Inv X pins (σ6.set i none) H6 s7 → Q s7) →
              wpAny (model X.prog X.w) X.A (do bindName X.env n .none; unbindBehindTheSuite X.env n pos') (fun _ s7 => Q s7) X.xe s6 := fun {σ6 H6 Q} S6 hq => gone_ok (S6.unsuite ok) hN hi hln hq
          cases f with
          | next =>
            obtain ⟨σ6, H6, S6, q6⟩ := hsp
            exact end_ S6 fun s7 J7 => ⟨_, _, J7, q6⟩
          | brk =>
            obtain ⟨σ6, H6, S6, q6⟩ := hsp
            exact end_ S6 fun s7 J7 => ⟨_, _, J7, q6⟩
          | cont =>
            obtain ⟨σ6, H6, S6, q6⟩ := hsp
            exact end_ S6 fun s7 J7 => ⟨_, _, J7, q6⟩
          | ret u =>
            obtain ⟨v6, σ6, H6, S6, r6, q6⟩ := hsp
            exact end_ S6 fun s7 J7 => ⟨_, _, _, J7, r6, q6⟩
        | false =>
          show wpAny _ X.A (handleBy (.ref a) X.env hds2) _ _ _
          exact ih (hno rfl)
    exact go hh w
  · cases f with
    | next =>
      obtain ⟨σ', H', J', q⟩ := hsp
      exact wpAny_execs_nil ⟨σ', H', J'.ofTry ok, q⟩
    | brk =>
      obtain ⟨σ', H', J', q⟩ := hsp
      exact ⟨σ', H', J'.ofTry ok, q⟩
    | cont =>
      obtain ⟨σ', H', J', q⟩ := hsp
      exact ⟨σ', H', J'.ofTry ok, q⟩
    | ret u =>
      obtain ⟨v, σ', H', J', r, q⟩ := hsp
      exact ⟨v, σ', H', J'.ofTry ok, r, q⟩
end
end JB
set_option Elab.async false
set_option linter.all false
set_option maxRecDepth 100000
set_option maxHeartbeats 4000000
/-! t[::-1] of a tuple that is not empty. -/
namespace JB
open PySem PySem.Spec PyProof.Rows L2
theorem adjust_rev (n : Nat) : Builtin.Slice.sliceAdjust none none (-1) (n : Int) = ((n : Int) - 1, -1) := by
  unfold Builtin.Slice.sliceAdjust
  rfl
theorem places_rev (n : Nat) : Builtin.Slice.slicePlaces ((n : Int) - 1) (-1) (-1) = n := by
  unfold Builtin.Slice.slicePlaces
  have h1 : ¬ ((-1 : Int) > 0) := by decide
  by_cases h : (n : Int) - 1 > -1
  · have e : ((n : Int) - 1 - -1 - 1) / (- -1) + 1 = (n : Int) := by
      rw [show (- -1 : Int) = 1 by decide, Int.ediv_one]
      omega
    simp only [h1, if_false, h, if_true, e, Int.toNat_natCast]
  · have e : n = 0 := by omega
    subst e
    rfl
theorem pick_rev (items : Array Value) : ((List.range items.size).filterMap fun (k : Nat) => items[((items.size : Int) - 1 + (k : Int) * (-1)).toNat]?).toArray = items.toList.reverse.toArray := by
  have e : (List.range items.size).filterMap (fun (k : Nat) => items[((items.size : Int) - 1 + (k : Int) * (-1)).toNat]?) = ((List.range items.size).map fun k => items.size - 1 - k).filterMap (items[·]?) := by
    rw [List.filterMap_map]
    have ef : (fun (k : Nat) => items[((items.size : Int) - 1 + (k : Int) * (-1)).toNat]?) = ((fun x => items[x]?) ∘ fun k => items.size - 1 - k) := by
      funext k
      have : ((items.size : Int) - 1 + (k : Int) * (-1)).toNat = items.size - 1 - k := by omega
      simp only [Function.comp, this]
    rw [ef]
  rw [e, PySem.W.krv_range, List.filterMap_reverse, PySem.W.krv_all]
section
variable {prog : Program} {w : World} {A : Around} {E : Value → Shared → Prop} {s : Shared}
theorem sliceApplied_rev {sl : Addr} {vs : Value} {n : Nat} {Q : Int × Int × Nat → Shared → Prop} (hs : s.heap.IsSliceOf sl .none .none vs) (ps : IsPart vs (some (-1))) (h : Q ((n : Int) - 1, -1, n) s) :
    wpAny (model prog w) A (Builtin.Slice.sliceApplied (.ref sl) (pure (n : Int))) Q E s := by
  obtain ⟨os, hos, hcs, hds⟩ := id hs
  unfold Builtin.Slice.sliceApplied Builtin.Slice.sliceFields
  refine wpAny_bind (wpAny_bind (wpAny_field hos hds (x := .none) rfl (wpAny_bind (wpAny_field hos hds (x := .none) rfl (wpAny_bind (wpAny_field hos hds (x := vs) rfl (wpAny_pure ?_)))))))
  refine wpAny_bind (HT.slicePart_ ps ?_)
  show wpAny _ _ (if ((-1 : Int) == 0) = true then _ else _) _ _ s
  rw [if_neg (by decide)]
  refine wpAny_bind (HT.slicePart_ .none (wpAny_bind (HT.slicePart_ .none (wpAny_bind (wpAny_pure ?_)))))
  show wpAny _ _ (match Builtin.Slice.sliceAdjust none none (-1) (n : Int) with | (lo, hi) => pure (lo, (-1 : Int), Builtin.Slice.slicePlaces lo hi (-1))) _ _ s
  rw [adjust_rev n]
  show wpAny _ _ (pure ((n : Int) - 1, (-1 : Int), Builtin.Slice.slicePlaces ((n : Int) - 1) (-1) (-1))) _ _ s
  rw [places_rev]
  exact wpAny_pure h
theorem getItem_tuple_rev {t sl : Addr} {items : Array Value} {vs : Value} {Q : Value → Shared → Prop} (ht : IsTup s.heap t items) (hs : s.heap.IsSliceOf sl .none .none vs) (ps : IsPart vs (some (-1)))
    (h : Q (.ref s.heap.objs.size) { s with heap := s.heap.push { cls := .type "tuple", data := .seq items.toList.reverse.toArray } })
    (hsz : items.size ≤ sizeLine) : wpAny (model prog w) A (getItem (.ref t) (.ref sl)) Q E s := by
  have htake : sizeOk (.seq items.toList.reverse.toArray) := by
    show items.toList.reverse.toArray.size ≤ sizeLine
    rw [List.size_toArray, List.length_reverse, Array.length_toList]
    exact hsz
  obtain ⟨os, hos, hcs, hds⟩ := id hs
  have hTs : s.TypeIs (.ref sl) "slice" := ⟨os, hos, hcs⟩
  unfold getItem
  try with_reducible refine wpAny_holding ?_
  first | refine wpAny_bind (wpAny_pure ?_) | skip
  refine wpAny_bind (wpAny_sequenceKey ht.typeIs (by decide) ?_)
  refine wpAny_bind (wpAny_callSpecial?_slot (name := Str.ofString "__getitem__") ht.typeIs PyProof.Rows.slot_tuple_getitem
    (wpAny_call_entry PyProof.Rows.slot_tuple_getitem ht.typeIs entry_tuple_getitem ?_ (args_tuple_getitem _ _)))
  show wpAny _ _ (Builtin.Tuple.tupleItemsOf (.ref t) >>= _) _ _ s
  refine wpAny_bind (tupleItemsOf_ ht ?_)
  refine wpAny_bind (wpAny_typeOf hTs ?_)
  rw [if_pos (by decide)]
  refine wpAny_bind (sliceApplied_rev hs ps ?_)
  have hno : ¬ ((((items.size : Int) - 1) == 0 && (-1 : Int) == 1 && items.size == items.size) = true) := by
    intro q
    rw [Bool.and_eq_true, Bool.and_eq_true] at q
    exact absurd q.1.2 (by decide)
  show wpAny _ _ (if (((items.size : Int) - 1) == 0 && (-1 : Int) == 1 && items.size == items.size) = true then _ else _) _ _ s
  rw [if_neg hno, pick_rev]
  first
    | exact wpAny_bind (m := Builtin.Tuple.tupleExact _) (wpAny_newObj_type (wpAny_pure ⟨_, rfl, wpAny_pure h⟩) htake)
    | exact wpAny_bind (m := Builtin.Tuple.tupleExact _) (wpAny_newObj_type (wpAny_bind (wpAny_pure (wpAny_pure ⟨_, rfl, wpAny_pure h⟩))) htake)
    | exact wpAny_bind (wpAny_bind (m := Builtin.Tuple.tupleExact _) (wpAny_newObj_type (wpAny_pure (wpAny_pure ⟨_, rfl, wpAny_pure h⟩)) htake))
    | exact wpAny_bind (wpAny_bind (m := Builtin.Tuple.tupleExact _) (wpAny_newObj_type (wpAny_pure ⟨_, rfl, wpAny_pure h⟩) htake))
end
def tRevT (K : PySem.W.Frag) (te : TE) : TE := fun σ H Q => te σ H fun x H1 => ∃ a xs, x = .ref a ∧ SqT K H1 a xs ∧ ∀ p, H1 p = none → Q (.ref p) (upd H1 p (.tup xs.reverse))
section
variable {X : Cx}
theorem pe_revT {e : Expr} {te : TE} {k : Nat} {p1 p2 p3 pos : Pos} (he : PE X e te) : PE X (.Subscript e (.Slice none none (some (.UnaryOp .USub (.Constant (.int 1) k p1) p2)) p3) pos) (tRevT X.K te) := by
  refine ⟨fun pins s σ H Q I h => ?_⟩
  refine Subscript_ (thn (he.run pins s σ H _ I h) fun v s1 ⟨x, H1, I1, r1, q1⟩ => ?_)
  obtain ⟨a, xs, ex, hx, q⟩ := q1
  subst ex
  cases r1
  have hst : PO X (some (.UnaryOp .USub (.Constant (.int 1) k p1) p2)) (tPart (tUn (rU fun i => .int (-i)) (tC (.int 1)))) := po_some (pe_un un_neg pe_int)
  refine wpAny_Slice (thn (po_none.run pins s1 σ H1 (fun o H2 => o = none ∧ H2 = H1) I1 ⟨rfl, rfl⟩) fun vl s2 ⟨l, H2, I2, pl, el, e2⟩ => ?_)
  subst el e2
  refine thn (po_none.run pins s2 σ H2 (fun o H3 => o = none ∧ H3 = H2) I2 ⟨rfl, rfl⟩) fun vu s3 ⟨u, H3, I3, pu, eu, e3⟩ => ?_
  subst eu e3
  refine thn (hst.run pins s3 σ H3 (fun o H4 => o = some (-1) ∧ H4 = H3) I3 ⟨1, rfl, -1, rfl, rfl, rfl⟩) fun vs s4 ⟨o, H4, I4, ps, eo, e4⟩ => ?_
  subst eo e4
  have I5 : Inv X pins σ H4 { s4 with heap := s4.heap.push { cls := .type "slice", data := .fields #[vl, vu, vs] } } := I4.kept (t' := s4.toks) fun b ob q => Heap.get?_push_of_some _ q
  obtain ⟨its, r, ht, hz⟩ := I5.tuple hx
  have hlen := r.length
  show wpAny (model X.prog X.w) X.A (subscriptTail e (.Slice none none (some (.UnaryOp .USub (.Constant (.int 1) k p1) p2)) p3) (.ref a) (.ref s4.heap.objs.size)) (EP X pins σ Q) X.xe { s4 with heap := s4.heap.push { cls := .type "slice", data := .fields #[vl, vu, vs] } }
  refine tail_any (ops := [.ref a, .ref s4.heap.objs.size]) ht.typeIs (PyProof.Rows.slot_tuple_getitem.lookup) ?_ (by with_unfolding_all rfl)
  cases pl
  cases pu
  refine getItem_tuple_rev ht (Heap.IsSliceOf.new _ .none .none vs) ps ?_ (by rw [List.size_toArray]; omega)
  refine ⟨.ref _, _, I5.laid (t' := s4.toks) (o := .tup xs.reverse) (fun b ob q => Heap.get?_push_of_some _ q) (Nat.le_refl _) ?_, rfl, q _ (I5.hok.fresh (Nat.le_refl _))⟩
  exact ⟨by rw [List.length_reverse]; exact hz, _, r.reverse, IsTup.new _ _⟩
end
end JB
set_option Elab.async false
set_option linter.all false
set_option maxRecDepth 100000
set_option maxHeartbeats 4000000
/-! len(x) of an instance with an own __len__. -/
namespace JB
open PySem PySem.Spec PyProof.Rows L2
section
variable {X : Cx} {CX : CXT} {k : Nat} {f C : Addr} {sp : Sp} {E : XK}
def rLenOwn (C : Addr) (sp : Sp) (E : XK) : List V → Hp → VK → Prop := fun xs H Q => ∃ p dx fs, xs = [V.ref p] ∧ H p = some (.ins C dx fs) ∧ sp [.ref p] H (fun z H' => ∃ n : Nat, z = .int n ∧ n ≤ 1000000 ∧ Q (.int n) H') E
theorem cr_lenOwn (m : Meth X.K C "__len__" f) (D : Def X.prog X.w X.K X.mg X.base CX k f sp) (hr : Room (k + 1) X.A) (hx : Passes CX X E) : CallR X (.builtin "len") (rLenOwn C sp E) := by
  intro pins s σ H xs us Q I r h
  obtain ⟨p, dx, fs, rfl, hp, q⟩ := h
  obtain ⟨u, rfl, ru⟩ := vals1 r
  obtain rfl : u = Value.ref p := ru
  obtain ⟨mA, O, _, _, _, _⟩ := ins_get I.hok hp
  obtain ⟨od, J, _⟩ := O.look
  obtain ⟨fd, ps, F, hk, hb⟩ := D.ex
  refine Calls.call_function_entry kind_len plain_len entry_len (args_len1 _) ?_
  unfold Builtin.«len»
  refine wpAny_bind (m := oneArg "len" _) (wpAny_pure ?_)
  refine wpAny_bind (m := callSpecial? (.ref p) (PySem.Str.ofString "__len__")) (PySem.W.special_fn I.kIn J m.at_ (beq_iff_eq.mp m.fn) (wpAny_call ?_))
  have hl : ([Value.ref p] ++ ([] : List Value)).length = ps.length := F.len _ _ _ _ q
  refine codeAny_mono (F.run X.A.in1 X.stack s H ⟨[.ref p], []⟩ [.ref p] [.ref p] _ E hr.in1 I.env0.in1 (hb _ [.ref p] I.kIn hl) (.cons rfl .nil) q) fun r s' hq => ?_
  cases r with
  | error er => exact hx pins σ H s er s' I hq
  | ok fl =>
    cases fl with
    | ret u =>
      obtain ⟨v, H', I3, rv, n, rfl, hn, q3⟩ := I.after hq
      obtain ⟨t, rfl⟩ := rv
      show wpAny _ _ _ _ _ _
      refine wpAny_bind (wpAny_holding (wpAny_pure ?_))
      refine wpAny_bind (wpAny_letGo ?_)
      show wpAny _ _ (if ((n : Nat) : Int) < 0 then _ else _) _ _ _
      rw [if_neg (by omega)]
      show wpAny _ _ (if ((n : Nat) : Int) ≥ 2 ^ 63 then _ else _) _ _ _
      rw [if_neg (by omega)]
      exact wpAny_bind (wpAny_mkInt (wpAny_pure ⟨_, rfl, .int n, H', I3.tok _, ⟨_, rfl⟩, q3⟩))
    | next => exact False.elim hq
    | brk => exact False.elim hq
    | cont => exact False.elim hq
end
end JB
set_option Elab.async false
set_option linter.all false
set_option maxRecDepth 100000
set_option maxHeartbeats 4000000
/-! Lambdas as things: told in the abstract heap, called by value. -/
namespace JB
open PySem PySem.Spec PyProof.Rows L2
/-! ### cells, told and hidden -/
def dropA (H : Hp) (cs : List Addr) : Hp := fun b => if b ∈ cs then none else H b
def overA (H' H : Hp) (cs : List Addr) : Hp := fun b => if b ∈ cs then H b else H' b
def Frz (H : Hp) (cs : List Addr) : Prop := ∀ c ∈ cs, ∃ o, H c = some (.frz o (.own 0))
theorem drop_in {H : Hp} {cs : List Addr} {b : Addr} (h : b ∈ cs) : dropA H cs b = none := if_pos h
theorem drop_out {H : Hp} {cs : List Addr} {b : Addr} (h : b ∉ cs) : dropA H cs b = H b := if_neg h
theorem over_in {H' H : Hp} {cs : List Addr} {b : Addr} (h : b ∈ cs) : overA H' H cs b = H b := if_pos h
theorem over_out {H' H : Hp} {cs : List Addr} {b : Addr} (h : b ∉ cs) : overA H' H cs b = H' b := if_neg h
theorem drop_none {H : Hp} {cs : List Addr} {b : Addr} (h : H b = none) : dropA H cs b = none := by
  by_cases hb : b ∈ cs
  · exact drop_in hb
  · rw [drop_out hb]; exact h
section
variable {P : Program} {w : World} {H H' : Hp} {cs : List Addr} {h h' : Heap} {outer : List Env}
theorem HOk.drop (x : HOk P w H h) (fz : Frz H cs) : HOk P w (dropA H cs) h := fun a o e => by
  have ha : a ∉ cs := fun m => by rw [drop_in m] at e; cases e
  rw [drop_out ha] at e
  refine (x a o e).stay (fun b u _ q => q) (fun b q => ?_) fun b xs q => ?_
  · rw [drop_out fun m => by obtain ⟨o, z⟩ := fz b m; rw [z] at q; cases q]
    exact q
  · rw [drop_out fun m => by obtain ⟨o, z⟩ := fz b m; rw [z] at q; cases q]
    exact q
theorem notin {H : Hp} {cs : List Addr} (fz : Frz H cs) {b : Addr} (h : ∀ o, H b ≠ some (.frz o (.own 0))) : b ∉ cs := fun m => by
  obtain ⟨o, z⟩ := fz b m
  exact h o z
/-- what was told of the cells is told again behind a run that did not know it -/
theorem cr_over {s s' : Shared} {Q Q' : VK} {E E' : XK} {r : Result} (hok : HOk P w H s.heap) (frf : ∀ b ∈ frs outer, H b = none) (fz : Frz H cs) (c : CR (L2.CX P w) outer P w (dropA H cs) s Q' E' r s')
    (hQ : ∀ v H', (∀ b ∈ cs, H' b = none) → Q' v H' → Q v (overA H' H cs)) (hE : ∀ cl d H', (∀ b ∈ cs, H' b = none) → E' cl d H' → E cl d (overA H' H cs)) : CR (L2.CX P w) outer P w H s Q E r s' := by
  have nf : ∀ {b : Addr}, b ∈ cs → b ∉ frs outer := fun {b} m z => by
    obtain ⟨o, q⟩ := fz b m
    rw [frf b z] at q
    cases q
  have at_ : ∀ {b : Addr}, b ∈ cs → ∃ o, H b = some (.frz o (.own 0)) ∧ s.heap.get? b = some o := fun {b} m => by
    obtain ⟨o, q⟩ := fz b m
    obtain ⟨z, _⟩ := hok b _ q
    exact ⟨o, q, z⟩
  have tell : ∀ {H1 : Hp} {h1 : Heap}, HOk P w H1 h1 → (∀ b ∈ cs, H1 b = none) → (∀ b o, b ∈ cs → s.heap.get? b = some o → h1.get? b = some o) → HOk P w (overA H1 H cs) h1 := fun {H1 h1} x n k a o e => by
    by_cases ha : a ∈ cs
    · rw [over_in ha] at e
      obtain ⟨ob, q, z⟩ := at_ ha
      rw [q] at e
      cases e
      exact ⟨k a ob ha z, ⟨ob, k a ob ha z⟩⟩
    · rw [over_out ha] at e
      refine (x a o e).stay (fun b u _ q => q) (fun b q => ?_) fun b xs q => ?_
      · rw [over_out fun m => by rw [n b m] at q; cases q]
        exact q
      · rw [over_out fun m => by rw [n b m] at q; cases q]
        exact q
  cases r with
  | ok fl =>
    cases fl with
    | ret u =>
      obtain ⟨v, H', os, bare, un, hk, rv, q⟩ := c
      have n : ∀ b ∈ cs, H' b = none := fun b m => by
        obtain ⟨o, _, z⟩ := at_ m
        exact un.free b o z (drop_in m) (fun z => nomatch z)
      refine ⟨v, overA H' H cs, os, bare, ⟨fun b o e nn hb hx => un.keep b o e (drop_none nn) hb hx, fun b o e nn hb hx => un.slot b o e (drop_none nn) hb hx, fun b o e nn hx => ?_, un.there, fun b xs e => ?_, fun b o u e => ?_, fun b ps e => ?_⟩, tell hk n fun b o m e => un.keep b o e (drop_in m) (nf m) (fun z => nomatch z), rv, hQ _ _ n q⟩
      · have hb : b ∉ cs := notin fz fun o z => by rw [nn] at z; cases z
        rw [over_out hb]
        exact un.free b o e (drop_none nn) hx
      · have hb : b ∉ cs := notin fz fun o z => by rw [e] at z; cases z
        rw [over_out hb]
        exact un.tups b xs (by rw [drop_out hb]; exact e)
      · by_cases hb : b ∈ cs
        · rw [over_in hb]
          exact e
        · rw [over_out hb]
          exact un.frzs b o u (by rw [drop_out hb]; exact e)
      · have hb : b ∉ cs := notin fz fun o z => by rw [e] at z; cases z
        rw [over_out hb]
        exact un.tbls b ps (by rw [drop_out hb]; exact e)
    | next => exact c
    | brk => exact c
    | cont => exact c
  | error er =>
    obtain ⟨a, B, H', cls, d, rfl, fl, hk, un, na, os, ag, q⟩ := c
    have n : ∀ b ∈ cs, H' b = none := fun b m => by
      obtain ⟨o, _, z⟩ := at_ m
      exact un.free b o z (drop_in m)
    have kB : ∀ b o, b ∈ cs → s.heap.get? b = some o → B.get? b = some o := fun b o m e => un.keep b o e (drop_in m) (nf m)
    have na' : a ∉ cs := fun m => by
      obtain ⟨o, _, z⟩ := at_ m
      have h1 := kB a o m z
      rw [fl.2.1] at h1
      cases h1
    refine ⟨a, B, overA H' H cs, cls, d, rfl, fl, tell hk n kB, ⟨fun b o e nn hb => un.keep b o e (drop_none nn) hb, un.slot, fun b o e nn => ?_, un.there, fun b xs e => ?_, fun b o u e => ?_, fun b ps e => ?_⟩, by rw [over_out na']; exact na, os, ag, hE _ _ _ n q⟩
    · have hb : b ∉ cs := notin fz fun o z => by rw [nn] at z; cases z
      rw [over_out hb]
      exact un.free b o e (drop_none nn)
    · have hb : b ∉ cs := notin fz fun o z => by rw [e] at z; cases z
      rw [over_out hb]
      exact un.tups b xs (by rw [drop_out hb]; exact e)
    · by_cases hb : b ∈ cs
      · rw [over_in hb]
        exact e
      · rw [over_out hb]
        exact un.frzs b o u (by rw [drop_out hb]; exact e)
    · have hb : b ∉ cs := notin fz fun o z => by rw [e] at z; cases z
      rw [over_out hb]
      exact un.tbls b ps (by rw [drop_out hb]; exact e)
end

/-! ### the body of a lambda -/
/-- a cell that is told: its thing -/
def CellAt (H : Hp) (c : Addr) (v : V) : Prop := ∃ o u, H c = some (.frz o (.own 0)) ∧ o.data = .cell (some u) ∧ RelV v u
abbrev lamEnvY (qual : Str) (scope : Scope) (clos : List (Str × Addr)) (L f c' : Addr) : Env := PySem.W.envX qual scope L f (.ref c') clos
def lamCy (P : Program) (w : World) (K : PySem.W.Frag) (mg : Str → Option Value) (base : Heap) (N : List Str) (qual : Str) (scope : Scope) (clos : List (Str × Addr)) (f c' : Addr) (A : Around) (outer : List Env) (s : Shared) (H : Hp) (E : XK) : Cx where
  prog := P
  w := w
  K := K
  mg := mg
  base := base
  A := A.deeper (lamEnvY qual scope clos s.heap.objs.size f c')
  N := N
  s_0 := s
  H_0 := H
  env := lamEnvY qual scope clos s.heap.objs.size f c'
  outer := outer
  stack := lamEnvY qual scope clos s.heap.objs.size f c' :: outer
  ex := []
  fn := fun _ => false
  calm := true
  pn := []
  xe := fun e s' => wpAny (model P w) (A.deeper (lamEnvY qual scope clos s.heap.objs.size f c')) (leaving (lamEnvY qual scope clos s.heap.objs.size f c') e) (fun _ s'' => L2.CX P w outer H s E e s'') (fun e' s'' => L2.CX P w outer H s E e' s'') s'
/-- what of the lambda's scope and cells is asked -/
structure LamY (N : List Str) (scope : Scope) (clos : List (Str × Addr)) : Prop where
  kind : scope.kind = .function
  co : scope.isCoroutine = false
  gen : scope.isGenerator = false
  own : ∀ y ∈ scope.names, y.2 ≠ .cell
  free : ∀ y ∈ scope.names, y.2 = .free → ∃ c, clos.lookup y.1 = some c
  inj : ∀ y z c, clos.lookup y = some c → clos.lookup z = some c → y = z
  nam : ∀ y ∈ N, scope.names.lookup y = some .free
/-- the cells tell σ -/
def TellC (N : List Str) (clos : List (Str × Addr)) (σ : L2.St) (H : Hp) : Prop := ∀ (i : Nat) (y : Str) (v : V) (c : Addr), N[i]? = some y → σ[i]? = some (some v) → clos.lookup y = some c → CellAt H c v
def lamCells (clos : List (Str × Addr)) : List Addr := clos.map (·.2)
section
variable {P : Program} {w : World} {K : PySem.W.Frag} {mg : Str → Option Value} {base : Heap} {N : List Str} {qual : Str} {scope : Scope} {clos : List (Str × Addr)} {f c' : Addr} {H : Hp}
theorem lookup_cell {clos : List (Str × Addr)} {y : Str} {c : Addr} (h : clos.lookup y = some c) : c ∈ lamCells clos := List.mem_map.mpr ⟨(y, c), PySem.mem_of_lookup h, rfl⟩
theorem lamY_start {A : Around} {outer : List Env} {s : Shared} {E : XK} {h₁ : Heap} {tk : Nat} {σ : L2.St} {m : Str → Option Value} (L : LamY N scope clos) (e0 : Env0 P w K mg base A outer s H) (hd : A.handled = none) (fz : Frz H (lamCells clos)) (tc : TellC N clos σ H) (hlen : σ.length = N.length)
    (hcell : ∀ y c, clos.lookup y = some c → ∃ o v, H c = some (.frz o (.own 0)) ∧ o.data = .cell v)
    (hns : h₁.Ns s.heap.objs.size m) (kp : ∀ b o, s.heap.get? b = some o → h₁.get? b = some o) :
    Inv (lamCy P w K mg base N qual scope clos f c' A outer s (dropA H (lamCells clos)) E) [] σ (dropA H (lamCells clos)) { s with heap := h₁, toks := tk } := by
  have noA : ∀ b : Addr, b ∉ (lamCy P w K mg base N qual scope clos f c' A outer s (dropA H (lamCells clos)) E).ex := fun b z => absurd (show b ∈ ([] : List Addr) from z) (by simp)
  have hokd := HOk.drop e0.hok fz
  refine ⟨⟨e0.mod, L.kind, rfl, rfl, Nat.le_refl _, L.inj, fun y hy => ?_, fun y c z _ => ?_, fun _ => hd, Around.frames_deeper e0.frames, .inr ⟨rfl, rfl⟩, fun b z => absurd z (noA b), fun b o e => ⟨(e0.bs b o e).1, drop_none (e0.bs b o e).2⟩, e0.bsz, fun b _ _ => noA b,
      fun b z => absurd z (noA b), e0.funs, fun b hb => drop_none (e0.frf b hb)⟩,
    rfl, e0.bare, Un.kept kp, ⟨m, hns, fun i y v e1 e2 e3 => ?_⟩, fun y c e => ?_, drop_none (e0.hok.fresh (Nat.le_refl _)), fun y c e => drop_in (lookup_cell e), fun q hq => absurd (show q ∈ ([] : List (Addr × Obj)) ++ [] from hq) (by simp), hokd.kept kp, hlen⟩
  · have hy : scope.names.lookup y = some .cell ∨ scope.names.lookup y = some .free := hy
    rcases hy with hy | hy
    · exact absurd rfl (L.own _ (PySem.mem_of_lookup hy))
    · exact L.free _ (PySem.mem_of_lookup hy) rfl
  · have z : false = true := z
    cases z
  · have e1 : N[i]? = some y := e1
    have k := L.nam y (List.mem_of_getElem? e1)
    obtain ⟨c, hc⟩ := L.free _ (PySem.mem_of_lookup k) rfl
    obtain ⟨o, u, h1, h2, r⟩ := tc i y v c e1 e2 hc
    refine ⟨u, r, .inr ⟨.inr k, c, hc, o, kp _ _ (e0.hok c _ h1).1, h2⟩⟩
  · obtain ⟨o, v, h1, h2⟩ := hcell y c e
    exact ⟨v, o, kp _ _ (e0.hok c _ h1).1, h2⟩
/-- how its one defaulted parameter, or none, is bound -/
def DefAt (params : Arguments) (H : Hp) (dV : Value) : Prop := (params.defaults.isEmpty = true ∧ dV = .none) ∨ (params.defaults.isEmpty = false ∧ ∃ t, dV = .ref t ∧ H t = some (.tup [.int 0]))
def BindY (params : Arguments) (body : Expr) (scope : Scope) (qual : Str) (clos : List (Str × Addr)) : Prop :=
  (params.defaults.isEmpty = true → ∀ doc pm cdv ct, bindArgs (PySem.W.kdv_fn "<lambda>" qual params (.expr body) scope clos .none doc pm cdv ct) ⟨[], []⟩ = pure []) ∧
  (params.defaults.isEmpty = false → ∃ x : Str, scope.names.lookup x = some .local ∧ ∀ t doc pm cdv ct, ∃ k : Option (Array Value) → Sem (List (Str × Value)), bindArgs (PySem.W.kdv_fn "<lambda>" qual params (.expr body) scope clos (.ref t) doc pm cdv ct) ⟨[], []⟩ = seqItems? (.ref t) >>= k ∧
    ∀ v : Value, k (some #[v]) = pure [(x, v)])
/-- the lambda at f -/
def LamAt (params : Arguments) (body : Expr) (scope : Scope) (qual : Str) (clos : List (Str × Addr)) (H : Hp) (f : Addr) : Prop :=
  ∃ dV doc pm c' ctv, H f = some (.frz (PySem.W.kdv_obj "<lambda>" qual params (.expr body) scope clos dV doc pm c' ctv) (.own 0)) ∧ H c' = some (LamX.CodeO c' qual) ∧ DefAt params H dV
def CellsOk (clos : List (Str × Addr)) (H : Hp) : Prop := ∀ c ∈ lamCells clos, ∃ o v, H c = some (.frz o (.own 0)) ∧ o.data = .cell v
/-- what the call of it promises -/
def spLam (params : Arguments) (body : Expr) (scope : Scope) (qual : Str) (clos : List (Str × Addr)) (N : List Str) (f : Addr) (σ : L2.St) (tb : XK → TE) : Sp := fun vs H Q E =>
  vs = [] ∧ LamAt params body scope qual clos H f ∧ CellsOk clos H ∧ TellC N clos σ H ∧ tb (fun cl d H' => (∀ b ∈ lamCells clos, H' b = none) → E cl d (overA H' H (lamCells clos))) σ (dropA H (lamCells clos)) (fun v H' => (∀ b ∈ lamCells clos, H' b = none) → Q v (overA H' H (lamCells clos)))
theorem fnR_lam {params : Arguments} {body : Expr} {σ : L2.St} {tb : XK → TE} {k : Nat} (L : LamY N scope clos) (B : BindY params body scope qual clos) (hlen : σ.length = N.length)
    (hbody : ∀ (A : Around) (outer : List Env) (s : Shared) (H : Hp) (E : XK) (c' : Addr), Room k (A.deeper (lamEnvY qual scope clos s.heap.objs.size f c')) → PE (lamCy P w K mg base N qual scope clos f c' A outer s H E) body (tb E)) :
    FnR P w K mg base (L2.CX P w) (k + 1) f (spLam params body scope qual clos N f σ tb) := by
  intro A outer s H us vs Q E hr e0 r h
  obtain ⟨rfl, ⟨dV, doc, pm, c', ctv, hf, hc, hdef⟩, hcell, tc, q⟩ := h
  cases r
  have fz : Frz H (lamCells clos) := fun c m => let ⟨o, _, h1, _⟩ := hcell c m; ⟨o, h1⟩
  have hcell' : ∀ y c, clos.lookup y = some c → ∃ o v, H c = some (.frz o (.own 0)) ∧ o.data = .cell v := fun y c e => hcell c (lookup_cell e)
  obtain ⟨hof, _⟩ := e0.hok f _ hf
  obtain ⟨⟨oc, cvs, t, hoc, hdc, hvc⟩, _, _⟩ := e0.hok c' _ hc
  have lim : s.heap.NoLimit := e0.mod.nolimit.keeps fun b o e => (e0.bs b o e).1
  obtain ⟨binds, hb, hloc⟩ : ∃ binds : List (Str × Value), BindsTo s (PySem.W.kdv_fn "<lambda>" qual params (.expr body) scope clos dV doc pm (.ref c') ctv) ⟨[], []⟩ binds ∧ ∀ y ∈ binds, scope.names.lookup y.1 = some .local := by
    rcases hdef with ⟨hd, rfl⟩ | ⟨hd, t, rfl, ht⟩
    · exact ⟨[], BindsTo.of_eq (B.1 hd _ _ _ _), fun y hy => absurd hy (by simp)⟩
    · obtain ⟨x, hx, hk⟩ := B.2 hd
      obtain ⟨_, its, rv, o, ho, hcl, n, hdat⟩ := e0.hok t _ ht
      obtain ⟨u, rfl, ru⟩ := vals1 rv
      obtain ⟨k, h1, h2⟩ := hk t doc pm (.ref c') ctv
      refine ⟨[(x, u)], BindsTo.of_defaults rfl ho hdat h1 (h2 u), fun y hy => ?_⟩
      rw [List.mem_singleton.mp hy]
      exact hx
  refine PySem.W.kla_callFunE hr.depth hof rfl L.co L.gen rfl ⟨c', oc, cvs, t, rfl, hoc, hdc, hvc⟩ (hb _ _ _ _ ?_)
  refine wpAny_newFunctionEnv L.own hloc (fun h₁ hns hsb => ⟨lim.fresh _ hsb, ?_⟩) L.kind
  have kp : ∀ b o, s.heap.get? b = some o → h₁.get? b = some o := fun b o e => hsb.extBut b o (Nat.ne_of_lt (Heap.lt_size e)) (Heap.get?_push_of_some _ e)
  show codeAny _ _ (.expr body (lamEnvY qual scope clos s.heap.objs.size f c')) _ _
  have J := lamY_start (qual := qual) (f := f) (c' := c') (tk := s.toks + binds.length) (E := fun cl d H' => (∀ b ∈ lamCells clos, H' b = none) → E cl d (overA H' H (lamCells clos))) L e0 hr.hd fz tc hlen hcell' hns kp
  refine PySem.W.kla_codeExpr (wpAny_mono ((hbody A outer s _ _ c' (hr.deeper _)).run [] _ _ _ (fun v H' => (∀ b ∈ lamCells clos, H' b = none) → Q v (overA H' H (lamCells clos))) J q) (fun v s' hq => ?_) fun e s' hq => ?_)
  · obtain ⟨w', H', J', rv, q⟩ := hq
    exact cr_over (r := .ok (.ret v)) (Q' := fun v H' => (∀ b ∈ lamCells clos, H' b = none) → Q v (overA H' H (lamCells clos))) (E' := E0) (E := E) e0.hok e0.frf fz ⟨w', H', J'.os, J'.bare, J'.base, J'.hok, rv, q⟩ (fun _ _ n z => z n) fun _ _ _ _ z => False.elim z
  · refine wpAny_mono (show wpAny _ _ _ _ _ _ from hq) (fun _ s'' z => ?_) fun e' s'' z => ?_
    · exact cr_over (r := .error e) (Q' := fun _ _ => False) (Q := Q) (E' := fun cl d H' => (∀ b ∈ lamCells clos, H' b = none) → E cl d (overA H' H (lamCells clos))) e0.hok e0.frf fz z (fun _ _ _ z => z.elim) fun _ _ _ n z => z n
    · exact cr_over (r := .error e') (Q' := fun _ _ => False) (Q := Q) (E' := fun cl d H' => (∀ b ∈ lamCells clos, H' b = none) → E cl d (overA H' H (lamCells clos))) e0.hok e0.frf fz z (fun _ _ _ z => z.elim) fun _ _ _ n z => z n
end
end JB
set_option Elab.async false
set_option linter.all false
set_option maxRecDepth 100000
set_option maxHeartbeats 4000000
namespace JB
open PySem PySem.Spec PyProof.Rows L2
/-! ### a lambda is made -/
section
variable {X : Cx} {pins : List (Addr × Obj)} {σ : L2.St} {H : Hp} {s : Shared}
theorem lam_tail {T : List (Addr × Str)} {c P : Addr} {params : Arguments} {body : Expr} {scope : Scope} {pos : Pos} {fl : Nat} {dV : Value} {E : Value → Shared → Prop} {Q : Value → Shared → Prop} (I : Inv X pins σ H s) (TB : LamX.TabB X.base X.mg c P) (hcode : X.env.code = .ref c)
    (hm : (P, X.env.qual ++ "<lambda>") ∈ T) (hu : ∀ p ∈ T, p.1 = P → p.2 = X.env.qual ++ "<lambda>") (hT : LamX.Tabs T H) (hdef : DefAt params H dV) (hfree : ∀ y ∈ scope.names, y.2 = .free → ∃ c, X.env.cells.lookup y.1 = some c)
    (h : ∀ (f : Addr) (H1 : Hp) (s' : Shared), Inv X pins σ H1 s' → LamX.ExtN H H1 → LamX.Tabs T H1 → H f = none → LamAt params body scope (X.env.qual ++ "<lambda>") (cloFrom X.env.cells scope.names []) H1 f → Q (.ref f) s') :
    wpAny (model X.prog X.w) X.A (makeTail "<lambda>" (X.env.qual ++ "<lambda>") params (.expr body) scope X.env dV .none none pos fl) Q E s := by
  obtain ⟨ps, hP, ht, ha⟩ := hT _ hm
  have bP : s.heap.BuiltinsAt X.mg P := TB.bm.keeps I.bk
  have hP' : s.heap.get? P = some { cls := .none, data := .fields ps } := I.hok P _ hP
  have dk : ∀ {H1 : Hp}, LamX.ExtN H H1 → DefAt params H1 dV := fun {H1} e => by
    rcases hdef with z | ⟨z, t, e1, e2⟩
    · exact .inl z
    · exact .inr ⟨z, t, e1, e _ _ e2 fun ps z => by cases z⟩
  cases hc : codeAmong pos ps.toList with
  | none =>
    refine PySem.W.kdv_makeTail (mg := X.mg) (c := c) (P := P) (ps := ps) (closure_ok hfree) I.ok.glob (I.mod.glob.keeps I.bk) hcode (TB.code.keeps I.bk) hP' ht hc TB.gP bP fun c' ctv doc h' tk hx hge hlt hrec htb => ?_
    obtain ⟨c2, oc, vs, t, e2, hoc, hd, hv⟩ := hrec
    cases e2
    have hsz : s.heap.objs.size ≤ h'.objs.size := Nat.le_trans hge (Nat.le_of_lt hlt)
    have nC : H c' = none := I.hok.fresh hge
    have nF : H h'.objs.size = none := I.hok.fresh hsz
    have I1 := LamX.inv_table (t' := tk) (more := #[rawInt pos.line, rawInt pos.col, .ref c']) (h' := h') I hP hx htb hge ⟨oc, vs, t, hoc, hd, hv⟩
    have I2 := I1.laid (t' := tk) (a := h'.objs.size) (o := .frz (PySem.W.kdv_obj "<lambda>" (X.env.qual ++ "<lambda>") params (.expr body) scope (cloFrom X.env.cells scope.names []) dV doc ((X.mg "__name__").getD .none) c' ctv) (.own 0))
      (h' := h'.push (PySem.W.kdv_obj "<lambda>" (X.env.qual ++ "<lambda>") params (.expr body) scope (cloFrom X.env.cells scope.names []) dV doc ((X.mg "__name__").getD .none) c' ctv)) (fun b u e => Heap.get?_push_of_some _ e) (Nat.le_refl _) ⟨Heap.get?_push_size _ rfl, ⟨_, Heap.get?_push_size _ rfl⟩⟩
    have hE0 : LamX.ExtN H (upd (upd H P (.tbl (ps ++ #[rawInt pos.line, rawInt pos.col, .ref c']))) c' (LamX.CodeO c' (X.env.qual ++ "<lambda>"))) := fun b o e n => by
      rw [upd_ne (ne_of_none e nC), upd_ne (fun z => n ps (Option.some.inj (e.symm.trans (by rw [z]; exact hP))))]
      exact e
    have nF1 : upd (upd H P (.tbl (ps ++ #[rawInt pos.line, rawInt pos.col, .ref c']))) c' (LamX.CodeO c' (X.env.qual ++ "<lambda>")) h'.objs.size = none := by
      have n1 : h'.objs.size ≠ c' := Nat.ne_of_gt hlt
      have n2 : h'.objs.size ≠ P := Nat.ne_of_gt (Nat.lt_of_lt_of_le (Heap.lt_size hP') hsz)
      rw [upd_ne n1, upd_ne n2]
      exact nF
    have hS := same_upd (o := .frz (PySem.W.kdv_obj "<lambda>" (X.env.qual ++ "<lambda>") params (.expr body) scope (cloFrom X.env.cells scope.names []) dV doc ((X.mg "__name__").getD .none) c' ctv) (.own 0)) nF1
    have hE := hE0.trans (LamX.ExtN.of hS)
    have eL : (ps ++ #[rawInt pos.line, rawInt pos.col, .ref c']).toList = ps.toList ++ [rawInt pos.line, rawInt pos.col, .ref c'] := by simp
    refine h h'.objs.size _ _ I2 hE (fun p hp => ?_) nF ⟨dV, doc, _, c', ctv, upd_same, hS _ _ upd_same, dk hE⟩
    by_cases hb : p.1 = P
    · rw [hu p hp hb, hb]
      refine ⟨_, hS _ _ (by rw [upd_ne (ne_of_none hP nC), upd_same]), by rw [eL]; exact PySem.TriplesOk_snoc _ _ _ _ ht, fun p' cv hcv => ?_⟩
      rw [eL] at hcv
      rcases LamX.among_app _ ht hcv with z | z
      · obtain ⟨c0, e1, e2⟩ := ha p' cv z
        exact ⟨c0, e1, hE _ _ e2 LamX.codeO_ne⟩
      · exact ⟨c', z, hS _ _ upd_same⟩
    · obtain ⟨ps', a1, a2, a3⟩ := hT p hp
      refine ⟨ps', hS _ _ (by rw [upd_ne (ne_of_none a1 nC), upd_ne hb]; exact a1), a2, fun p' cv hcv => ?_⟩
      obtain ⟨c0, e1, e2⟩ := a3 p' cv hcv
      exact ⟨c0, e1, hE _ _ e2 LamX.codeO_ne⟩
  | some cv =>
    obtain ⟨c', e, hco⟩ := ha pos cv hc
    subst e
    refine PySem.W.kdv_makeTailHit (mg := X.mg) (c := c) (P := P) (ps := ps) (closure_ok hfree) I.ok.glob (I.mod.glob.keeps I.bk) hcode (TB.code.keeps I.bk) hP' ht hc bP fun ctv doc h' tk hx hsz => ?_
    have I1 : Inv X pins σ H { s with heap := h', toks := tk } := I.kept hx
    have nF : H h'.objs.size = none := I.hok.fresh hsz
    have I2 := I1.laid (t' := tk) (a := h'.objs.size) (o := .frz (PySem.W.kdv_obj "<lambda>" (X.env.qual ++ "<lambda>") params (.expr body) scope (cloFrom X.env.cells scope.names []) dV doc ((X.mg "__name__").getD .none) c' ctv) (.own 0))
      (h' := h'.push (PySem.W.kdv_obj "<lambda>" (X.env.qual ++ "<lambda>") params (.expr body) scope (cloFrom X.env.cells scope.names []) dV doc ((X.mg "__name__").getD .none) c' ctv)) (fun b u e => Heap.get?_push_of_some _ e) (Nat.le_refl _) ⟨Heap.get?_push_size _ rfl, ⟨_, Heap.get?_push_size _ rfl⟩⟩
    have hS := same_upd (o := .frz (PySem.W.kdv_obj "<lambda>" (X.env.qual ++ "<lambda>") params (.expr body) scope (cloFrom X.env.cells scope.names []) dV doc ((X.mg "__name__").getD .none) c' ctv) (.own 0)) nF
    exact h h'.objs.size _ _ I2 (LamX.ExtN.of hS) (hT.ext hS) nF ⟨dV, doc, _, c', ctv, upd_same, hS _ _ hco, dk (LamX.ExtN.of hS)⟩
/-- its reading -/
def tLamY (T : List (Addr × Str)) (params : Arguments) (body : Expr) (scope : Scope) (qual : Str) (clos : List (Str × Addr)) : TE := fun σ H Q => LamX.Tabs T H ∧
  ∀ f H1, LamX.ExtN H H1 → LamX.Tabs T H1 → H f = none → LamAt params body scope qual clos H1 f → Q (.ref f) H1
theorem pe_lam0 {T : List (Addr × Str)} {c P : Addr} {params : Arguments} {body : Expr} {scope : Scope} {pos : Pos} (TB : LamX.TabB X.base X.mg c P) (hcode : X.env.code = .ref c) (hm : (P, X.env.qual ++ "<lambda>") ∈ T) (hu : ∀ p ∈ T, p.1 = P → p.2 = X.env.qual ++ "<lambda>")
    (hfree : ∀ y ∈ scope.names, y.2 = .free → X.env.scope.names.lookup y.1 = some .cell ∨ X.env.scope.names.lookup y.1 = some .free) (hd : params.defaults = []) (hk : params.kw_defaults = []) :
    PE X (.Lambda params body scope pos) (tLamY T params body scope (X.env.qual ++ "<lambda>") (cloFrom X.env.cells scope.names [])) := by
  refine ⟨fun pins s σ H Q I h => ?_⟩
  obtain ⟨hT, h⟩ := h
  have hf : ∀ y ∈ scope.names, y.2 = .free → ∃ c, X.env.cells.lookup y.1 = some c := fun y hy e => (hfree y hy e).elim (fun k => I.ok.has _ (.inl k)) fun k => I.ok.has _ (.inr k)
  refine PySem.W.kla_eval (by rw [defaultsOf_eq, hd, hk]; rfl) ?_
  rw [makeFunction_eq]
  simp only [List.zip_nil_right, List.filterMap_nil, List.isEmpty_nil, if_true, pure_bind]
  exact lam_tail I TB hcode hm hu hT (.inl ⟨by rw [hd]; rfl, rfl⟩) hf fun f H1 s' I1 e1 t1 n1 l1 => ⟨.ref f, H1, I1, rfl, h f H1 e1 t1 n1 l1⟩
theorem pe_lam1 {T : List (Addr × Str)} {c P : Addr} {params : Arguments} {body : Expr} {scope : Scope} {pos p0 : Pos} {k0 : Nat} (TB : LamX.TabB X.base X.mg c P) (hcode : X.env.code = .ref c) (hm : (P, X.env.qual ++ "<lambda>") ∈ T) (hu : ∀ p ∈ T, p.1 = P → p.2 = X.env.qual ++ "<lambda>")
    (hfree : ∀ y ∈ scope.names, y.2 = .free → X.env.scope.names.lookup y.1 = some .cell ∨ X.env.scope.names.lookup y.1 = some .free) (hd : params.defaults = [.Constant (.int 0) k0 p0]) (hk : params.kw_defaults = []) :
    PE X (.Lambda params body scope pos) (tLamY T params body scope (X.env.qual ++ "<lambda>") (cloFrom X.env.cells scope.names [])) := by
  refine ⟨fun pins s σ H Q I h => ?_⟩
  obtain ⟨hT, h⟩ := h
  have hf : ∀ y ∈ scope.names, y.2 = .free → ∃ c, X.env.cells.lookup y.1 = some c := fun y hy e => (hfree y hy e).elim (fun k => I.ok.has _ (.inl k)) fun k => I.ok.has _ (.inr k)
  refine PySem.W.kdv_lam (by rw [hd]; rfl) hk ?_
  rw [hd]
  have pi : PE X (.Constant (.int 0) k0 p0) (tC (.int 0)) := pe_int
  refine PySem.W.kdv_all1 (thn (pi.run pins s σ H (fun v H1 => v = .int 0 ∧ H1 = H) I ⟨rfl, rfl⟩) fun u s1 ⟨v, H1, I1, rv, q1⟩ => PySem.W.kdv_all0 ?_)
  obtain ⟨rfl, rfl⟩ := q1
  rw [makeFunction_eq]
  simp only [List.zip_nil_right, List.filterMap_nil, List.isEmpty_nil, List.isEmpty_cons, Bool.false_eq_true, if_false, if_true, pure_bind]
  refine wpAny_bind (wpAny_newTextTuple ?_)
  have nT : H1 s1.heap.objs.size = none := I1.hok.fresh (Nat.le_refl _)
  have I2 : Inv X pins σ (upd H1 s1.heap.objs.size (.tup [.int 0])) { s1 with heap := s1.heap.push { cls := .type "tuple", data := .seq [u].toArray } } :=
    I1.laid (t' := s1.toks) (fun b o e => Heap.get?_push_of_some _ e) (Nat.le_refl _) ⟨by show 1 ≤ sizeLine; rw [sizeLine_eq]; omega, [u], .cons rv .nil, IsTup.new _ _⟩
  have s2 := same_upd (o := .tup [.int 0]) nT
  exact lam_tail I2 TB hcode hm hu (hT.ext s2) (.inr ⟨by rw [hd]; rfl, _, rfl, upd_same⟩) hf fun f H2 s' I3 e1 t1 n1 l1 => ⟨.ref f, H2, I3, rfl, h f H2 ((LamX.ExtN.of s2).trans e1) t1 (by
    cases hh : H1 f with
    | none => rfl
    | some o => rw [s2 _ _ hh] at n1; cases n1) l1⟩
/-! ### a def called by the value that a name holds -/
def tCallV (P : Program) (w : World) (K : PySem.W.Frag) (mg : Str → Option Value) (base : Heap) (CX : CXT) (k i : Nat) (E : XK) : TE := fun σ H Q => ∃ f sp o u fd, σ[i]? = some (some (.ref f)) ∧ H f = some (.frz o u) ∧ o.data = .func fd ∧ FnR P w K mg base CX k f sp ∧ sp [] H Q E
theorem pe_callV {CX : CXT} {k i : Nat} {E : XK} {x : Str} {p pos : Pos} (hr : Room k X.A) (hN : X.N[i]? = some x) (hv : Vis X.env.scope x) (hx : Passes CX X E) (hdb : (x == ("__debug__" : Str)) = false := by decide) (hcd : (x == ("__classdict__" : Str)) = false := by decide) :
    PE X (.Call (.Name x p) [] [] pos) (tCallV X.prog X.w X.K X.mg X.base CX k i E) := by
  refine ⟨fun pins s σ H Q I h => ?_⟩
  obtain ⟨f, sp, o, u, fd, hs, hf, hd, F, q⟩ := h
  refine wpAny_Call_Name_kw (thn ((pe_var (pos := p) hN hv hdb hcd).run pins s σ H (fun v H1 => v = .ref f ∧ H1 = H) I ⟨.ref f, hs, rfl, rfl⟩) fun u s1 ⟨v, H1, I1, r1, q1⟩ => ?_)
  obtain ⟨rfl, rfl⟩ := q1
  cases r1
  obtain ⟨ho, _⟩ := I1.hok f _ hf
  obtain ⟨oc, od, odat, osl⟩ := o
  cases hd
  refine PySem.W.callWith_F0 ⟨_, _, _, _, ho⟩ ?_
  refine wpAny_call (codeAny_mono (F X.A X.stack s1 H1 [] [] Q E hr I1.env0 .nil q) fun r s' hq => ?_)
  cases r with
  | error e => exact hx pins σ H1 s1 e s' I1 hq
  | ok fl =>
    cases fl with
    | ret u => exact I1.after hq
    | next => exact False.elim hq
    | brk => exact False.elim hq
    | cont => exact False.elim hq
end
end JB
set_option Elab.async false
set_option linter.all false
set_option maxRecDepth 100000
set_option maxHeartbeats 4000000
namespace JB
open PySem PySem.Spec PyProof.Rows L2
/-! ### defs that ask that no repr is under way -/
structure DefG (P : Program) (w : World) (K : PySem.W.Frag) (mg : Str → Option Value) (base : Heap) (k : Nat) (f : Addr) (sp : Sp) : Prop where
  kp : PySem.W.keepIn K (.ref f) = true
  run : ∀ (A : Around) (outer : List Env) (s : Shared) (H : Hp) (us : List Value) (vs : List V) (Q : VK), A.guards = some [] → Room k A → Env0 P w K mg base A outer s H → Vals vs us → sp vs H Q E0 →
    codeAny (model P w) A (.call (.ref f) ⟨us, []⟩) (CR CX0 outer P w H s Q E0) s
section
variable {P : Program} {w : World} {K : PySem.W.Frag} {mg : Str → Option Value} {base : Heap}
theorem DefG.mono {j k : Nat} {f : Addr} {sp : Sp} (D : DefG P w K mg base j f sp) (h : j ≤ k) : DefG P w K mg base k f sp := ⟨D.kp, fun A outer s H us vs Q hg hr => D.run A outer s H us vs Q hg (hr.mono h)⟩
theorem defG {N ps : List Str} {k : Nat} {sp : Sp} {f : Addr} {st : Stmt} {x qual : Str} (F : ∃ fd, FunD K x qual (defArgs st) (defBody st) (defScope st) [] [] f fd) (S : FnScope N ps (defScope st))
    (hbind : ∀ (kV doc pm : Value) (an : Option Addr) (cdv ct : Value) (us : List Value), us.length = ps.length → bindArgs (PySem.W.fnOf x qual (defArgs st) (defBody st) (defScope st) .none kV doc pm an cdv ct) ⟨us, []⟩ = pure (ps.zip us))
    (len : ∀ vs H Q E, sp vs H Q E → vs.length = ps.length)
    (hbody : ∀ (cdv : Value) (A : Around) (outer : List Env) (s : Shared) (H : Hp) (vs : List V) (Q : VK), (∃ od dV kV doc pm an ct osl oc, K.lookup f = some ⟨oc, od, .func (PySem.W.fnOf x qual (defArgs st) (defBody st) (defScope st) dV kV doc pm an cdv ct), osl⟩) → A.guards = some [] → Room k (A.deeper (envOfC qual (defScope st) s.heap.objs.size f cdv)) → sp vs H Q E0 →
      ∃ t, PSs (cxOf CX0 P w K mg base N qual (defScope st) f cdv A outer s H E0).nox (defBody st) t ∧ t { nx := fun _ H' => Q .non H', rt := Q } (start N vs) H) : DefG P w K mg base (k + 1) f sp := by
  obtain ⟨fd, F⟩ := F
  have hb := F.bindsN hbind
  refine ⟨F.kp, fun A outer s H us vs Q hg hr e0 r h => ?_⟩
  obtain ⟨oc, od, dV, kV, doc, pm, an, cdv, ct, osl, rfl, lk, hcd, _, _⟩ := F.ex
  have hl := len _ _ _ _ h
  have KX : K.In s.heap := e0.mod.kin.keeps fun b o e => (e0.bs b o e).1
  have bt := hb s us KX (by rw [List.append_nil, ← r.length]; exact hl)
  rw [List.append_nil] at bt
  refine LamX.run_ofS (us := us) (vs := vs) lk hcd S hr e0 bt r hl fun hr' => ?_
  obtain ⟨t, ht, q⟩ := hbody cdv A outer s H vs Q ⟨_, _, _, _, _, _, _, _, _, lk⟩ hg hr' h
  exact ⟨t, ht.nox, q⟩
end
section
variable {X : Cx} {k : Nat} {f : Addr} {sp : Sp} {x : Str} {p pos : Pos} {e : Expr} {es : List Expr} {t : TA}
theorem run_g {pins : List (Addr × Obj)} {σ : L2.St} {H : Hp} {s : Shared} {Q : VK} {us : List Value} {vs : List V} (D : DefG X.prog X.w X.K X.mg X.base k f sp) (hg : X.A.guards = some []) (hr : Room k X.A)
    (I : Inv X pins σ H s) (r : Vals vs us) (h : sp vs H Q E0) : wpAny (model X.prog X.w) X.A (call (.ref f) us) (EP X pins σ Q) X.xe s := by
  refine wpAny_call (codeAny_mono (D.run X.A X.stack s H us vs Q hg hr I.env0 r h) fun r s' hq => ?_)
  cases r with
  | error e => exact (show False from hq).elim
  | ok fl =>
    cases fl with
    | ret u => exact I.after hq
    | next => exact False.elim hq
    | brk => exact False.elim hq
    | cont => exact False.elim hq
theorem pe_cg (D : DefG X.prog X.w X.K X.mg X.base k f sp) (hgd : X.A.guards = some []) (hr : Room k X.A) (hm : X.mg x = some (.ref f)) (ha : PA X (e :: es) t) (hg : Gl X x := by rfl)
    (hdb : (x == ("__debug__" : Str)) = false := by decide) (he : starEach (e :: es) X.env = (false, eval e X.env) :: starEach es X.env := by rfl) (hpl : (backTo pos (starEach es X.env)).any (·.1) = false := by rfl) :
    PE X (.Call (.Name x p) (e :: es) [] pos) (tCall sp [] E0 t) := by
  refine ⟨fun pins s σ H Q I h => ?_⟩
  refine wpAny_Call_Name_kw (ld_glob I hg hm ?_ hdb)
  refine PySem.W.callWith_K (h₀ := X.base) I.ok.mod.kin D.kp (thn (ha.run pos pins s σ H _ I h) fun us s1 ⟨vs, H1, I1, r, q⟩ => ⟨I1.kIn, ?_⟩) he hpl
  have q' : sp (vs ++ []) H1 Q E0 := q
  rw [List.append_nil] at q'
  exact run_g D hgd hr I1 r q'
theorem pe_cg0 (D : DefG X.prog X.w X.K X.mg X.base k f sp) (hgd : X.A.guards = some []) (hr : Room k X.A) (hm : X.mg x = some (.ref f)) (hg : Gl X x := by rfl) (hdb : (x == ("__debug__" : Str)) = false := by decide) :
    PE X (.Call (.Name x p) [] [] pos) (tCall sp [] E0 tNil) := by
  refine ⟨fun pins s σ H Q I h => ?_⟩
  refine wpAny_Call_Name_kw (ld_glob I hg hm ?_ hdb)
  exact PySem.W.callWith_K0 I.kIn D.kp (run_g (us := []) D hgd hr I .nil h)
/-- what is told of the caller's cells during a call -/
def tCallFz (X : Cx) (sp : Sp) (t : TA) : TE := fun σ H Q => t σ H fun vs H1 => ∀ H2 : Hp, (∀ b, b ∉ lamCells X.env.cells → H2 b = H1 b) → (∀ b ∈ lamCells X.env.cells, H1 b = none) →
  (∀ c ∈ lamCells X.env.cells, ∃ o v, H2 c = some (.frz o (.own 0)) ∧ o.data = .cell v) →
  (∀ (i : Nat) (y : Str) (v : V) (c : Addr), X.N[i]? = some y → σ[i]? = some (some v) → X.env.scope.names.lookup y = some .cell → X.env.cells.lookup y = some c → CellAt H2 c v) →
  sp vs H2 (fun v H' => Q v (dropA H' (lamCells X.env.cells))) E0
theorem pe_cgFz (D : DefG X.prog X.w X.K X.mg X.base k f sp) (hgd : X.A.guards = some []) (hr : Room k X.A) (hm : X.mg x = some (.ref f)) (ha : PA X (e :: es) t) (hfn : ∀ y, X.fn y = true) (hpair : ∀ c ∈ lamCells X.env.cells, ∃ y, X.env.cells.lookup y = some c) (hg : Gl X x := by rfl)
    (hdb : (x == ("__debug__" : Str)) = false := by decide) (he : starEach (e :: es) X.env = (false, eval e X.env) :: starEach es X.env := by rfl) (hpl : (backTo pos (starEach es X.env)).any (·.1) = false := by rfl) :
    PE X (.Call (.Name x p) (e :: es) [] pos) (tCallFz X sp t) := by
  refine ⟨fun pins s σ H Q I h => ?_⟩
  refine wpAny_Call_Name_kw (ld_glob I hg hm ?_ hdb)
  refine PySem.W.callWith_K (h₀ := X.base) I.ok.mod.kin D.kp (thn (ha.run pos pins s σ H _ I h) fun us s1 ⟨vs, H1, I1, r, q⟩ => ⟨I1.kIn, ?_⟩) he hpl
  -- the cells are told
  let cs := lamCells X.env.cells
  let H2 : Hp := fun b => if b ∈ cs then (s1.heap.get? b).map fun o => .frz o (.own 0) else H1 b
  have out : ∀ {b}, b ∉ cs → H2 b = H1 b := fun {b} hb => if_neg hb
  have non : ∀ b ∈ cs, H1 b = none := fun b hb => by
    obtain ⟨y, hy⟩ := hpair b hb
    exact I1.freeC y b hy
  have cel : ∀ c ∈ cs, ∃ o v, s1.heap.get? c = some o ∧ o.data = .cell v ∧ H2 c = some (.frz o (.own 0)) := fun c hc => by
    obtain ⟨y, hy⟩ := hpair c hc
    obtain ⟨v, o, ho, hd⟩ := I1.cell y c hy
    refine ⟨o, v, ho, hd, ?_⟩
    show (if c ∈ cs then (s1.heap.get? c).map fun o => HO.frz o (.own 0) else H1 c) = _
    rw [if_pos hc, ho]
    rfl
  have fz : Frz H2 cs := fun c hc => let ⟨o, _, _, _, z⟩ := cel c hc; ⟨o, z⟩
  have lo : ∀ c ∈ cs, X.s_0.heap.objs.size ≤ c := fun c hc => by
    obtain ⟨y, hy⟩ := hpair c hc
    exact I1.ok.cab y c (hfn y) hy
  have old : ∀ {b o}, X.s_0.heap.get? b = some o → b ∉ cs := fun {b o} e hc => Nat.lt_irrefl _ (Nat.lt_of_lt_of_le (Heap.lt_size e) (lo b hc))
  have nfr : ∀ b ∈ frs X.stack, b ∉ cs := fun b hb hc => by
    rcases List.mem_cons.mp (I1.stkSub b hb) with z | z
    · obtain ⟨m, ⟨o, es, ep, ho, hd, _⟩, _⟩ := I1.loc
      obtain ⟨o', v, ho', hd', _⟩ := cel b hc
      rw [← z] at ho
      rw [ho] at ho'
      cases ho'
      rw [hd] at hd'
      cases hd'
    · obtain ⟨_, o', e', _⟩ := I1.ok.funs.mem z
      exact old e' hc
  have hok2 : HOk X.prog X.w H2 s1.heap := fun a o e => by
    by_cases ha : a ∈ cs
    · obtain ⟨ob, v, ho, hd, z⟩ := cel a ha
      rw [z] at e
      cases e
      exact ⟨ho, ⟨ob, ho⟩⟩
    · rw [out ha] at e
      refine (I1.hok a o e).stay (fun b u _ q => q) (fun b q => ?_) fun b xs q => ?_
      · rw [out fun m => by rw [non b m] at q; cases q]
        exact q
      · rw [out fun m => by rw [non b m] at q; cases q]
        exact q
  have e1 := I1.env0
  have e2 : Env0 X.prog X.w X.K X.mg X.base X.A X.stack s1 H2 := ⟨e1.frames, e1.mod, fun b o e => ⟨(e1.bs b o e).1, by
    rw [out (old (I1.ok.bs b o e).1)]
    exact (e1.bs b o e).2⟩, e1.bsz, e1.funs, fun b hb => by rw [out (nfr b hb)]; exact e1.frf b hb, hok2, e1.bare⟩
  have q2 := q H2 (fun b hb => out hb) non (fun c hc => let ⟨o, v, _, hd, z⟩ := cel c hc; ⟨o, v, z, hd⟩) fun i y v c n1 n2 n3 n4 => by
    obtain ⟨m, _, hl⟩ := I1.loc
    obtain ⟨u, ru, lk⟩ := hl i y v n1 n2 (.inr (.inl n3))
    rcases lk with ⟨k1, _⟩ | ⟨_, c', k2, o, ho, hd⟩
    · rw [show X.env.scope.names.lookup y = some .local from k1] at n3
      cases n3
    · rw [n4] at k2
      cases k2
      have hc := lookup_cell n4
      obtain ⟨o', _, ho', _, z⟩ := cel c hc
      rw [ho] at ho'
      cases ho'
      exact ⟨o, u, z, hd, ru⟩
  refine wpAny_call (codeAny_mono (D.run X.A X.stack s1 H2 us vs _ hgd hr e2 r q2) fun r s' hq => ?_)
  cases r with
  | error e => exact (show False from hq).elim
  | ok fl =>
    cases fl with
    | ret u =>
      obtain ⟨v, H', os, bare, un, hk, rv, q⟩ := hq
      have fz' : Frz H' cs := fun c hc => let ⟨o, z⟩ := fz c hc; ⟨o, un.frzs _ _ _ z⟩
      have up : ∀ {b o}, H1 b = some o → H2 b = some o := fun {b o} e => by rw [out fun m => by rw [non b m] at e; cases e]; exact e
      have nin : ∀ {b o}, H1 b = some o → b ∉ cs := fun {b o} e m => by rw [non b m] at e; cases e
      refine I1.after ⟨v, dropA H' cs, os, bare, ⟨fun b o e n hb hx => ?_, fun b o e n hb hx => ?_, fun b o e n hx => ?_, un.there, fun b xs e => ?_, fun b o u e => ?_, fun b ps e => ?_⟩, HOk.drop hk fz', rv, q⟩
      · by_cases hc : b ∈ cs
        · obtain ⟨o', v', ho, hd, z⟩ := cel b hc
          rw [e] at ho
          cases ho
          exact (hk b _ (un.frzs _ _ _ z)).1
        · exact un.keep b o e (by rw [out hc]; exact n) hb hx
      · exact un.slot b o e (by rw [out (nfr b hb)]; exact n) hb hx
      · by_cases hc : b ∈ cs
        · exact drop_in hc
        · rw [drop_out hc]
          exact un.free b o e (by rw [out hc]; exact n) hx
      · rw [drop_out (nin e)]
        exact un.tups b xs (up e)
      · rw [drop_out (nin e)]
        exact un.frzs b o u (up e)
      · rw [drop_out (nin e)]
        exact un.tbls b ps (up e)
    | next => exact False.elim hq
    | brk => exact False.elim hq
    | cont => exact False.elim hq
end
end JB
set_option Elab.async false
set_option linter.all false
set_option maxRecDepth 100000
set_option maxHeartbeats 4000000
/-! The law's defs: draws. -/
namespace JB
open PySem PySem.Spec PyProof.Rows L2
def spMixed : Sp := fun vs H Q _ => ∃ c k, vs = [.int c, .int k] ∧ 0 ≤ k ∧ k ≤ 10000000 ∧ ∀ r, Q (.int r) H
/-- the state of the draws: its dict at st, its lists at c, l; at -/
def StateAt (H : Hp) (st c l : Addr) (at_ : Int) : Prop := ∃ (cs ls : List Int), H st = some (.dK [(.inr "cells", .ref c), (.inr "lefts", .ref l), (.inr "at", .int at_), (.inr "room", .int 0)]) ∧ H c = some (.lst (cs.map V.int)) ∧ H l = some (.lst (ls.map V.int)) ∧ cs.length = ls.length ∧ 1 ≤ cs.length ∧ cs.length ≤ 1000
theorem StateAt.ne {H : Hp} {st c l : Addr} {a : Int} (h : StateAt H st c l a) : st ≠ c ∧ st ≠ l := by
  obtain ⟨cs, ls, h1, h2, h3, _⟩ := h
  exact ⟨ne_of h1 h2 (fun e => by cases e), ne_of h1 h3 (fun e => by cases e)⟩
theorem StateAt.same {H H' : Hp} (s : Same H H') {st c l : Addr} {a : Int} (h : StateAt H st c l a) : StateAt H' st c l a := by
  obtain ⟨cs, ls, h1, h2, h3, h4⟩ := h
  exact ⟨cs, ls, s _ _ h1, s _ _ h2, s _ _ h3, h4⟩
/-- a draw out of many -/
def spDraw : Sp := fun vs H Q _ => ∃ st c l a many, vs = [.ref st, .int many] ∧ StateAt H st c l a ∧ c ≠ l ∧ 0 ≤ a ∧ a ≤ 1000000 ∧ 0 < many ∧ many ≤ 1000000000 ∧
  ∀ H' r, But [st, l] H H' → StateAt H' st c l (a + 1) → 0 ≤ r → r < many → Q (.int r) H'
/-- a thing of a list or tuple -/
def spOf : Sp := fun vs H Q _ => ∃ st c l a t xs, vs = [.ref st, .ref t] ∧ StateAt H st c l a ∧ c ≠ l ∧ 0 ≤ a ∧ a ≤ 1000000 ∧ (H t = some (.lst xs) ∨ H t = some (.tup xs)) ∧ t ∉ [st, l] ∧ 1 ≤ xs.length ∧ xs.length ≤ 1000 ∧
  ∀ H' v, But [st, l] H H' → StateAt H' st c l (a + 1) → v ∈ xs → Q v H'
theorem mulL {i j : Int} (h : 0 ≤ i ∧ i ≤ 1000000000000000) : CMul i j := .inl ⟨by have := h.1; omega, by have := h.2; omega⟩
theorem mulR {i j : Int} (h : 0 ≤ j ∧ j ≤ 1000000000000000) : CMul i j := .inr ⟨by have := h.1; omega, by have := h.2; omega⟩
abbrev stK (c l : Addr) (a : Int) : List (Key × V) := [(.inr "cells", .ref c), (.inr "lefts", .ref l), (.inr "at", .int a), (.inr "room", .int 0)]
theorem k1 : Str.ofString "cells" ≠ Str.ofString "lefts" := by decide +kernel
theorem k2 : Str.ofString "cells" ≠ Str.ofString "at" := by decide +kernel
theorem k3 : Str.ofString "lefts" ≠ Str.ofString "at" := by decide +kernel
theorem k4 : Str.ofString "room" ≠ Str.ofString "at" := by decide +kernel
theorem get_cells (c l : Addr) (a : Int) : valV (stK c l a) (.inr "cells") = some (.ref c) := valV_pos rfl
theorem get_lefts (c l : Addr) (a : Int) : valV (stK c l a) (.inr "lefts") = some (.ref l) := by
  simp [valV, stK, k1]
theorem get_at (c l : Addr) (a : Int) : valV (stK c l a) (.inr "at") = some (.int a) := by
  simp [valV, stK, k2, k3]
theorem put_at (c l : Addr) (a b : Int) : putK (stK c l a) (.inr "at") (.int b) = stK c l b := by
  simp [putK, stK, k2, k3, k4]
theorem ixN_at {n j : Nat} (hj : j < n) : ixN n (j : Int) = some j := by
  unfold ixN
  rw [if_pos (by omega), if_pos (by omega)]
  simp
theorem place_ok {a n : Int} (h : 0 < n) : ∃ j : Nat, a % n = (j : Int) ∧ (j : Int) < n := by
  refine ⟨(a % n).toNat, ?_, ?_⟩
  · have := Int.emod_nonneg a (show n ≠ 0 by omega)
    omega
  · have := Int.emod_nonneg a (show n ≠ 0 by omega)
    have := Int.emod_lt_of_pos a h
    omega
section
variable {P : Program} {w : World} {K : PySem.W.Frag} {mg : Str → Option Value} {base : Heap}
theorem ok_mixed (T : Txt K mg) : Def P w K mg base CX0 1 (He.ga K "_law_mixed") spMixed := by
  refine def0 T.d_law_mixed sc_law_mixed (fun _ _ _ _ _ _ us hl => match us, hl with | [_, _], _ => rfl) (fun vs H Q E h => ?_) (fun cdv A outer s H vs Q E hr h => ?_)
  · obtain ⟨c, k, rfl, _⟩ := h
    rfl
  · obtain ⟨c, k, rfl, h0, h1, q⟩ := h
    have nd := sc_law_mixed.nd
    refine ⟨_, pss_cons (ps_set (i := 0) nd rfl (Or.inl rfl) (pe_op op_mod (pe_callTy call_int1 rfl T.f_int (by decide +kernel) (pa_cons (pv 0) pa_nil)) pe_int))
      (pss_one (ps_ret (pe_op op_mod (pe_op op_mul (pe_op op_mod (pe_op op_add (pe_op op_add (pe_op op_mul (pv 0) (pe_op op_add pe_int (pe_op op_mul (pe_op op_mul pe_int (pv 1)) (pv 1)))) (pe_op op_mul pe_int (pv 1))) pe_int) pe_int) pe_int) pe_int))), ?_⟩
    refine ⟨_, rfl, .inl ⟨_, rfl, _, _, rfl, rfl, (show (0 : Int) < 2147483647 by decide), ?_⟩⟩
    have e1 := Int.emod_nonneg c (show (2147483647 : Int) ≠ 0 by decide)
    have e2 := Int.emod_lt_of_pos c (show (0 : Int) < 2147483647 by decide)
    refine ⟨_, rfl, _, rfl, _, _, rfl, rfl, mulL (by omega), _, rfl, _, _, rfl, rfl, mulR (by omega), _, _, rfl, rfl, _, _, rfl, rfl, mulL (by omega), _, rfl, _, _, rfl, rfl, mulL (by omega), _, _, rfl, rfl, _, _, rfl, rfl, _, _, rfl, rfl, (show (0 : Int) < 2147483647 by decide), _, _, rfl, rfl, mulR (by omega), _, _, rfl, rfl, (show (0 : Int) < 2147483629 by decide), q _⟩
theorem ok_draw (T : Txt K mg) : Def P w K mg base CX0 2 (He.ga K "_law_draw") spDraw := by
  have DM := ok_mixed (P := P) (w := w) (base := base) T
  refine def0 T.d_law_draw sc_law_draw (fun _ _ _ _ _ _ us hl => match us, hl with | [_, _], _ => rfl) (fun vs H Q E h => ?_) (fun cdv A outer s H vs Q E hr h => ?_)
  · obtain ⟨st, c, l, a, many, rfl, _⟩ := h
    rfl
  · obtain ⟨st, c, l, a, many, rfl, hst, ncl, h0, h1, m0, m1, k⟩ := h
    have nd := sc_law_draw.nd
    have hu := hu_of hr
    have ib : bootBuiltins "int" = some (.type "int") := by decide +kernel
    refine ⟨_, pss_cons (ps_set (i := 2) nd rfl (Or.inl rfl) (pe_dget hu (pv 0) pe_str (fun _ _ => rfl)))
      (pss_cons (ps_dput hu (pv 0) pe_str (pe_op op_add (pv 2) pe_int) rfl)
      (pss_cons (ps_set (i := 3) nd rfl (Or.inl rfl) (pe_op op_mod (pe_callTy call_int1 rfl T.f_int ib (pa_cons (pv 2) pa_nil)) (pe_callB call_len_seq rfl T.f_len boot_len (pa_cons (pe_dget hu (pv 0) pe_str (fun _ _ => rfl)) pa_nil))))
      (pss_cons (ps_set (i := 4) nd rfl (Or.inl rfl) (pe_ix ix_list (pe_dget hu (pv 0) pe_str (fun _ _ => rfl)) (pv 3) (fun _ _ => rfl)))
      (pss_cons (ps_if (pt_cmpR op_gt (pv 4) pe_int (nomark _))
        (pss_cons (ps_asg (pe_op op_fdiv (pv 4) (pv 1)) (pg_sub (pe_dget hu (pv 0) pe_str (fun _ _ => rfl)) (pv 3) set_list (by intro _; rfl)))
          (pss_one (ps_ret (pe_op op_mod (pe_callTy call_int1 rfl T.f_int ib (pa_cons (pv 4) pa_nil)) (pv 1))))) pss_nil)
      (pss_cons (ps_set (i := 5) nd rfl (Or.inl rfl) (pe_cd DM hr T.g_law_mixed pass0 (pa_cons (pe_cd DM hr T.g_law_mixed pass0 (pa_cons (pe_ix ix_list (pe_dget hu (pv 0) pe_str (fun _ _ => rfl)) (pv 3) (fun _ _ => rfl)) (pa_cons (pv 2) pa_nil))) (pa_cons (pe_op op_add pe_int (pv 2)) pa_nil))))
      (pss_one (ps_ret (pe_op op_mod (pe_op op_fdiv (pe_callTy call_int1 rfl T.f_int ib (pa_cons (pe_op op_add (pe_op op_mul (pv 5) pe_int) (pe_cd DM hr T.g_law_mixed pass0 (pa_cons (pv 5) (pa_cons (pe_op op_add pe_int (pv 2)) pa_nil)))) pa_nil)) pe_int) (pv 1))))))))), ?_⟩
    obtain ⟨cs, ls, hs, hc, hl, hlen, hn1, hn2⟩ := hst
    have nsc : st ≠ c := ne_of hs hc (fun e => by cases e)
    have nsl : st ≠ l := ne_of hs hl (fun e => by cases e)
    have gk : ∀ {H : Hp} {a : Int} {x : Str} {v : V}, H st = some (.dK (stK c l a)) → valV (stK c l a) (.inr x) = some v → DGet H st (.str x) (some v) := fun {H a x v} e e2 => by
      rw [← e2]
      exact DGet.k (k := .inr x) e
    refine ⟨_, rfl, st, _, rfl, gk hs (get_at c l a), ?_⟩
    refine ⟨_, rfl, _, _, rfl, rfl, _, rfl, st, _, rfl, DPut.k (k := .inr "at") hs (by show 4 < sizeLine; rw [sizeLine_eq]; omega), ?_⟩
    rw [put_at]
    -- the place
    have b1 : But [st, l] H (upd H st (.dK (stK c l (a + 1)))) := fun b o e n => by rw [upd_ne (fun z => n (by simp [z]))]; exact e
    have hs1 : upd H st (.dK (stK c l (a + 1))) st = some (.dK (stK c l (a + 1))) := upd_same
    have hc1 : upd H st (.dK (stK c l (a + 1))) c = some (.lst (cs.map V.int)) := by rw [upd_ne (Ne.symm nsc)]; exact hc
    have hl1 : upd H st (.dK (stK c l (a + 1))) l = some (.lst (ls.map V.int)) := by rw [upd_ne (Ne.symm nsl)]; exact hl
    refine ⟨_, rfl, .inl ⟨_, rfl, _, rfl, st, _, rfl, gk hs1 (get_cells c l _), c, _, rfl, .inl (SqL.of hc1), _, _, rfl, rfl, (by rw [List.length_map]; omega), ?_⟩⟩
    rw [List.length_map]
    obtain ⟨j, ej, hj⟩ := place_ok (a := a) (n := (cs.length : Int)) (by omega)
    obtain ⟨y, hy⟩ : ∃ y, ls[j]? = some y := ⟨_, List.getElem?_eq_getElem (by omega)⟩
    obtain ⟨z, hz⟩ : ∃ z, cs[j]? = some z := ⟨_, List.getElem?_eq_getElem (by omega)⟩
    have hy' : (ls.map V.int)[j]? = some (.int y) := by rw [List.getElem?_map, hy]; rfl
    have hz' : (cs.map V.int)[j]? = some (.int z) := by rw [List.getElem?_map, hz]; rfl
    refine ⟨_, rfl, st, _, rfl, gk hs1 (get_lefts c l _), _, rfl, l, _, _, _, rfl, rfl, SqL.of hl1, at_of ej hy', ?_⟩
    refine ⟨_, rfl, _, _, rfl, rfl, _, rfl, ?_⟩
    by_cases hp : 0 < y
    · rw [decide_eq_true hp]
      refine iteT ⟨_, rfl, _, rfl, _, _, rfl, rfl, ⟨m0, by omega⟩, ?_⟩
      have b2 : But [st, l] H (upd (upd H st (.dK (stK c l (a + 1)))) l (.lst ((ls.map V.int).set j (.int (y / many))))) := fun b o e n => by rw [upd_ne (fun z => n (by simp [z]))]; exact b1 b o e n
      refine ⟨_, rfl, st, _, rfl, gk hs1 (get_lefts c l _), _, rfl, l, _, _, j, rfl, rfl, hl1, by rw [ej]; exact ixN_at (by rw [List.length_map]; omega), ?_⟩
      refine ⟨_, rfl, .inl ⟨_, rfl, _, rfl, _, _, rfl, rfl, m0, k _ _ b2 ⟨cs, ls.set j (y / many), by rw [upd_ne nsl]; exact hs1, by rw [upd_ne ncl]; exact hc1, ?_, by rw [List.length_set]; exact hlen, hn1, hn2⟩ (Int.emod_nonneg _ (by omega)) (Int.emod_lt_of_pos _ m0)⟩⟩
      rw [upd_same, List.map_set]
    · rw [decide_eq_false hp]
      refine iteF ?_
      refine ⟨_, rfl, st, _, rfl, gk hs1 (get_cells c l _), _, rfl, c, _, _, _, rfl, rfl, SqL.of hc1, at_of ej hz', ?_⟩
      refine ⟨_, rfl, _, _, rfl, h0, by omega, fun r1 => ?_⟩
      refine ⟨_, rfl, _, _, rfl, rfl, _, _, rfl, by omega, by omega, fun r2 => ?_⟩
      refine ⟨_, rfl, _, _, rfl, rfl, mulR (by omega), _, rfl, _, rfl, _, _, rfl, rfl, _, _, rfl, by omega, by omega, fun r3 => ?_⟩
      refine ⟨_, _, rfl, rfl, .inl ⟨_, rfl, _, _, rfl, rfl, ⟨by decide, by decide⟩, _, rfl, _, _, rfl, rfl, m0, ?_⟩⟩
      exact k _ _ b1 ⟨cs, ls, hs1, hc1, hl1, hlen, hn1, hn2⟩ (Int.emod_nonneg _ (by omega)) (Int.emod_lt_of_pos _ m0)
theorem ok_of (T : Txt K mg) : Def P w K mg base CX0 3 (He.ga K "_law_of") spOf := by
  have DD := ok_draw (P := P) (w := w) (base := base) T
  refine def0 T.d_law_of sc_law_of (fun _ _ _ _ _ _ us hl => match us, hl with | [_, _], _ => rfl) (fun vs H Q E h => ?_) (fun cdv A outer s H vs Q E hr h => ?_)
  · obtain ⟨st, c, l, a, t, xs, rfl, _⟩ := h
    rfl
  · obtain ⟨st, c, l, a, t, xs, rfl, hst, ncl, h0, h1, ht, hn, m0, m1, k⟩ := h
    refine ⟨_, pss_one (ps_ret (pe_ix (IxR.or ix_list ix_tup) (pv 1) (pe_cd DD hr T.g_law_draw pass0 (pa_cons (pv 0) (pa_cons (pe_callB call_len_seq rfl T.f_len boot_len (pa_cons (pv 1) pa_nil)) pa_nil))) (fun _ _ => rfl))), ?_⟩
    refine ⟨_, rfl, _, rfl, _, rfl, t, xs, rfl, ht.elim (fun h => .inl (SqL.of h)) (fun h => .inr (SqT.of h)), ?_⟩
    refine ⟨st, c, l, a, (xs.length : Int), rfl, hst, ncl, h0, h1, by omega, by omega, fun H' r b s' r0 r1 => ?_⟩
    obtain ⟨j, ej⟩ : ∃ j : Nat, r = (j : Int) := ⟨r.toNat, by omega⟩
    obtain ⟨y, hy⟩ : ∃ y, xs[j]? = some y := ⟨_, List.getElem?_eq_getElem (by omega)⟩
    have hm : y ∈ xs := List.mem_of_getElem? hy
    rcases ht with ht | ht
    · exact .inl ⟨t, xs, _, _, rfl, rfl, SqL.of (b _ _ ht hn), at_of ej hy, k _ _ b s' hm⟩
    · exact .inr ⟨t, xs, _, _, rfl, rfl, SqT.of (b _ _ ht hn), at_of ej hy, k _ _ b s' hm⟩
end
end JB
set_option Elab.async false
set_option linter.all false
set_option maxRecDepth 100000
set_option maxHeartbeats 4000000
/-! The law's own book: entries. -/
namespace JB
open PySem PySem.Spec PyProof.Rows L2
/-- an entry: what stands, how many deeds -/
def EntryAt (H : Hp) (e : V) (S : Std) (n : Nat) : Prop := ∃ t lo to, e = .ref t ∧ H t = some (.tup [lo, to, .int S.paid, .int n]) ∧ TI H lo S.loads ∧ TT H to S.tops
theorem EntryAt.ext {H H' : Hp} (e : Ext H H') {v : V} {S : Std} {n : Nat} (h : EntryAt H v S n) : EntryAt H' v S n := by
  obtain ⟨t, lo, to, h1, h2, h3, h4⟩ := h
  exact ⟨t, lo, to, h1, e _ _ h2, h3.ext e, h4.ext e⟩
inductive Deed
  | come (w : Int)
  | take (t : List Int)
  | join (t o : List Int)
def DeedAt (H : Hp) (v : V) : Deed → Prop
  | .come w => ∃ a, v = .ref a ∧ H a = some (.tup [.str "come", .int w])
  | .take t => ∃ a tv, v = .ref a ∧ H a = some (.tup [.str "take", tv]) ∧ TI H tv t
  | .join t o => ∃ a tv ov, v = .ref a ∧ H a = some (.tup [.str "join", tv, ov]) ∧ TI H tv t ∧ TI H ov o
theorem DeedAt.ext {H H' : Hp} (e : Ext H H') {v : V} {D : Deed} (h : DeedAt H v D) : DeedAt H' v D := by
  cases D with
  | come w => obtain ⟨a, h1, h2⟩ := h; exact ⟨a, h1, e _ _ h2⟩
  | take t => obtain ⟨a, tv, h1, h2, h3⟩ := h; exact ⟨a, tv, h1, e _ _ h2, h3.ext e⟩
  | join t o => obtain ⟨a, tv, ov, h1, h2, h3, h4⟩ := h; exact ⟨a, tv, ov, h1, e _ _ h2, h3.ext e, h4.ext e⟩
def Std.after (S : Std) : Deed → Std
  | .come w => S.come w
  | .take t => S.taken t
  | .join t o => S.joined t o
def Std.due (S : Std) : Deed → Int
  | .come _ => S.loads.length
  | .take t => S.wt t
  | .join t o => S.loss t o
/-- what a deed is like -/
def Std.okD (S : Std) : Deed → Prop
  | .come w => 1 ≤ w ∧ w ≤ 1000000000 ∧ S.tops.length < 8 ∧ S.loads.length < 20
  | .take t => t ∈ S.tops
  | .join t o => t ∈ S.tops ∧ o ∈ S.tops ∧ t ≠ o
def spEntry : Sp := fun vs H Q _ => vs = [] ∧ ∀ H' e, Same H H' → EntryAt H' e std0 0 → Q e H'
def spMass : Sp := fun vs H Q _ => ∃ ev tv S n top, vs = [ev, tv] ∧ EntryAt H ev S n ∧ TI H tv top ∧ InR S.loads.length top ∧ top.length ≤ 1000 ∧ ∀ H', Same H H' → Q (.int (S.wt top)) H'
def FinOk (S : Std) : Prop := (∀ t ∈ S.tops, InR S.loads.length t ∧ t.length ≤ 1000) ∧ S.tops.length ≤ 100
def spEnding : Sp := fun vs H Q _ => ∃ ev S n, vs = [ev] ∧ EntryAt H ev S n ∧ FinOk S ∧ ∀ H', Same H H' → Q (.int S.fin) H'
def spAfter : Sp := fun vs H Q _ => ∃ ev dv S n D, vs = [ev, dv] ∧ EntryAt H ev S n ∧ DeedAt H dv D ∧ Good S ∧ S.okD D ∧ ∀ H' v, Same H H' → EntryAt H' v (S.after D) (n + 1) → Q v H'
section
variable {P : Program} {w : World} {K : PySem.W.Frag} {mg : Str → Option Value} {base : Heap}
theorem ok_entry (T : Txt K mg) : Def P w K mg base CX0 1 (He.ga K "_law_entry") spEntry := by
  refine def0 T.d_law_entry sc_law_entry (fun _ _ _ _ _ _ us hl => match us, hl with | [], _ => rfl) (fun vs H Q E h => ?_) (fun cdv A outer s H vs Q E hr h => ?_)
  · obtain ⟨rfl, _⟩ := h
    rfl
  · obtain ⟨rfl, k⟩ := h
    refine ⟨_, pss_one (ps_ret (pe_tup (pa_cons (pe_tup pa_nil) (pa_cons (pe_tup pa_nil) (pa_cons pe_int (pa_cons pe_int pa_nil)))))), ?_⟩
    have z : ∀ n : Nat, n ≤ 4 → n ≤ sizeLine := fun n h => by rw [sizeLine_eq]; omega
    refine ⟨z 0 (by omega), fun a ha => ⟨z 0 (by omega), fun b hb => ⟨z 4 (by omega), fun t ht => ?_⟩⟩⟩
    have s1 := same_upd (o := .tup []) ha
    have s2 := same_upd (o := .tup []) hb
    have s3 := same_upd (o := .tup [.ref a, .ref b, .int 0, .int 0]) ht
    exact k _ _ ((s1.trans s2).trans s3) ⟨t, .ref a, .ref b, rfl, upd_same, ⟨a, rfl, s3 _ _ (s2 _ _ upd_same)⟩, ⟨b, [], rfl, s3 _ _ upd_same, .nil⟩⟩
theorem ok_mass (T : Txt K mg) : Def P w K mg base CX0 1 (He.ga K "_law_mass") spMass := by
  refine def0 T.d_law_mass sc_law_mass (fun _ _ _ _ _ _ us hl => match us, hl with | [_, _], _ => rfl) (fun vs H Q E h => ?_) (fun cdv A outer s H vs Q E hr h => ?_)
  · obtain ⟨ev, tv, S, n, top, rfl, _⟩ := h
    rfl
  · obtain ⟨ev, tv, S, n, top, rfl, ⟨t, lo, to, rfl, he, ⟨tw, rfl, hw⟩, htn⟩, ⟨tt, rfl, ht⟩, hin, hlen, k⟩ := h
    have nd := sc_law_mass.nd
    refine ⟨_, pss_one (ps_ret (pe_callB (cr_sum rfl) rfl T.f_sum (by decide +kernel) (pa_cons (pe_lc (own := [("_law_one", 2)]) (g := gName 2) (tt := tYes) (te := tOp (rIxT K) (tOp (rIxT K) (tVar 0) (tC (.int 0))) (tVar 2)) rfl nd (pi_tup (pv 1)) (blkOk_by (own := [("_law_one", 2)]) (N := n_law_mass) (sc := defScope s_law_mass) (by decide +kernel))
      (fun _ _ _ _ _ => pg_name (i := 2) nd rfl (Or.inl rfl)) (fun _ _ _ _ _ => pts_nil) (fun _ _ _ _ _ => pe_ix ix_tup (pe_ix ix_tup (pv 0) pe_int (fun _ _ => rfl)) (pv 2) (fun _ _ => rfl))) pa_nil))), ?_⟩
    refine ⟨_, rfl, tt, rfl, ⟨_, SqT.of ht⟩, fun D hD => ?_⟩
    refine lc_tupG (K := K) (a := tt) (xs := top.map V.int) (fun i acc => acc = ((top.take i).map fun i => V.int (S.loads.getD i.toNat 0))) (SqT.of ht) hD (by rw [List.length_map]; exact hlen) rfl ?_ ?_
    · intro i x H2 acc hi s2 ha
      rw [List.getElem?_map] at hi
      cases ei : top[i]? with
      | none => rw [ei] at hi; cases hi
      | some z =>
        rw [ei] at hi
        cases hi
        obtain ⟨h0, h1⟩ := hin z (List.mem_of_getElem? ei)
        obtain ⟨j, ej, hj⟩ := getD_at h0 h1
        refine turn_name fun Qe he2 => ⟨rfl, _, rfl, t, _, _, _, rfl, rfl, SqT.of (s2 _ _ he), at0 rfl, _, rfl, tw, _, _, _, rfl, rfl, SqT.of (s2 _ _ hw), at_of ej hj, he2 _ _ ?_ (Same.refl _)⟩
        rw [ha, take_succ ei]
        simp
    · intro acc H2 ha s2 hDs
      rw [List.length_map, List.take_length] at ha
      have ea : acc = (top.map fun i => S.loads.getD i.toNat 0).map V.int := by rw [ha, List.map_map]; rfl
      rw [ea] at hDs
      exact ⟨_, _, rfl, SqL.of hDs, k _ s2⟩
theorem firsts_two (x y : Int) (r : List Int) : (Huf.firsts (x :: y :: r).length (x :: y :: r)).sum = x + y + (Huf.firsts (Huf.srt (r ++ [x + y])).length (Huf.srt (r ++ [x + y]))).sum := by
  rw [Huf.srt_len]
  simp [Huf.firsts]
theorem firsts_le1 {l : List Int} (h : ¬ (1 : Int) < (l.length : Int)) : (Huf.firsts l.length l).sum = 0 := by
  match l, h with
  | [], _ => rfl
  | [x], _ => rfl
  | x :: y :: r, h => exact absurd (show (1 : Int) < ((x :: y :: r).length : Int) from by simp; omega) h
theorem ok_ending (T : Txt K mg) : Def P w K mg base CX0 2 (He.ga K "_law_ending") spEnding := by
  have DM := ok_mass (P := P) (w := w) (base := base) T
  refine def0 T.d_law_ending sc_law_ending (fun _ _ _ _ _ _ us hl => match us, hl with | [_], _ => rfl) (fun vs H Q E h => ?_) (fun cdv A outer s H vs Q E hr h => ?_)
  · obtain ⟨ev, S, n, rfl, _⟩ := h
    rfl
  · obtain ⟨ev, S, n, rfl, hE, ⟨hfin, hl8⟩, k⟩ := h
    obtain ⟨t, lo, to, rfl, he, hlo, ⟨tt, xs, rfl, ht, htl⟩⟩ := id hE
    have nd := sc_law_ending.nd
    have hu := hr.units
    refine ⟨_, pss_cons (ps_par (i := 1) (j := 2) (by rfl) nd rfl rfl (by decide) rfl rfl (pa_cons (pe_callB (cr_sortI hu) rfl T.f_sorted boot_sorted (pa_cons (pe_lc (own := [("_law_top", 3)]) (g := gName 3) (tt := tYes) (te := tCall spMass [] E0 (tCons (tVar 0) (tCons (tVar 3) tNil))) rfl nd (pi_tup (pe_ix ix_tup (pv 0) pe_int (fun _ _ => rfl))) (blkOk_by (own := [("_law_top", 3)]) (N := n_law_ending) (sc := defScope s_law_ending) (by decide +kernel))
        (fun _ _ _ _ _ => pg_name (i := 3) nd rfl (Or.inl rfl)) (fun _ _ _ _ _ => pts_nil) (fun _ _ _ _ _ => pe_cd DM hr T.g_law_mass pass0 (pa_cons (pv 0) (pa_cons (pv 3) pa_nil)))) pa_nil)) (pa_cons (pe_ix ix_tup (pv 0) pe_int (fun _ _ => rfl)) pa_nil)) (by rfl))
      (pss_cons (ps_while PassesOwn.never (pt_cmpR op_gt (pe_callB call_len_seq rfl T.f_len boot_len (pa_cons (pv 1) pa_nil)) pe_int (nomark _))
        (pss_cons (ps_set (i := 2) nd rfl (Or.inl rfl) (pe_op op_add (pe_op op_add (pv 2) (pe_ix ix_list (pv 1) pe_int (fun _ _ => rfl))) (pe_ix ix_list (pv 1) pe_int (fun _ _ => rfl))))
        (pss_one (ps_set (i := 1) nd rfl (Or.inl rfl) (pe_callB (cr_sortI hu) rfl T.f_sorted boot_sorted (pa_cons (pe_op op_cat (pe_slice sl_list (pv 1) (po_some pe_int) po_none) (pe_lst (pa_cons (pe_op op_add (pe_ix ix_list (pv 1) pe_int (fun _ _ => rfl)) (pe_ix ix_list (pv 1) pe_int (fun _ _ => rfl))) pa_nil))) pa_nil))))))
      (pss_one (ps_ret (pv 2)))), ?_⟩
    refine ⟨_, rfl, t, _, _, _, rfl, rfl, SqT.of he, at1 rfl, tt, rfl, ⟨_, SqT.of ht⟩, fun D hD => ?_⟩
    refine lc_tupG (K := K) (a := tt) (xs := xs) (fun i acc => acc = (S.tops.take i).map fun t => V.int (S.wt t)) (SqT.of ht) hD (by rw [htl.length]; omega) rfl ?_ ?_
    · intro i x H2 acc hi s2 ha
      obtain ⟨z, et, hx⟩ := htl.get hi
      obtain ⟨h0, h1⟩ := hfin z (List.mem_of_getElem? et)
      refine turn_name fun Qe he2 => ⟨rfl, _, rfl, _, rfl, ?_⟩
      refine ⟨_, _, S, n, z, rfl, hE.ext (Ext.of s2), hx.ext (Ext.of s2), h0, h1, fun H' s' => he2 _ _ ?_ s'⟩
      rw [ha, take_succ et]
      simp
    · intro acc H2 ha s2 hDs
      rw [htl.length, List.take_length] at ha
      have ea : acc = S.ws.map V.int := by rw [ha, Std.ws, List.map_map]; rfl
      rw [ea] at hDs
      refine ⟨D, S.ws, rfl, .inl hDs, by simp [Std.ws]; omega, fun l hl => ?_⟩
      have s3 := same_fresh (o := .lst ((Huf.srt S.ws).map V.int)) s2 hl
      refine ⟨_, rfl, t, _, 2, _, rfl, rfl, SqT.of (s3 _ _ he), atI_nat (j := 2) rfl, _, _, rfl, ?_⟩
      refine ⟨fun m σ H4 => ∃ l left got, σ = [some (.ref t), some (.ref l), some (.int got), none] ∧ m = left.length ∧ Same H H4 ∧ H4 l = some (.lst (left.map V.int)) ∧
        got + (Huf.firsts left.length left).sum = S.fin ∧ left.length ≤ 100, ⟨_, l, Huf.srt S.ws, S.paid, rfl, rfl, s3, upd_same, by rw [Huf.srt_len]; rfl, by rw [Huf.srt_len]; simp [Std.ws]; omega⟩, ?_⟩
      rintro m σ H4 ⟨l, left, got, rfl, rfl, s4, h1, eq, hz⟩
      refine ⟨_, rfl, l, _, rfl, .inl (SqL.of h1), _, _, rfl, rfl, _, rfl, ?_⟩
      rw [List.length_map]
      by_cases hl2 : (1 : Int) < (left.length : Int)
      · rw [decide_eq_true hl2]
        obtain ⟨x, y, r, rfl⟩ : ∃ x y r, left = x :: y :: r := by
          match left, hl2 with
          | x :: y :: r, _ => exact ⟨x, y, r, rfl⟩
          | [], h => simp at h
          | [x], h => simp at h
        refine iteT ⟨fun σ' H' => ∃ l left' got', σ' = [some (.ref t), some (.ref l), some (.int got'), none] ∧ r.length + 1 = left'.length ∧ Same H H' ∧ H' l = some (.lst (left'.map V.int)) ∧
          got' + (Huf.firsts left'.length left').sum = S.fin ∧ left'.length ≤ 100, fun σ' H' q => ⟨r.length + 1, by simp, q⟩, ?_⟩
        refine ⟨_, rfl, _, rfl, l, _, _, _, rfl, rfl, SqL.of h1, at0 rfl, _, _, rfl, rfl, _, rfl, l, _, _, _, rfl, rfl, SqL.of h1, at1 rfl, _, _, rfl, rfl, ?_⟩
        refine ⟨_, rfl, _, rfl, l, _, rfl, SqL.of h1, fun p hp => ?_⟩
        have e0 : cutV (List.map V.int (x :: y :: r)) (some 2) none = r.map V.int := cutV_from (α := Nat) _ 2 (by simp)
        rw [e0]
        have s5 := same_upd (o := .lst (r.map V.int)) hp
        refine ⟨_, rfl, l, _, _, _, rfl, rfl, SqL.of (s5 _ _ h1), at0 rfl, _, rfl, l, _, _, _, rfl, rfl, SqL.of (s5 _ _ h1), at1 rfl, _, _, rfl, rfl, (by show 1 ≤ sizeLine; rw [sizeLine_eq]; omega), fun q hq => ?_⟩
        have s6 := same_upd (o := .lst [V.int (x + y)]) hq
        refine ⟨p, q, _, _, rfl, rfl, s6 _ _ upd_same, upd_same, ?_, fun u hu' => ?_⟩
        · rw [List.length_map, sizeLine_eq]
          simp at hz ⊢
          omega
        have s7 := same_upd (o := .lst (r.map V.int ++ [V.int (x + y)])) hu'
        refine ⟨u, r ++ [x + y], rfl, .inl ?_, by simp at hz ⊢; omega, fun v hv => ?_⟩
        · rw [upd_same]
          simp
        have s8 := same_upd (o := .lst ((Huf.srt (r ++ [x + y])).map V.int)) hv
        refine ⟨v, Huf.srt (r ++ [x + y]), got + x + y, rfl, by rw [Huf.srt_len]; simp, s4.trans (((s5.trans s6).trans s7).trans s8), upd_same, ?_, ?_⟩
        · rw [← eq, firsts_two]
          omega
        · rw [Huf.srt_len]
          simp at hz ⊢
          omega
      · rw [decide_eq_false hl2]
        refine iteF ⟨_, rfl, ?_⟩
        rw [firsts_le1 hl2] at eq
        have : got = S.fin := by omega
        rw [this]
        exact k H4 s4
end
end JB
set_option Elab.async false
set_option linter.all false
set_option maxRecDepth 100000
set_option maxHeartbeats 4000000
namespace JB
open PySem PySem.Spec PyProof.Rows L2
def Deed.word : Deed → Str
  | .come _ => "come"
  | .take _ => "take"
  | .join _ _ => "join"
/-- a deed's tuple -/
theorem DeedAt.tup {H : Hp} {v : V} {D : Deed} (h : DeedAt H v D) : ∃ a xs, v = .ref a ∧ H a = some (.tup (.str D.word :: xs)) := by
  cases D with
  | come w => obtain ⟨a, h1, h2⟩ := h; exact ⟨a, _, h1, h2⟩
  | take t => obtain ⟨a, tv, h1, h2, h3⟩ := h; exact ⟨a, _, h1, h2⟩
  | join t o => obtain ⟨a, tv, ov, h1, h2, h3, h4⟩ := h; exact ⟨a, _, h1, h2⟩
theorem nCT : V.str (Str.ofString "come") ≠ V.str (Str.ofString "take") := by decide +kernel
theorem nTC : V.str (Str.ofString "take") ≠ V.str (Str.ofString "come") := by decide +kernel
theorem nJC : V.str (Str.ofString "join") ≠ V.str (Str.ofString "come") := by decide +kernel
theorem nJT : V.str (Str.ofString "join") ≠ V.str (Str.ofString "take") := by decide +kernel
theorem nTJ : V.str (Str.ofString "take") ≠ V.str (Str.ofString "join") := by decide +kernel
theorem nCJ : V.str (Str.ofString "come") ≠ V.str (Str.ofString "join") := by decide +kernel
/-- t + u of tuples: what comes of it -/
theorem catA {K : PySem.W.Frag} {H : Hp} {Q : VK} {a b : Addr} {xs ys : List V} (ha : H a = some (.tup xs)) (hb : H b = some (.tup ys)) (hz : xs.length + ys.length ≤ 1000) (k : ∀ H' p, Same H H' → H' p = some (.tup (xs ++ ys)) → Q (.ref p) H') : rCatA K (.ref a) (.ref b) H Q := by
  refine ⟨a, b, xs, ys, rfl, rfl, SqT.of ha, SqT.of hb, thousand hz, fun e => ?_, fun _ e => ?_, fun _ _ p hp => k _ p (same_upd hp) upd_same⟩
  · subst e
    exact k H b (Same.refl _) hb
  · subst e
    exact k H a (Same.refl _) (by rw [List.append_nil]; exact ha)
theorem slA {K : PySem.W.Frag} {H : Hp} {Q : VK} {a : Addr} {x : V} {xs : List V} (ha : H a = some (.tup (x :: xs))) (k : ∀ H' p, Same H H' → H' p = some (.tup xs) → Q (.ref p) H') : rSlA K (.ref a) (some 1) none H Q := by
  refine ⟨a, _, rfl, SqT.of ha, fun e => ?_, fun _ p hp => k _ p (same_upd hp) ?_⟩
  · have h1 := e.1
    have h2 : HT.sIx (x :: xs).length 0 (some 1) = 1 := by
      simp only [HT.sIx, List.length_cons]
      first
        | omega
        | (split <;> omega)
    rw [h2] at h1
    cases h1
  · have e : cutV (x :: xs) (some 1) none = (x :: xs).drop 1 := cutV_from (α := Nat) _ 1 (by simp)
    rw [upd_same, e]
    rfl
section
variable {P : Program} {w : World} {K : PySem.W.Frag} {mg : Str → Option Value} {base : Heap}
theorem ok_after (T : Txt K mg) : Def P w K mg base CX0 1 (He.ga K "_law_after") spAfter := by
  refine def0 T.d_law_after sc_law_after (fun _ _ _ _ _ _ us hl => match us, hl with | [_, _], _ => rfl) (fun vs H Q E h => ?_) (fun cdv A outer s H vs Q E hr h => ?_)
  · obtain ⟨ev, dv, S, n, D, rfl, _⟩ := h
    rfl
  · obtain ⟨ev, dv, S, n, D, rfl, hE, hD, hg, hok, k⟩ := h
    obtain ⟨t, lo, to, rfl, he, ⟨tw, rfl, hw⟩, ⟨tt, xs, rfl, ht, htl⟩⟩ := id hE
    have nd := sc_law_after.nd
    have hu := hr.units
    have hu5 := u65 hr
    refine ⟨_, pss_cons (ps_asg (pv 0) (pg_tup (n := 4) rfl (pgs_cons (pg_name (i := 2) nd rfl (Or.inr rfl)) (pgs_cons (pg_name (i := 3) nd rfl (Or.inl rfl)) (pgs_cons (pg_name (i := 4) nd rfl (Or.inl rfl)) (pgs_cons (pg_name (i := 5) nd rfl (Or.inl rfl)) pgs_nil))))))
      (pss_cons (ps_if (pt_cmpR op_eq (pe_ix ix_tup (pv 1) pe_int (fun _ _ => rfl)) pe_str (by rfl)) (pss_one (ps_ret (pe_tup (pa_cons (pe_op op_catA (pv 2) (pe_tup (pa_cons (pe_ix ix_tup (pv 1) pe_int (fun _ _ => rfl)) pa_nil)))
          (pa_cons (pe_callTy call_tuple_of rfl T.f_tuple boot_tuple (pa_cons (pe_callB (cr_sortT T.sysd hu) rfl T.f_sorted boot_sorted (pa_cons (pe_op op_catA (pv 3) (pe_tup (pa_cons (pe_tup (pa_cons (pe_callB call_len_seq rfl T.f_len boot_len (pa_cons (pv 2) pa_nil)) pa_nil)) pa_nil))) pa_nil)) pa_nil))
          (pa_cons (pv 4) (pa_cons (pe_op op_add (pv 5) pe_int) pa_nil))))))) pss_nil)
      (pss_cons (ps_set (i := 6) nd rfl (Or.inl rfl) (pe_callTy call_tuple_of rfl T.f_tuple boot_tuple (pa_cons (pe_lc (own := [("_law_top", 7)]) (g := gName 7) (tt := tTest (tOp rNotInT (tVar 7) (tSl (rSlA K) (tVar 1) (tPart (tC (.int 1))) tNoPart))) (te := tVar 7) rfl nd (pi_tup (pv 3)) (blkOk_by (own := [("_law_top", 7)]) (N := n_law_after) (sc := defScope s_law_after) (by decide +kernel))
        (fun _ _ _ _ _ => pg_name (i := 7) nd rfl (Or.inl rfl)) (fun _ _ _ _ _ => pts_one (pt_cmpR (op_notInT T.sysd hu5) (pv 7) (pe_slice sl_tupA (pv 1) (po_some pe_int) po_none) (by rfl))) (fun _ _ _ _ _ => pv 7)) pa_nil)))
      (pss_cons (ps_if (pt_cmpR op_eq (pe_ix ix_tup (pv 1) pe_int (fun _ _ => rfl)) pe_str (by rfl)) (pss_one (ps_ret (pe_tup (pa_cons (pv 2) (pa_cons (pv 6) (pa_cons (pv 4) (pa_cons (pe_op op_add (pv 5) pe_int) pa_nil))))))) pss_nil)
      (pss_cons (ps_set (i := 8) nd rfl (Or.inl rfl) (pe_callTy call_tuple_of rfl T.f_tuple boot_tuple (pa_cons (pe_callB (cr_sortI hu) rfl T.f_sorted boot_sorted (pa_cons (pe_op op_catA (pe_ix ix_tup (pv 1) pe_int (fun _ _ => rfl)) (pe_ix ix_tup (pv 1) pe_int (fun _ _ => rfl))) pa_nil)) pa_nil)))
      (pss_one (ps_ret (pe_tup (pa_cons (pv 2) (pa_cons (pe_callTy call_tuple_of rfl T.f_tuple boot_tuple (pa_cons (pe_callB (cr_sortT T.sysd hu) rfl T.f_sorted boot_sorted (pa_cons (pe_op op_catA (pv 6) (pe_tup (pa_cons (pv 8) pa_nil))) pa_nil)) pa_nil))
        (pa_cons (pe_op op_add (pv 4) (pe_callB (cr_sum rfl) rfl T.f_sum (by decide +kernel) (pa_cons (pe_lc (own := [("_law_one", 9)]) (g := gName 9) (tt := tYes) (te := tOp (rIxT K) (tVar 2) (tVar 9)) rfl nd (pi_tup (pv 8)) (blkOk_by (own := [("_law_one", 9)]) (N := n_law_after) (sc := defScope s_law_after) (by decide +kernel))
          (fun _ _ _ _ _ => pg_name (i := 9) nd rfl (Or.inl rfl)) (fun _ _ _ _ _ => pts_nil) (fun _ _ _ _ _ => pe_ix ix_tup (pv 2) (pv 9) (fun _ _ => rfl))) pa_nil)))
        (pa_cons (pe_op op_add (pv 5) pe_int) pa_nil))))))))))), ?_⟩
    have z : ∀ n : Nat, n ≤ 4 → n ≤ sizeLine := fun n h => by rw [sizeLine_eq]; omega
    have e8 := hg.n8
    have e20 := hg.n20
    refine ⟨_, rfl, t, _, rfl, SqT.of he, rfl, _, _, rfl, _, _, rfl, _, _, rfl, _, _, rfl, rfl, ?_⟩
    obtain ⟨d, ds, rfl, hd⟩ := hD.tup
    refine ⟨_, rfl, d, _, _, _, rfl, rfl, SqT.of hd, at0 rfl, rfl, _, rfl, ?_⟩
    cases D with
    | come x =>
      obtain ⟨d', ed, hd2⟩ := hD
      cases ed
      rw [decide_eq_true (show V.str (Deed.come x).word = V.str "come" from rfl)]
      refine iteT ⟨_, rfl, _, rfl, d, _, _, _, rfl, rfl, SqT.of hd2, at1 rfl, z 1 (by omega), fun p hp => ?_⟩
      have s1 := same_upd (o := .tup [.int x]) hp
      refine catA (s1 _ _ hw) upd_same (by rw [List.length_map]; simp; omega) fun H1 q s2 hq => ?_
      have s12 := s1.trans s2
      refine ⟨_, rfl, _, rfl, tw, _, rfl, .inr (SqT.of (s12 _ _ hw)), z 1 (by omega), fun a ha => ?_⟩
      have s3 := same_upd (o := .tup [.int ((S.loads.map V.int).length : Int)]) ha
      refine ⟨z 1 (by omega), fun b hb => ?_⟩
      have s4 := same_upd (o := .tup [.ref a]) hb
      have s34 := s3.trans s4
      have s14 := s12.trans s34
      refine catA (s14 _ _ ht) upd_same (by rw [htl.length]; simp; omega) fun H2 u s5 hu' => ?_
      have s15 := s14.trans s5
      have hfr : TI H2 (.ref a) [(S.loads.length : Int)] := ⟨a, rfl, s5 _ _ (s4 _ _ (by rw [upd_same, List.length_map]; rfl))⟩
      refine ⟨u, _, S.tops ++ [[(S.loads.length : Int)]], rfl, .inr hu', All2.append (TIs.ext (Ext.of s15) htl) (.cons hfr .nil), ?_, by simp; omega, fun zs l hz hl => ?_⟩
      · intro y hy
        rcases List.mem_append.mp hy with h | h
        · exact hg.ne y h
        · rw [List.mem_singleton.mp h]
          simp
      have s6 := same_upd (o := .lst zs) hl
      refine ⟨l, zs, rfl, .inl ⟨SqL.of upd_same, fun v hv => ?_⟩⟩
      have s7 := same_upd (o := .tup zs) hv
      have s57 := (s5.trans s6).trans s7
      refine ⟨_, rfl, _, rfl, _, _, rfl, rfl, z 4 (by omega), fun r hr2 => ?_⟩
      have s8 := same_upd (o := .tup [.ref q, .ref v, .int S.paid, .int ((n : Int) + 1)]) hr2
      have s28 := (s34.trans s57).trans s8
      refine k _ _ (s12.trans s28) ⟨r, .ref q, .ref v, rfl, upd_same, ⟨q, rfl, ?_⟩, ⟨v, zs, rfl, s8 _ _ upd_same, TIs.ext (Ext.of ((s6.trans s7).trans s8)) hz⟩⟩
      rw [s28 _ _ hq]
      simp [Std.after, Std.come]
    | take x =>
      obtain ⟨d', tv, ed, hd2, hx⟩ := hD
      cases ed
      obtain ⟨ta, rfl, hta⟩ := id hx
      rw [decide_eq_false (show ¬ V.str (Deed.take x).word = V.str "come" from nTC)]
      refine iteF ⟨_, rfl, tt, rfl, ⟨_, SqT.of ht⟩, fun D hD => ?_⟩
      refine lc_tupG (K := K) (a := tt) (xs := xs) (fun i acc => All2 (TI H) acc ((S.tops.take i).filter fun y => !decide (y = x))) (SqT.of ht) hD (by rw [htl.length]; omega) .nil ?_ ?_
      · intro i y H4 acc hi s4 ha Qe Qn he' hn
        obtain ⟨zz, ez, hy⟩ := htl.get hi
        refine ⟨rfl, _, rfl, _, rfl, 1, rfl, ?_⟩
        dsimp only [tNoPart]
        refine slA (s4 _ _ hd2) fun H5 p s5 hp => ?_
        have s45 := s4.trans s5
        refine ⟨zz, [x], hy.ext (Ext.of s45), ⟨p, _, rfl, hp, .cons (hx.ext (Ext.of s45)) .nil⟩, _, rfl, ?_⟩
        rw [filter_succ ez] at he' hn
        have e : decide (zz ∈ [x]) = decide (zz = x) := by simp
        rw [e]
        cases hz : decide (zz = x) with
        | true =>
          rw [hz] at he' hn
          exact iteF (hn _ (by simpa using ha) s5)
        | false =>
          rw [hz] at he' hn
          exact iteT ⟨_, rfl, he' _ _ (All2.append ha (.cons hy .nil)) s5⟩
      · intro acc H4 ha s4 hDs
        rw [htl.length, List.take_length] at ha
        refine ⟨D, acc, rfl, .inl ⟨SqL.of hDs, fun u hu => ?_⟩⟩
        have s5 := same_upd (o := .tup acc) hu
        have s45 := s4.trans s5
        refine ⟨_, rfl, d, _, _, _, rfl, rfl, SqT.of (s45 _ _ hd2), at0 rfl, rfl, _, rfl, ?_⟩
        rw [decide_eq_true (show V.str "take" = V.str "take" from rfl)]
        refine iteT ⟨_, rfl, _, rfl, _, rfl, _, rfl, _, _, rfl, rfl, z 4 (by omega), fun r hr2 => ?_⟩
        have s6 := same_upd (o := .tup [.ref tw, .ref u, .int S.paid, .int ((n : Int) + 1)]) hr2
        exact k _ _ (s45.trans s6) ⟨r, .ref tw, .ref u, rfl, upd_same, ⟨tw, rfl, s6 _ _ (s45 _ _ hw)⟩, ⟨u, acc, rfl, s6 _ _ upd_same, TIs.ext (Ext.of (s45.trans s6)) ha⟩⟩
    | join x o =>
      obtain ⟨d', tv, ov, ed, hd2, hx, ho⟩ := hD
      cases ed
      obtain ⟨ta, rfl, hta⟩ := id hx
      obtain ⟨oa, rfl, hoa⟩ := id ho
      obtain ⟨m1, m2, _⟩ := hok
      have l1 := hg.short x m1
      have l2 := hg.short o m2
      rw [decide_eq_false (show ¬ V.str (Deed.join x o).word = V.str "come" from nJC)]
      refine iteF ⟨_, rfl, tt, rfl, ⟨_, SqT.of ht⟩, fun D hD => ?_⟩
      refine lc_tupG (K := K) (a := tt) (xs := xs) (fun i acc => All2 (TI H) acc ((S.tops.take i).filter fun y => !decide (y ∈ [x, o]))) (SqT.of ht) hD (by rw [htl.length]; omega) .nil ?_ ?_
      · intro i y H4 acc hi s4 ha Qe Qn he' hn
        obtain ⟨zz, ez, hy⟩ := htl.get hi
        refine ⟨rfl, _, rfl, _, rfl, 1, rfl, ?_⟩
        dsimp only [tNoPart]
        refine slA (s4 _ _ hd2) fun H5 p s5 hp => ?_
        have s45 := s4.trans s5
        refine ⟨zz, [x, o], hy.ext (Ext.of s45), ⟨p, _, rfl, hp, .cons (hx.ext (Ext.of s45)) (.cons (ho.ext (Ext.of s45)) .nil)⟩, _, rfl, ?_⟩
        rw [filter_succ ez] at he' hn
        cases hz : decide (zz ∈ [x, o]) with
        | true =>
          rw [hz] at he' hn
          exact iteF (hn _ (by simpa using ha) s5)
        | false =>
          rw [hz] at he' hn
          exact iteT ⟨_, rfl, he' _ _ (All2.append ha (.cons hy .nil)) s5⟩
      · intro acc H4 ha s4 hDs
        rw [htl.length, List.take_length] at ha
        refine ⟨D, acc, rfl, .inl ⟨SqL.of hDs, fun u hu => ?_⟩⟩
        have s5 := same_upd (o := .tup acc) hu
        have s45 := s4.trans s5
        refine ⟨_, rfl, d, _, _, _, rfl, rfl, SqT.of (s45 _ _ hd2), at0 rfl, rfl, _, rfl, ?_⟩
        rw [decide_eq_false (show ¬ V.str "join" = V.str "take" from nJT)]
        -- both
        refine iteF ⟨_, rfl, d, _, _, _, rfl, rfl, SqT.of (s45 _ _ hd2), at1 rfl, _, rfl, d, _, 2, _, rfl, rfl, SqT.of (s45 _ _ hd2), atI_nat (j := 2) rfl, ?_⟩
        refine catA (s45 _ _ hta) (s45 _ _ hoa) (by rw [List.length_map, List.length_map]; omega) fun H5 p s6 hp => ?_
        have s46 := s45.trans s6
        refine ⟨p, x ++ o, rfl, .inr (by rw [hp, List.map_append]), by simp; omega, fun q hq => ⟨q, _, rfl, .inl ⟨SqL.of upd_same, fun b hb => ?_⟩⟩⟩
        have s7 := same_upd (o := .lst ((Huf.srt (x ++ o)).map V.int)) hq
        have s8 := same_upd (o := .tup ((Huf.srt (x ++ o)).map V.int)) hb
        have s48 := s46.trans (s7.trans s8)
        have hut : H5 u = some (.tup acc) := s6 _ _ upd_same
        have hut2 := (s7.trans s8) _ _ hut
        have haE := TIs.ext (Ext.of s48) ha
        have hbt : upd (upd H5 q (.lst ((Huf.srt (x ++ o)).map V.int))) b (.tup ((Huf.srt (x ++ o)).map V.int)) b = some (.tup ((both x o).map V.int)) := upd_same
        revert s48 hut2 haE hbt
        generalize upd (upd H5 q (.lst ((Huf.srt (x ++ o)).map V.int))) b (.tup ((Huf.srt (x ++ o)).map V.int)) = H6
        intro s48 hut2 haE hbt
        refine ⟨_, rfl, _, rfl, _, rfl, z 1 (by omega), fun e he3 => ?_⟩
        have s9 := same_upd (o := .tup [.ref b]) he3
        have lf := List.length_filter_le (fun y => !decide (y ∈ [x, o])) S.tops
        refine catA (s9 _ _ hut2) upd_same (by rw [haE.length]; show _ + 1 ≤ 1000; omega) fun H7 f s10 hf => ?_
        have s910 := s9.trans s10
        refine ⟨f, _, (S.tops.filter fun y => !decide (y ∈ [x, o])) ++ [both x o], rfl, .inr hf, All2.append (TIs.ext (Ext.of s910) haE) (.cons ⟨b, rfl, s910 _ _ hbt⟩ .nil), ?_, by rw [List.length_append]; show _ + 1 ≤ 1000; omega, fun zs l hz hl => ?_⟩
        · intro y hy
          rcases List.mem_append.mp hy with h | h
          · exact hg.ne y (List.mem_filter.mp h).1
          · rw [List.mem_singleton.mp h]
            exact both_ne (hg.ne x m1)
        refine ⟨l, zs, rfl, .inl ⟨SqL.of upd_same, fun v hv => ?_⟩⟩
        have s11 := same_upd (o := .lst zs) hl
        have s12 := same_upd (o := .tup zs) hv
        have s1112 := s11.trans s12
        have s412 := s48.trans (s910.trans s1112)
        have hvt : upd (upd H7 l (.lst zs)) v (.tup zs) v = some (.tup zs) := upd_same
        have hzE := TIs.ext (Ext.of s1112) hz
        have hbt2 := (s910.trans s1112) _ _ hbt
        revert s412 hvt hzE hbt2
        generalize upd (upd H7 l (.lst zs)) v (.tup zs) = H8
        intro s412 hvt hzE hbt2
        -- paid
        refine ⟨_, rfl, _, rfl, b, rfl, ⟨_, SqT.of hbt2⟩, fun D2 hD2 => ?_⟩
        refine lc_tupG (K := K) (a := b) (xs := (both x o).map V.int) (fun i acc => acc = (((both x o).take i).map fun i => V.int (S.loads.getD i.toNat 0))) (SqT.of hbt2) hD2 (by rw [List.length_map, both_len]; omega) rfl ?_ ?_
        · intro i y H2 acc2 hi s2 ha2
          rw [List.getElem?_map] at hi
          cases ei : (both x o)[i]? with
          | none => rw [ei] at hi; cases hi
          | some zz =>
            rw [ei] at hi
            cases hi
            obtain ⟨h0, h1⟩ := (hg.inr x m1).same (hg.inr o m2) zz (List.mem_of_getElem? ei)
            obtain ⟨j, ej, hj⟩ := getD_at h0 h1
            refine turn_name fun Qe he2 => ⟨rfl, _, rfl, _, rfl, tw, _, _, _, rfl, rfl, SqT.of (s2 _ _ (s412 _ _ hw)), at_of ej hj, he2 _ _ ?_ (Same.refl _)⟩
            rw [ha2, take_succ ei]
            simp
        · intro acc2 H9 ha2 s13 hDs2
          rw [List.length_map, List.take_length] at ha2
          have ea : acc2 = ((both x o).map fun i => S.loads.getD i.toNat 0).map V.int := by rw [ha2, List.map_map]; rfl
          rw [ea] at hDs2
          refine ⟨_, _, rfl, SqL.of hDs2, _, _, rfl, rfl, _, rfl, _, _, rfl, rfl, z 4 (by omega), fun r hr2 => ?_⟩
          have s14 := same_upd (o := .tup [.ref tw, .ref v, .int (S.paid + ((both x o).map fun i => S.loads.getD i.toNat 0).sum), .int ((n : Int) + 1)]) hr2
          have s1314 := s13.trans s14
          exact k _ _ (s412.trans s1314) ⟨r, .ref tw, .ref v, rfl, upd_same, ⟨tw, rfl, s1314 _ _ (s412 _ _ hw)⟩, ⟨v, zs, rfl, s1314 _ _ hvt, TIs.ext (Ext.of s1314) hzE⟩⟩
end
end JB
set_option Elab.async false
set_option linter.all false
set_option maxRecDepth 100000
set_option maxHeartbeats 4000000
namespace JB
open PySem PySem.Spec PyProof.Rows L2
theorem But.ext {H H' : Hp} {st c l : Addr} {a : Int} (b : But [st, l] H H') (h : StateAt H st c l a) : Ext H H' := fun x xs e => by
  obtain ⟨cs, ls, h1, h2, h3, _⟩ := h
  refine b x _ e fun m => ?_
  rcases List.mem_cons.mp m with z | m
  · rw [z, h1] at e; cases e
  · rw [List.mem_singleton.mp m, h3] at e; cases e
theorem but_fresh {S : List Addr} {H H' : Hp} {p : Addr} {o : HO} (b : But S H H') (hp : H p = none) : But S H (upd H' p o) := fun x u e n => by
  rw [upd_ne (ne_of_none e hp)]
  exact b x u e n
theorem But.same {S : List Addr} {H H' H'' : Hp} (b : But S H H') (s : Same H' H'') : But S H H'' := b.trans (But.of s)
theorem Same.but {S : List Addr} {H H' H'' : Hp} (s : Same H H') (b : But S H' H'') : But S H H'' := (But.of s).trans b
theorem StateAt.upd {H : Hp} {st c l p : Addr} {a : Int} {o : HO} (h : StateAt H st c l a) (h1 : st ≠ p) (h2 : c ≠ p) (h3 : l ≠ p) : StateAt (upd H p o) st c l a := by
  obtain ⟨cs, ls, e1, e2, e3, e4⟩ := h
  exact ⟨cs, ls, by rw [upd_ne h1]; exact e1, by rw [upd_ne h2]; exact e2, by rw [upd_ne h3]; exact e3, e4⟩
/-- a place that is free beside the state is none of the state's -/
theorem StateAt.apart {H : Hp} {st c l p : Addr} {a : Int} (h : StateAt H st c l a) (hp : H p = none) : p ∉ [st, l] ∧ st ≠ p ∧ c ≠ p ∧ l ≠ p := by
  obtain ⟨cs, ls, e1, e2, e3, _⟩ := h
  have n1 := ne_of_none e1 hp
  have n2 := ne_of_none e2 hp
  have n3 := ne_of_none e3 hp
  exact ⟨fun m => (List.mem_cons.mp m).elim (fun z => n1 z.symm) fun m => n3 (List.mem_singleton.mp m).symm, n1, n2, n3⟩
theorem But.free {H H' : Hp} {st c l p : Addr} {a : Int} (b : But [st, l] H H') (h : StateAt H' st c l a) (hp : H' p = none) : H p = none := by
  cases e : H p with
  | none => rfl
  | some o =>
    rw [b p o e (h.apart hp).1] at hp
    cases hp
def spDeed : Sp := fun vs H Q _ => ∃ st c l a ev S n, vs = [.ref st, ev] ∧ StateAt H st c l a ∧ c ≠ l ∧ 0 ≤ a ∧ a ≤ 900000 ∧ EntryAt H ev S n ∧ Good S ∧ S.tops.Nodup ∧
  ∀ H' v a', But [st, l] H H' → StateAt H' st c l a' → a ≤ a' → a' ≤ a + 5 → (v = .non ∨ ∃ D, DeedAt H' v D ∧ S.okD D) → Q v H'
section
variable {P : Program} {w : World} {K : PySem.W.Frag} {mg : Str → Option Value} {base : Heap}
theorem ok_deed (T : Txt K mg) : Def P w K mg base CX0 4 (He.ga K "_law_deed") spDeed := by
  have DD := (ok_draw (P := P) (w := w) (base := base) T).mono (show 2 ≤ 3 by omega)
  have DO := ok_of (P := P) (w := w) (base := base) T
  refine def0 T.d_law_deed sc_law_deed (fun _ _ _ _ _ _ us hl => match us, hl with | [_, _], _ => rfl) (fun vs H Q E h => ?_) (fun cdv A outer s H vs Q E hr h => ?_)
  · obtain ⟨st, c, l, a, ev, S, n, rfl, _⟩ := h
    rfl
  · obtain ⟨st, c, l, a, ev, S, n, rfl, hst, ncl, h0, h1, hE, hg, hnd, k⟩ := h
    obtain ⟨t, lo, to, rfl, he, ⟨tw, rfl, hw⟩, ⟨tt, xs, rfl, ht, htl⟩⟩ := id hE
    have nd := sc_law_deed.nd
    have hu := hr.units
    have z : ∀ n : Nat, n ≤ 5 → n ≤ sizeLine := fun n h => by rw [sizeLine_eq]; omega
    have e8 := hg.n8
    have e20 := hg.n20
    have hin : ∀ {v : V}, v ∈ xs → ∃ x, x ∈ S.tops ∧ TI H v x := fun {v} hv => by
      obtain ⟨i, hi⟩ := List.getElem?_of_mem hv
      obtain ⟨x, ex, hx⟩ := htl.get hi
      exact ⟨x, List.mem_of_getElem? ex, hx⟩
    -- the last three statements
    obtain ⟨tl, ptl, htail⟩ : ∃ tl : TS, PSs (cxOf CX0 P w K mg base n_law_deed "_law_deed" (defScope s_law_deed) (He.ga K "_law_deed") cdv A outer s H E).nox ((defBody s_law_deed).drop 4) tl ∧
        ∀ (H3 : Hp) (a3 : Int) (ws : Str), But [st, l] H H3 → StateAt H3 st c l a3 → a ≤ a3 → a3 ≤ a + 2 →
          tl { nx := fun _ H' => Q .non H', rt := Q } [some (.ref st), some (.ref t), some (.ref tw), some (.ref tt), some (.int S.paid), some (.int n), some (.str ws), none, none] H3 := by
      refine ⟨_, (pss_cons (ps_if (PW.pt (pw_and (pt_cmpR op_lt (pe_callB call_len_seq rfl T.f_len boot_len (pa_cons (pv 3) pa_nil)) pe_int (nomark _)) (pw_and1 (pt_cmpR op_lt (pe_callB call_len_seq rfl T.f_len boot_len (pa_cons (pv 2) pa_nil)) pe_int (nomark _)))))
        (pss_one (ps_ret (pe_tup (pa_cons pe_str (pa_cons (pe_cd DO hr T.g_law_of pass0 (pa_cons (pv 0) (pa_cons (pe_lst (pa_cons pe_int (pa_cons (pe_op op_add pe_int (pe_cd DD hr T.g_law_draw pass0 (pa_cons (pv 0) (pa_cons pe_int pa_nil)))) (pa_cons (pe_op op_add pe_int (pe_cd DD hr T.g_law_draw pass0 (pa_cons (pv 0) (pa_cons (pe_op op_pow pe_int pe_int) pa_nil)))) pa_nil)))) pa_nil))) pa_nil))))) pss_nil)
      (pss_cons (ps_if (pt_cmpR op_gt (pe_callB call_len_seq rfl T.f_len boot_len (pa_cons (pv 3) pa_nil)) pe_int (nomark _))
        (pss_one (ps_ret (pe_tup (pa_cons pe_str (pa_cons (pe_ix ix_tup (pv 3) pe_int (fun _ _ => rfl)) (pa_cons (pe_ix ix_tup (pv 3) (pe_un un_neg pe_int) (fun _ _ => rfl)) pa_nil)))))) pss_nil)
      (pss_one (ps_ret (pe_ifExp (pt_cmpR (op_neQ T.sysd hu) (pv 3) (pe_tup pa_nil) (by rfl)) (pe_tup (pa_cons pe_str (pa_cons (pe_ix ix_tup (pv 3) pe_int (fun _ _ => rfl)) pa_nil))) pe_non))))), ?_⟩
      intro H3 a3 ws b3 hst3 a30 a31
      have X3 : Ext H H3 := b3.ext hst
      have ht3 := X3 _ _ ht
      have hw3 := X3 _ _ hw
      have htl3 := TIs.ext X3 htl
      refine ⟨_, rfl, tt, _, rfl, .inr (SqT.of ht3), _, _, rfl, rfl, _, rfl, ?_⟩
      rw [htl.length]
      -- join of the first and the last, or take, or none
      have last : (tSeq (tIfS (tTest (tOp (rI0 fun i j => .bl (decide (j < i))) (tCB (fun xs H Q => ∃ p ys, xs = [.ref p] ∧ (SqL K H p ys ∨ SqT K H p ys) ∧ Q (.int ys.length) H) (tCons (tVar 3) tNil)) (tC (.int 1))))
          (tRet (tTup (tCons (tC (.str "join")) (tCons (tOp (rIxT K) (tVar 3) (tC (.int 0))) (tCons (tOp (rIxT K) (tVar 3) (tUn (rU fun i => .int (-i)) (tC (.int 1)))) tNil))))) tNext)
          (tRet (tIf (tTest (tOp rNeQ (tVar 3) (tTup tNil))) (tTup (tCons (tC (.str "take")) (tCons (tOp (rIxT K) (tVar 3) (tC (.int 0))) tNil))) (tC .non))))
          { nx := fun _ H' => Q .non H', rt := Q } [some (.ref st), some (.ref t), some (.ref tw), some (.ref tt), some (.int S.paid), some (.int n), some (.str ws), none, none] H3 := by
        refine ⟨_, rfl, tt, _, rfl, .inr (SqT.of ht3), _, _, rfl, rfl, _, rfl, ?_⟩
        rw [htl.length]
        by_cases h1 : (1 : Int) < (S.tops.length : Int)
        · rw [decide_eq_true h1]
          obtain ⟨y0, hy0⟩ : ∃ y, xs[0]? = some y := ⟨_, List.getElem?_eq_getElem (by rw [htl.length]; omega)⟩
          obtain ⟨y1, hy1⟩ : ∃ y, xs[S.tops.length - 1]? = some y := ⟨_, List.getElem?_eq_getElem (by rw [htl.length]; omega)⟩
          obtain ⟨x0, ex0, hx0⟩ := htl.get hy0
          obtain ⟨x1, ex1, hx1⟩ := htl.get hy1
          have eix : atI xs (-1) = some y1 := by
            unfold atI ixN
            rw [if_neg (by omega), if_pos (by rw [htl.length]; omega)]
            rw [Option.bind_some, ← hy1, htl.length]
            congr 1
            omega
          refine iteT ⟨_, rfl, tt, _, _, _, rfl, rfl, SqT.of ht3, at0 hy0, _, rfl, 1, rfl, tt, _, _, _, rfl, rfl, SqT.of ht3, eix, z 3 (by omega), fun q hq => ?_⟩
          have s4 := same_upd (o := .tup [.str "join", y0, y1]) hq
          have X4 := X3.trans (Ext.of s4)
          refine k _ _ a3 (b3.same s4) (hst3.same s4) a30 (by omega) (.inr ⟨.join x0 x1, ⟨q, y0, y1, rfl, upd_same, hx0.ext X4, hx1.ext X4⟩, List.mem_of_getElem? ex0, List.mem_of_getElem? ex1, fun e => ?_⟩)
          subst e
          have := (List.getElem?_inj (by omega) hnd).mp (ex0.trans ex1.symm)
          omega
        · rw [decide_eq_false h1]
          refine iteF ⟨_, rfl, z 0 (by omega), fun q hq => ?_⟩
          have s4 := same_upd (o := .tup []) hq
          have X4 := X3.trans (Ext.of s4)
          refine ⟨dTT S.tops, dTT [], TT.dq ⟨tt, xs, rfl, s4 _ _ ht3, TIs.ext X4 htl⟩, TT.dq ⟨q, [], rfl, upd_same, .nil⟩, shaped_dTT _, shaped_dTT _, _, rfl, ?_⟩
          rw [eqv_dTT]
          by_cases e : S.tops = []
          · rw [decide_eq_true e]
            exact iteF (k _ _ a3 (b3.same s4) (hst3.same s4) a30 (by omega) (.inl rfl))
          · rw [decide_eq_false e]
            have hpos : 0 < S.tops.length := List.length_pos_iff.mpr e
            obtain ⟨y0, hy0⟩ : ∃ y, xs[0]? = some y := ⟨_, List.getElem?_eq_getElem (by rw [htl.length]; omega)⟩
            obtain ⟨x0, ex0, hx0⟩ := htl.get hy0
            refine iteT ⟨_, rfl, tt, _, _, _, rfl, rfl, SqT.of (s4 _ _ ht3), at0 hy0, z 2 (by omega), fun r hr2 => ?_⟩
            have s5 := same_upd (o := .tup [.str "take", y0]) hr2
            exact k _ _ a3 ((b3.same s4).same s5) ((hst3.same s4).same s5) a30 (by omega) (.inr ⟨.take x0, ⟨r, y0, rfl, upd_same, hx0.ext (X4.trans (Ext.of s5))⟩, List.mem_of_getElem? ex0⟩)
      by_cases h8 : (S.tops.length : Int) < 8
      · rw [decide_eq_true h8]
        refine iteT ⟨_, rfl, tw, _, rfl, .inr (SqT.of hw3), _, _, rfl, rfl, _, rfl, ?_⟩
        rw [List.length_map]
        by_cases h20 : (S.loads.length : Int) < 20
        · rw [decide_eq_true h20]
          refine iteT ⟨_, rfl, _, rfl, st, c, l, a3, 9, rfl, hst3, ncl, by omega, by omega, by decide, by decide, fun H4 r1 b4 hst4 r10 r11 => ?_⟩
          refine ⟨_, _, rfl, rfl, _, rfl, _, _, rfl, rfl, ⟨by decide, by decide, by decide⟩, st, c, l, a3 + 1, _, rfl, hst4, ncl, by omega, by omega, by decide, by decide, fun H5 r2 b5 hst5 r20 r21 => ?_⟩
          have r22 : r2 < 1000000000 := r21
          have B5 := (b3.trans b4).trans b5
          refine ⟨_, _, rfl, rfl, z 3 (by omega), fun q hq => ?_⟩
          have s6 := same_upd (o := .lst [.int 1, .int (1 + r1), .int (1 + r2)]) hq
          refine ⟨st, c, l, a3 + 1 + 1, q, _, rfl, hst5.same s6, ncl, by omega, by omega, .inl upd_same, (hst5.apart hq).1, by simp, by simp, fun H7 v b7 hst7 hv => ⟨z 2 (by omega), fun r hr2 => ?_⟩⟩
          obtain ⟨x, rfl, hx1, hx2⟩ : ∃ x : Int, v = .int x ∧ 1 ≤ x ∧ x ≤ 1000000000 := by
            simp only [List.mem_cons, List.not_mem_nil, or_false] at hv
            rcases hv with h | h | h
            · exact ⟨_, h, by omega, by omega⟩
            · exact ⟨_, h, by omega, by omega⟩
            · exact ⟨_, h, by omega, by omega⟩
          have s8 := same_upd (o := .tup [.str "come", .int x]) hr2
          exact k _ _ (a3 + 1 + 1 + 1) (((B5.same s6).trans b7).same s8) (hst7.same s8) (by omega) (by omega) (.inr ⟨.come x, ⟨r, rfl, upd_same⟩, hx1, hx2, by omega, by omega⟩)
        · rw [decide_eq_false h20]
          exact iteF last
      · rw [decide_eq_false h8]
        exact iteF last
    refine ⟨_, pss_cons (ps_asg (pv 1) (pg_tup (n := 4) rfl (pgs_cons (pg_name (i := 2) nd rfl (Or.inl rfl)) (pgs_cons (pg_name (i := 3) nd rfl (Or.inl rfl)) (pgs_cons (pg_name (i := 4) nd rfl (Or.inl rfl)) (pgs_cons (pg_name (i := 5) nd rfl (Or.inl rfl)) pgs_nil))))))
      (pss_cons (ps_set (i := 6) nd rfl (Or.inl rfl) (pe_cd DO hr T.g_law_of pass0 (pa_cons (pv 0) (pa_cons (pe_lst (pa_cons pe_str (pa_cons pe_str (pa_cons pe_str (pa_cons pe_str (pa_cons pe_str pa_nil)))))) pa_nil))))
      (pss_cons (ps_if (PW.pt (pw_and (pt_cmpR op_eq (pv 6) pe_str (by rfl)) (pw_and1 (pt_cmpR op_gt (pe_callB call_len_seq rfl T.f_len boot_len (pa_cons (pv 3) pa_nil)) pe_int (nomark _)))))
        (pss_cons (ps_set (i := 7) nd rfl (Or.inl rfl) (pe_callTy call_list_of rfl T.f_list (by decide +kernel) (pa_cons (pv 3) pa_nil)))
        (pss_cons (ps_set (i := 8) nd rfl (Or.inl rfl) (pe_bm PySem.F.plainAttrs_list PySem.F.slot_list_pop PySem.F.type_list_pop mt_popAt (pv 7) (pa_cons (pe_cd DD hr T.g_law_draw pass0 (pa_cons (pv 0) (pa_cons (pe_callB call_len_seq rfl T.f_len boot_len (pa_cons (pv 7) pa_nil)) pa_nil))) pa_nil)))
        (pss_one (ps_ret (pe_tup (pa_cons pe_str (pa_cons (pv 8) (pa_cons (pe_cd DO hr T.g_law_of pass0 (pa_cons (pv 0) (pa_cons (pv 7) pa_nil))) pa_nil)))))))) pss_nil)
      (pss_cons (ps_if (PW.pt (pw_and (pt_cmpR op_eq (pv 6) pe_str (by rfl)) (pw_and (pt_cmpR op_gt (pe_callB call_len_seq rfl T.f_len boot_len (pa_cons (pv 3) pa_nil)) pe_int (nomark _)) (pw_and1 (pt_cmpR op_eq (pe_cd DD hr T.g_law_draw pass0 (pa_cons (pv 0) (pa_cons pe_int pa_nil))) pe_int (by rfl))))))
        (pss_one (ps_ret (pe_tup (pa_cons pe_str (pa_cons (pe_cd DO hr T.g_law_of pass0 (pa_cons (pv 0) (pa_cons (pv 3) pa_nil))) pa_nil))))) pss_nil)
      ptl))), ?_⟩
    refine ⟨_, rfl, t, _, rfl, SqT.of he, rfl, _, _, rfl, _, _, rfl, _, _, rfl, _, _, rfl, rfl, ?_⟩
    -- the word
    refine ⟨_, rfl, z 5 (by omega), fun p hp => ?_⟩
    have s1 := same_upd (o := .lst [.str "come", .str "come", .str "join", .str "join", .str "take"]) hp
    have hst1 := hst.same s1
    have ap := hst.apart hp
    refine ⟨st, c, l, a, p, _, rfl, hst1, ncl, h0, by omega, .inl upd_same, ap.1, by simp, by simp, fun H2 wv b2 hst2 hwv => ?_⟩
    have B2 : But [st, l] H H2 := Same.but s1 b2
    have X2 : Ext H H2 := B2.ext hst
    have ht2 := X2 _ _ ht
    have hw2 := X2 _ _ hw
    have htl2 := TIs.ext X2 htl
    obtain ⟨ws, rfl⟩ : ∃ ws, wv = .str ws := by
      simp only [List.mem_cons, List.not_mem_nil, or_false] at hwv
      rcases hwv with h | h | h | h | h <;> exact ⟨_, h⟩
    have e8' : xs.length = S.tops.length := htl.length
    refine ⟨_, rfl, rfl, _, rfl, ?_⟩
    by_cases hj : V.str ws = V.str "join"
    · rw [decide_eq_true hj]
      refine iteT ⟨_, rfl, tt, _, rfl, .inr (SqT.of ht2), _, _, rfl, rfl, _, rfl, ?_⟩
      rw [htl.length]
      by_cases h1 : (1 : Int) < (S.tops.length : Int)
      · rw [decide_eq_true h1]
        refine iteT ⟨_, rfl, tt, xs, rfl, .inr (SqT.of ht2), fun p2 hp2 => ?_⟩
        have s3 := same_upd (o := .lst xs) hp2
        have hp20 := B2.free hst2 hp2
        have ap2 := hst2.apart hp2
        -- pop
        refine ⟨_, rfl, .inl ⟨rfl, _, SqL.of upd_same⟩, _, rfl, _, rfl, p2, xs, rfl, .inl (SqL.of upd_same), ?_⟩
        refine ⟨st, c, l, a + 1, _, rfl, hst2.same s3, ncl, by omega, by omega, by rw [e8']; omega, by rw [e8']; omega, fun H4 r b4 hst4 r0 r1 => ?_⟩
        have B4 := (B2.same s3).trans b4
        have hp4 : H4 p2 = some (.lst xs) := b4 _ _ upd_same ap2.1
        obtain ⟨j, ej⟩ : ∃ j : Nat, r = (j : Int) := ⟨r.toNat, by omega⟩
        have hj2 : j < xs.length := by omega
        obtain ⟨y, hy⟩ : ∃ y, xs[j]? = some y := ⟨_, List.getElem?_eq_getElem hj2⟩
        obtain ⟨x0, ex0, hx0⟩ := htl.get hy
        have hsi : seqIndex? r xs.length = some j := by
          rw [ej]
          exact (ixN_seq (ixN_at hj2)).1
        refine ⟨p2, xs, r, j, y, rfl, rfl, hp4, by omega, by omega, hsi, hy, ?_⟩
        have B5 : But [st, l] H (upd H4 p2 (.lst (xs.eraseIdx j))) := but_fresh B4 hp20
        have hst5 := hst4.upd (o := .lst (xs.eraseIdx j)) ap2.2.1 ap2.2.2.1 ap2.2.2.2
        have hel : (xs.eraseIdx j).length = xs.length - 1 := by rw [List.length_eraseIdx, if_pos hj2]
        refine ⟨_, rfl, _, rfl, _, rfl, st, c, l, a + 1 + 1, p2, _, rfl, hst5, ncl, by omega, by omega, .inl upd_same, ap2.1, by omega, by omega, fun H6 v b6 hst6 hv => ⟨z 3 (by omega), fun q hq => ?_⟩⟩
        have B6 := B5.trans b6
        have s7 := same_upd (o := .tup [.str "join", y, v]) hq
        have X7 := (B6.same s7).ext hst
        obtain ⟨i, hne, hi⟩ : ∃ i, i ≠ j ∧ xs[i]? = some v := by
          obtain ⟨i, hi⟩ := List.getElem?_of_mem hv
          rw [List.getElem?_eraseIdx] at hi
          by_cases hij : i < j
          · rw [if_pos hij] at hi
            exact ⟨i, by omega, hi⟩
          · rw [if_neg hij] at hi
            exact ⟨i + 1, by omega, hi⟩
        obtain ⟨x1, ex1, hx1⟩ := htl.get hi
        refine k _ _ (a + 1 + 1 + 1) (B6.same s7) (hst6.same s7) (by omega) (by omega) (.inr ⟨.join x0 x1, ⟨q, y, v, rfl, upd_same, hx0.ext X7, hx1.ext X7⟩, List.mem_of_getElem? ex0, List.mem_of_getElem? ex1, fun e => hne ?_⟩)
        subst e
        have hjl : j < S.tops.length := by omega
        exact ((List.getElem?_inj hjl hnd).mp (ex0.trans ex1.symm)).symm
      · rw [decide_eq_false h1]
        refine iteF ⟨_, rfl, rfl, _, rfl, ?_⟩
        rw [decide_eq_false (show ¬ V.str ws = V.str "take" by rw [hj]; exact nJT)]
        exact iteF (iteF (htail H2 (a + 1) ws B2 hst2 (by omega) (by omega)))
    · rw [decide_eq_false hj]
      refine iteF (iteF ⟨_, rfl, rfl, _, rfl, ?_⟩)
      by_cases hk : V.str ws = V.str "take"
      · rw [decide_eq_true hk]
        refine iteT ⟨_, rfl, tt, _, rfl, .inr (SqT.of ht2), _, _, rfl, rfl, _, rfl, ?_⟩
        rw [htl.length]
        by_cases h1 : (0 : Int) < (S.tops.length : Int)
        · rw [decide_eq_true h1]
          refine iteT ⟨_, rfl, st, c, l, a + 1, 2, rfl, hst2, ncl, by omega, by omega, by decide, by decide, fun H4 r b4 hst4 r0 r1 => ?_⟩
          have B4 := B2.trans b4
          refine ⟨rfl, _, rfl, ?_⟩
          by_cases hr0 : V.int r = V.int 0
          · rw [decide_eq_true hr0]
            have X4 := B4.ext hst
            refine iteT ⟨_, rfl, _, rfl, st, c, l, a + 1 + 1, tt, xs, rfl, hst4, ncl, by omega, by omega, .inr (X4 _ _ ht), ?_, by omega, by omega, fun H5 v b5 hst5 hv => ⟨z 2 (by omega), fun q hq => ?_⟩⟩
            · obtain ⟨cs, ls, e1, e2, e3, _⟩ := hst
              intro m
              rcases List.mem_cons.mp m with z | m
              · rw [z, e1] at ht; cases ht
              · rw [List.mem_singleton.mp m, e3] at ht; cases ht
            have B5 := B4.trans b5
            have s6 := same_upd (o := .tup [.str "take", v]) hq
            obtain ⟨x, hx, hv2⟩ := hin hv
            exact k _ _ (a + 1 + 1 + 1) (B5.same s6) (hst5.same s6) (by omega) (by omega) (.inr ⟨.take x, ⟨q, v, rfl, upd_same, hv2.ext ((B5.same s6).ext hst)⟩, hx⟩)
          · rw [decide_eq_false hr0]
            exact iteF (htail H4 (a + 1 + 1) ws B4 hst4 (by omega) (by omega))
        · rw [decide_eq_false h1]
          exact iteF (iteF (htail H2 (a + 1) ws B2 hst2 (by omega) (by omega)))
      · rw [decide_eq_false hk]
        exact iteF (iteF (htail H2 (a + 1) ws B2 hst2 (by omega) (by omega)))
end
end JB
set_option Elab.async false
set_option linter.all false
set_option maxRecDepth 100000
set_option maxHeartbeats 4000000
namespace JB
open PySem PySem.Spec PyProof.Rows L2
/-! ### what repr can show -/
structure Rp (n k : Nat) (d : PyData) : Prop where
  sh : d.showable = true
  lv : d.leavesShort 40 = true
  bk : d.bulk ≤ n
  dp : d.depth ≤ k
theorem Rp.mono {n k m j : Nat} {d : PyData} (r : Rp n k d) (h : n ≤ m) (h2 : k ≤ j) : Rp m j d := ⟨r.sh, r.lv, Nat.le_trans r.bk h, Nat.le_trans r.dp h2⟩
theorem Rp.fits {n k : Nat} {d : PyData} (r : Rp n k d) (h : n ≤ 390000) : d.shown.length ≤ sizeLine := by
  have e := PyData.shown_le_bulk 40 (by decide) d r.lv
  have h2 : (40 + 2) * d.bulk ≤ 42 * 390000 := Nat.mul_le_mul (by decide) (Nat.le_trans r.bk h)
  rw [sizeLine_eq]
  omega
theorem rp_int {i : Int} (h : i.natAbs < 10 ^ 38) : Rp 0 0 (.int i) := by
  refine ⟨?_, ?_, by simp [PyData.bulk], by simp [PyData.depth]⟩
  · simp only [PyData.showable, decide_eq_true_eq]
    by_cases e : i.natAbs = 0
    · rw [e]; decide
    · exact (Nat.log2_lt e).mpr (Nat.lt_of_lt_of_le h (by decide +kernel))
  · simp only [PyData.leavesShort, decide_eq_true_eq]
    have e := int_text_length_le10 (k := 38) (by decide) h
    show (Str.ofString (toString i)).length ≤ 40
    rw [PySem.ofString_length]
    omega
theorem rp_all {n k : Nat} : ∀ {ds : List PyData}, (∀ d ∈ ds, Rp n k d) → PyData.showableAll ds = true ∧ PyData.leavesShortAll 40 ds = true ∧ PyData.bulkAll ds ≤ ds.length * (n + 1) ∧ PyData.depthAll ds ≤ k
  | [], _ => by simp [PyData.showableAll, PyData.leavesShortAll, PyData.bulkAll, PyData.depthAll]
  | d :: ds, h => by
    obtain ⟨h1, h2, h3, h4⟩ := rp_all (ds := ds) fun x hx => h x (List.mem_cons_of_mem _ hx)
    have r := h d (List.mem_cons_self ..)
    refine ⟨by simp [PyData.showableAll, r.sh, h1], by simp [PyData.leavesShortAll, r.lv, h2], ?_, ?_⟩
    · have e : (ds.length + 1) * (n + 1) = ds.length * (n + 1) + (n + 1) := Nat.succ_mul _ _
      have hb := r.bk
      simp only [PyData.bulkAll, List.length_cons]
      omega
    · have hd := r.dp
      simp only [PyData.depthAll]
      omega
theorem rp_list {n k : Nat} {ds : List PyData} (h : ∀ d ∈ ds, Rp n k d) : Rp (ds.length * (n + 1)) (k + 1) (.list ds) := by
  obtain ⟨h1, h2, h3, h4⟩ := rp_all h
  exact ⟨by simpa [PyData.showable] using h1, by simpa [PyData.leavesShort] using h2, by simpa [PyData.bulk] using h3, by simp only [PyData.depth]; omega⟩
theorem rp_tuple {n k : Nat} {ds : List PyData} (h : ∀ d ∈ ds, Rp n k d) : Rp (ds.length * (n + 1)) (k + 1) (.tuple ds) := by
  obtain ⟨h1, h2, h3, h4⟩ := rp_all h
  exact ⟨by simpa [PyData.showable] using h1, by simpa [PyData.leavesShort] using h2, by simpa [PyData.bulk] using h3, by simp only [PyData.depth]; omega⟩
def Tiny (i : Int) : Prop := i.natAbs < 10 ^ 38
theorem rp_dT {ns : List Int} (h : ∀ i ∈ ns, Tiny i) : Rp ns.length 1 (dT ns) := by
  have r := rp_tuple (n := 0) (k := 0) (ds := ns.map .int) fun d hd => by
    obtain ⟨i, hi, rfl⟩ := List.mem_map.mp hd
    exact rp_int (h i hi)
  exact r.mono (by simp) (Nat.le_refl _)
theorem rp_dTT {ts : List (List Int)} {m : Nat} (h : ∀ t ∈ ts, t.length ≤ m ∧ ∀ i ∈ t, Tiny i) : Rp (ts.length * (m + 1)) 2 (dTT ts) := by
  have r := rp_tuple (n := m) (k := 1) (ds := ts.map dT) fun d hd => by
    obtain ⟨t, ht, rfl⟩ := List.mem_map.mp hd
    exact (rp_dT (h t ht).2).mono (h t ht).1 (Nat.le_refl _)
  exact r.mono (by simp) (Nat.le_refl _)
theorem deeper_g {A : Around} (h : A.guards = some []) (env : Env) : (A.deeper env).guards = some [] := by
  first
    | exact h
    | simpa [Around.deeper, pushGuards] using h
theorem Tiny.of {i : Int} (h1 : -(10 ^ 20) < i) (h2 : i < 10 ^ 20) : Tiny i := by
  unfold Tiny
  omega
theorem str_eq {H : Hp} {Q : VK} {x : Str} (h : Q (.bl true) H) : rEq (.str x) (.str x) H Q := ⟨rfl, by rw [decide_eq_true rfl]; exact h⟩
theorem str_ne {H : Hp} {Q : VK} {x : Str} (h : Q (.bl false) H) : rNe (.str x) (.str x) H Q := ⟨rfl, by rw [decide_eq_true rfl]; exact h⟩
theorem repr_of {H : Hp} {Q : VK} {v : V} {d : PyData} {n k : Nat} (hd : Dq H v d) (hv : (∃ i, v = .int i) ∨ ∃ a, v = .ref a) (r : Rp n k d) (hn : n ≤ 390000) (hk : k ≤ 40) (h : Q (.str d.shown) H) : rRepr [v] H Q :=
  ⟨v, d, rfl, hd, hv, r.sh, Nat.le_trans r.dp hk, r.fits hn, h⟩

def spDue : Sp := fun vs H Q _ => ∃ ev dv S n D, vs = [ev, dv] ∧ EntryAt H ev S n ∧ DeedAt H dv D ∧ Good S ∧ S.okD D ∧ ∀ H', Same H H' → Q (.int (S.due D)) H'
def spDone (K : PySem.W.Frag) : Sp := fun vs H Q _ => ∃ p dv S n D, vs = [.ref p, dv] ∧ BookK K H p n S ∧ DeedAt H dv D ∧ Good S ∧ S.okD D ∧ n ≤ 1000 ∧ ∀ H', But [p] H H' → BookK K H' p (n + 1) (S.after D) → Q (.int (S.due D)) H'
def dShow (S : Std) (n : Nat) : PyData := .list [dTT S.tops, .int S.paid, .int S.fin, .int n]
def spShows (K : PySem.W.Frag) : Sp := fun vs H Q _ => ∃ p S n, vs = [.ref p] ∧ BookK K H p n S ∧ Good S ∧ n ≤ 1000 ∧ ∀ H' a, Same H H' → Dq H' (.ref a) (dShow S n) → Q (.ref a) H'
structure Mild (S : Std) (n : Nat) : Prop where
  p : Tiny S.paid
  f : Tiny S.fin
  n : n ≤ 1000
def spStands (K : PySem.W.Frag) : Sp := fun vs H Q _ => ∃ p ev S n, vs = [.ref p, ev] ∧ BookK K H p n S ∧ EntryAt H ev S n ∧ Good S ∧ Mild S n ∧ ∀ H', Same H H' → Q (.bl true) H'
theorem Good.finOk {S : Std} (g : Good S) : FinOk S := g.fin
theorem passLL {X : Cx} : Passes (L2.CX X.prog X.w) X E0 := passL
section
variable {P : Program} {w : World} {K : PySem.W.Frag} {mg : Str → Option Value} {base : Heap}
theorem ok_due (T : Txt K mg) : Def P w K mg base CX0 3 (He.ga K "_law_due") spDue := by
  have DM := (ok_mass (P := P) (w := w) (base := base) T).mono (show 1 ≤ 2 by omega)
  have DA := (ok_after (P := P) (w := w) (base := base) T).mono (show 1 ≤ 2 by omega)
  have DE := ok_ending (P := P) (w := w) (base := base) T
  refine def0 T.d_law_due sc_law_due (fun _ _ _ _ _ _ us hl => match us, hl with | [_, _], _ => rfl) (fun vs H Q E h => ?_) (fun cdv A outer s H vs Q E hr h => ?_)
  · obtain ⟨ev, dv, S, n, D, rfl, _⟩ := h
    rfl
  · obtain ⟨ev, dv, S, n, D, rfl, hE, hD, hg, hok, k⟩ := h
    obtain ⟨t, lo, to, rfl, he, ⟨tw, rfl, hw⟩, ⟨tt, xs, rfl, ht, htl⟩⟩ := id hE
    refine ⟨_, pss_cons (ps_if (pt_cmpR op_eq (pe_ix ix_tup (pv 1) pe_int (fun _ _ => rfl)) pe_str (by rfl)) (pss_one (ps_ret (pe_callB call_len_seq rfl T.f_len boot_len (pa_cons (pe_ix ix_tup (pv 0) pe_int (fun _ _ => rfl)) pa_nil)))) pss_nil)
      (pss_cons (ps_if (pt_cmpR op_eq (pe_ix ix_tup (pv 1) pe_int (fun _ _ => rfl)) pe_str (by rfl)) (pss_one (ps_ret (pe_cd DM hr T.g_law_mass pass0 (pa_cons (pv 0) (pa_cons (pe_ix ix_tup (pv 1) pe_int (fun _ _ => rfl)) pa_nil))))) pss_nil)
      (pss_one (ps_ret (pe_op op_sub (pe_cd DE hr T.g_law_ending pass0 (pa_cons (pe_cd DA hr T.g_law_after pass0 (pa_cons (pv 0) (pa_cons (pv 1) pa_nil))) pa_nil)) (pe_cd DE hr T.g_law_ending pass0 (pa_cons (pv 0) pa_nil)))))), ?_⟩
    obtain ⟨d, ds, rfl, hd⟩ := hD.tup
    refine ⟨_, rfl, d, _, _, _, rfl, rfl, SqT.of hd, at0 rfl, rfl, _, rfl, ?_⟩
    cases D with
    | come x =>
      rw [decide_eq_true (show V.str (Deed.come x).word = V.str "come" from rfl)]
      refine iteT ⟨_, rfl, t, _, _, _, rfl, rfl, SqT.of he, at0 rfl, tw, _, rfl, .inr (SqT.of hw), ?_⟩
      rw [List.length_map]
      exact k _ (Same.refl _)
    | take x =>
      obtain ⟨d', tv, ed, hd2, hx⟩ := hD
      cases ed
      rw [decide_eq_false (show ¬ V.str (Deed.take x).word = V.str "come" from nTC)]
      refine iteF ⟨_, rfl, d, _, _, _, rfl, rfl, SqT.of hd2, at0 rfl, rfl, _, rfl, ?_⟩
      rw [decide_eq_true (show V.str "take" = V.str "take" from rfl)]
      have hm : x ∈ S.tops := hok
      have := hg.short x hm
      exact iteT ⟨_, rfl, _, rfl, d, _, _, _, rfl, rfl, SqT.of hd2, at1 rfl, _, _, S, n, x, rfl, hE, hx, hg.inr x hm, by omega, k⟩
    | join x o =>
      have hD' := hD
      obtain ⟨d', tv, ov, ed, hd2, hx, ho⟩ := hD
      cases ed
      obtain ⟨m1, m2, _⟩ := id hok
      rw [decide_eq_false (show ¬ V.str (Deed.join x o).word = V.str "come" from nJC)]
      refine iteF ⟨_, rfl, d, _, _, _, rfl, rfl, SqT.of hd2, at0 rfl, rfl, _, rfl, ?_⟩
      rw [decide_eq_false (show ¬ V.str "join" = V.str "take" from nJT)]
      refine iteF ⟨_, rfl, _, rfl, _, _, S, n, .join x o, rfl, hE, hD', hg, hok, fun H1 v s1 hv => ?_⟩
      refine ⟨_, _, _, rfl, hv, hg.join m1 m2, fun H2 s2 => ?_⟩
      have s12 := s1.trans s2
      exact ⟨_, rfl, _, S, n, rfl, hE.ext (Ext.of s12), hg.finOk, fun H3 s3 => ⟨_, _, rfl, rfl, k _ (s12.trans s3)⟩⟩
theorem ok_done (T : Txt K mg) : Def P w K mg base CX0 7 (He.ga K "_law_done") (spDone K) := by
  have DC := (ok_book_come (P := P) (w := w) (base := base) T).mono (show 4 ≤ 6 by omega)
  have DT := (ok_book_take (P := P) (w := w) (base := base) T).mono (show 5 ≤ 6 by omega)
  have DJ := ok_book_join (P := P) (w := w) (base := base) T
  refine def0 T.d_law_done sc_law_done (fun _ _ _ _ _ _ us hl => match us, hl with | [_, _], _ => rfl) (fun vs H Q E h => ?_) (fun cdv A outer s H vs Q E hr h => ?_)
  · obtain ⟨p, dv, S, n, D, rfl, _⟩ := h
    rfl
  · obtain ⟨p, dv, S, n, D, rfl, hB, hD, hg, hok, hn, k⟩ := h
    refine ⟨_, pss_cons (ps_if (pt_cmpR op_eq (pe_ix ix_tup (pv 1) pe_int (fun _ _ => rfl)) pe_str (by rfl)) (pss_one (ps_ret (pe_md (pv 0) T.clJ T.m_Joinbook_come DC hr passL (pa_cons (pe_ix ix_tup (pv 1) pe_int (fun _ _ => rfl)) pa_nil)))) pss_nil)
      (pss_one (ps_ret (pe_ifExp (pt_cmpR op_eq (pe_ix ix_tup (pv 1) pe_int (fun _ _ => rfl)) pe_str (by rfl)) (pe_md (pv 0) T.clJ T.m_Joinbook_take DT hr passL (pa_cons (pe_ix ix_tup (pv 1) pe_int (fun _ _ => rfl)) pa_nil))
        (pe_md (pv 0) T.clJ T.m_Joinbook_join DJ hr passL (pa_cons (pe_ix ix_tup (pv 1) pe_int (fun _ _ => rfl)) (pa_cons (pe_ix ix_tup (pv 1) pe_int (fun _ _ => rfl)) pa_nil)))))), ?_⟩
    obtain ⟨d, ds, rfl, hd⟩ := hD.tup
    obtain ⟨dx, t, pre, sv, hp, _⟩ := id hB
    refine ⟨_, rfl, d, _, _, _, rfl, rfl, SqT.of hd, at0 rfl, rfl, _, rfl, ?_⟩
    cases D with
    | come x =>
      obtain ⟨d', ed, hd2⟩ := hD
      cases ed
      obtain ⟨h1, h2, h3, h4⟩ := hok
      have hb : isB (.int x) 1 1000000000 = true := by simp [isB, h1, h2]
      rw [decide_eq_true (show V.str (Deed.come x).word = V.str "come" from rfl)]
      refine iteT ⟨_, rfl, p, dx, _, rfl, hp, rfl, _, rfl, d, _, _, _, rfl, rfl, SqT.of hd2, at1 rfl, p, n, S, _, "int", rfl, hB, hg, hn, .int x, fun e => ?_, fun _ e => ?_, fun _ _ e => ?_, fun y ey _ _ _ => ?_⟩
      · rw [hb] at e; cases e
      · omega
      · omega
      · cases ey
        exact k
    | take x =>
      obtain ⟨d', tv, ed, hd2, hx⟩ := hD
      cases ed
      have hm : x ∈ S.tops := hok
      have := hg.short x hm
      rw [decide_eq_false (show ¬ V.str (Deed.take x).word = V.str "come" from nTC)]
      refine iteF ⟨_, rfl, d, _, _, _, rfl, rfl, SqT.of hd2, at0 rfl, rfl, _, rfl, ?_⟩
      rw [decide_eq_true (show V.str "take" = V.str "take" from rfl)]
      refine iteT ⟨_, rfl, p, dx, _, rfl, hp, rfl, _, rfl, d, _, _, _, rfl, rfl, SqT.of hd2, at1 rfl, p, n, S, _, some x, rfl, hB, hg, hn, .yes hx (by omega), fun z ez _ => ?_, fun e => ?_⟩
      · cases ez
        exact k
      · rw [show S.has (some x) = true from decide_eq_true hm] at e; cases e
    | join x o =>
      obtain ⟨d', tv, ov, ed, hd2, hx, ho⟩ := hD
      cases ed
      obtain ⟨m1, m2, ne⟩ := hok
      have l1 := hg.short x m1
      have l2 := hg.short o m2
      rw [decide_eq_false (show ¬ V.str (Deed.join x o).word = V.str "come" from nJC)]
      refine iteF ⟨_, rfl, d, _, _, _, rfl, rfl, SqT.of hd2, at0 rfl, rfl, _, rfl, ?_⟩
      rw [decide_eq_false (show ¬ V.str "join" = V.str "take" from nJT)]
      refine iteF ⟨_, rfl, p, dx, _, rfl, hp, rfl, _, rfl, d, _, _, _, rfl, rfl, SqT.of hd2, at1 rfl, _, rfl, d, _, 2, _, rfl, rfl, SqT.of hd2, atI_nat (j := 2) rfl, p, n, S, _, some x, _, some o, rfl, hB, hg, hn, .yes hx (by omega), fun _ => .yes ho (by omega), fun z y ez ey _ _ _ => ?_, fun e => ?_⟩
      · cases ez
        cases ey
        exact k
      · have : S.two (some x) (some o) = true := by simp [Std.two, Std.has, m1, m2, ne]
        rw [this] at e
        cases e
theorem ok_shows (T : Txt K mg) : Def P w K mg base CX0 4 (He.ga K "_law_shows") (spShows K) := by
  have DT := (ok_tops (P := P) (w := w) (base := base) T).mono (show 1 ≤ 3 by omega)
  have DP := (ok_paid (P := P) (w := w) (base := base) T).mono (show 1 ≤ 2 by omega)
  have DF := ok_book_finish (P := P) (w := w) (base := base) T
  have DL := (ok_len (P := P) (w := w) (base := base) T).mono (show 1 ≤ 2 by omega)
  refine def0 T.d_law_shows sc_law_shows (fun _ _ _ _ _ _ us hl => match us, hl with | [_], _ => rfl) (fun vs H Q E h => ?_) (fun cdv A outer s H vs Q E hr h => ?_)
  · obtain ⟨p, S, n, rfl, _⟩ := h
    rfl
  · obtain ⟨p, S, n, rfl, hB, hg, hn, k⟩ := h
    obtain ⟨fdp, psp, FP, hkp, hbp⟩ := DP.ex
    refine ⟨_, pss_one (ps_ret (pe_lst (pa_cons (pe_md0 (pv 0) T.clJ T.m_Joinbook_tops DT hr pass0) (pa_cons (pe_prop (pv 0) T.clJ T.pr FP hr hbp .nil pass0 rfl) (pa_cons (pe_md0 (pv 0) T.clJ T.m_Joinbook_finish DF hr pass0) (pa_cons (pe_callB (cr_lenOwn T.m_Joinbook_len DL hr pass0) rfl T.f_len boot_len (pa_cons (pv 0) pa_nil)) pa_nil)))))), ?_⟩
    obtain ⟨dx, t, pre, sv, hp, _⟩ := id hB
    refine ⟨_, rfl, p, dx, _, rfl, hp, rfl, p, n, S, rfl, hB, fun tv htv => ?_⟩
    refine ⟨_, rfl, p, dx, _, rfl, hp, p, n, S, rfl, hB, ?_⟩
    refine ⟨_, rfl, p, dx, _, rfl, hp, rfl, p, n, S, rfl, hB, hg, fun H1 s1 => ?_⟩
    refine ⟨_, rfl, p, dx, _, rfl, s1 _ _ hp, p, n, S, rfl, hB.same s1, fun H2 s2 => ⟨n, rfl, by omega, (by show 4 ≤ sizeLine; rw [sizeLine_eq]; omega), fun a ha => ?_⟩⟩
    have s3 := same_upd (o := .lst [tv, .int S.paid, .int S.fin, .int n]) ha
    have s123 := (s1.trans s2).trans s3
    exact k _ a s123 (.lst upd_same (.cons (htv.ext (Ext.of s123)).dq (.cons (.int _) (.cons (.int _) (.cons (.int _) .nil)))))
end
end JB
set_option Elab.async false
set_option linter.all false
set_option maxRecDepth 100000
set_option maxHeartbeats 4000000
namespace JB
open PySem PySem.Spec PyProof.Rows L2
/-! ### what stands, asked twice -/
theorem Good.tiny {S : Std} (g : Good S) : ∀ t ∈ S.tops, t.length ≤ 20 ∧ ∀ i ∈ t, Tiny i := fun t ht => ⟨g.short t ht, fun i hi => by
  have h := g.inr t ht i hi
  have := g.n20
  exact Tiny.of (by omega) (by omega)⟩
theorem rp_show {S : Std} {n : Nat} (g : Good S) (m : Mild S n) : Rp 804 3 (dShow S n) := by
  have e8 := g.n8
  have h := rp_list (n := 200) (k := 2) (ds := [dTT S.tops, .int S.paid, .int S.fin, .int n]) fun d hd => by
    simp only [List.mem_cons, List.not_mem_nil, or_false] at hd
    rcases hd with rfl | rfl | rfl | rfl
    · refine (rp_dTT g.tiny).mono ?_ (Nat.le_refl _)
      have : S.tops.length * (20 + 1) ≤ 8 * 21 := Nat.mul_le_mul e8 (by omega)
      omega
    · exact (rp_int m.p).mono (by omega) (by omega)
    · exact (rp_int m.f).mono (by omega) (by omega)
    · exact (rp_int (Tiny.of (by omega) (by have := m.n; omega))).mono (by omega) (by omega)
  exact h.mono (by simp) (Nat.le_refl _)
theorem rp_two {n k : Nat} {d : PyData} (h : Rp n k d) : Rp (2 * (n + 1)) (k + 1) (.list [d, d]) := by
  refine (rp_list (n := n) (k := k) (ds := [d, d]) fun x hx => ?_).mono (by simp) (Nat.le_refl _)
  simp only [List.mem_cons, List.not_mem_nil, or_false, or_self] at hx
  rw [hx]
  exact h
section
variable {P : Program} {w : World} {K : PySem.W.Frag} {mg : Str → Option Value} {base : Heap}
theorem ok_stands (T : Txt K mg) : DefG P w K mg base 5 (He.ga K "_law_stands") (spStands K) := by
  have DS := ok_shows (P := P) (w := w) (base := base) T
  have DE := (ok_ending (P := P) (w := w) (base := base) T).mono (show 2 ≤ 4 by omega)
  refine defG T.d_law_stands sc_law_stands (fun _ _ _ _ _ _ us hl => match us, hl with | [_, _], _ => rfl) (fun vs H Q E h => ?_) (fun cdv A outer s H vs Q _ hgd hr h => ?_)
  · obtain ⟨p, ev, S, n, rfl, _⟩ := h
    rfl
  · obtain ⟨p, ev, S, n, rfl, hB, hE, hg, hm, k⟩ := h
    obtain ⟨t, lo, to, rfl, he, hlo, hto⟩ := id hE
    have nd := sc_law_stands.nd
    have hu := hr.units
    have hgd' := deeper_g hgd (envOfC "_law_stands" (defScope s_law_stands) s.heap.objs.size (He.ga K "_law_stands") cdv)
    have br : bootBuiltins "repr" = some (.builtin "repr") := by decide +kernel
    refine ⟨_, pss_cons (ps_set (i := 2) nd rfl (Or.inl rfl) (pe_lst (pa_cons (pe_ix ix_tup (pv 1) pe_int (fun _ _ => rfl)) (pa_cons (pe_ix ix_tup (pv 1) pe_int (fun _ _ => rfl)) (pa_cons (pe_cd DE hr T.g_law_ending pass0 (pa_cons (pv 1) pa_nil)) (pa_cons (pe_ix ix_tup (pv 1) pe_int (fun _ _ => rfl)) pa_nil))))))
      (pss_one (ps_ret (pe_cmpR op_eq (pe_callB (call_repr T.sysd hgd' hu) rfl T.f_repr br (pa_cons (pe_lst (pa_cons (pe_cd DS hr T.g_law_shows pass0 (pa_cons (pv 0) pa_nil)) (pa_cons (pe_cd DS hr T.g_law_shows pass0 (pa_cons (pv 0) pa_nil)) pa_nil))) pa_nil))
        (pe_callB (call_repr T.sysd hgd' hu) rfl T.f_repr br (pa_cons (pe_lst (pa_cons (pv 2) (pa_cons (pv 2) pa_nil))) pa_nil)) (by rfl)))), ?_⟩
    have z : ∀ n : Nat, n ≤ 5 → n ≤ sizeLine := fun n h => by rw [sizeLine_eq]; omega
    refine ⟨_, rfl, t, _, _, _, rfl, rfl, SqT.of he, at1 rfl, _, rfl, t, _, 2, _, rfl, rfl, SqT.of he, atI_nat (j := 2) rfl, _, rfl, _, S, n, rfl, hE, hg.finOk, fun H1 s1 => ?_⟩
    refine ⟨_, rfl, t, _, 3, _, rfl, rfl, SqT.of (s1 _ _ he), atI_nat (j := 3) rfl, z 4 (by omega), fun a ha => ?_⟩
    have s2 := same_upd (o := .lst [to, .int S.paid, .int S.fin, .int n]) ha
    have s12 := s1.trans s2
    have hd : Dq (upd H1 a (.lst [to, .int S.paid, .int S.fin, .int n])) (.ref a) (dShow S n) := .lst upd_same (.cons (hto.ext (Ext.of s12)).dq (.cons (.int _) (.cons (.int _) (.cons (.int _) .nil))))
    have rp := rp_two (rp_show hg hm)
    refine ⟨_, rfl, p, S, n, rfl, hB.same s12, hg, hm.n, fun H3 b s3 hb => ?_⟩
    refine ⟨_, rfl, p, S, n, rfl, (hB.same s12).same s3, hg, hm.n, fun H4 c s4 hc => ⟨z 2 (by omega), fun q hq => ?_⟩⟩
    have s5 := same_upd (o := .lst [.ref b, .ref c]) hq
    have s45 := s4.trans s5
    refine ⟨_, .list [dShow S n, dShow S n], rfl, .lst upd_same (.cons (Dq.same s45 _ _ hb) (.cons (Dq.same s5 _ _ hc) .nil)), .inr ⟨_, rfl⟩, rp.sh, Nat.le_trans rp.dp (by omega), rp.fits (by omega), ?_⟩
    refine ⟨_, rfl, _, rfl, z 2 (by omega), fun r hr2 => ?_⟩
    have s6 := same_upd (o := .lst [.ref a, .ref a]) hr2
    have s36 := (s3.trans s45).trans s6
    refine ⟨_, .list [dShow S n, dShow S n], rfl, .lst upd_same (.cons (Dq.same s36 _ _ hd) (.cons (Dq.same s36 _ _ hd) .nil)), .inr ⟨_, rfl⟩, rp.sh, Nat.le_trans rp.dp (by omega), rp.fits (by omega), rfl, ?_⟩
    rw [decide_eq_true rfl]
    exact k _ (s12.trans s36)
end
end JB
set_option Elab.async false
set_option linter.all false
set_option maxRecDepth 100000
set_option maxHeartbeats 4000000
namespace JB
open PySem PySem.Spec PyProof.Rows L2
/-! ### comprehensions whose list is told with the heap -/
section
variable {K : PySem.W.Frag} {a : Addr} {xs : List V} {g : TG} {tt : L2.TT} {te : TE} {vs : List Nat} {σ : L2.St} {H1 : Hp} {D : Addr} {Qd : Hp → Prop}
def TurnH (g : TG) (te : TE) (vs : List Nat) (σ : L2.St) (x : V) (H : Hp) (Ge : V → Hp → Prop) : Prop :=
  ∀ Qe : VK, (∀ y H4, Ge y H4 → Same H H4 → Qe y H4) → g x (wipe σ vs) H fun σ2 H2 => wipe σ2 vs = wipe σ vs ∧ te σ2 H2 Qe
theorem lc_listH (G : Nat → List V → Hp → Prop) (hm : ∀ i acc H H', Ext H H' → G i acc H → G i acc H') (gm : ∀ x σ H (Q Q' : L2.St → Hp → Prop), (∀ s h, Q s h → Q' s h) → g x σ H Q → g x σ H Q') (hx : SqL K H1 a xs) (hD : H1 D = none) (hlen : xs.length ≤ 1000) (h0 : G 0 [] H1)
    (hs : ∀ i x H acc, xs[i]? = some x → Same H1 H → G i acc H → TurnH g te vs σ x H (fun y H4 => G (i + 1) (acc ++ [y]) H4))
    (hd : ∀ acc H, G xs.length acc H → Same H1 H → H D = some (.lst acc) → Qd H) :
    ∃ W : Nat → Nat → Hp → Prop, (∃ m, W 0 m (upd H1 D (.lst []))) ∧ ∀ i m H, W i m H →
      ((Itl K a).stop i H ∧ Qd H) ∨ ((Itl K a).go i H ∧ ∃ Nx : Hp → Prop, (∀ H', Nx H' → ∃ m', m' < m ∧ W (i + 1) m' H') ∧ ∀ x H', (Itl K a).yld i H x H' → g x (wipe σ vs) H' fun σ2 H2 => wipe σ2 vs = wipe σ vs ∧ tYes σ2 H2 fun b H3 =>
        if b = true then te σ2 H3 fun y H4 => ∃ acc, H4 D = some (.lst acc) ∧ acc.length < sizeLine ∧ Nx (upd H4 D (.lst (acc ++ [y]))) else Nx H3) := by
  have ed : ∀ {H : Hp} {acc acc' : List V}, H D = some (.lst acc) → Ext H (upd H D (.lst acc')) := fun {H acc acc'} h b ys e => by
    rw [upd_ne (fun z => by rw [z, h] at e; cases e)]
    exact e
  refine lc_list (K := K) (a := a) (xs := xs) (fun i H => ∃ acc, H D = some (.lst acc) ∧ acc.length ≤ i ∧ Same H1 H ∧ G i acc H) ⟨[], upd_same, Nat.le_refl _, same_upd hD, hm _ _ _ _ (Ext.of (same_upd hD)) h0⟩ (fun i H _ ⟨_, _, _, s, _⟩ => s.seq hx) (fun i x H hi hP => ?_) (fun H ⟨acc, h1, _, h3, h4⟩ => hd acc H h4 h3 h1)
  have hi' : i < 1000 := Nat.lt_of_lt_of_le (List.getElem?_eq_some_iff.mp hi).1 hlen
  obtain ⟨acc, h1, h2, h3, h4⟩ := hP
  refine gm _ _ _ _ _ (fun s h q => ⟨q.1, ?_⟩) (hs i x H acc hi h3 h4 (fun y H4 => ∃ acc, H4 D = some (.lst acc) ∧ acc.length < sizeLine ∧ ∃ acc', upd H4 D (.lst (acc ++ [y])) D = some (.lst acc') ∧ acc'.length ≤ i + 1 ∧ Same H1 (upd H4 D (.lst (acc ++ [y]))) ∧ G (i + 1) acc' (upd H4 D (.lst (acc ++ [y])))) fun y H4 hg s4 => ?_)
  · dsimp only [tYes]
    rw [if_pos rfl]
    exact q.2
  · have hD4 := s4 _ _ h1
    refine ⟨acc, hD4, by rw [sizeLine_eq]; omega, acc ++ [y], upd_same, by simp; omega, fun b o e => ?_, hm _ _ _ _ (ed hD4) hg⟩
    rw [upd_ne (ne_of_none e hD)]
    exact s4 _ _ (h3 _ _ e)
end
/-! ### told, are -/
/-- the errors that are told: class, field, word -/
inductive Kd : String → String → String → Prop
  | n : Kd "BadNumber" "given" "number"
  | t : Kd "BadTop" "given" "top"
  | m : Kd "TooMany" "most" "many"
/-- the call of f raises the class's error with x -/
def ToldOk (P : Program) (w : World) (K : PySem.W.Frag) (mg : Str → Option Value) (base : Heap) (k : Nat) (C fl : String) (x : V) (f : Addr) (H : Hp) : Prop :=
  ∃ sp o u fd, H f = some (.frz o u) ∧ o.data = .func fd ∧ FnR P w K mg base (L2.CX P w) k f sp ∧ sp [] H (fun _ _ => False) (fun cls d H' => cls = .ref (He.ga K C) ∧ Same H H' ∧ ∃ dd, d = some dd ∧ H' dd = some (.xd [(fl, x)]))
def weakSp (sp : Sp) : Sp := fun vs H Q E => ∃ Q0 E0, sp vs H Q0 E0 ∧ (∀ v h, Q0 v h → Q v h) ∧ ∀ c d h, E0 c d h → E c d h
theorem fnR_weak {P : Program} {w : World} {K : PySem.W.Frag} {mg : Str → Option Value} {base : Heap} {k : Nat} {f : Addr} {sp : Sp} (F : FnR P w K mg base (L2.CX P w) k f sp) : FnR P w K mg base (L2.CX P w) k f (weakSp sp) := by
  intro A outer s H us vs Q E hr e0 r ⟨Q0, E1, q, hQ, hE⟩
  refine codeAny_mono (F A outer s H us vs Q0 E1 hr e0 r q) fun r s' hq => ?_
  cases r with
  | error e =>
    obtain ⟨a, B, H', cls, d, rfl, fl, hok, ub, na, os, ag, h⟩ := hq
    exact ⟨a, B, H', cls, d, rfl, fl, hok, ub, na, os, ag, hE _ _ _ h⟩
  | ok fl =>
    cases fl with
    | ret u =>
      obtain ⟨v, H', a1, a2, a3, a4, a5, h⟩ := hq
      exact ⟨v, H', a1, a2, a3, a4, a5, hQ _ _ h⟩
    | next => exact hq
    | brk => exact hq
    | cont => exact hq
def spTold (P : Program) (w : World) (K : PySem.W.Frag) (mg : Str → Option Value) (base : Heap) (k : Nat) : Sp := fun vs H Q _ => ∃ f C fl tag x, vs = [.ref f] ∧ Kd C fl tag ∧ ToldOk P w K mg base k C fl x f H ∧ ∀ H' a, Same H H' → H' a = some (.tup [.str tag, x]) → Q (.ref a) H'
section
variable {X : Cx}
theorem pe_callVT {k i : Nat} {W : WX} {x : Str} {p pos : Pos} (hr : Room k X.A) (hN : X.N[i]? = some x) (hv : Vis X.env.scope x) (tk : Takes X W) (hdb : (x == ("__debug__" : Str)) = false := by decide) (hcd : (x == ("__classdict__" : Str)) = false := by decide) :
    PE X (.Call (.Name x p) [] [] pos) (fun σ H Q => tCallV X.prog X.w X.K X.mg X.base (L2.CX X.prog X.w) k i (fun cls d H' => W cls d σ H') σ H Q) := by
  refine ⟨fun pins s σ H Q I h => ?_⟩
  obtain ⟨f, sp, o, u, fd, hs, hf, hd, F, q⟩ := h
  refine wpAny_Call_Name_kw (thn ((pe_var (pos := p) hN hv hdb hcd).run pins s σ H (fun v H1 => v = .ref f ∧ H1 = H) I ⟨.ref f, hs, rfl, rfl⟩) fun u s1 ⟨v, H1, I1, r1, q1⟩ => ?_)
  obtain ⟨rfl, rfl⟩ := q1
  cases r1
  obtain ⟨ho, _⟩ := I1.hok f _ hf
  obtain ⟨oc, od, odat, osl⟩ := o
  cases hd
  refine PySem.W.callWith_F0 ⟨_, _, _, _, ho⟩ ?_
  refine wpAny_call (codeAny_mono (F X.A X.stack s1 H1 [] [] Q _ hr I1.env0 .nil q) fun r s' hq => ?_)
  cases r with
  | error e => exact tk e s' (XE.of_call I1 (fun cls d H' h => h) hq)
  | ok fl =>
    cases fl with
    | ret u => exact I1.after hq
    | next => exact False.elim hq
    | brk => exact False.elim hq
    | cont => exact False.elim hq
end
section
variable {P : Program} {w : World} {K : PySem.W.Frag} {mg : Str → Option Value} {base : Heap}
theorem ok_told (T : Txt K mg) {k : Nat} : Def P w K mg base CX0 (k + 1) (He.ga K "_law_told") (spTold P w K mg base k) := by
  refine def0 T.d_law_told sc_law_told (fun _ _ _ _ _ _ us hl => match us, hl with | [_], _ => rfl) (fun vs H Q E h => ?_) (fun cdv A outer s H vs Q E hr h => ?_)
  · obtain ⟨f, C, fl, tag, x, rfl, _⟩ := h
    rfl
  · obtain ⟨f, C, fl, tag, x, rfl, kd, ⟨sp, o, u, fd, hf, hd, F, q⟩, k0⟩ := h
    have nd := sc_law_told.nd
    refine ⟨_, pss_one (ps_try_manyA (n := "e") (i := 1) (X := (cxOf CX0 P w K mg base n_law_told "_law_told" (defScope s_law_told) (He.ga K "_law_told") cdv A outer s H E).nox)
      (l := [(.ref (He.ga K "BadNumber"), fun a cls d => tRet (tTup (tCons (tC (.str "number")) (tCons (tXf a cls d (He.ga K "BadNumber") "given" (tVar 1)) tNil)))),
             (.ref (He.ga K "BadTop"), fun a cls d => tRet (tTup (tCons (tC (.str "top")) (tCons (tXf a cls d (He.ga K "BadTop") "given" (tVar 1)) tNil)))),
             (.ref (He.ga K "TooMany"), fun a cls d => tRet (tTup (tCons (tC (.str "many")) (tCons (tXf a cls d (He.ga K "TooMany") "most" (tVar 1)) tNil))))])
      (tb := fun W D σ H => tRet (tLst (tCons (fun σ H Q => tCallV P w K mg base (L2.CX P w) k 0 (fun cls d H' => W cls d σ H') σ H Q) tNil)) D σ H)
      rfl rfl nd rfl rfl LamX.takes0 (fun W pn xe tk _ => pss_one (ps_ret (pe_lst (pa_cons (pe_callVT (X := ((cxOf CX0 P w K mg base n_law_told "_law_told" (defScope s_law_told) (He.ga K "_law_told") cdv A outer s H E).nox).tr pn xe) hr rfl (.inl rfl) tk) pa_nil))))
      (.cons ⟨rfl, rfl, .inl T.g_BadNumber⟩ (fun a oe cls d pn hz hfi => pss_one (ps_ret (pe_tup (pa_cons pe_str (pa_cons (pe_xf T.e_number.xf T.e_number.no hz hfi (pv 1)) pa_nil)))))
      (.cons ⟨rfl, rfl, .inl T.g_BadTop⟩ (fun a oe cls d pn hz hfi => pss_one (ps_ret (pe_tup (pa_cons pe_str (pa_cons (pe_xf T.e_top.xf T.e_top.no hz hfi (pv 1)) pa_nil)))))
      (.cons ⟨rfl, rfl, .inl T.g_TooMany⟩ (fun a oe cls d pn hz hfi => pss_one (ps_ret (pe_tup (pa_cons pe_str (pa_cons (pe_xf T.e_many.xf T.e_many.no hz hfi (pv 1)) pa_nil))))) .nil)))), ?_⟩
    refine ⟨f, weakSp sp, o, u, fd, rfl, hf, hd, fnR_weak F, _, _, q, fun _ _ z => z.elim, fun cls d H' ⟨e1, s1, dd, e2, e3⟩ => ?_⟩
    have z2 : 2 ≤ sizeLine := by rw [sizeLine_eq]; omega
    cases kd with
    | n => exact ⟨true, by rw [e1]; exact T.x_nn, fun _ a ha => ⟨_, rfl, rfl, e1, dd, _, x, e2, e3, rfl, z2, fun p hp => k0 _ p (s1.trans (same_upd hp)) upd_same⟩, fun z => nomatch z⟩
    | t => exact ⟨false, by rw [e1]; exact T.x_tn, (fun z => nomatch z), fun _ => ⟨true, by rw [e1]; exact T.x_tt, fun _ a ha => ⟨_, rfl, rfl, e1, dd, _, x, e2, e3, rfl, z2, fun p hp => k0 _ p (s1.trans (same_upd hp)) upd_same⟩, fun z => nomatch z⟩⟩
    | m => exact ⟨false, by rw [e1]; exact T.x_mn, (fun z => nomatch z), fun _ => ⟨false, by rw [e1]; exact T.x_mt, (fun z => nomatch z), fun _ => ⟨true, by rw [e1]; exact T.x_mm, fun _ a ha => ⟨_, rfl, rfl, e1, dd, _, x, e2, e3, rfl, z2, fun p hp => k0 _ p (s1.trans (same_upd hp)) upd_same⟩, fun z => nomatch z⟩⟩⟩
/-- what all of a list of calls tell -/
def spAre (P : Program) (w : World) (K : PySem.W.Frag) (mg : Str → Option Value) (base : Heap) (k : Nat) : Sp := fun vs H Q _ => ∃ (l : Addr) (fs : List Addr) (t0 : Addr) (C fl tag : String) (x : V) (dx : PyData) (n j : Nat), vs = [.ref l, .ref t0] ∧ H l = some (.lst (fs.map V.ref)) ∧ fs.length ≤ 30 ∧ Kd C fl tag ∧
  H t0 = some (.tup [.str tag, x]) ∧ Dq H x dx ∧ Rp n j (.tuple [.str tag, dx]) ∧ n ≤ 10000 ∧ j ≤ 20 ∧ (∀ f ∈ fs, ∀ H1, Same H H1 → ToldOk P w K mg base k C fl x f H1) ∧ ∀ H', Same H H' → Q (.bl true) H'
theorem dqA_rep {H : Hp} {d : PyData} : ∀ {vs : List V}, (∀ v ∈ vs, Dq H v d) → DqA H vs (List.replicate vs.length d)
  | [], _ => .nil
  | v :: vs, h => .cons (h v (List.mem_cons_self ..)) (dqA_rep fun x hx => h x (List.mem_cons_of_mem _ hx))
theorem ok_are (T : Txt K mg) {k : Nat} : DefG P w K mg base (k + 2) (He.ga K "_law_are") (spAre P w K mg base k) := by
  have DT := ok_told (P := P) (w := w) (base := base) T (k := k)
  refine defG T.d_law_are sc_law_are (fun _ _ _ _ _ _ us hl => match us, hl with | [_, _], _ => rfl) (fun vs H Q E h => ?_) (fun cdv A outer s H vs Q _ hgd hr h => ?_)
  · obtain ⟨l, fs, t0, C, fl, tag, x, dx, n, j, rfl, _⟩ := h
    rfl
  · obtain ⟨l, fs, t0, C, fl, tag, x, dx, n, j, rfl, hl, h30, kd, ht0, hx, rp, hn, hj, hto, kq⟩ := h
    have nd := sc_law_are.nd
    have hu := hr.units
    have hgd' := deeper_g hgd (envOfC "_law_are" (defScope s_law_are) s.heap.objs.size (He.ga K "_law_are") cdv)
    have br : bootBuiltins "repr" = some (.builtin "repr") := by decide +kernel
    refine ⟨_, pss_one (ps_ret (pe_cmpR op_eq (pe_callB (call_repr T.sysd hgd' hu) rfl T.f_repr br (pa_cons (pe_lc (own := [("_law_call", 2)]) (g := gName 2) (tt := tYes) (te := tCall (spTold P w K mg base k) [] E0 (tCons (tVar 2) tNil)) rfl nd (pi_list (pv 0)) (blkOk_by (own := [("_law_call", 2)]) (N := n_law_are) (sc := defScope s_law_are) (by decide +kernel))
        (fun _ _ _ _ _ => pg_name (i := 2) nd rfl (Or.inl rfl)) (fun _ _ _ _ _ => pts_nil) (fun _ _ _ _ _ => pe_cd DT hr T.g_law_told pass0 (pa_cons (pv 2) pa_nil))) pa_nil))
      (pe_callB (call_repr T.sysd hgd' hu) rfl T.f_repr br (pa_cons (pe_op op_rep (pe_lst (pa_cons (pv 1) pa_nil)) (pe_callB call_len_seq rfl T.f_len boot_len (pa_cons (pv 0) pa_nil))) pa_nil)) (by rfl))), ?_⟩
    refine ⟨_, rfl, l, rfl, ⟨_, SqL.of hl⟩, fun D hD => ?_⟩
    refine lc_listH (K := K) (a := l) (xs := fs.map V.ref) (fun i acc H2 => acc.length = i ∧ ∀ y ∈ acc, ∃ a, y = .ref a ∧ H2 a = some (.tup [.str tag, x])) (fun i acc H2 H3 e ⟨h1, h2⟩ => ⟨h1, fun y hy => (h2 y hy).elim fun a ha => ⟨a, ha.1, e _ _ ha.2⟩⟩)
      (fun _ _ _ _ _ m q => m _ _ q) (SqL.of hl) hD (by rw [List.length_map]; omega) ⟨rfl, fun y hy => absurd hy (by simp)⟩ ?_ ?_
    · intro i y H2 acc hi s2 hG Qe he
      obtain ⟨f, hf, rfl⟩ := List.mem_map.mp (List.mem_of_getElem? hi)
      refine ⟨rfl, _, rfl, f, C, fl, tag, x, rfl, kd, hto f hf H2 s2, fun H3 a s3 ha => he _ _ ⟨by rw [List.length_append, hG.1]; rfl, fun y hy => ?_⟩ s3⟩
      rcases List.mem_append.mp hy with h | h
      · obtain ⟨b, e1, e2⟩ := hG.2 y h
        exact ⟨b, e1, s3 _ _ e2⟩
      · rw [List.mem_singleton.mp h]
        exact ⟨a, rfl, ha⟩
    · intro acc H2 hG s2 hDs
      obtain ⟨g1, g2⟩ := hG
      rw [List.length_map] at g1
      have rl : Rp (30 * (n + 1)) (j + 1) (.list (List.replicate fs.length (.tuple [.str tag, dx]))) := by
        have h := rp_list (n := n) (k := j) (ds := List.replicate fs.length (.tuple [.str tag, dx])) fun d hd => by rw [List.eq_of_mem_replicate hd]; exact rp
        refine h.mono ?_ (Nat.le_refl _)
        rw [List.length_replicate]
        exact Nat.mul_le_mul h30 (Nat.le_refl _)
      have hdA : DqA H2 acc (List.replicate fs.length (.tuple [.str tag, dx])) := by
        rw [← g1]
        refine dqA_rep fun y hy => ?_
        obtain ⟨a, rfl, ha⟩ := g2 y hy
        exact .tup ha (.cons (.str _) (.cons (Dq.same s2 _ _ hx) .nil))
      have fit : 30 * (n + 1) ≤ 390000 := by omega
      refine ⟨_, _, rfl, .lst hDs hdA, .inr ⟨_, rfl⟩, rl.sh, Nat.le_trans rl.dp (by omega), rl.fits fit, ?_⟩
      refine ⟨_, rfl, (by show 1 ≤ sizeLine; rw [sizeLine_eq]; omega), fun p hp => ?_⟩
      have s3 := same_upd (o := .lst [.ref t0]) hp
      have s23 := s2.trans s3
      refine ⟨_, rfl, l, _, rfl, .inl (SqL.of (s23 _ _ hl)), p, _, _, rfl, rfl, upd_same, by omega, ?_, ?_, fun q hq => ?_⟩
      · rw [List.length_map]; omega
      · rw [List.length_map, sizeLine_eq]
        simp
        omega
      have s4 := same_upd (o := .lst (List.replicate ((fs.map V.ref).length : Int).toNat [V.ref t0]).flatten) hq
      have s24 := s23.trans s4
      have er : (List.replicate ((fs.map V.ref).length : Int).toNat [V.ref t0]).flatten = List.replicate fs.length (V.ref t0) := by
        rw [List.length_map, Int.toNat_natCast]
        generalize fs.length = m
        induction m with
        | zero => rfl
        | succ m ih => rw [List.replicate_succ, List.flatten_cons, ih]; rfl
      have hdB : DqA (upd (upd H2 p (.lst [.ref t0])) q (.lst (List.replicate ((fs.map V.ref).length : Int).toNat [V.ref t0]).flatten)) (List.replicate ((fs.map V.ref).length : Int).toNat [V.ref t0]).flatten (List.replicate fs.length (.tuple [.str tag, dx])) := by
        have h := dqA_rep (H := upd (upd H2 p (.lst [.ref t0])) q (.lst (List.replicate ((fs.map V.ref).length : Int).toNat [V.ref t0]).flatten)) (d := .tuple [.str tag, dx]) (vs := List.replicate fs.length (V.ref t0)) fun y hy => by
          rw [List.eq_of_mem_replicate hy]
          exact .tup (s24 _ _ ht0) (.cons (.str _) (.cons (Dq.same s24 _ _ hx) .nil))
        rw [List.length_replicate] at h
        rw [er] at h ⊢
        exact h
      refine ⟨_, _, rfl, .lst upd_same hdB, .inr ⟨_, rfl⟩, rl.sh, Nat.le_trans rl.dp (by omega), rl.fits fit, rfl, ?_⟩
      rw [decide_eq_true rfl]
      exact kq _ s24
end
end JB
set_option Elab.async false
set_option linter.all false
set_option maxRecDepth 100000
set_option maxHeartbeats 4000000
/-! The plain law: what stands keeps its shape; a join's loss. -/
namespace JB
open PySem PySem.Spec PyProof.Rows L2
/-! ### sums -/
theorem sum_perm {l m : List Int} (p : l.Perm m) : l.sum = m.sum := by
  induction p with
  | nil => rfl
  | cons x _ ih => simp [ih]
  | swap x y l => simp; omega
  | trans _ _ h1 h2 => exact h1.trans h2
theorem sum_nonneg : ∀ {l : List Int}, (∀ x ∈ l, 0 ≤ x) → 0 ≤ l.sum
  | [], _ => by simp
  | x :: l, h => by
    have h1 := h x (List.mem_cons_self ..)
    have h2 := sum_nonneg (l := l) fun y hy => h y (List.mem_cons_of_mem _ hy)
    simp
    omega
theorem sum_le {B : Int} : ∀ {l : List Int}, (∀ x ∈ l, x ≤ B) → l.sum ≤ l.length * B
  | [], _ => by simp
  | x :: l, h => by
    have h1 := h x (List.mem_cons_self ..)
    have h2 := sum_le (l := l) fun y hy => h y (List.mem_cons_of_mem _ hy)
    have e : ((x :: l).length : Int) * B = l.length * B + B := by
      rw [List.length_cons, Int.natCast_add, Int.add_mul]
      simp
    rw [e, List.sum_cons]
    omega
theorem hsum_bound : ∀ (n : Nat) (l : List Int), l.length = n → (∀ x ∈ l, 0 ≤ x) → 0 ≤ Huf.hsum l ∧ Huf.hsum l ≤ l.length * l.sum
  | n, l, hn, h => by
    by_cases h1 : l.length ≤ 1
    · have hs := sum_nonneg h
      rw [Huf.hsum_small h1]
      exact ⟨Int.le_refl _, Int.mul_nonneg (Int.natCast_nonneg _) hs⟩
    · obtain ⟨x, y, r, e⟩ : ∃ x y r, Huf.srt l = x :: y :: r := by
        have hl := Huf.srt_len l
        match hh : Huf.srt l with
        | x :: y :: r => exact ⟨x, y, r, rfl⟩
        | [x] => rw [hh] at hl; simp at hl; omega
        | [] => rw [hh] at hl; simp at hl; omega
      have hp := Huf.srt_perm l
      rw [e] at hp
      have hlen : r.length + 2 = l.length := by simpa using hp.length_eq
      have hsum : x + (y + r.sum) = l.sum := by simpa using sum_perm hp
      have hx := h x (hp.mem_iff.mp (by simp))
      have hy := h y (hp.mem_iff.mp (by simp))
      have hr : ∀ z ∈ r, 0 ≤ z := fun z hz => h z (hp.mem_iff.mp (by simp [hz]))
      have hrs := sum_nonneg hr
      cases n with
      | zero => omega
      | succ n =>
        obtain ⟨b1, b2⟩ := hsum_bound n ((x + y) :: r) (by simp; omega) fun z hz => by
          rcases List.mem_cons.mp hz with h | h
          · omega
          · exact hr z h
        rw [Huf.hsum_step e]
        refine ⟨by omega, ?_⟩
        have e1 : ((x + y) :: r).sum = l.sum := by simp; omega
        have e2 : (((x + y) :: r).length : Int) * l.sum = (l.length : Int) * l.sum - l.sum := by
          have : (((x + y) :: r).length : Int) = (l.length : Int) - 1 := by simp; omega
          rw [this, Int.sub_mul, Int.one_mul]
        rw [e1, e2] at b2
        omega
/-! ### what stands, well -/
structure Ok (S : Std) (n : Nat) : Prop where
  n20 : S.loads.length ≤ 20
  n8 : S.tops.length ≤ 8
  inr : ∀ t ∈ S.tops, InR S.loads.length t
  ne : ∀ t ∈ S.tops, t ≠ []
  tot : (S.tops.map List.length).sum ≤ S.loads.length
  nd : S.tops.Nodup
  up : ∀ t ∈ S.tops, t.Pairwise (· < ·)
  dis : ∀ t ∈ S.tops, ∀ u ∈ S.tops, t ≠ u → ∀ i ∈ t, i ∉ u
  ld : ∀ x ∈ S.loads, 1 ≤ x ∧ x ≤ 1000000000
  p0 : 0 ≤ S.paid
  p1 : S.paid ≤ n * 100000000000
  n1 : n ≤ 100
theorem nat_mem_sum : ∀ {l : List Nat} {x : Nat}, x ∈ l → x ≤ l.sum
  | y :: l, x, h => by
    rcases List.mem_cons.mp h with e | h
    · rw [e]; simp
    · have := nat_mem_sum h
      simp
      omega
theorem Ok.good {S : Std} {n : Nat} (k : Ok S n) : Good S := ⟨k.n20, k.n8, k.inr, k.ne, fun t ht => by
  have h1 := nat_mem_sum (List.mem_map_of_mem (f := List.length) ht)
  have h2 := k.tot
  have h3 := k.n20
  omega⟩
theorem getD_range {ls : List Int} (h : ∀ x ∈ ls, 1 ≤ x ∧ x ≤ 1000000000) {i : Int} (h0 : 0 ≤ i) (h1 : i < (ls.length : Int)) : 1 ≤ ls.getD i.toNat 0 ∧ ls.getD i.toNat 0 ≤ 1000000000 := by
  have hi : i.toNat < ls.length := by omega
  rw [List.getD_eq_getElem?_getD, List.getElem?_eq_getElem hi]
  exact h _ (List.getElem_mem hi)
theorem wt_range {ls t : List Int} (h : ∀ x ∈ ls, 1 ≤ x ∧ x ≤ 1000000000) (hi : InR ls.length t) : 0 ≤ wt ls t ∧ wt ls t ≤ t.length * 1000000000 := by
  refine ⟨sum_nonneg fun x hx => ?_, ?_⟩
  · obtain ⟨i, hi2, rfl⟩ := List.mem_map.mp hx
    have := getD_range h (hi i hi2).1 (hi i hi2).2
    omega
  · have := sum_le (B := 1000000000) (l := t.map fun i => ls.getD i.toNat 0) fun x hx => by
      obtain ⟨i, hi2, rfl⟩ := List.mem_map.mp hx
      exact (getD_range h (hi i hi2).1 (hi i hi2).2).2
    simpa [wt] using this
theorem wt_both (ls t o : List Int) : wt ls (both t o) = wt ls t + wt ls o := by
  unfold wt both
  rw [sum_perm ((Huf.srt_perm (t ++ o)).map _), List.map_append, List.sum_append]
theorem Ok.wt {S : Std} {n : Nat} (k : Ok S n) {t : List Int} (ht : t ∈ S.tops) : 0 ≤ S.wt t ∧ S.wt t ≤ 20000000000 := by
  obtain ⟨h1, h2⟩ := wt_range k.ld (k.inr t ht)
  have h3 := k.good.short t ht
  refine ⟨h1, Int.le_trans h2 ?_⟩
  omega
theorem ws_bound {ws : List Int} (h : ∀ x ∈ ws, 0 ≤ x ∧ x ≤ 40000000000) (hl : ws.length ≤ 9) : 0 ≤ Huf.hsum ws ∧ Huf.hsum ws ≤ 4000000000000 := by
  obtain ⟨b1, b2⟩ := hsum_bound _ ws rfl fun x hx => (h x hx).1
  have h2 := sum_le (B := 40000000000) fun x hx => (h x hx).2
  have h3 := sum_nonneg fun x hx => (h x hx).1
  refine ⟨b1, Int.le_trans b2 ?_⟩
  have h4 : ws.sum ≤ 360000000000 := by omega
  have h5 : (ws.length : Int) * ws.sum ≤ 9 * ws.sum := Int.mul_le_mul_of_nonneg_right (by omega) h3
  omega
theorem Ok.fin {S : Std} {n : Nat} (k : Ok S n) : 0 ≤ S.fin ∧ S.fin ≤ 20000000000000 := by
  obtain ⟨h1, h2⟩ := ws_bound (ws := S.ws) (fun x hx => by
    obtain ⟨t, ht, rfl⟩ := List.mem_map.mp hx
    have := k.wt ht
    omega) (by have := k.n8; simp [Std.ws]; omega)
  have h3 := k.p0
  have h4 := k.p1
  have h5 := k.n1
  unfold Std.fin
  omega
theorem Ok.mild {S : Std} {n : Nat} (k : Ok S n) : Mild S n := ⟨Tiny.of (by have := k.p0; omega) (by have := k.p1; have := k.n1; omega), Tiny.of (by have := k.fin; omega) (by have := k.fin; omega), by have := k.n1; omega⟩
theorem ok_std0 : Ok std0 0 := by
  refine ⟨by decide, by decide, ?_, ?_, by decide, List.nodup_nil, ?_, ?_, ?_, by decide, by decide, by decide⟩ <;> intro x hx <;> cases hx
/-- two of the tops and the rest -/
theorem split2 : ∀ {l : List (List Int)} {t o : List Int}, l.Nodup → t ∈ l → o ∈ l → t ≠ o → l.Perm (t :: o :: l.filter fun x => !decide (x ∈ [t, o]))
  | l, t, o, hn, ht, ho, ne => by
    have h1 : l.Perm (t :: l.erase t) := List.perm_cons_erase ht
    have ho' : o ∈ l.erase t := (List.mem_erase_of_ne (Ne.symm ne)).mpr ho
    have h2 : (l.erase t).Perm (o :: (l.erase t).erase o) := List.perm_cons_erase ho'
    have e : (l.erase t).erase o = l.filter fun x => !decide (x ∈ [t, o]) := by
      rw [List.Nodup.erase_eq_filter hn, List.Nodup.erase_eq_filter (show List.Nodup (l.filter (fun x => x != t)) from List.Pairwise.filter _ hn), List.filter_filter]
      congr 1
      funext x
      by_cases a : x = t <;> by_cases b : x = o <;> simp [a, b]
    rw [e] at h2
    exact h1.trans (h2.cons t)
theorem joined_comm (S : Std) (t o : List Int) : S.joined t o = S.joined o t := by
  have e1 : both t o = both o t := Huf.srt_same (List.perm_append_comm)
  have e2 : (fun x : List Int => !decide (x ∈ [t, o])) = fun x => !decide (x ∈ [o, t]) := by
    funext x
    by_cases a : x = t <;> by_cases b : x = o <;> simp [a, b]
  unfold Std.joined
  rw [e1, e2]
theorem loss_comm (S : Std) (t o : List Int) : S.loss t o = S.loss o t := by
  unfold Std.loss
  rw [joined_comm]
/-- what a join loses, by weights -/
theorem loss_eq {S : Std} {n : Nat} (k : Ok S n) {t o : List Int} (ht : t ∈ S.tops) (ho : o ∈ S.tops) (ne : t ≠ o) :
    ∃ r : List Int, r = (S.tops.filter fun x => !decide (x ∈ [t, o])).map S.wt ∧ S.ws.Perm (S.wt t :: S.wt o :: r) ∧ S.loss t o = S.wt t + S.wt o + Huf.hsum ((S.wt t + S.wt o) :: r) - Huf.hsum S.ws := by
  refine ⟨_, rfl, (split2 k.nd ht ho ne).map _, ?_⟩
  have e1 : (S.joined t o).ws.Perm ((S.wt t + S.wt o) :: (S.tops.filter fun x => !decide (x ∈ [t, o])).map S.wt) := by
    have p := ((sT_perm ((S.tops.filter fun x => !decide (x ∈ [t, o])) ++ [both t o])).trans List.perm_append_comm).map (JB.wt S.loads)
    have ew : JB.wt S.loads (both t o) = S.wt t + S.wt o := wt_both _ _ _
    simp only [List.singleton_append, List.map_cons, ew] at p
    exact p
  have e2 : (S.joined t o).paid = S.paid + (S.wt t + S.wt o) := congrArg (S.paid + ·) (wt_both _ _ _)
  unfold Std.loss Std.fin
  rw [Huf.hsum_same e1, e2]
  omega
theorem loss_nn {S : Std} {n : Nat} (k : Ok S n) {t o : List Int} (ht : t ∈ S.tops) (ho : o ∈ S.tops) (ne : t ≠ o) : 0 ≤ S.loss t o := by
  obtain ⟨r, _, p, e⟩ := loss_eq k ht ho ne
  have := Huf.loss_ge p
  omega
theorem loss_none {S : Std} {n : Nat} (k : Ok S n) {t o : List Int} (ht : t ∈ S.tops) (ho : o ∈ S.tops) (ne : t ≠ o) (h : ∀ x ∈ S.tops, x ∉ [t, o] → ¬ S.wt x < max (S.wt t) (S.wt o)) : S.loss t o = 0 := by
  obtain ⟨r, er, p, e⟩ := loss_eq k ht ho ne
  have hr : ∀ z ∈ r, max (S.wt t) (S.wt o) ≤ z := fun z hz => by
    rw [er] at hz
    obtain ⟨x, hx, rfl⟩ := List.mem_map.mp hz
    obtain ⟨h1, h2⟩ := List.mem_filter.mp hx
    exact Int.not_lt.mp (h x h1 (by simpa using h2))
  have := Huf.loss_zero p (fun z hz => by have := hr z hz; omega) (fun z hz => by have := hr z hz; omega)
  omega
theorem loss_small {S : Std} {n : Nat} (k : Ok S n) {t o : List Int} (ht : t ∈ S.tops) (ho : o ∈ S.tops) (ne : t ≠ o) : Tiny (S.loss t o) := by
  obtain ⟨r, er, p, e⟩ := loss_eq k ht ho ne
  have ht' := k.wt ht
  have ho' := k.wt ho
  have hr : ∀ z ∈ r, 0 ≤ z ∧ z ≤ 40000000000 := fun z hz => by
    rw [er] at hz
    obtain ⟨x, hx, rfl⟩ := List.mem_map.mp hz
    have := k.wt (List.mem_filter.mp hx).1
    omega
  have hl : r.length + 2 = S.ws.length := by simpa using p.length_eq.symm
  have hw : S.ws.length ≤ 8 := by simp [Std.ws]; exact k.n8
  obtain ⟨b1, b2⟩ := ws_bound (ws := (S.wt t + S.wt o) :: r) (fun x hx => by
    rcases List.mem_cons.mp hx with h | h
    · omega
    · exact hr x h) (by simp; omega)
  obtain ⟨c1, c2⟩ := ws_bound (ws := S.ws) (fun x hx => by
    obtain ⟨t, ht, rfl⟩ := List.mem_map.mp hx
    have := k.wt ht
    omega) (by omega)
  exact Tiny.of (by omega) (by omega)
end JB
set_option Elab.async false
set_option linter.all false
set_option maxRecDepth 100000
set_option maxHeartbeats 4000000
namespace JB
open PySem PySem.Spec PyProof.Rows L2
theorem sumN_perm {l m : List Nat} (p : l.Perm m) : l.sum = m.sum := by
  induction p with
  | nil => rfl
  | cons x _ ih => simp [ih]
  | swap x y l => simp; omega
  | trans _ _ h1 h2 => exact h1.trans h2
theorem sumN_filter (f : List Int → Nat) (p : List Int → Bool) : ∀ l : List (List Int), ((l.filter p).map f).sum ≤ (l.map f).sum
  | [] => by simp
  | x :: l => by
    have h := sumN_filter f p l
    cases e : p x with
    | true => simp [List.filter_cons, e]; omega
    | false => simp [List.filter_cons, e]; omega
theorem mem_sT {x : List Int} {l : List (List Int)} : x ∈ sT l ↔ x ∈ l := (sT_perm l).mem_iff
theorem mem_both {i : Int} {t o : List Int} : i ∈ both t o ↔ i ∈ t ∨ i ∈ o := by
  rw [both, (Huf.srt_perm _).mem_iff, List.mem_append]
theorem Ok.come {S : Std} {n : Nat} (k : Ok S n) {w : Int} (h1 : 1 ≤ w) (h2 : w ≤ 1000000000) (h3 : S.tops.length < 8) (h4 : S.loads.length < 20) (h5 : n + 1 ≤ 100) : Ok (S.come w) (n + 1) := by
  have mt : ∀ x, x ∈ (S.come w).tops ↔ x ∈ S.tops ∨ x = [(S.loads.length : Int)] := fun x => by
    show x ∈ sT _ ↔ _
    rw [mem_sT, List.mem_append, List.mem_singleton]
  have ll : (S.come w).loads.length = S.loads.length + 1 := by simp [Std.come]
  have nin : [(S.loads.length : Int)] ∉ S.tops := fun h => by
    have := k.inr _ h (S.loads.length : Int) (by simp)
    omega
  refine ⟨by rw [ll]; omega, ?_, fun t ht i hi => ?_, fun t ht => ?_, ?_, ?_, fun t ht => ?_, fun t ht u hu ne i hi hj => ?_, fun x hx => ?_, k.p0, ?_, h5⟩
  · show (sT _).length ≤ 8
    rw [sT_len]
    simp
    omega
  · rw [ll]
    rcases (mt t).mp ht with h | h
    · have := k.inr t h i hi
      omega
    · rw [h, List.mem_singleton] at hi
      omega
  · rcases (mt t).mp ht with h | h
    · exact k.ne t h
    · rw [h]; simp
  · rw [ll]
    show ((sT _).map List.length).sum ≤ _
    rw [sumN_perm ((sT_perm _).map List.length)]
    have := k.tot
    simp
    omega
  · show (sT _).Nodup
    rw [(sT_perm _).nodup_iff, List.nodup_append]
    exact ⟨k.nd, by simp, fun x hx y hy e => by
      rw [List.mem_singleton.mp hy] at e
      rw [e] at hx
      exact nin hx⟩
  · rcases (mt t).mp ht with h | h
    · exact k.up t h
    · rw [h]; simp
  · rcases (mt t).mp ht with h | h <;> rcases (mt u).mp hu with h' | h'
    · exact k.dis t h u h' ne i hi hj
    · rw [h', List.mem_singleton] at hj
      have := k.inr t h i hi
      omega
    · rw [h, List.mem_singleton] at hi
      have := k.inr u h' i hj
      omega
    · exact ne (h.trans h'.symm)
  · have hx' : x ∈ S.loads ++ [w] := hx
    rcases List.mem_append.mp hx' with h | h
    · exact k.ld x h
    · rw [List.mem_singleton.mp h]
      exact ⟨h1, h2⟩
  · show S.paid ≤ _
    have := k.p1
    push_cast
    omega
theorem Ok.taken {S : Std} {n : Nat} (k : Ok S n) {x : List Int} (h5 : n + 1 ≤ 100) : Ok (S.taken x) (n + 1) := by
  have mt : ∀ y, y ∈ (S.taken x).tops → y ∈ S.tops := fun y hy => (List.mem_filter.mp hy).1
  refine ⟨k.n20, Nat.le_trans (List.length_filter_le _ _) k.n8, fun t ht => k.inr t (mt t ht), fun t ht => k.ne t (mt t ht), Nat.le_trans (sumN_filter _ _ _) k.tot, List.Pairwise.filter _ k.nd, fun t ht => k.up t (mt t ht),
    fun t ht u hu => k.dis t (mt t ht) u (mt u hu), k.ld, k.p0, ?_, h5⟩
  show S.paid ≤ _
  have := k.p1
  push_cast
  omega
theorem up_both {t o : List Int} (ht : t.Pairwise (· < ·)) (ho : o.Pairwise (· < ·)) (d : ∀ i ∈ t, i ∉ o) : (both t o).Pairwise (· < ·) := by
  have u : Huf.Up (both t o) := Huf.srt_up _
  have nd : (both t o).Nodup := by
    rw [both, (Huf.srt_perm _).nodup_iff, List.nodup_append]
    refine ⟨ht.imp fun h e => by omega, ho.imp fun h e => by omega, fun x hx y hy e => ?_⟩
    rw [← e] at hy
    exact d x hx hy
  have key : ∀ l : List Int, Huf.Up l → l.Nodup → l.Pairwise (· < ·) := fun l u n => List.Pairwise.imp₂ (fun a b h1 h2 => by
    have : a ≠ b := h2
    have : a ≤ b := h1
    omega) u n
  exact key _ u nd
theorem Ok.joined {S : Std} {n : Nat} (k : Ok S n) {t o : List Int} (ht : t ∈ S.tops) (ho : o ∈ S.tops) (ne : t ≠ o) (h5 : n + 1 ≤ 100) : Ok (S.joined t o) (n + 1) := by
  have mt : ∀ x, x ∈ (S.joined t o).tops ↔ (x ∈ S.tops ∧ x ∉ [t, o]) ∨ x = both t o := fun x => by
    show x ∈ sT _ ↔ _
    rw [mem_sT, List.mem_append, List.mem_singleton, List.mem_filter]
    simp
  have sp := split2 k.nd ht ho ne
  have hl := sp.length_eq
  have db : ∀ x ∈ S.tops, x ∉ [t, o] → ∀ i ∈ both t o, i ∉ x := fun x hx hn i hi hj => by
    have h1 : x ≠ t := fun e => hn (by simp [e])
    have h2 : x ≠ o := fun e => hn (by simp [e])
    rcases mem_both.mp hi with h | h
    · exact k.dis t ht x hx (Ne.symm h1) i h hj
    · exact k.dis o ho x hx (Ne.symm h2) i h hj
  have bne := both_ne (o := o) (k.ne t ht)
  refine ⟨k.n20, ?_, fun x hx i hi => ?_, fun x hx => ?_, ?_, ?_, fun x hx => ?_, fun x hx u hu nxu i hi hj => ?_, k.ld, ?_, ?_, h5⟩
  · show (sT _).length ≤ 8
    rw [sT_len]
    have := k.n8
    simp at hl ⊢
    omega
  · rcases (mt x).mp hx with h | h
    · exact k.inr x h.1 i hi
    · rw [h] at hi
      exact (k.inr t ht).same (k.inr o ho) i hi
  · rcases (mt x).mp hx with h | h
    · exact k.ne x h.1
    · rw [h]; exact bne
  · show ((sT _).map List.length).sum ≤ S.loads.length
    rw [sumN_perm ((sT_perm _).map List.length)]
    have h1 := sumN_perm (sp.map List.length)
    have h2 := k.tot
    have h3 := both_len t o
    simp at h1 ⊢
    omega
  · show (sT _).Nodup
    rw [(sT_perm _).nodup_iff, List.nodup_append]
    refine ⟨List.Pairwise.filter _ k.nd, by simp, fun x hx y hy e => ?_⟩
    rw [List.mem_singleton.mp hy] at e
    obtain ⟨h1, h2⟩ := List.mem_filter.mp hx
    obtain ⟨i, hi⟩ := List.exists_mem_of_ne_nil _ bne
    exact db x h1 (by simpa using h2) i hi (by rw [e]; exact hi)
  · rcases (mt x).mp hx with h | h
    · exact k.up x h.1
    · rw [h]
      exact up_both (k.up t ht) (k.up o ho) (k.dis t ht o ho ne)
  · rcases (mt x).mp hx with h | h <;> rcases (mt u).mp hu with h' | h'
    · exact k.dis x h.1 u h'.1 nxu i hi hj
    · rw [h'] at hj
      exact db x h.1 h.2 i hj hi
    · rw [h] at hi
      exact db u h'.1 h'.2 i hi hj
    · exact nxu (h.trans h'.symm)
  · show 0 ≤ S.paid + S.wt (both t o)
    have e : S.wt (both t o) = S.wt t + S.wt o := wt_both _ _ _
    have h1 := k.wt ht
    have h2 := k.wt ho
    have h3 := k.p0
    omega
  · show S.paid + S.wt (both t o) ≤ _
    have e : S.wt (both t o) = S.wt t + S.wt o := wt_both _ _ _
    have h1 := k.wt ht
    have h2 := k.wt ho
    have h3 := k.p1
    push_cast
    omega
theorem Ok.after {S : Std} {n : Nat} (k : Ok S n) {D : Deed} (h : S.okD D) (h5 : n + 1 ≤ 100) : Ok (S.after D) (n + 1) := by
  cases D with
  | come w => exact k.come h.1 h.2.1 h.2.2.1 h.2.2.2 h5
  | take t => exact k.taken h5
  | join t o => exact k.joined h.1 h.2.1 h.2.2 h5
/-- no top is a top turned round -/
theorem rev_not {S : Std} {n : Nat} (k : Ok S n) {t : List Int} (ht : t ∈ S.tops) (hl : 1 < t.length) : t.reverse ∉ S.tops := fun h => by
  have u1 := k.up t ht
  have u2 := k.up _ h
  rw [List.pairwise_reverse] at u2
  match t, hl with
  | x :: y :: r, _ =>
    have h1 := (List.pairwise_cons.mp u1).1 y (by simp)
    have h2 := (List.pairwise_cons.mp u2).1 y (by simp)
    omega
end JB
set_option Elab.async false
set_option linter.all false
set_option maxRecDepth 100000
set_option maxHeartbeats 4000000
namespace JB
open PySem PySem.Spec PyProof.Rows L2
def spLosses (K : PySem.W.Frag) : Sp := fun vs H Q _ => ∃ p ev S n, vs = [.ref p, ev] ∧ BookK K H p n S ∧ EntryAt H ev S n ∧ Ok S n ∧ ∀ H', Same H H' → Q (.bl true) H'
theorem rp_ints2 {x : Int} (h : Tiny x) : Rp 2 1 (.list [.int x, .int x]) := (rp_two (rp_int h)).mono (by omega) (by omega)
theorem max_is (i j : Int) : (if j > i then j else i) = max i j := by
  by_cases h : j > i
  · rw [if_pos h]; omega
  · rw [if_neg h]; omega
section
variable {P : Program} {w : World} {K : PySem.W.Frag} {mg : Str → Option Value} {base : Heap}
theorem ok_losses (T : Txt K mg) : DefG P w K mg base 6 (He.ga K "_law_losses_right") (spLosses K) := by
  have DM := (ok_mass (P := P) (w := w) (base := base) T).mono (show 1 ≤ 5 by omega)
  have DD := (ok_due (P := P) (w := w) (base := base) T).mono (show 3 ≤ 5 by omega)
  have DW := (ok_book_weight (P := P) (w := w) (base := base) T).mono (show 4 ≤ 5 by omega)
  have DL := ok_book_loss (P := P) (w := w) (base := base) T
  refine defG T.d_law_losses_right sc_law_losses_right (fun _ _ _ _ _ _ us hl => match us, hl with | [_, _], _ => rfl) (fun vs H Q E h => ?_) (fun cdv A outer s H vs Q _ hgd hr h => ?_)
  · obtain ⟨p, ev, S, n, rfl, _⟩ := h
    rfl
  · obtain ⟨p, ev, S, n, rfl, hB, hE, hk, k⟩ := h
    obtain ⟨t, lo, to, rfl, he, hlo, ⟨tt, xs, rfl, ht, htl⟩⟩ := id hE
    have nd := sc_law_losses_right.nd
    have hu := hr.units
    have hu5 := u65 hr
    have hg := hk.good
    have e8 := hg.n8
    have hgd' := deeper_g hgd (envOfC "_law_losses_right" (defScope s_law_losses_right) s.heap.objs.size (He.ga K "_law_losses_right") cdv)
    have br : bootBuiltins "repr" = some (.builtin "repr") := by decide +kernel
    refine ⟨_, pss_cons (ps_set (i := 2) nd rfl (Or.inl rfl) (pe_ix ix_tup (pv 1) pe_int (fun _ _ => rfl)))
      (pss_cons (ps_for PassesOwn.never rfl (pi_tup (pv 2)) (pg_name (i := 3) nd rfl (Or.inr rfl))
        (pss_cons (ps_if (pt_cmpR op_ne (pe_callB (call_repr T.sysd hgd' hu) rfl T.f_repr br (pa_cons (pe_lst (pa_cons (pe_md (pv 0) T.clJ T.m_Joinbook_weight DW hr passL (pa_cons (pv 3) pa_nil)) (pa_cons (pe_md (pv 0) T.clJ T.m_Joinbook_weight DW hr passL (pa_cons (pv 3) pa_nil)) pa_nil))) pa_nil))
            (pe_callB (call_repr T.sysd hgd' hu) rfl T.f_repr br (pa_cons (pe_op op_rep (pe_lst (pa_cons (pe_cd DM hr T.g_law_mass pass0 (pa_cons (pv 1) (pa_cons (pv 3) pa_nil))) pa_nil)) pe_int) pa_nil)) (by rfl)) (pss_one (ps_ret pe_bl)) pss_nil)
        (pss_one (ps_for PassesOwn.never rfl (pi_tup (pv 2)) (pg_name (i := 4) nd rfl (Or.inr rfl))
          (pss_one (ps_if (pt_cmpR (op_neQ T.sysd hu) (pv 3) (pv 4) (by rfl))
            (pss_cons (ps_set (i := 5) nd rfl (Or.inl rfl) (pe_cd DD hr T.g_law_due pass0 (pa_cons (pv 1) (pa_cons (pe_tup (pa_cons pe_str (pa_cons (pv 3) (pa_cons (pv 4) pa_nil)))) pa_nil))))
            (pss_cons (ps_set (i := 6) nd rfl (Or.inl rfl) (pe_lst (pa_cons (pe_md (pv 0) T.clJ T.m_Joinbook_loss DL hr passL (pa_cons (pv 3) (pa_cons (pv 4) pa_nil))) (pa_cons (pe_md (pv 0) T.clJ T.m_Joinbook_loss DL hr passL (pa_cons (pv 4) (pa_cons (pv 3) pa_nil))) pa_nil))))
            (pss_cons (ps_if (PW.pt (pw_or (pt_cmpR op_ne (pe_callB (call_repr T.sysd hgd' hu) rfl T.f_repr br (pa_cons (pv 6) pa_nil)) (pe_callB (call_repr T.sysd hgd' hu) rfl T.f_repr br (pa_cons (pe_lst (pa_cons (pv 5) (pa_cons (pv 5) pa_nil))) pa_nil)) (by rfl)) (pw_or1 (pt_cmpR op_lt (pv 5) pe_int (nomark _))))) (pss_one (ps_ret pe_bl)) pss_nil)
            (pss_cons (ps_set (i := 7) nd rfl (Or.inr rfl) (pe_callB (call_max2 rfl) rfl T.f_max (by decide +kernel) (pa_cons (pe_cd DM hr T.g_law_mass pass0 (pa_cons (pv 1) (pa_cons (pv 3) pa_nil))) (pa_cons (pe_cd DM hr T.g_law_mass pass0 (pa_cons (pv 1) (pa_cons (pv 4) pa_nil))) pa_nil))))
            (pss_cons (ps_setLc (i := 8) (own := [("_law_top", 9)]) (g := gName 9) (tt := tAnd (tTest (tOp rNotInT (tVar 9) (tTup (tCons (tVar 3) (tCons (tVar 4) tNil))))) (tTest (tOp (rI0 fun i j => .bl (decide (i < j))) (tCall spMass [] E0 (tCons (tVar 1) (tCons (tVar 9) tNil))) (tVar 7)))) (te := tC (.int 1)) rfl nd rfl rfl rfl (pi_tup (pv 2)) (blkOk_by (own := [("_law_top", 9)]) (N := n_law_losses_right) (sc := defScope s_law_losses_right) (by decide +kernel))
                (fun _ _ _ _ _ => pg_name (i := 9) nd rfl (Or.inl rfl)) (fun _ _ _ _ _ => pts_one (PW.pt (pw_and (pt_cmpR (op_notInT T.sysd hu5) (pv 9) (pe_tup (pa_cons (pv 3) (pa_cons (pv 4) pa_nil))) (by rfl)) (pw_and1 (pt_cmpR op_lt (pe_cd DM hr T.g_law_mass pass0 (pa_cons (pv 1) (pa_cons (pv 9) pa_nil))) (pv 7) (nomark _)))))) (fun _ _ _ _ _ => pe_int))
            (pss_one (ps_if (PW.pt (pw_and (pt_cmpR (op_eqQ T.sysd hu) (pv 8) (pe_lst pa_nil) (by rfl)) (pw_and1 (pt_cmpR op_ne (pv 5) pe_int (by rfl))))) (pss_one (ps_ret pe_bl)) pss_nil))))))) pss_nil))))))
      (pss_one (ps_ret pe_bl))), ?_⟩
    have z2 : ∀ m : Nat, m ≤ 5 → m ≤ sizeLine := fun m h => by rw [sizeLine_eq]; omega
    obtain ⟨dx, pt, pre, sv, hp, _⟩ := id hB
    have hin : ∀ {i : Nat} {v : V}, xs[i]? = some v → ∃ x, x ∈ S.tops ∧ TI H v x := fun {i v} hi => by
      obtain ⟨x, ex, hx⟩ := htl.get hi
      exact ⟨x, List.mem_of_getElem? ex, hx⟩
    have len20 : ∀ {x}, x ∈ S.tops → x.length ≤ 1000 := fun {x} hx => by have := hg.short x hx; omega
    refine ⟨_, rfl, t, _, _, _, rfl, rfl, SqT.of he, at1 rfl, ?_⟩
    refine ⟨_, rfl, tt, rfl, ⟨_, SqT.of ht⟩, ?_⟩
    refine for_tup (K := K) (a := tt) (xs := xs) (fun i σ H' => ∃ v3 v4 v5 v6 v7 v8 v9 : Option V, σ = [some (.ref p), some (.ref t), some (.ref tt), v3, v4, v5, v6, v7, v8, v9] ∧ Same H H') ⟨_, _, _, _, _, _, _, rfl, Same.refl _⟩ (fun i σ H' _ ⟨_, _, _, _, _, _, _, _, s1⟩ => SqT.of (s1 _ _ ht)) ?_ ?_
    · rintro i x σ H1 hi ⟨v3, v4, v5, v6, v7, v8, v9, rfl, s1⟩
      obtain ⟨z, hz, hx⟩ := hin hi
      have rw1 : Rp 2 1 (.list [.int (S.wt z), .int (S.wt z)]) := rp_ints2 (Tiny.of (by have := hk.wt hz; omega) (by have := hk.wt hz; omega))
      -- weights
      refine ⟨_, rfl, p, dx, _, rfl, s1 _ _ hp, rfl, _, rfl, p, n, S, x, some z, rfl, hB.same s1, hg, .yes (hx.ext (Ext.of s1)) (len20 hz), fun t1 e1 _ H2 s2 => ?_, fun e => ?_⟩
      rotate_left
      · rw [show S.has (some z) = true from decide_eq_true hz] at e; cases e
      cases e1
      have s12 := s1.trans s2
      refine ⟨_, rfl, p, dx, _, rfl, s12 _ _ hp, rfl, _, rfl, p, n, S, x, some z, rfl, hB.same s12, hg, .yes (hx.ext (Ext.of s12)) (len20 hz), fun t1 e1 _ H3 s3 => ⟨z2 2 (by omega), fun q hq => ?_⟩, fun e => ?_⟩
      rotate_left
      · rw [show S.has (some z) = true from decide_eq_true hz] at e; cases e
      cases e1
      have s13 := s12.trans s3
      have s4 := same_upd (o := .lst [.int (S.wt z), .int (S.wt z)]) hq
      have s14 := s13.trans s4
      refine ⟨_, .list [.int (S.wt z), .int (S.wt z)], rfl, .lst upd_same (.cons (.int _) (.cons (.int _) .nil)), .inr ⟨_, rfl⟩, rw1.sh, Nat.le_trans rw1.dp (by omega), rw1.fits (by omega), ?_⟩
      refine ⟨_, rfl, _, rfl, _, _, S, n, z, rfl, hE.ext (Ext.of s14), hx.ext (Ext.of s14), hg.inr z hz, len20 hz, fun H5 s5 => ⟨z2 1 (by omega), fun q2 hq2 => ?_⟩⟩
      have s15 := s14.trans s5
      have s6 := same_upd (o := .lst [.int (S.wt z)]) hq2
      refine ⟨q2, 2, _, rfl, rfl, upd_same, by omega, by omega, (by show 1 * 2 ≤ sizeLine; rw [sizeLine_eq]; omega), fun q3 hq3 => ?_⟩
      have s16 := (s15.trans s6).trans (same_upd (o := .lst (List.replicate (2 : Int).toNat [V.int (S.wt z)]).flatten) hq3)
      refine ⟨_, .list [.int (S.wt z), .int (S.wt z)], rfl, .lst upd_same (.cons (.int _) (.cons (.int _) .nil)), .inr ⟨_, rfl⟩, rw1.sh, Nat.le_trans rw1.dp (by omega), rw1.fits (by omega), rfl, _, rfl, ?_⟩
      rw [decide_eq_true rfl]
      refine iteF ?_
      revert s16
      generalize upd (upd H5 q2 (.lst [.int (S.wt z)])) q3 (.lst (List.replicate (2 : Int).toNat [V.int (S.wt z)]).flatten) = H6
      intro s16
      -- the others
      refine ⟨_, rfl, tt, rfl, ⟨_, SqT.of (s16 _ _ ht)⟩, ?_⟩
      refine for_tup (K := K) (a := tt) (xs := xs) (fun j σ H' => ∃ v4 v5 v6 v7 v8 v9 : Option V, σ = [some (.ref p), some (.ref t), some (.ref tt), some x, v4, v5, v6, v7, v8, v9] ∧ Same H H') ⟨_, _, _, _, _, _, rfl, s16⟩ (fun i σ H' _ ⟨_, _, _, _, _, _, _, s1⟩ => SqT.of (s1 _ _ ht)) ?_ ?_
      · rintro j y σ H7 hj ⟨v4, v5, v6, v7, v8, v9, rfl, s7⟩
        obtain ⟨u, hu2, hy⟩ := hin hj
        refine ⟨_, rfl, _, rfl, dT z, dT u, (hx.ext (Ext.of s7)).dq, (hy.ext (Ext.of s7)).dq, shaped_dT _, shaped_dT _, _, rfl, ?_⟩
        rw [eqv_dT]
        by_cases ezu : z = u
        · rw [decide_eq_true ezu]
          exact iteF ⟨_, _, _, _, _, _, rfl, s7⟩
        · rw [decide_eq_false ezu]
          refine iteT ?_
          -- due
          refine ⟨_, rfl, _, rfl, _, rfl, z2 3 (by omega), fun a ha => ?_⟩
          have s8 := s7.trans (same_upd (o := .tup [.str "join", x, y]) ha)
          refine ⟨_, _, S, n, .join z u, rfl, hE.ext (Ext.of s8), ⟨a, x, y, rfl, upd_same, hx.ext (Ext.of s8), hy.ext (Ext.of s8)⟩, hg, ⟨hz, hu2, ezu⟩, fun H9 s9' => ?_⟩
          have s9 := s8.trans s9'
          -- told
          refine ⟨_, rfl, p, dx, _, rfl, s9 _ _ hp, rfl, _, rfl, _, rfl, p, n, S, x, some z, y, some u, rfl, hB.same s9, hg, .yes (hx.ext (Ext.of s9)) (len20 hz), fun _ => .yes (hy.ext (Ext.of s9)) (len20 hu2), fun t1 u1 e1 e2 _ _ _ H10 s10' => ?_, fun e => ?_⟩
          rotate_left
          · rw [show S.two (some z) (some u) = true by simp [Std.two, Std.has, hz, hu2, ezu]] at e; cases e
          cases e1
          cases e2
          have s10 := s9.trans s10'
          refine ⟨_, rfl, p, dx, _, rfl, s10 _ _ hp, rfl, _, rfl, _, rfl, p, n, S, y, some u, x, some z, rfl, hB.same s10, hg, .yes (hy.ext (Ext.of s10)) (len20 hu2), fun _ => .yes (hx.ext (Ext.of s10)) (len20 hz), fun t1 u1 e1 e2 _ _ _ H11 s11' => ⟨z2 2 (by omega), fun b hb => ?_⟩, fun e => ?_⟩
          rotate_left
          · rw [show S.two (some u) (some z) = true by simp [Std.two, Std.has, hz, hu2, Ne.symm ezu]] at e; cases e
          cases e1
          cases e2
          rw [loss_comm S u z]
          have s11 := s10.trans s11'
          have s12 := s11.trans (same_upd (o := .lst [.int (S.loss z u), .int (S.loss z u)]) hb)
          have rw2 : Rp 2 1 (.list [.int (S.loss z u), .int (S.loss z u)]) := rp_ints2 (loss_small hk hz hu2 ezu)
          -- repr
          refine ⟨_, rfl, _, .list [.int (S.loss z u), .int (S.loss z u)], rfl, .lst upd_same (.cons (.int _) (.cons (.int _) .nil)), .inr ⟨_, rfl⟩, rw2.sh, Nat.le_trans rw2.dp (by omega), rw2.fits (by omega), ?_⟩
          refine ⟨_, rfl, _, rfl, z2 2 (by omega), fun c hc => ?_⟩
          have s13 := s12.trans (same_upd (o := .lst [.int (S.due (.join z u)), .int (S.due (.join z u))]) hc)
          refine ⟨_, .list [.int (S.loss z u), .int (S.loss z u)], rfl, .lst upd_same (.cons (.int _) (.cons (.int _) .nil)), .inr ⟨_, rfl⟩, rw2.sh, Nat.le_trans rw2.dp (by omega), rw2.fits (by omega), rfl, _, rfl, ?_⟩
          rw [decide_eq_true rfl]
          refine iteF ⟨_, rfl, _, _, rfl, rfl, _, rfl, ?_⟩
          have hnn := loss_nn hk hz hu2 ezu
          rw [decide_eq_false (show ¬ S.due (.join z u) < 0 from fun h => by have h' : S.loss z u < 0 := h; omega)]
          refine iteF ?_
          revert s13
          generalize upd (upd H11 b (.lst [.int (S.loss z u), .int (S.loss z u)])) c (.lst [.int (S.due (.join z u)), .int (S.due (.join z u))]) = H13
          intro s13
          -- heavy
          refine ⟨_, rfl, _, rfl, _, _, S, n, z, rfl, hE.ext (Ext.of s13), hx.ext (Ext.of s13), hg.inr z hz, len20 hz, fun H14 s14' => ?_⟩
          have s14 := s13.trans s14'
          refine ⟨_, rfl, _, rfl, _, _, S, n, u, rfl, hE.ext (Ext.of s14), hy.ext (Ext.of s14), hg.inr u hu2, len20 hu2, fun H15 s15' => ⟨_, _, rfl, ?_⟩⟩
          have s15 := s14.trans s15'
          rw [max_is]
          -- less
          refine ⟨_, rfl, tt, rfl, ⟨_, SqT.of (s15 _ _ ht)⟩, fun D hD => ?_⟩
          refine lc_tupG (K := K) (a := tt) (xs := xs) (fun i acc => ∃ m, acc = List.replicate m (.int 1) ∧ (m = 0 → ∀ q ∈ S.tops.take i, q ∉ [z, u] → ¬ S.wt q < max (S.wt z) (S.wt u))) (SqT.of (s15 _ _ ht)) hD (by rw [htl.length]; omega) ⟨0, rfl, fun _ q hq => absurd hq (by simp)⟩ ?_ ?_
          · intro i2 v H16 acc hi2 s16' hacc Qe Qn he2 hn2
            obtain ⟨m, em, hm⟩ := hacc
            obtain ⟨q, eq, hv⟩ := htl.get hi2
            have hqm := List.mem_of_getElem? eq
            have s16 := s15.trans s16'
            have tk := take_succ eq
            refine ⟨rfl, _, rfl, _, rfl, _, rfl, z2 2 (by omega), fun d hd => ?_⟩
            have sd := same_upd (o := .tup [x, y]) hd
            have s17 := s16.trans sd
            refine ⟨q, [z, u], hv.ext (Ext.of s17), ⟨d, _, rfl, upd_same, .cons (hx.ext (Ext.of s17)) (.cons (hy.ext (Ext.of s17)) .nil)⟩, _, rfl, ?_⟩
            by_cases hq : q ∈ [z, u]
            · rw [decide_eq_true hq]
              refine iteF (iteF (hn2 _ ⟨m, em, fun e q' hq' => ?_⟩ sd))
              rw [tk] at hq'
              rcases List.mem_append.mp hq' with h | h
              · exact hm e q' h
              · rw [List.mem_singleton.mp h]
                exact fun h => absurd hq h
            · rw [decide_eq_false hq]
              refine iteT ⟨_, rfl, _, rfl, _, _, S, n, q, rfl, hE.ext (Ext.of s17), hv.ext (Ext.of s17), hg.inr q hqm, len20 hqm, fun H18 s18' => ⟨_, rfl, _, _, rfl, rfl, _, rfl, ?_⟩⟩
              have sd2 := sd.trans s18'
              by_cases hlt : S.wt q < max (S.wt z) (S.wt u)
              · rw [decide_eq_true hlt]
                refine iteT (he2 _ _ ⟨m + 1, by rw [em, ← List.replicate_succ'], fun e => absurd e (by omega)⟩ sd2)
              · rw [decide_eq_false hlt]
                refine iteF (hn2 _ ⟨m, em, fun e q' hq' => ?_⟩ sd2)
                rw [tk] at hq'
                rcases List.mem_append.mp hq' with h | h
                · exact hm e q' h
                · rw [List.mem_singleton.mp h]
                  exact fun _ => hlt
          · intro acc H16 hacc s16' hDs
            obtain ⟨m, em, hm⟩ := hacc
            rw [htl.length, List.take_length] at hm
            have s16 := s15.trans s16'
            have hrep : ∀ m : Nat, DqA H16 (List.replicate m (V.int 1)) (List.replicate m (.int 1)) := fun m => by
              induction m with
              | zero => exact .nil
              | succ m ih => exact .cons (.int 1) ih
            have hsh : ∀ m : Nat, PyData.canLayAll0 (List.replicate m (.int 1)) = true ∧ PyData.depthAll (List.replicate m (.int 1)) = 0 := fun m => by
              induction m with
              | zero => simp [PyData.canLayAll0, PyData.depthAll]
              | succ m ih => simp [List.replicate_succ, PyData.canLayAll0, PyData.canLay0, PyData.depthAll, PyData.depth, ih]
            refine ⟨_, rfl, z2 0 (by omega), fun q2 hq2 => ?_⟩
            have s17 := s16.trans (same_upd (o := .lst []) hq2)
            refine ⟨.list (List.replicate m (.int 1)), .list [], .lst (same_upd hq2 _ _ (by rw [hDs, em])) (DqA.same (same_upd hq2) _ _ (hrep m)), .lst upd_same .nil, shaped_of (by simp [PyData.canLay0, hsh]) (by simp [PyData.depth, hsh]), by decide, _, rfl, ?_⟩
            by_cases em0 : m = 0
            · have e1 : PyData.eqv (.list (List.replicate m (.int 1))) (.list []) = true := by rw [em0]; rfl
              rw [e1]
              have e0 := loss_none hk hz hu2 ezu (hm em0)
              refine iteT ⟨_, rfl, rfl, _, rfl, ?_⟩
              rw [decide_eq_true (show V.int (S.due (.join z u)) = V.int 0 from congrArg V.int e0)]
              exact iteF ⟨_, _, _, _, _, _, rfl, s17⟩
            · have e1 : PyData.eqv (.list (List.replicate m (.int 1))) (.list []) = false := by
                cases m with
                | zero => exact absurd rfl em0
                | succ m => simp [List.replicate_succ, PyData.eqv, PyData.eqvAll]
              rw [e1]
              exact iteF (iteF ⟨_, _, _, _, _, _, rfl, s17⟩)
      · rintro σ H7 ⟨v4, v5, v6, v7, v8, v9, rfl, s7⟩
        exact ⟨_, _, _, _, _, _, _, rfl, s7⟩
    · rintro σ H1 ⟨v3, v4, v5, v6, v7, v8, v9, rfl, s1⟩
      exact k _ s1
end
end JB
set_option Elab.async false
set_option linter.all false
set_option maxRecDepth 100000
set_option maxHeartbeats 4000000
/-! Lambdas that die by an error of the book. -/
namespace JB
open PySem PySem.Spec PyProof.Rows L2
/-! ### cells of a frame -/
theorem cf_apart : ∀ (names : List (Str × NameKind)) (n : Nat) (acc : List (Str × Addr)), acc.Pairwise (fun x y => x.2 ≠ y.2) → (∀ x ∈ acc, x.2 < n) → (cellsFrom n names acc).Pairwise (fun x y => x.2 ≠ y.2)
  | [], _, _, h, _ => h
  | (m, k) :: r, n, acc, h, hl => by
    unfold cellsFrom
    split
    · refine cf_apart r (n + 1) _ (List.pairwise_cons.mpr ⟨fun y hy e => ?_, h⟩) fun x hx => ?_
      · have e : n = y.2 := e
        exact Nat.ne_of_lt (hl y hy) e.symm
      · rcases List.mem_cons.mp hx with e | hx
        · rw [e]; exact Nat.lt_succ_self _
        · exact Nat.lt_succ_of_lt (hl x hx)
    · exact cf_apart r n acc h hl
theorem cf_keys : ∀ (names : List (Str × NameKind)) (n : Nat) (acc : List (Str × Addr)), (names.map (·.1)).Nodup → (acc.map (·.1)).Nodup → (∀ x ∈ names.map (·.1), x ∉ acc.map (·.1)) → ((cellsFrom n names acc).map (·.1)).Nodup
  | [], _, _, _, h, _ => h
  | (m, k) :: r, n, acc, hn, h, hd => by
    have hn' := List.nodup_cons.mp hn
    unfold cellsFrom
    split
    · refine cf_keys r (n + 1) _ hn'.2 (List.nodup_cons.mpr ⟨hd m (by simp), h⟩) fun x hx hm => ?_
      rcases List.mem_cons.mp hm with e | hm
      · rw [e] at hx
        exact hn'.1 hx
      · exact hd x (by simp only [List.map_cons]; exact List.mem_cons_of_mem _ hx) hm
    · exact cf_keys r n acc hn'.2 h fun x hx => hd x (by simp only [List.map_cons]; exact List.mem_cons_of_mem _ hx)
theorem lookup_of_mem {cl : List (Str × Addr)} : (cl.map (·.1)).Nodup → ∀ {y : Str} {c : Addr}, (y, c) ∈ cl → cl.lookup y = some c := by
  induction cl with
  | nil => intro _ y c h; cases h
  | cons q r ih =>
    intro hn y c h
    have hn' := List.nodup_cons.mp hn
    rcases List.mem_cons.mp h with e | h'
    · rw [← e]
      simp [List.lookup]
    · replace h := h'
      clear h'
      obtain ⟨k, v⟩ := q
      have hm : k ∉ r.map (·.1) := hn'.1
      have ne : y ≠ k := fun e => hm (by rw [← e]; exact List.mem_map_of_mem (f := (·.1)) h)
      have e2 : (y == k) = false := beq_eq_false_iff_ne.mpr ne
      simp only [List.lookup, e2]
      exact ih hn'.2 h
structure CellsX (cl : List (Str × Addr)) : Prop where
  inj : ∀ y z c, cl.lookup y = some c → cl.lookup z = some c → y = z
  pair : ∀ c ∈ lamCells cl, ∃ y, cl.lookup y = some c
theorem cellsX_of {names : List (Str × NameKind)} {n : Nat} (h : (names.map (·.1)).Nodup) : CellsX (cellsFrom n names []) := by
  have h1 := cf_apart names n [] .nil (fun x hx => absurd hx (by simp))
  have h2 := cf_keys names n [] h (by simp) fun x _ hm => absurd hm (by simp)
  refine ⟨fun y z c e1 e2 => name_of_addr h1 (PySem.mem_of_lookup e1) (PySem.mem_of_lookup e2), fun c hc => ?_⟩
  obtain ⟨q, hq, rfl⟩ := List.mem_map.mp hc
  exact ⟨q.1, lookup_of_mem h2 hq⟩
def lamYB (N : List Str) (scope : Scope) : Bool :=
  decide (scope.kind = .function) && !scope.isCoroutine && !scope.isGenerator && (scope.names.all fun y => !decide (y.2 = .cell)) && N.all fun y => decide (scope.names.lookup y = some .free)
section
variable {cl : List (Str × Addr)} {scope : Scope}
theorem clo_sub (hf : ∀ y ∈ scope.names, y.2 = .free → ∃ c, cl.lookup y.1 = some c) {y : Str} {c : Addr} (e : (cloFrom cl scope.names []).lookup y = some c) : cl.lookup y = some c := by
  rcases cloFrom_mem (PySem.mem_of_lookup e) with hm | ⟨h1, h2⟩
  · cases hm
  · obtain ⟨c1, hc⟩ := hf _ h1 rfl
    have hc : cl.lookup y = some c1 := hc
    have e2 : c = c1 := by
      rw [h2, hc] <;> rfl
    rw [e2]
    exact hc
theorem clo_cells (hf : ∀ y ∈ scope.names, y.2 = .free → ∃ c, cl.lookup y.1 = some c) : ∀ c ∈ lamCells (cloFrom cl scope.names []), c ∈ lamCells cl := fun c hc => by
  obtain ⟨q, hq, rfl⟩ := List.mem_map.mp hc
  rcases cloFrom_mem (n := q.1) (c := q.2) hq with hm | ⟨h1, h2⟩
  · cases hm
  · obtain ⟨c1, hc⟩ := hf _ h1 rfl
    have hc : cl.lookup q.1 = some c1 := hc
    have e2 : q.2 = c1 := by
      rw [h2, hc] <;> rfl
    rw [e2]
    exact lookup_cell hc
theorem lamY_by {N : List Str} (h : lamYB N scope = true) (cx : CellsX cl) (hf : ∀ y ∈ scope.names, y.2 = .free → ∃ c, cl.lookup y.1 = some c) : LamY N scope (cloFrom cl scope.names []) := by
  unfold lamYB at h
  simp only [Bool.and_eq_true, Bool.not_eq_true', decide_eq_true_eq, decide_eq_false_iff_not, List.all_eq_true] at h
  obtain ⟨⟨⟨⟨h1, h2⟩, h3⟩, h4⟩, h5⟩ := h
  exact ⟨h1, h2, h3, h4, fun y hy e => mem_lookup (cloFrom_has (cells := cl) (acc := []) (show (y.1, NameKind.free) ∈ scope.names by rw [← e]; exact hy)),
    fun y z c e1 e2 => cx.inj y z c (clo_sub hf e1) (clo_sub hf e2), h5⟩
end
/-! ### what stays -/
/-- all but tables and frozen things -/
def Keeps (H H' : Hp) : Prop := ∀ b o, H b = some o → (∀ ps, o ≠ .tbl ps) → (∀ ob u, o ≠ .frz ob u) → H' b = some o
theorem Keeps.ext {H H' : Hp} (e : Keeps H H') : Ext H H' := fun b xs h => e b _ h (fun _ z => by cases z) fun _ _ z => by cases z
theorem Keeps.kn {H H' : Hp} (e : Keeps H H') {x : V} {t : String} (h : Kn H x t) : Kn H' x t := by
  cases h with
  | non => exact .non
  | bl b => exact .bl b
  | int i => exact .int i
  | str x => exact .str x
  | lst h => exact .lst (e _ _ h (fun _ z => by cases z) fun _ _ z => by cases z)
  | tup h => exact .tup (e _ _ h (fun _ z => by cases z) fun _ _ z => by cases z)
  | dic h => exact .dic (e _ _ h (fun _ z => by cases z) fun _ _ z => by cases z)
theorem Keeps.th {H H' : Hp} (e : Keeps H H') {v : V} {o : Option (List Int)} (h : Th H v o) : Th H' v o := by
  cases h with
  | yes h1 h2 => exact .yes (h1.ext e.ext) h2
  | other h1 h2 => exact .other (e.kn h1) h2
  | odd h1 h2 h3 h4 => exact .odd (e.ext _ _ h1) (fun x hx => (h2 x hx).elim fun t k => ⟨t, e.kn k⟩) h3 h4
theorem Keeps.book {K : PySem.W.Frag} {H H' : Hp} (e : Keeps H H') {p : Addr} {n : Nat} {S : Std} (h : BookK K H p n S) : BookK K H' p n S := by
  obtain ⟨dx, t, pre, sv, h1, h2, h3, s, dy, dd, wc, tn, h4, h5, h6, h7⟩ := h
  exact ⟨dx, t, pre, sv, e _ _ h1 (fun _ z => by cases z) (fun _ _ z => by cases z), e.ext _ _ h2, h3, s, dy, dd, wc, tn, h4, e _ _ h5 (fun _ z => by cases z) (fun _ _ z => by cases z), h6.ext e.ext, h7.ext e.ext⟩
theorem ExtN.keeps {H H' : Hp} (e : LamX.ExtN H H') : Keeps H H' := fun b o h n _ => e b o h n
/-! ### a lambda that dies -/
/-- the cells are told, with these names' things -/
def Tell (cl : List (Str × Addr)) (vals : List (Str × V)) (H : Hp) : Prop := (∀ c ∈ lamCells cl, ∃ o v, H c = some (.frz o (.own 0)) ∧ o.data = .cell v) ∧ ∀ q ∈ vals, ∀ c, cl.lookup q.1 = some c → CellAt H c q.2
theorem Tell.same {cl : List (Str × Addr)} {vals : List (Str × V)} {H H' : Hp} (s : Same H H') (h : Tell cl vals H) : Tell cl vals H' :=
  ⟨fun c hc => let ⟨o, v, h1, h2⟩ := h.1 c hc; ⟨o, v, s _ _ h1, h2⟩, fun q hq c hc => let ⟨o, u, h1, h2⟩ := h.2 q hq c hc; ⟨o, u, s _ _ h1, h2⟩⟩
def Dies (P : Program) (w : World) (K : PySem.W.Frag) (mg : Str → Option Value) (base : Heap) (cl : List (Str × Addr)) (vals : List (Str × V)) (k : Nat) (C fl : String) (x : V) (f : Addr) (H : Hp) : Prop :=
  ∀ H2, LamX.ExtN H H2 → Tell cl vals H2 → ToldOk P w K mg base k C fl x f H2
theorem Dies.ext {P : Program} {w : World} {K : PySem.W.Frag} {mg : Str → Option Value} {base : Heap} {cl : List (Str × Addr)} {vals : List (Str × V)} {k : Nat} {C fl : String} {x : V} {f : Addr} {H H' : Hp} (e : LamX.ExtN H H') (h : Dies P w K mg base cl vals k C fl x f H) :
    Dies P w K mg base cl vals k C fl x f H' := fun H2 e2 t => h H2 (e.trans e2) t
theorem LamAt.extN {params : Arguments} {body : Expr} {scope : Scope} {qual : Str} {clos : List (Str × Addr)} {H H' : Hp} {f : Addr} (e : LamX.ExtN H H') (h : LamAt params body scope qual clos H f) : LamAt params body scope qual clos H' f := by
  obtain ⟨dV, doc, pm, c', ctv, h1, h2, h3⟩ := h
  refine ⟨dV, doc, pm, c', ctv, e _ _ h1 (fun _ z => by cases z), e _ _ h2 LamX.codeO_ne, ?_⟩
  rcases h3 with z | ⟨z, t, e1, e2⟩
  · exact .inl z
  · exact .inr ⟨z, t, e1, e _ _ e2 fun _ z => by cases z⟩
section
variable {P : Program} {w : World} {K : PySem.W.Frag} {mg : Str → Option Value} {base : Heap} {cl : List (Str × Addr)} {vals : List (Str × V)} {k : Nat} {C fl : String} {x : V} {f : Addr} {H : Hp}
theorem dies_lam {params : Arguments} {body : Expr} {scope : Scope} {qual : Str} {tb : XK → TE} (N : List Str) (vs : List (Str × V)) (hN : vs.map (·.1) = N) (hsub : ∀ q ∈ vs, q ∈ vals) (cx : CellsX cl) (hf : ∀ y ∈ scope.names, y.2 = .free → ∃ c, cl.lookup y.1 = some c) (hB : lamYB N scope = true)
    (B : BindY params body scope qual (cloFrom cl scope.names []))
    (hbody : ∀ (A : Around) (outer : List Env) (s : Shared) (H : Hp) (E : XK) (c' : Addr), Room k (A.deeper (lamEnvY qual scope (cloFrom cl scope.names []) s.heap.objs.size f c')) → PE (lamCy P w K mg base N qual scope (cloFrom cl scope.names []) f c' A outer s H E) body (tb E))
    (hl : LamAt params body scope qual (cloFrom cl scope.names []) H f) (hq : ∀ (H3 : Hp) (E : XK) (Q : VK), Keeps H H3 → BadE K C fl x H3 E → tb E (vs.map fun q => some q.2) H3 Q) : Dies P w K mg base cl vals (k + 1) C fl x f H := by
  intro H2 e2 tl
  subst hN
  have L := lamY_by hB cx hf
  have hl2 := hl.extN e2
  obtain ⟨dV, doc, pm, c', ctv, h1, h2, h3⟩ := id hl2
  have fzc : ∀ c ∈ lamCells (cloFrom cl scope.names []), ∃ o v, H2 c = some (.frz o (.own 0)) ∧ o.data = .cell v := fun c hc => tl.1 c (clo_cells hf c hc)
  refine ⟨_, _, _, _, h1, rfl, fnR_lam (N := vs.map (·.1)) (σ := vs.map fun q => some q.2) (tb := tb) L B (by simp) hbody, rfl, hl2, fzc, ?_, hq _ _ _ ?_ ?_⟩
  · intro i y v c e1 e3 e4
    rw [List.getElem?_map] at e1 e3
    cases eq : vs[i]? with
    | none => rw [eq] at e1; cases e1
    | some q =>
      rw [eq] at e1 e3
      cases e1
      cases e3
      exact tl.2 q (hsub q (List.mem_of_getElem? eq)) c (clo_sub hf e4)
  · intro b o hb hn hz
    have hb2 := e2 b o hb hn
    rw [drop_out]
    · exact hb2
    · intro hm
      obtain ⟨ob, v, hc, _⟩ := fzc b hm
      rw [hc] at hb2
      exact hz ob (.own 0) (Option.some.inj hb2).symm
  · intro H' d s' hd hn
    have hdn : d ∉ lamCells (cloFrom cl scope.names []) := fun hm => by
      rw [hn d hm] at hd
      cases hd
    refine ⟨rfl, fun b o hb => ?_, d, rfl, by rw [over_out hdn]; exact hd⟩
    by_cases hm : b ∈ lamCells (cloFrom cl scope.names [])
    · rw [over_in hm]
      exact hb
    · rw [over_out hm]
      exact s' b o (by rw [drop_out hm]; exact hb)
end
end JB
set_option Elab.async false
set_option linter.all false
set_option maxRecDepth 100000
set_option maxHeartbeats 4000000
/-! Comprehensions that make things: what is gathered is told with the heap, beside the list itself. -/
namespace JB
open PySem PySem.Spec PyProof.Rows L2
section
variable {K : PySem.W.Frag} {a : Addr} {xs : List V} {g : TG} {tt : L2.TT} {te : TE} {vs : List Nat} {σ : L2.St} {H1 : Hp} {D : Addr} {Qd : Hp → Prop}
def TurnD (g : TG) (tt : L2.TT) (te : TE) (vs : List Nat) (σ : L2.St) (x : V) (H : Hp) (Ge : V → Hp → Prop) (Gn : Hp → Prop) : Prop :=
  ∀ (Qe : VK) (Qn : Hp → Prop), (∀ y H4, Ge y H4 → Same H H4 → Qe y H4) → (∀ H4, Gn H4 → Same H H4 → Qn H4) →
    g x (wipe σ vs) H fun σ2 H2 => wipe σ2 vs = wipe σ vs ∧ tt σ2 H2 fun b H3 => if b = true then te σ2 H3 Qe else Qn H3
theorem turnD_step {i : Nat} {x : V} {H : Hp} {G : Nat → List V → Hp → Prop} (hm : ∀ i acc H H', But [D] H H' → G i acc H → G i acc H') (hD : H1 D = none) (hi : i < 1000)
    (hs : ∀ acc, H D = some (.lst acc) → Same H1 H → G i acc H → TurnD g tt te vs σ x H (fun y H4 => G (i + 1) (acc ++ [y]) H4) (fun H4 => G (i + 1) acc H4)) (hP : ∃ acc, H D = some (.lst acc) ∧ acc.length ≤ i ∧ Same H1 H ∧ G i acc H) :
    g x (wipe σ vs) H fun σ2 H2 => wipe σ2 vs = wipe σ vs ∧ tt σ2 H2 fun b H3 =>
      if b = true then te σ2 H3 fun y H4 => ∃ acc, H4 D = some (.lst acc) ∧ acc.length < sizeLine ∧ (∃ acc', upd H4 D (.lst (acc ++ [y])) D = some (.lst acc') ∧ acc'.length ≤ i + 1 ∧ Same H1 (upd H4 D (.lst (acc ++ [y]))) ∧ G (i + 1) acc' (upd H4 D (.lst (acc ++ [y]))))
      else ∃ acc', H3 D = some (.lst acc') ∧ acc'.length ≤ i + 1 ∧ Same H1 H3 ∧ G (i + 1) acc' H3 := by
  obtain ⟨acc, h1, h2, h3, h4⟩ := hP
  refine hs acc h1 h3 h4 _ _ (fun y H4 hg s4 => ⟨acc, s4 _ _ h1, by rw [sizeLine_eq]; omega, acc ++ [y], upd_same, by simp; omega, fun b o e => ?_, hm _ _ _ _ but_upd hg⟩) (fun H4 hg s4 => ⟨acc, s4 _ _ h1, by omega, h3.trans s4, hg⟩)
  rw [upd_ne (ne_of_none e hD)]
  exact s4 _ _ (h3 _ _ e)
theorem lc_tupD (G : Nat → List V → Hp → Prop) (hm : ∀ i acc H H', But [D] H H' → G i acc H → G i acc H') (hx : SqT K H1 a xs) (hD : H1 D = none) (hlen : xs.length ≤ 1000) (h0 : G 0 [] (upd H1 D (.lst [])))
    (hs : ∀ i x H acc, xs[i]? = some x → H D = some (.lst acc) → Same H1 H → G i acc H → TurnD g tt te vs σ x H (fun y H4 => G (i + 1) (acc ++ [y]) H4) (fun H4 => G (i + 1) acc H4))
    (hd : ∀ acc H, G xs.length acc H → acc.length ≤ xs.length → Same H1 H → H D = some (.lst acc) → Qd H) :
    ∃ W : Nat → Nat → Hp → Prop, (∃ m, W 0 m (upd H1 D (.lst []))) ∧ ∀ i m H, W i m H →
      ((Itt K a).stop i H ∧ Qd H) ∨ ((Itt K a).go i H ∧ ∃ Nx : Hp → Prop, (∀ H', Nx H' → ∃ m', m' < m ∧ W (i + 1) m' H') ∧ ∀ x H', (Itt K a).yld i H x H' → g x (wipe σ vs) H' fun σ2 H2 => wipe σ2 vs = wipe σ vs ∧ tt σ2 H2 fun b H3 =>
        if b = true then te σ2 H3 fun y H4 => ∃ acc, H4 D = some (.lst acc) ∧ acc.length < sizeLine ∧ Nx (upd H4 D (.lst (acc ++ [y]))) else Nx H3) := by
  refine lc_tup (K := K) (a := a) (xs := xs) (fun i H => ∃ acc, H D = some (.lst acc) ∧ acc.length ≤ i ∧ Same H1 H ∧ G i acc H) ⟨[], upd_same, Nat.le_refl _, same_upd hD, h0⟩ (fun i H _ ⟨_, _, _, s, _⟩ => Same.tup s hx) (fun i x H hi hP => ?_) (fun H ⟨acc, h1, h2, h3, h4⟩ => hd acc H h4 h2 h3 h1)
  have hi' : i < 1000 := Nat.lt_of_lt_of_le (List.getElem?_eq_some_iff.mp hi).1 hlen
  exact turnD_step hm hD hi' (fun acc e s h => hs i x H acc hi e s h) hP
theorem lc_rangeD {lo : Int} {n : Nat} (G : Nat → List V → Hp → Prop) (hm : ∀ i acc H H', But [D] H H' → G i acc H → G i acc H') (hD : H1 D = none) (hlen : n ≤ 1000) (h0 : G 0 [] (upd H1 D (.lst [])))
    (hs : ∀ i H acc, i < n → H D = some (.lst acc) → Same H1 H → G i acc H → TurnD g tt te vs σ (.int (lo + i)) H (fun y H4 => G (i + 1) (acc ++ [y]) H4) (fun H4 => G (i + 1) acc H4))
    (hd : ∀ acc H, G n acc H → acc.length ≤ n → Same H1 H → H D = some (.lst acc) → Qd H) :
    ∃ W : Nat → Nat → Hp → Prop, (∃ m, W 0 m (upd H1 D (.lst []))) ∧ ∀ i m H, W i m H →
      ((Itr lo n).stop i H ∧ Qd H) ∨ ((Itr lo n).go i H ∧ ∃ Nx : Hp → Prop, (∀ H', Nx H' → ∃ m', m' < m ∧ W (i + 1) m' H') ∧ ∀ x H', (Itr lo n).yld i H x H' → g x (wipe σ vs) H' fun σ2 H2 => wipe σ2 vs = wipe σ vs ∧ tt σ2 H2 fun b H3 =>
        if b = true then te σ2 H3 fun y H4 => ∃ acc, H4 D = some (.lst acc) ∧ acc.length < sizeLine ∧ Nx (upd H4 D (.lst (acc ++ [y]))) else Nx H3) := by
  refine lc_range (lo := lo) (n := n) (fun i H => ∃ acc, H D = some (.lst acc) ∧ acc.length ≤ i ∧ Same H1 H ∧ G i acc H) ⟨[], upd_same, Nat.le_refl _, same_upd hD, h0⟩ (fun i H hi hP => ?_) (fun H ⟨acc, h1, h2, h3, h4⟩ => hd acc H h4 h2 h3 h1)
  exact turnD_step hm hD (by omega) (fun acc e s h => hs i H acc hi e s h) hP
end
end JB
set_option Elab.async false
set_option linter.all false
set_option maxRecDepth 100000
set_option maxHeartbeats 4000000
namespace JB
open PySem PySem.Spec PyProof.Rows L2
/-- the code objects of the two defs that make lambdas, and their tables -/
structure Codes (K : PySem.W.Frag) (mg : Str → Option Value) (base : Heap) (c1 P1 c2 P2 : Addr) : Prop where
  k1 : ∀ oc od fd osl, K.lookup (He.ga K "_law_doors_right") = some ⟨oc, od, .func fd, osl⟩ → fd.code = .ref c1
  k2 : ∀ oc od fd osl, K.lookup (He.ga K "_law_bounds_right") = some ⟨oc, od, .func fd, osl⟩ → fd.code = .ref c2
  t1 : LamX.TabB base mg c1 P1
  t2 : LamX.TabB base mg c2 P2
  ne : P1 ≠ P2
abbrev q1 : Str := ("_law_doors_right" : Str) ++ ".<locals>." ++ "<lambda>"
abbrev q2 : Str := ("_law_bounds_right" : Str) ++ ".<locals>." ++ "<lambda>"
abbrev tabsT (P1 P2 : Addr) : List (Addr × Str) := [(P1, q1), (P2, q2)]
def spDoors (K : PySem.W.Frag) (P1 P2 : Addr) : Sp := fun vs H Q _ => ∃ p ev S n, vs = [.ref p, ev] ∧ BookK K H p n S ∧ EntryAt H ev S n ∧ Ok S n ∧ LamX.Tabs (tabsT P1 P2) H ∧ ∀ H', LamX.ExtN H H' → LamX.Tabs (tabsT P1 P2) H' → Q (.bl true) H'
def freeB (sc scope : Scope) : Bool := scope.names.all fun y => !decide (y.2 = .free) || decide (sc.names.lookup y.1 = some .cell)
theorem free_cell {sc scope : Scope} (h : freeB sc scope = true) : ∀ y ∈ scope.names, y.2 = .free → sc.names.lookup y.1 = some .cell := fun y hy e => by
  unfold freeB at h
  simp only [List.all_eq_true, Bool.or_eq_true, Bool.not_eq_true', decide_eq_true_eq, decide_eq_false_iff_not] at h
  exact (h y hy).resolve_left fun z => z e
theorem free_by {sc scope : Scope} (h : freeB sc scope = true) : ∀ y ∈ scope.names, y.2 = .free → sc.names.lookup y.1 = some .cell ∨ sc.names.lookup y.1 = some .free := fun y hy e => .inl (free_cell h y hy e)
theorem free_has {sc scope : Scope} {n : Nat} (h : freeB sc scope = true) : ∀ y ∈ scope.names, y.2 = .free → ∃ c, (cellsFrom n sc.names []).lookup y.1 = some c := fun y hy e => cell_has (free_cell h y hy e)
mutual
theorem Dq.keeps {H H' : Hp} (s : Keeps H H') : ∀ (d : PyData) (v : V), Dq H v d → Dq H' v d
  | .none, _, h => by cases h; exact .non
  | .bool b, _, h => by cases h; exact .bl b
  | .int i, _, h => by cases h; exact .int i
  | .str x, _, h => by cases h; exact .str x
  | .list ds, _, h => by
    cases h with
    | lst e t => exact .lst (s _ _ e (fun _ z => by cases z) fun _ _ z => by cases z) (DqA.keeps s ds _ t)
  | .tuple ds, _, h => by
    cases h with
    | tup e t => exact .tup (s _ _ e (fun _ z => by cases z) fun _ _ z => by cases z) (DqA.keeps s ds _ t)
  | .dict _, _, h => by
    cases h with
    | dic e => exact .dic (s _ _ e (fun _ z => by cases z) fun _ _ z => by cases z)
theorem DqA.keeps {H H' : Hp} (s : Keeps H H') : ∀ (ds : List PyData) (vs : List V), DqA H vs ds → DqA H' vs ds
  | [], _, h => by cases h; exact .nil
  | d :: ds, _, h => by
    cases h with
    | cons h1 h2 => exact .cons (Dq.keeps s d _ h1) (DqA.keeps s ds _ h2)
end
/-- a thing that is told again: its data, shown shortly -/
def Told (H : Hp) (v : V) : Prop := ∃ dx, Dq H v dx ∧ Rp 1000 8 dx
theorem Told.keeps {H H' : Hp} (s : Keeps H H') {v : V} (h : Told H v) : Told H' v := let ⟨d, a, b⟩ := h; ⟨d, Dq.keeps s d _ a, b⟩
def OddN (H : Hp) (v : V) : Prop := Told H v ∧ (∃ ty, Kn H v ty) ∧ isB v 1 1000000000 = false
theorem OddN.keeps {H H' : Hp} (s : Keeps H H') {v : V} (h : OddN H v) : OddN H' v := ⟨h.1.keeps s, let ⟨t, k⟩ := h.2.1; ⟨t, s.kn k⟩, h.2.2⟩
theorem rp_non : Rp 0 0 .none := ⟨rfl, rfl, by simp [PyData.bulk], by simp [PyData.depth]⟩
theorem rp_bl (b : Bool) : Rp 0 0 (.bool b) := ⟨rfl, rfl, by simp [PyData.bulk], by simp [PyData.depth]⟩
theorem rp_dic : Rp 0 1 (.dict []) := ⟨by simp [PyData.showable, PyData.showableKv], by simp [PyData.leavesShort, PyData.leavesShortKv], by simp [PyData.bulk, PyData.bulkKv], by simp [PyData.depth, PyData.depthKv]⟩
theorem rp_nil : Rp 0 1 (.list []) := (rp_list (n := 0) (k := 0) (ds := []) fun d hd => absurd hd (by simp)).mono (by simp) (Nat.le_refl _)
theorem rp_one {n k : Nat} {d : PyData} (h : Rp n k d) : Rp (n + 1) (k + 1) (.tuple [d]) := (rp_tuple (ds := [d]) fun x hx => by rw [List.mem_singleton.mp hx]; exact h).mono (by simp) (Nat.le_refl _)
theorem rp_lst1 {n k : Nat} {d : PyData} (h : Rp n k d) : Rp (n + 1) (k + 1) (.list [d]) := (rp_list (ds := [d]) fun x hx => by rw [List.mem_singleton.mp hx]; exact h).mono (by simp) (Nat.le_refl _)
/-- a word and a thing -/
theorem rp_told {n k : Nat} {d : PyData} {x : Str} (hx : (PyData.str x).leavesShort 40 = true) (hl : x.cps.size ≤ 20) (h : Rp n k d) : Rp (2 * (n + 21)) (k + 1) (.tuple [.str x, d]) := by
  refine (rp_tuple (n := n + 20) (k := k) (ds := [.str x, d]) fun y hy => ?_).mono (by simp) (Nat.le_refl _)
  simp only [List.mem_cons, List.not_mem_nil, or_false] at hy
  rcases hy with rfl | rfl
  · exact ⟨rfl, hx, by simp only [PyData.bulk]; omega, by simp [PyData.depth]⟩
  · exact h.mono (by omega) (Nat.le_refl _)
theorem fz_same {H1 H2 : Hp} {cs : List Addr} (out : ∀ b, b ∉ cs → H2 b = H1 b) (non : ∀ b ∈ cs, H1 b = none) : Same H1 H2 := fun b o e => by
  rw [out b fun m => by rw [non b m] at e; cases e]
  exact e
theorem fz_back {H1 H2 H' : Hp} {cs : List Addr} (out : ∀ b, b ∉ cs → H2 b = H1 b) (non : ∀ b ∈ cs, H1 b = none) (s : Same H2 H') : Same H1 (dropA H' cs) := fun b o e => by
  have hb : b ∉ cs := fun m => by rw [non b m] at e; cases e
  rw [drop_out hb]
  exact s b o (by rw [out b hb]; exact e)
section
variable {K : PySem.W.Frag} {H3 : Hp} {E : XK} {Q : VK} {p : Addr} {n : Nat} {S : Std} {v : V}
theorem BookAt.ins {H : Hp} (hB : BookK K H p n S) : ∃ dx t, H p = some (.ins (cJ K) dx (bF (.ref t))) := let ⟨dx, t, _, _, h, _⟩ := hB; ⟨dx, t, h⟩
theorem rd_come {σ : L2.St} {tA : TE} (hB : BookK K H3 p n S) (hg : Good S) (hn : n ≤ 1000) (h0 : σ[0]? = some (some (.ref p))) (hA : ∀ Q : VK, Q v H3 → tA σ H3 Q) (hk : ∃ ty, Kn H3 v ty) (hb : isB v 1 1000000000 = false) (bad : BadE K "BadNumber" "given" v H3 E) :
    tMeth (cJ K) "come" (spBCome K) [] E (tVar 0) (tCons tA tNil) σ H3 Q := by
  obtain ⟨dx, t, hp⟩ := hB.ins
  obtain ⟨ty, hk⟩ := hk
  exact ⟨_, h0, p, dx, _, rfl, hp, rfl, hA _ ⟨p, n, S, v, ty, rfl, hB, hg, hn, hk, fun _ => bad, (fun e => by rw [hb] at e; cases e), (fun e => by rw [hb] at e; cases e), (fun _ _ e => by rw [hb] at e; cases e)⟩⟩
end
theorem bind0 {params : Arguments} {body : Expr} {scope : Scope} {qual : Str} {clos : List (Str × Addr)} (hd : params.defaults.isEmpty = true) (h : ∀ doc pm cdv ct, bindArgs (PySem.W.kdv_fn "<lambda>" qual params (.expr body) scope clos .none doc pm cdv ct) ⟨[], []⟩ = pure []) : BindY params body scope qual clos :=
  ⟨fun _ => h, fun z => by rw [hd] at z; cases z⟩
theorem bind1 {params : Arguments} {body : Expr} {scope : Scope} {qual : Str} {clos : List (Str × Addr)} (x : Str) (hd : params.defaults.isEmpty = false) (hx : scope.names.lookup x = some .local)
    (h : ∀ t doc pm cdv ct, ∃ k : Option (Array Value) → Sem (List (Str × Value)), bindArgs (PySem.W.kdv_fn "<lambda>" qual params (.expr body) scope clos (.ref t) doc pm cdv ct) ⟨[], []⟩ = seqItems? (.ref t) >>= k ∧ ∀ v : Value, k (some #[v]) = pure [(x, v)]) : BindY params body scope qual clos := by
  refine ⟨fun z => ?_, fun _ => ?_⟩
  · rw [hd] at z; cases z
  · exact ⟨x, hx, h⟩
section
variable {P : Program} {w : World} {K : PySem.W.Frag} {mg : Str → Option Value} {base : Heap}
abbrev XD (P : Program) (w : World) (K : PySem.W.Frag) (mg : Str → Option Value) (base : Heap) (c1 : Addr) (A : Around) (outer : List Env) (s : Shared) (H : Hp) : Cx :=
  (cxOf CX0 P w K mg base n_law_doors_right "_law_doors_right" (defScope s_law_doors_right) (He.ga K "_law_doors_right") (.ref c1) A outer s H E0).nox
abbrev stD (i : Nat) : Stmt := (defBody s_law_doors_right).getD i (.Pass ⟨0, 0, 0, 0⟩)
abbrev clD (s : Shared) : List (Str × Addr) := cellsFrom (s.heap.objs.size + 1) (defScope s_law_doors_right).names []
theorem cxD (s : Shared) : CellsX (clD s) := cellsX_of (by decide +kernel)
theorem hu1D {P1 P2 : Addr} (ne : P1 ≠ P2) : ∀ p ∈ tabsT P1 P2, p.1 = P1 → p.2 = q1 := fun q hq e => by
  rcases List.mem_cons.mp hq with z | hq
  · rw [z]
  · rw [List.mem_singleton.mp hq] at e
    exact absurd e.symm ne
theorem hu2D {P1 P2 : Addr} (ne : P1 ≠ P2) : ∀ p ∈ tabsT P1 P2, p.1 = P2 → p.2 = q2 := fun q hq e => by
  rcases List.mem_cons.mp hq with z | hq
  · rw [z] at e
    exact absurd e ne
  · rw [List.mem_singleton.mp hq]
/-- weights that are none -/
theorem doors0 (T : Txt K mg) {c1 P1 c2 P2 : Addr} (C : Codes K mg base c1 P1 c2 P2) {A : Around} {outer : List Env} {s : Shared} {H : Hp} (hgd : A.guards = some []) (hr : Room 9 (A.deeper (envOfC "_law_doors_right" (defScope s_law_doors_right) s.heap.objs.size (He.ga K "_law_doors_right") (.ref c1))))
    {p t : Addr} {S : Std} {n : Nat} (hB : BookK K H p n S) (hk : Ok S n) : ∃ t0 : TS, PS (XD P w K mg base c1 A outer s H) (stD 0) t0 ∧
      ∀ (D : Ends) (H1 : Hp) (v2 v3 v4 v5 v6 v7 : Option V), LamX.ExtN H H1 → LamX.Tabs (tabsT P1 P2) H1 →
        (∀ (H2 : Hp) (w2 w3 w4 w5 w6 w7 : Option V), LamX.ExtN H H2 → LamX.Tabs (tabsT P1 P2) H2 → D.nx [some (.ref p), some (.ref t), w2, w3, w4, w5, w6, w7] H2) → t0 D [some (.ref p), some (.ref t), v2, v3, v4, v5, v6, v7] H1 := by
  have DA := (ok_are (P := P) (w := w) (base := base) T (k := 7))
  have DC := (ok_book_come (P := P) (w := w) (base := base) T).mono (show 4 ≤ 6 by omega)
  have nd := sc_law_doors_right.nd
  have hgd' := deeper_g hgd (envOfC "_law_doors_right" (defScope s_law_doors_right) s.heap.objs.size (He.ga K "_law_doors_right") (.ref c1))
  have cx := cxD s
  have hu1 := hu1D C.ne
  refine ⟨_, (ps_for PassesOwn.never rfl (pi_tup (pe_tup (pa_cons pe_non (pa_cons pe_int (pa_cons (pe_un un_neg pe_int) (pa_cons pe_bl (pa_cons pe_str (pa_cons (pe_tup (pa_cons pe_int pa_nil)) (pa_cons (pe_lst pa_nil) (pa_cons (pe_op op_add (pe_op op_pow pe_int pe_int) pe_int) (pa_cons pe_dnewK (pa_cons (pe_op op_pow pe_int pe_int) pa_nil)))))))))))) (pg_name (i := 2) nd rfl (Or.inr rfl))
    (pss_one (ps_if (pt_not (pt_val (pe_cgFz DA hgd' hr T.g_law_are (pa_cons (pe_lst (pa_cons (pe_lam0 (T := tabsT P1 P2) C.t1 rfl (List.Mem.head _) hu1 (free_by (sc := defScope s_law_doors_right) (by decide +kernel)) rfl rfl) (pa_cons (pe_lam1 (T := tabsT P1 P2) C.t1 rfl (List.Mem.head _) hu1 (free_by (sc := defScope s_law_doors_right) (by decide +kernel)) rfl rfl) pa_nil))) (pa_cons (pe_tup (pa_cons pe_str (pa_cons (pv 2) pa_nil))) pa_nil)) (fun _ => rfl) cx.pair))) (pss_one (ps_ret pe_bl)) pss_nil))), ?_⟩
  intro D H1 v2 v3 v4 v5 v6 v7 e1 T1 kn
  have z : ∀ m : Nat, m ≤ 20 → m ≤ sizeLine := fun m h => by rw [sizeLine_eq]; omega
  refine ⟨1, rfl, z 1 (by omega), fun a1 ha1 => ⟨z 0 (by omega), fun a2 ha2 => ?_⟩⟩
  refine ⟨_, _, rfl, rfl, ⟨by decide, by decide, by decide⟩, _, _, rfl, rfl, fun a3 ha3 => ⟨_, _, rfl, rfl, ⟨by decide, by decide, by decide⟩, z 10 (by omega), fun t1 ht1 => ?_⟩⟩
  have s1 := same_upd (o := .tup [.int 1]) ha1
  have s2 := same_upd (o := .lst []) ha2
  have s3 := same_upd (o := .dK []) ha3
  have s4 := same_upd (o := .tup [.non, .int 0, .int (-1), .bl true, .str "1", .ref a1, .ref a2, .int ((10 : Int) ^ (9 : Int).toNat + 1), .ref a3, .int ((10 : Int) ^ (30 : Int).toNat)]) ht1
  have h1 := s4 _ _ (s3 _ _ (s2 _ _ (upd_same (H := H1) (a := a1) (o := .tup [.int 1]))))
  have h2 := s4 _ _ (s3 _ _ (upd_same (H := upd H1 a1 (.tup [.int 1])) (a := a2) (o := .lst [])))
  have h3 := s4 _ _ (upd_same (H := upd (upd H1 a1 (.tup [.int 1])) a2 (.lst [])) (a := a3) (o := .dK []))
  have ht : upd (upd (upd (upd H1 a1 (.tup [.int 1])) a2 (.lst [])) a3 (.dK [])) t1 (.tup [.non, .int 0, .int (-1), .bl true, .str "1", .ref a1, .ref a2, .int ((10 : Int) ^ (9 : Int).toNat + 1), .ref a3, .int ((10 : Int) ^ (30 : Int).toNat)]) t1 = _ := upd_same
  have e2 := e1.trans (LamX.ExtN.of (((s1.trans s2).trans s3).trans s4))
  have T2 := T1.ext (((s1.trans s2).trans s3).trans s4)
  revert h1 h2 h3 ht e2 T2
  generalize upd (upd (upd (upd H1 a1 (.tup [.int 1])) a2 (.lst [])) a3 (.dK [])) t1 (.tup [.non, .int 0, .int (-1), .bl true, .str "1", .ref a1, .ref a2, .int ((10 : Int) ^ (9 : Int).toNat + 1), .ref a3, .int ((10 : Int) ^ (30 : Int).toNat)]) = H2
  intro h1 h2 h3 ht e2 T2
  have odd : ∀ v ∈ [V.non, .int 0, .int (-1), .bl true, .str "1", .ref a1, .ref a2, .int ((10 : Int) ^ (9 : Int).toNat + 1), .ref a3, .int ((10 : Int) ^ (30 : Int).toNat)], OddN H2 v := by
    intro v hv
    simp only [List.mem_cons, List.not_mem_nil, or_false] at hv
    rcases hv with rfl | rfl | rfl | rfl | rfl | rfl | rfl | rfl | rfl | rfl
    · exact ⟨⟨_, .non, rp_non.mono (by omega) (by omega)⟩, ⟨_, .non⟩, rfl⟩
    · exact ⟨⟨_, .int _, (rp_int (by decide)).mono (by omega) (by omega)⟩, ⟨_, .int _⟩, by decide⟩
    · exact ⟨⟨_, .int _, (rp_int (by decide)).mono (by omega) (by omega)⟩, ⟨_, .int _⟩, by decide⟩
    · exact ⟨⟨_, .bl _, (rp_bl _).mono (by omega) (by omega)⟩, ⟨_, .bl _⟩, rfl⟩
    · exact ⟨⟨_, .str _, ⟨rfl, by decide, by decide, by simp [PyData.depth]⟩⟩, ⟨_, .str _⟩, rfl⟩
    · exact ⟨⟨_, .tup h1 (.cons (.int 1) .nil), (rp_one (rp_int (by decide))).mono (by omega) (by omega)⟩, ⟨_, .tup h1⟩, rfl⟩
    · exact ⟨⟨_, .lst h2 .nil, rp_nil.mono (by omega) (by omega)⟩, ⟨_, .lst h2⟩, rfl⟩
    · exact ⟨⟨_, .int _, (rp_int (by decide +kernel)).mono (by omega) (by omega)⟩, ⟨_, .int _⟩, by decide +kernel⟩
    · exact ⟨⟨_, .dic h3, rp_dic.mono (by omega) (by omega)⟩, ⟨_, .dic h3⟩, rfl⟩
    · exact ⟨⟨_, .int _, (rp_int (by decide +kernel)).mono (by omega) (by omega)⟩, ⟨_, .int _⟩, by decide +kernel⟩
  refine ⟨t1, rfl, ⟨_, SqT.of ht⟩, ?_⟩
  refine for_tup (K := K) (a := t1) (Pv := fun i σ H' => ∃ w2 w3 w4 w5 w6 w7 : Option V, σ = [some (.ref p), some (.ref t), w2, w3, w4, w5, w6, w7] ∧ LamX.ExtN H2 H' ∧ LamX.Tabs (tabsT P1 P2) H') ⟨_, _, _, _, _, _, rfl, LamX.ExtN.refl _, T2⟩ (fun i σ H' _ ⟨_, _, _, _, _, _, _, e, _⟩ => SqT.of (e _ _ ht fun _ z => by cases z)) ?_ ?_
  · rintro i v σ H3 hi ⟨w2, w3, w4, w5, w6, w7, rfl, e3, T3⟩
    have hv := (odd v (List.mem_of_getElem? hi)).keeps (ExtN.keeps e3)
    have hB3 := (ExtN.keeps (e2.trans e3)).book hB
    -- two lambdas
    refine ⟨T3, fun f1 H4 e4 T4 n4 l4 => ⟨T4, fun f2 H5 e5 T5 n5 l5 => ⟨z 2 (by omega), fun l hl => ?_⟩⟩⟩
    have s6 := same_upd (o := .lst [.ref f1, .ref f2]) hl
    refine ⟨_, rfl, z 2 (by omega), fun t0 ht0 => ?_⟩
    have s7 := same_upd (o := .tup [.str "number", v]) ht0
    intro H8 out non cel vals
    have s8 := fz_same out non
    have s58 := (s6.trans s7).trans s8
    have s57 := s6.trans s7
    have l47 := l4.extN (e5.trans (LamX.ExtN.of s57))
    have l57 := l5.extN (LamX.ExtN.of s57)
    have e37 := (e4.trans e5).trans (LamX.ExtN.of s57)
    have hv7 := hv.keeps (ExtN.keeps e37)
    have hB7 := (ExtN.keeps e37).book hB3
    have tl8 : Tell (cellsFrom (s.heap.objs.size + 1) (defScope s_law_doors_right).names []) [("_law_book_so", .ref p), ("_law_odd", v)] H8 := ⟨cel, fun q hq c hc => by
      simp only [List.mem_cons, List.not_mem_nil, or_false] at hq
      rcases hq with rfl | rfl
      · exact vals 0 _ _ c rfl rfl rfl hc
      · exact vals 2 _ _ c rfl rfl rfl hc⟩
    have d1 : Dies P w K mg base (cellsFrom (s.heap.objs.size + 1) (defScope s_law_doors_right).names []) [("_law_book_so", .ref p), ("_law_odd", v)] 7 "BadNumber" "given" v f1 _ :=
      dies_lam (k := 6) (tb := fun E => tMeth (cJ K) "come" (spBCome K) [] E (tVar 0) (tCons (tVar 1) tNil)) ["_law_book_so", "_law_odd"] [("_law_book_so", .ref p), ("_law_odd", v)] rfl (fun _ h => h) cx (free_has (by decide +kernel)) (by decide +kernel) (bind0 rfl fun _ _ _ _ => rfl)
        (fun A' outer' s' H' E' c' hr' => pe_md (pv 0) T.clJ T.m_Joinbook_come DC hr' (passes_call (takes_of rfl rfl rfl rfl) fun _ _ _ _ h => h) (pa_cons (pv 1) pa_nil)) l47
        (fun H9 E9 Q9 kp bad => rd_come (kp.book hB7) hk.good (by have := hk.n1; omega) rfl (fun Q q => ⟨_, rfl, q⟩) (hv7.keeps kp).2.1 hv7.2.2 bad)
    have d2 : Dies P w K mg base (cellsFrom (s.heap.objs.size + 1) (defScope s_law_doors_right).names []) [("_law_book_so", .ref p), ("_law_odd", v)] 7 "BadNumber" "given" v f2 _ :=
      dies_lam (k := 6) (tb := fun E => tMeth (cJ K) "come" (spBCome K) [] E (tVar 0) (tCons (tVar 1) tNil)) ["_law_book_so", "_law_odd"] [("_law_book_so", .ref p), ("_law_odd", v)] rfl (fun _ h => h) cx (free_has (by decide +kernel)) (by decide +kernel) (bind1 "_law_x" rfl rfl (fun t doc pm cdv ct => ⟨_, by rfl, fun v => by rfl⟩))
        (fun A' outer' s' H' E' c' hr' => pe_md (pv 0) T.clJ T.m_Joinbook_come DC hr' (passes_call (takes_of rfl rfl rfl rfl) fun _ _ _ _ h => h) (pa_cons (pv 1) pa_nil)) l57
        (fun H9 E9 Q9 kp bad => rd_come (kp.book hB7) hk.good (by have := hk.n1; omega) rfl (fun Q q => ⟨_, rfl, q⟩) (hv7.keeps kp).2.1 hv7.2.2 bad)
    obtain ⟨dx, hdx, rdx⟩ := (hv7.keeps (ExtN.keeps (LamX.ExtN.of s8))).1
    have rt := rp_told (x := "number") (by decide) (by decide) rdx
    refine ⟨l, [f1, f2], t0, "BadNumber", "given", "number", v, dx, _, _, rfl, s8 _ _ (s7 _ _ upd_same), by simp, .n, s8 _ _ upd_same, hdx, rt, by omega, by omega, fun f hf H9 s9 => ?_, fun H9 s9 => ?_⟩
    · simp only [List.mem_cons, List.not_mem_nil, or_false] at hf
      rcases hf with rfl | rfl
      · exact d1 H9 (LamX.ExtN.of (s8.trans s9)) (tl8.same s9)
      · exact d2 H9 (LamX.ExtN.of (s8.trans s9)) (tl8.same s9)
    · have sb := s57.trans (fz_back out non s9)
      refine ⟨true, rfl, iteF ⟨_, _, _, _, _, _, rfl, (e3.trans (e4.trans e5)).trans (LamX.ExtN.of sb), T5.ext sb⟩⟩
  · rintro σ H3 ⟨w2, w3, w4, w5, w6, w7, rfl, e3, T3⟩
    exact kn _ _ _ _ _ _ _ (e2.trans e3) T3

end
end JB
set_option Elab.async false
set_option linter.all false
set_option maxRecDepth 100000
set_option maxHeartbeats 4000000
namespace JB
open PySem PySem.Spec PyProof.Rows L2
section
variable {K : PySem.W.Frag} {H3 : Hp} {E : XK} {Q : VK} {p : Addr} {n : Nat} {S : Std} {v v2 : V} {o o2 : Option (List Int)} {σ : L2.St} {tA tB : TE}
theorem rd_weight (hB : BookK K H3 p n S) (hg : Good S) (h0 : σ[0]? = some (some (.ref p))) (hA : ∀ Q : VK, Q v H3 → tA σ H3 Q) (ht : Th H3 v o) (hb : S.has o = false) (bad : BadE K "BadTop" "given" v H3 E) :
    tMeth (cJ K) "weight" (spBW K) [] E (tVar 0) (tCons tA tNil) σ H3 Q := by
  obtain ⟨dx, t, hp⟩ := hB.ins
  refine ⟨_, h0, p, dx, _, rfl, hp, rfl, hA _ ⟨p, n, S, v, o, rfl, hB, hg, ht, fun t e h => ?_, fun _ => bad⟩⟩
  rw [e, show S.has (some t) = true from decide_eq_true h] at hb
  cases hb
theorem rd_take (hB : BookK K H3 p n S) (hg : Good S) (hn : n ≤ 1000) (h0 : σ[0]? = some (some (.ref p))) (hA : ∀ Q : VK, Q v H3 → tA σ H3 Q) (ht : Th H3 v o) (hb : S.has o = false) (bad : BadE K "BadTop" "given" v H3 E) :
    tMeth (cJ K) "take" (spTake K) [] E (tVar 0) (tCons tA tNil) σ H3 Q := by
  obtain ⟨dx, t, hp⟩ := hB.ins
  refine ⟨_, h0, p, dx, _, rfl, hp, rfl, hA _ ⟨p, n, S, v, o, rfl, hB, hg, hn, ht, fun t e h => ?_, fun _ => bad⟩⟩
  rw [e, show S.has (some t) = true from decide_eq_true h] at hb
  cases hb
theorem two_no {t u : List Int} (h : S.two o o2 = false) (e1 : o = some t) (e2 : o2 = some u) (h1 : t ∈ S.tops) (h2 : u ∈ S.tops) (ne : t ≠ u) : False := by
  rw [e1, e2, show S.two (some t) (some u) = true by simp [Std.two, Std.has, h1, h2, ne]] at h
  cases h
theorem rd_loss (hB : BookK K H3 p n S) (hg : Good S) (h0 : σ[0]? = some (some (.ref p))) (hA : ∀ Q : VK, Q v H3 → tA σ H3 Q) (hA2 : ∀ Q : VK, Q v2 H3 → tB σ H3 Q) (ht : Th H3 v o) (ht2 : S.has o = true → Th H3 v2 o2) (hb : S.two o o2 = false) {x : V} (ex : S.told o v v2 = x) (bad : BadE K "BadTop" "given" x H3 E) :
    tMeth (cJ K) "loss" (spLoss K) [] E (tVar 0) (tCons tA (tCons tB tNil)) σ H3 Q := by
  obtain ⟨dx, t, hp⟩ := hB.ins
  subst ex
  exact ⟨_, h0, p, dx, _, rfl, hp, rfl, hA _ (hA2 _ ⟨p, n, S, v, o, v2, o2, rfl, hB, hg, ht, ht2, fun t u e1 e2 m1 m2 ne => (two_no hb e1 e2 m1 m2 ne).elim, fun _ => bad⟩)⟩
theorem rd_join (hB : BookK K H3 p n S) (hg : Good S) (hn : n ≤ 1000) (h0 : σ[0]? = some (some (.ref p))) (hA : ∀ Q : VK, Q v H3 → tA σ H3 Q) (hA2 : ∀ Q : VK, Q v2 H3 → tB σ H3 Q) (ht : Th H3 v o) (ht2 : S.has o = true → Th H3 v2 o2) (hb : S.two o o2 = false) {x : V} (ex : S.told o v v2 = x) (bad : BadE K "BadTop" "given" x H3 E) :
    tMeth (cJ K) "join" (spJoin K) [] E (tVar 0) (tCons tA (tCons tB tNil)) σ H3 Q := by
  obtain ⟨dx, t, hp⟩ := hB.ins
  subst ex
  exact ⟨_, h0, p, dx, _, rfl, hp, rfl, hA _ (hA2 _ ⟨p, n, S, v, o, v2, o2, rfl, hB, hg, hn, ht, ht2, fun t u e1 e2 m1 m2 ne => (two_no hb e1 e2 m1 m2 ne).elim, fun _ => bad⟩)⟩
end
/-- a thing that is no top -/
def OddT (S : Std) (H : Hp) (v : V) : Prop := Told H v ∧ ∃ o, Th H v o ∧ S.has o = false
theorem OddT.keeps {S : Std} {H H' : Hp} (s : Keeps H H') {v : V} (h : OddT S H v) : OddT S H' v := ⟨h.1.keeps s, let ⟨o, a, b⟩ := h.2; ⟨o, s.th a, b⟩⟩
section
variable {P : Program} {w : World} {K : PySem.W.Frag} {mg : Str → Option Value} {base : Heap}
/-- no top is a top -/
theorem doors6 (T : Txt K mg) {c1 P1 c2 P2 : Addr} (C : Codes K mg base c1 P1 c2 P2) {A : Around} {outer : List Env} {s : Shared} {H : Hp} (hgd : A.guards = some []) (hr : Room 9 (A.deeper (envOfC "_law_doors_right" (defScope s_law_doors_right) s.heap.objs.size (He.ga K "_law_doors_right") (.ref c1))))
    {p t : Addr} {S : Std} {n : Nat} (hB : BookK K H p n S) (hk : Ok S n) : ∃ t6 : TS, PS (XD P w K mg base c1 A outer s H) (stD 6) t6 ∧
      ∀ (D : Ends) (H1 : Hp) (v2 v4 v5 v6 v7 : Option V) (tt : Addr) (xs : List V), LamX.ExtN H H1 → LamX.Tabs (tabsT P1 P2) H1 → H tt = some (.tup xs) → All2 (TI H) xs S.tops →
        (∀ (H2 : Hp) (w2 w4 w5 w6 w7 : Option V), LamX.ExtN H H2 → LamX.Tabs (tabsT P1 P2) H2 → D.nx [some (.ref p), some (.ref t), w2, some (.ref tt), w4, w5, w6, w7] H2) → t6 D [some (.ref p), some (.ref t), v2, some (.ref tt), v4, v5, v6, v7] H1 := by
  have DA := (ok_are (P := P) (w := w) (base := base) T (k := 7))
  have DL := (ok_book_loss (P := P) (w := w) (base := base) T).mono (show 5 ≤ 6 by omega)
  have DJ := ok_book_join (P := P) (w := w) (base := base) T
  have nd := sc_law_doors_right.nd
  have hgd' := deeper_g hgd (envOfC "_law_doors_right" (defScope s_law_doors_right) s.heap.objs.size (He.ga K "_law_doors_right") (.ref c1))
  have cx := cxD s
  have hu1 := hu1D C.ne
  refine ⟨_, (ps_for PassesOwn.never rfl (pi_tup (pv 3)) (pg_name (i := 5) nd rfl (Or.inr rfl))
    (pss_one (ps_if (pt_not (pt_val (pe_cgFz DA hgd' hr T.g_law_are (pa_cons (pe_lst (pa_cons (pe_lam0 (T := tabsT P1 P2) C.t1 rfl (List.Mem.head _) hu1 (free_by (sc := defScope s_law_doors_right) (by decide +kernel)) rfl rfl) (pa_cons (pe_lam1 (T := tabsT P1 P2) C.t1 rfl (List.Mem.head _) hu1 (free_by (sc := defScope s_law_doors_right) (by decide +kernel)) rfl rfl) pa_nil))) (pa_cons (pe_tup (pa_cons pe_str (pa_cons (pv 5) pa_nil))) pa_nil)) (fun _ => rfl) cx.pair))) (pss_one (ps_ret pe_bl)) pss_nil))), ?_⟩
  intro D H1 v2 v4 v5 v6 v7 tt xs e1 T1 ht htl kn
  have z : ∀ m : Nat, m ≤ 20 → m ≤ sizeLine := fun m h => by rw [sizeLine_eq]; omega
  have nt : ∀ {ps : Array Value} {ys : List V}, HO.tup ys ≠ .tbl ps := fun z => by cases z
  refine ⟨_, rfl, tt, rfl, ⟨_, SqT.of (e1 _ _ ht fun _ => nt)⟩, ?_⟩
  refine for_tup (K := K) (a := tt) (xs := xs) (Pv := fun i σ H' => ∃ w2 w4 w5 w6 w7 : Option V, σ = [some (.ref p), some (.ref t), w2, some (.ref tt), w4, w5, w6, w7] ∧ LamX.ExtN H H' ∧ LamX.Tabs (tabsT P1 P2) H') ⟨_, _, _, _, _, rfl, e1, T1⟩ (fun i σ H' _ ⟨_, _, _, _, _, _, e, _⟩ => SqT.of (e _ _ ht fun _ => nt)) ?_ ?_
  · rintro i v σ H3 hi ⟨w2, w4, w5, w6, w7, rfl, e3, T3⟩
    obtain ⟨x, ex, hx⟩ := htl.get hi
    have hxm := List.mem_of_getElem? ex
    have hlen := hk.good.short x hxm
    refine ⟨T3, fun f1 H4 e4 T4 n4 l4 => ⟨T4, fun f2 H5 e5 T5 n5 l5 => ⟨z 2 (by omega), fun l hl => ?_⟩⟩⟩
    have s6 := same_upd (o := .lst [.ref f1, .ref f2]) hl
    refine ⟨_, rfl, z 2 (by omega), fun t0 ht0 => ?_⟩
    have s7 := same_upd (o := .tup [.str "top", v]) ht0
    intro H8 out non cel vals
    have s8 := fz_same out non
    have s57 := s6.trans s7
    have l47 := l4.extN (e5.trans (LamX.ExtN.of s57))
    have l57 := l5.extN (LamX.ExtN.of s57)
    have e07 := e3.trans ((e4.trans e5).trans (LamX.ExtN.of s57))
    have hB7 := (ExtN.keeps e07).book hB
    have hx7 := hx.ext (ExtN.keeps e07).ext
    have tl8 : Tell (clD s) [("_law_book_so", .ref p), ("_law_top", v)] H8 := ⟨cel, fun q hq c hc => by
      simp only [List.mem_cons, List.not_mem_nil, or_false] at hq
      rcases hq with rfl | rfl
      · exact vals 0 _ _ c rfl rfl rfl hc
      · exact vals 5 _ _ c rfl rfl rfl hc⟩
    have two : S.two (some x) (some x) = false := by simp [Std.two]
    have told : S.told (some x) v v = v := by simp [Std.told]
    have d1 : Dies P w K mg base (clD s) [("_law_book_so", .ref p), ("_law_top", v)] 7 "BadTop" "given" v f1 _ :=
      dies_lam (k := 6) (tb := fun E => tMeth (cJ K) "join" (spJoin K) [] E (tVar 0) (tCons (tVar 1) (tCons (tVar 1) tNil))) ["_law_book_so", "_law_top"] [("_law_book_so", .ref p), ("_law_top", v)] rfl (fun _ h => h) cx (free_has (by decide +kernel)) (by decide +kernel) (bind0 rfl fun _ _ _ _ => rfl)
        (fun A' outer' s' H' E' c' hr' => pe_md (pv 0) T.clJ T.m_Joinbook_join DJ hr' (passes_call (takes_of rfl rfl rfl rfl) fun _ _ _ _ h => h) (pa_cons (pv 1) (pa_cons (pv 1) pa_nil))) l47
        (fun H9 E9 Q9 kp bad => rd_join (kp.book hB7) hk.good (by have := hk.n1; omega) rfl (fun Q q => ⟨_, rfl, q⟩) (fun Q q => ⟨_, rfl, q⟩) (.yes (hx7.ext kp.ext) (by omega)) (fun _ => .yes (hx7.ext kp.ext) (by omega)) two told bad)
    have d2 : Dies P w K mg base (clD s) [("_law_book_so", .ref p), ("_law_top", v)] 7 "BadTop" "given" v f2 _ :=
      dies_lam (k := 6) (tb := fun E => tMeth (cJ K) "loss" (spLoss K) [] E (tVar 0) (tCons (tVar 1) (tCons (tVar 1) tNil))) ["_law_book_so", "_law_top"] [("_law_book_so", .ref p), ("_law_top", v)] rfl (fun _ h => h) cx (free_has (by decide +kernel)) (by decide +kernel) (bind1 "_law_x" rfl rfl (fun t doc pm cdv ct => ⟨_, by rfl, fun v => by rfl⟩))
        (fun A' outer' s' H' E' c' hr' => pe_md (pv 0) T.clJ T.m_Joinbook_loss DL hr' (passes_call (takes_of rfl rfl rfl rfl) fun _ _ _ _ h => h) (pa_cons (pv 1) (pa_cons (pv 1) pa_nil))) l57
        (fun H9 E9 Q9 kp bad => rd_loss (kp.book hB7) hk.good rfl (fun Q q => ⟨_, rfl, q⟩) (fun Q q => ⟨_, rfl, q⟩) (.yes (hx7.ext kp.ext) (by omega)) (fun _ => .yes (hx7.ext kp.ext) (by omega)) two told bad)
    have rt := rp_told (x := "top") (by decide) (by decide) (rp_dT (hk.good.tiny x hxm).2)
    refine ⟨l, [f1, f2], t0, "BadTop", "given", "top", v, _, _, _, rfl, s8 _ _ (s7 _ _ upd_same), by simp, .t, s8 _ _ upd_same, (hx7.ext (Ext.of s8)).dq, rt, by omega, by omega, fun f hf H9 s9 => ?_, fun H9 s9 => ?_⟩
    · simp only [List.mem_cons, List.not_mem_nil, or_false] at hf
      rcases hf with rfl | rfl
      · exact d1 H9 (LamX.ExtN.of (s8.trans s9)) (tl8.same s9)
      · exact d2 H9 (LamX.ExtN.of (s8.trans s9)) (tl8.same s9)
    · have sb := s57.trans (fz_back out non s9)
      exact ⟨true, rfl, iteF ⟨_, _, _, _, _, rfl, (e3.trans (e4.trans e5)).trans (LamX.ExtN.of sb), T5.ext sb⟩⟩
  · rintro σ H3 ⟨w2, w4, w5, w6, w7, rfl, e3, T3⟩
    exact kn _ _ _ _ _ _ e3 T3
end
end JB
set_option Elab.async false
set_option linter.all false
set_option maxRecDepth 100000
set_option maxHeartbeats 4000000
namespace JB
open PySem PySem.Spec PyProof.Rows L2
section
variable {P : Program} {w : World} {K : PySem.W.Frag} {mg : Str → Option Value} {base : Heap}
/-- no odd thing is a top -/
theorem doors5 (T : Txt K mg) {c1 P1 c2 P2 : Addr} (C : Codes K mg base c1 P1 c2 P2) {A : Around} {outer : List Env} {s : Shared} {H : Hp} (hgd : A.guards = some []) (hr : Room 9 (A.deeper (envOfC "_law_doors_right" (defScope s_law_doors_right) s.heap.objs.size (He.ga K "_law_doors_right") (.ref c1))))
    {p t : Addr} {S : Std} {n : Nat} (hB : BookK K H p n S) (hk : Ok S n) : ∃ t5 : TS, PS (XD P w K mg base c1 A outer s H) (stD 5) t5 ∧
      ∀ (D : Ends) (H1 : Hp) (v2 v5 v6 v7 : Option V) (tt lo : Addr) (xs os : List V), LamX.ExtN H H1 → LamX.Tabs (tabsT P1 P2) H1 → H tt = some (.tup xs) → All2 (TI H) xs S.tops → H1 lo = some (.lst os) → (∀ v ∈ os, OddT S H1 v) →
        (∀ (H2 : Hp) (w2 w5 w6 w7 : Option V), LamX.ExtN H H2 → LamX.Tabs (tabsT P1 P2) H2 → D.nx [some (.ref p), some (.ref t), w2, some (.ref tt), some (.ref lo), w5, w6, w7] H2) → t5 D [some (.ref p), some (.ref t), v2, some (.ref tt), some (.ref lo), v5, v6, v7] H1 := by
  have DA := (ok_are (P := P) (w := w) (base := base) T (k := 7))
  have DW := (ok_book_weight (P := P) (w := w) (base := base) T).mono (show 4 ≤ 6 by omega)
  have DT := (ok_book_take (P := P) (w := w) (base := base) T).mono (show 5 ≤ 6 by omega)
  have DL := (ok_book_loss (P := P) (w := w) (base := base) T).mono (show 5 ≤ 6 by omega)
  have DJ := ok_book_join (P := P) (w := w) (base := base) T
  have nd := sc_law_doors_right.nd
  have hu := hr.units
  have hgd' := deeper_g hgd (envOfC "_law_doors_right" (defScope s_law_doors_right) s.heap.objs.size (He.ga K "_law_doors_right") (.ref c1))
  have cx := cxD s
  have hu1 := hu1D C.ne
  refine ⟨_, (ps_for PassesOwn.never rfl (pi_list (pv 4)) (pg_name (i := 2) nd rfl (Or.inr rfl))
    (pss_cons (ps_set (i := 7) nd rfl (Or.inl rfl) (pe_lst (pa_cons (pe_lam0 (T := tabsT P1 P2) C.t1 rfl (List.Mem.head _) hu1 (free_by (sc := defScope s_law_doors_right) (by decide +kernel)) rfl rfl) (pa_cons (pe_lam1 (T := tabsT P1 P2) C.t1 rfl (List.Mem.head _) hu1 (free_by (sc := defScope s_law_doors_right) (by decide +kernel)) rfl rfl) (pa_cons (pe_lam1 (T := tabsT P1 P2) C.t1 rfl (List.Mem.head _) hu1 (free_by (sc := defScope s_law_doors_right) (by decide +kernel)) rfl rfl) pa_nil)))))
    (pss_cons (ps_set (i := 7) nd rfl (Or.inl rfl) (pe_op op_cat (pv 7) (pe_lst (pa_cons (pe_lam0 (T := tabsT P1 P2) C.t1 rfl (List.Mem.head _) hu1 (free_by (sc := defScope s_law_doors_right) (by decide +kernel)) rfl rfl) pa_nil))))
    (pss_cons (ps_if (pt_cmpR (op_neQ T.sysd hu) (pv 3) (pe_tup pa_nil) (by rfl)) (pss_one (ps_set (i := 7) nd rfl (Or.inl rfl) (pe_op op_cat (pv 7) (pe_lst (pa_cons (pe_lam0 (T := tabsT P1 P2) C.t1 rfl (List.Mem.head _) hu1 (free_by (sc := defScope s_law_doors_right) (by decide +kernel)) rfl rfl) (pa_cons (pe_lam1 (T := tabsT P1 P2) C.t1 rfl (List.Mem.head _) hu1 (free_by (sc := defScope s_law_doors_right) (by decide +kernel)) rfl rfl) pa_nil)))))) pss_nil)
    (pss_one (ps_if (pt_not (pt_val (pe_cgFz DA hgd' hr T.g_law_are (pa_cons (pv 7) (pa_cons (pe_tup (pa_cons pe_str (pa_cons (pv 2) pa_nil))) pa_nil)) (fun _ => rfl) cx.pair))) (pss_one (ps_ret pe_bl)) pss_nil)))))), ?_⟩
  intro D H1 v2 v5 v6 v7 tt lo xs os e1 T1 ht htl hlo hos kn
  have z : ∀ m : Nat, m ≤ 20 → m ≤ sizeLine := fun m h => by rw [sizeLine_eq]; omega
  have nt : ∀ {ps : Array Value} {ys : List V}, HO.tup ys ≠ .tbl ps := fun z => by cases z
  have nl : ∀ {ps : Array Value} {ys : List V}, HO.lst ys ≠ .tbl ps := fun z => by cases z
  refine ⟨_, rfl, lo, rfl, ⟨_, SqL.of hlo⟩, ?_⟩
  refine for_list (K := K) (a := lo) (xs := os) (Pv := fun i σ H' => ∃ w2 w5 w6 w7 : Option V, σ = [some (.ref p), some (.ref t), w2, some (.ref tt), some (.ref lo), w5, w6, w7] ∧ LamX.ExtN H1 H' ∧ LamX.Tabs (tabsT P1 P2) H') ⟨_, _, _, _, rfl, LamX.ExtN.refl _, T1⟩ (fun i σ H' _ ⟨_, _, _, _, _, e, _⟩ => SqL.of (e _ _ hlo fun _ => nl)) ?_ ?_
  · rintro i v σ H3 hi ⟨w2, w5, w6, w7, rfl, e3, T3⟩
    have hv := (hos v (List.mem_of_getElem? hi)).keeps (ExtN.keeps e3)
    have e03 := e1.trans e3
    -- three, and one
    refine ⟨T3, fun f1 H4 e4 T4 n4 l4 => ⟨T4, fun f2 H5 e5 T5 n5 l5 => ⟨T5, fun f3 H6 e6 T6 n6 l6 => ⟨z 3 (by omega), fun la hla => ?_⟩⟩⟩⟩
    have s7 := same_upd (o := .lst [.ref f1, .ref f2, .ref f3]) hla
    have T7 := T6.ext s7
    refine ⟨_, rfl, T7, fun f4 H8 e8 T8 n8 l8 => ⟨z 1 (by omega), fun lb hlb => ?_⟩⟩
    have s9 := same_upd (o := .lst [.ref f4]) hlb
    have T9 := T8.ext s9
    refine ⟨la, lb, _, _, rfl, rfl, s9 _ _ (e8 _ _ upd_same fun _ => nl), upd_same, (by show 4 ≤ sizeLine; exact z 4 (by omega)), fun lc hlc => ?_⟩
    have s10 := same_upd (o := .lst ([.ref f1, .ref f2, .ref f3] ++ [.ref f4])) hlc
    have T10 := T9.ext s10
    have e610 := ((LamX.ExtN.of s7).trans e8).trans (LamX.ExtN.of (s9.trans s10))
    have l410 := l4.extN ((e5.trans e6).trans e610)
    have l510 := l5.extN (e6.trans e610)
    have l610 := l6.extN e610
    have l810 := l8.extN (LamX.ExtN.of (s9.trans s10))
    have e310 := ((e4.trans e5).trans e6).trans e610
    have hlc10 : upd (upd H8 lb (.lst [.ref f4])) lc (.lst ([.ref f1, .ref f2, .ref f3] ++ [.ref f4])) lc = some (.lst [.ref f1, .ref f2, .ref f3, .ref f4]) := upd_same
    revert T10 l410 l510 l610 l810 e310 hlc10
    generalize upd (upd H8 lb (.lst [.ref f4])) lc (.lst ([.ref f1, .ref f2, .ref f3] ++ [.ref f4])) = H10
    intro T10 l410 l510 l610 l810 e310 hlc10
    have e010 := e03.trans e310
    have hB10 := (ExtN.keeps e010).book hB
    have hv10 := hv.keeps (ExtN.keeps e310)
    have ht10 := e010 _ _ ht fun _ => nt
    have htl10 := TIs.ext (ExtN.keeps e010).ext htl
    obtain ⟨hto, o, hth, hno⟩ := hv10
    have two1 : ∀ o2, S.two o o2 = false := fun o2 => by simp [Std.two, hno]
    have told1 : ∀ v2, S.told o v v2 = v := fun v2 => by simp [Std.told, hno]
    let vals : List (Str × V) := [("_law_book_so", .ref p), ("_law_odd", v), ("_law_tops", .ref tt)]
    have d1 : Dies P w K mg base (clD s) vals 7 "BadTop" "given" v f1 H10 :=
      dies_lam (k := 6) (tb := fun E => tMeth (cJ K) "weight" (spBW K) [] E (tVar 0) (tCons (tVar 1) tNil)) ["_law_book_so", "_law_odd"] [("_law_book_so", .ref p), ("_law_odd", v)] rfl (fun q hq => List.mem_of_mem_take (i := 2) hq) cx (free_has (by decide +kernel)) (by decide +kernel) (bind0 rfl fun _ _ _ _ => rfl)
        (fun A' outer' s' H' E' c' hr' => pe_md (pv 0) T.clJ T.m_Joinbook_weight DW hr' (passes_call (takes_of rfl rfl rfl rfl) fun _ _ _ _ h => h) (pa_cons (pv 1) pa_nil)) l410
        (fun H9 E9 Q9 kp bad => rd_weight (kp.book hB10) hk.good rfl (fun Q q => ⟨_, rfl, q⟩) (kp.th hth) hno bad)
    have d2 : Dies P w K mg base (clD s) vals 7 "BadTop" "given" v f2 H10 :=
      dies_lam (k := 6) (tb := fun E => tMeth (cJ K) "take" (spTake K) [] E (tVar 0) (tCons (tVar 1) tNil)) ["_law_book_so", "_law_odd"] [("_law_book_so", .ref p), ("_law_odd", v)] rfl (fun q hq => List.mem_of_mem_take (i := 2) hq) cx (free_has (by decide +kernel)) (by decide +kernel) (bind1 "_law_x" rfl rfl (fun t doc pm cdv ct => ⟨_, by rfl, fun v => by rfl⟩))
        (fun A' outer' s' H' E' c' hr' => pe_md (pv 0) T.clJ T.m_Joinbook_take DT hr' (passes_call (takes_of rfl rfl rfl rfl) fun _ _ _ _ h => h) (pa_cons (pv 1) pa_nil)) l510
        (fun H9 E9 Q9 kp bad => rd_take (kp.book hB10) hk.good (by have := hk.n1; omega) rfl (fun Q q => ⟨_, rfl, q⟩) (kp.th hth) hno bad)
    have d3 : Dies P w K mg base (clD s) vals 7 "BadTop" "given" v f3 H10 :=
      dies_lam (k := 6) (tb := fun E => tMeth (cJ K) "join" (spJoin K) [] E (tVar 0) (tCons (tVar 1) (tCons (tC .non) tNil))) ["_law_book_so", "_law_odd"] [("_law_book_so", .ref p), ("_law_odd", v)] rfl (fun q hq => List.mem_of_mem_take (i := 2) hq) cx (free_has (by decide +kernel)) (by decide +kernel) (bind1 "_law_y" rfl rfl (fun t doc pm cdv ct => ⟨_, by rfl, fun v => by rfl⟩))
        (fun A' outer' s' H' E' c' hr' => pe_md (pv 0) T.clJ T.m_Joinbook_join DJ hr' (passes_call (takes_of rfl rfl rfl rfl) fun _ _ _ _ h => h) (pa_cons (pv 1) (pa_cons pe_non pa_nil))) l610
        (fun H9 E9 Q9 kp bad => rd_join (o2 := none) (v2 := .non) (kp.book hB10) hk.good (by have := hk.n1; omega) rfl (fun Q q => ⟨_, rfl, q⟩) (fun Q q => q) (kp.th hth) (fun h => by rw [hno] at h; cases h) (two1 _) (told1 _) bad)
    have d4 : Dies P w K mg base (clD s) vals 7 "BadTop" "given" v f4 H10 :=
      dies_lam (k := 6) (tb := fun E => tMeth (cJ K) "loss" (spLoss K) [] E (tVar 0) (tCons (tVar 1) (tCons (tC .non) tNil))) ["_law_book_so", "_law_odd"] [("_law_book_so", .ref p), ("_law_odd", v)] rfl (fun q hq => List.mem_of_mem_take (i := 2) hq) cx (free_has (by decide +kernel)) (by decide +kernel) (bind0 rfl fun _ _ _ _ => rfl)
        (fun A' outer' s' H' E' c' hr' => pe_md (pv 0) T.clJ T.m_Joinbook_loss DL hr' (passes_call (takes_of rfl rfl rfl rfl) fun _ _ _ _ h => h) (pa_cons (pv 1) (pa_cons pe_non pa_nil))) l810
        (fun H9 E9 Q9 kp bad => rd_loss (o2 := none) (v2 := .non) (kp.book hB10) hk.good rfl (fun Q q => ⟨_, rfl, q⟩) (fun Q q => q) (kp.th hth) (fun h => by rw [hno] at h; cases h) (two1 _) (told1 _) bad)
    -- the call itself
    have last : ∀ (H11 : Hp) (lq : Addr) (fs : List Addr), LamX.ExtN H10 H11 → LamX.Tabs (tabsT P1 P2) H11 → H11 lq = some (.lst (fs.map V.ref)) → fs.length ≤ 30 → (∀ f ∈ fs, Dies P w K mg base (clD s) vals 7 "BadTop" "given" v f H11) → ∀ (R : VK),
        (∀ H12, LamX.ExtN H11 H12 → LamX.Tabs (tabsT P1 P2) H12 → R (.bl true) H12) →
        tCallFz (XD P w K mg base c1 A outer s H) (spAre P w K mg base 7) (tCons (tVar 7) (tCons (tTup (tCons (tC (.str "top")) (tCons (tVar 2) tNil))) tNil)) [some (.ref p), some (.ref t), some v, some (.ref tt), some (.ref lo), w5, w6, some (.ref lq)] H11 R := by
      intro H11 lq fs e11 T11 hlq h30 hd R hR
      refine ⟨_, rfl, _, rfl, z 2 (by omega), fun t0 ht0 => ?_⟩
      have s12 := same_upd (o := .tup [.str "top", v]) ht0
      intro H13 out non cel valsX
      have s13 := fz_same out non
      have tl13 : Tell (clD s) vals H13 := ⟨cel, fun q hq c hc => by
        simp only [vals, List.mem_cons, List.not_mem_nil, or_false] at hq
        rcases hq with rfl | rfl | rfl
        · exact valsX 0 _ _ c rfl rfl rfl hc
        · exact valsX 2 _ _ c rfl rfl rfl hc
        · exact valsX 3 _ _ c rfl rfl rfl hc⟩
      obtain ⟨dx, hdx, rdx⟩ := hto.keeps (ExtN.keeps (e11.trans (LamX.ExtN.of (s12.trans s13))))
      have rt := rp_told (x := "top") (by decide) (by decide) rdx
      refine ⟨lq, fs, t0, "BadTop", "given", "top", v, dx, _, _, rfl, s13 _ _ (s12 _ _ hlq), h30, .t, s13 _ _ upd_same, hdx, rt, by omega, by omega, fun f hf H14 s14 => ?_, fun H14 s14 => ?_⟩
      · exact hd f hf H14 (LamX.ExtN.of ((s12.trans s13).trans s14)) (tl13.same s14)
      · have sb := s12.trans (fz_back out non s14)
        exact hR _ (LamX.ExtN.of sb) (T11.ext sb)
    refine ⟨_, rfl, z 0 (by omega), fun q hq => ?_⟩
    have sq := same_upd (o := .tup []) hq
    have ht11 := sq _ _ ht10
    have htl11 := TIs.ext (Ext.of sq) htl10
    refine ⟨dTT S.tops, dTT [], TT.dq ⟨tt, xs, rfl, ht11, htl11⟩, TT.dq ⟨q, [], rfl, upd_same, .nil⟩, shaped_dTT _, shaped_dTT _, _, rfl, ?_⟩
    rw [eqv_dTT]
    by_cases e0 : S.tops = []
    · rw [decide_eq_true e0]
      refine iteF ?_
      dsimp only [tNext, tIfS, tNot, tB]
      refine last _ lc [f1, f2, f3, f4] (LamX.ExtN.of sq) (T10.ext sq) (sq _ _ hlc10) (by simp) (fun f hf => ?_) _ fun H12 e12 T12 => ⟨true, rfl, iteF ⟨_, _, _, _, rfl, ((e3.trans e310).trans (LamX.ExtN.of sq)).trans e12, T12⟩⟩
      simp only [List.mem_cons, List.not_mem_nil, or_false] at hf
      rcases hf with rfl | rfl | rfl | rfl
      · exact d1.ext (LamX.ExtN.of sq)
      · exact d2.ext (LamX.ExtN.of sq)
      · exact d3.ext (LamX.ExtN.of sq)
      · exact d4.ext (LamX.ExtN.of sq)
    · rw [decide_eq_false e0]
      have hpos : 0 < S.tops.length := List.length_pos_iff.mpr e0
      have hxl := htl.length
      obtain ⟨y0, hy0⟩ : ∃ y, xs[0]? = some y := ⟨_, List.getElem?_eq_getElem (by omega)⟩
      obtain ⟨x0, ex0, hx0⟩ := htl.get hy0
      have hx0m := List.mem_of_getElem? ex0
      have hl0 := hk.good.short x0 hx0m
      obtain ⟨y1, hy1⟩ : ∃ y, xs[S.tops.length - 1]? = some y := ⟨_, List.getElem?_eq_getElem (by omega)⟩
      obtain ⟨x1, ex1, hx1⟩ := htl.get hy1
      have hx1m := List.mem_of_getElem? ex1
      have hl1 := hk.good.short x1 hx1m
      have eix : atI xs (-1) = some y1 := by
        unfold atI ixN
        rw [if_neg (by omega), if_pos (by omega), Option.bind_some, ← hy1]
        congr 1
        omega
      have T11 := T10.ext sq
      refine iteT ⟨_, rfl, T11, fun f5 H12 e12 T12 n12 l12 => ⟨T12, fun f6 H13 e13 T13 n13 l13 => ⟨z 2 (by omega), fun ld hld => ?_⟩⟩⟩
      have s14 := same_upd (o := .lst [.ref f5, .ref f6]) hld
      have eq13 := (LamX.ExtN.of sq).trans (e12.trans e13)
      refine ⟨lc, ld, _, _, rfl, rfl, s14 _ _ (eq13 _ _ hlc10 fun _ => nl), upd_same, z 6 (by omega), fun le hle => ?_⟩
      have s15 := same_upd (o := .lst ([.ref f1, .ref f2, .ref f3, .ref f4] ++ [.ref f5, .ref f6])) hle
      have T15 := (T13.ext s14).ext s15
      have e1015 := eq13.trans (LamX.ExtN.of (s14.trans s15))
      have l1215 := l12.extN (e13.trans (LamX.ExtN.of (s14.trans s15)))
      have l1315 := l13.extN (LamX.ExtN.of (s14.trans s15))
      have hle15 : upd (upd H13 ld (.lst [.ref f5, .ref f6])) le (.lst ([.ref f1, .ref f2, .ref f3, .ref f4] ++ [.ref f5, .ref f6])) le = some (.lst [.ref f1, .ref f2, .ref f3, .ref f4, .ref f5, .ref f6]) := upd_same
      revert T15 e1015 l1215 l1315 hle15
      generalize upd (upd H13 ld (.lst [.ref f5, .ref f6])) le (.lst ([.ref f1, .ref f2, .ref f3, .ref f4] ++ [.ref f5, .ref f6])) = H15
      intro T15 e1015 l1215 l1315 hle15
      have k15 := ExtN.keeps e1015
      have k015 := ExtN.keeps (e010.trans e1015)
      have two2 : ∀ x, S.two (some x) o = false := fun x => by simp [Std.two, hno]
      have told2 : ∀ {x}, x ∈ S.tops → ∀ u, S.told (some x) u v = v := fun {x} hx u => by simp [Std.told, Std.has, hx]
      have d5 : Dies P w K mg base (clD s) vals 7 "BadTop" "given" v f5 H15 :=
        dies_lam (k := 6) (tb := fun E => tMeth (cJ K) "join" (spJoin K) [] E (tVar 0) (tCons (tOp (rIxT K) (tVar 2) (tC (.int 0))) (tCons (tVar 1) tNil))) ["_law_book_so", "_law_odd", "_law_tops"] vals rfl (fun q hq => hq) cx (free_has (by decide +kernel)) (by decide +kernel) (bind0 rfl fun _ _ _ _ => rfl)
          (fun A' outer' s' H' E' c' hr' => pe_md (pv 0) T.clJ T.m_Joinbook_join DJ hr' (passes_call (takes_of rfl rfl rfl rfl) fun _ _ _ _ h => h) (pa_cons (pe_ix ix_tup (pv 2) pe_int (fun _ _ => rfl)) (pa_cons (pv 1) pa_nil))) l1215
          (fun H9 E9 Q9 kp bad => rd_join (o := some x0) (v := y0) (o2 := o) (v2 := v) (kp.book (k15.book hB10)) hk.good (by have := hk.n1; omega) rfl (fun Q q => ⟨_, rfl, tt, xs, _, _, rfl, rfl, SqT.of (kp.ext _ _ (k015.ext _ _ ht)), at0 hy0, q⟩) (fun Q q => ⟨_, rfl, q⟩) (.yes ((hx0.ext k015.ext).ext kp.ext) (by omega)) (fun _ => kp.th (k15.th hth)) (two2 _) (told2 hx0m _) bad)
      have d6 : Dies P w K mg base (clD s) vals 7 "BadTop" "given" v f6 H15 :=
        dies_lam (k := 6) (tb := fun E => tMeth (cJ K) "loss" (spLoss K) [] E (tVar 0) (tCons (tOp (rIxT K) (tVar 2) (tUn (rU fun i => .int (-i)) (tC (.int 1)))) (tCons (tVar 1) tNil))) ["_law_book_so", "_law_odd", "_law_tops"] vals rfl (fun q hq => hq) cx (free_has (by decide +kernel)) (by decide +kernel) (bind1 "_law_x" rfl rfl (fun t doc pm cdv ct => ⟨_, by rfl, fun v => by rfl⟩))
          (fun A' outer' s' H' E' c' hr' => pe_md (pv 0) T.clJ T.m_Joinbook_loss DL hr' (passes_call (takes_of rfl rfl rfl rfl) fun _ _ _ _ h => h) (pa_cons (pe_ix ix_tup (pv 2) (pe_un un_neg pe_int) (fun _ _ => rfl)) (pa_cons (pv 1) pa_nil))) l1315
          (fun H9 E9 Q9 kp bad => rd_loss (o := some x1) (v := y1) (o2 := o) (v2 := v) (kp.book (k15.book hB10)) hk.good rfl (fun Q q => ⟨_, rfl, 1, rfl, tt, xs, _, _, rfl, rfl, SqT.of (kp.ext _ _ (k015.ext _ _ ht)), eix, q⟩) (fun Q q => ⟨_, rfl, q⟩) (.yes ((hx1.ext k015.ext).ext kp.ext) (by omega)) (fun _ => kp.th (k15.th hth)) (two2 _) (told2 hx1m _) bad)
      dsimp only [gName, tNext, tIfS, tNot, tB]
      refine last _ le [f1, f2, f3, f4, f5, f6] e1015 T15 hle15 (by simp) (fun f hf => ?_) _ fun H16 e16 T16 => ⟨true, rfl, iteF ⟨_, _, _, _, rfl, ((e3.trans e310).trans e1015).trans e16, T16⟩⟩
      simp only [List.mem_cons, List.not_mem_nil, or_false] at hf
      rcases hf with rfl | rfl | rfl | rfl | rfl | rfl
      · exact d1.ext e1015
      · exact d2.ext e1015
      · exact d3.ext e1015
      · exact d4.ext e1015
      · exact d5
      · exact d6
  · rintro σ H3 ⟨w2, w5, w6, w7, rfl, e3, T3⟩
    exact kn _ _ _ _ _ (e1.trans e3) T3
end
end JB
set_option Elab.async false
set_option linter.all false
set_option maxRecDepth 100000
set_option maxHeartbeats 4000000
namespace JB
open PySem PySem.Spec PyProof.Rows L2
/-- what is gathered beside D -/
def Gat (D : Addr) (R : HO → Prop) (acc : List V) (H : Hp) : Prop := ∀ y ∈ acc, ∃ a o, y = .ref a ∧ a ≠ D ∧ H a = some o ∧ R o
theorem Gat.but {D : Addr} {R : HO → Prop} {acc : List V} {H H' : Hp} (b : But [D] H H') (h : Gat D R acc H) : Gat D R acc H' := fun y hy => by
  obtain ⟨a, o, e, n, ho, r⟩ := h y hy
  exact ⟨a, o, e, n, b a o ho (by simp [n]), r⟩
theorem Gat.add {D : Addr} {R : HO → Prop} {acc acc0 : List V} {H H' : Hp} {a : Addr} {o : HO} (h : Gat D R acc H) (hD : H D = some (.lst acc0)) (ha : H a = none) (s : Same H H') (e : H' a = some o) (r : R o) : Gat D R (acc ++ [.ref a]) H' := fun y hy => by
  rcases List.mem_append.mp hy with h1 | h1
  · obtain ⟨b, u, e1, n, hu, r1⟩ := h y h1
    exact ⟨b, u, e1, n, s _ _ hu, r1⟩
  · rw [List.mem_singleton.mp h1]
    exact ⟨a, o, rfl, Ne.symm (ne_of_none hD ha), e, r⟩
section
variable {P : Program} {w : World} {K : PySem.W.Frag} {mg : Str → Option Value} {base : Heap}
theorem slTake {K : PySem.W.Frag} {H : Hp} {Q : VK} {a : Addr} {xs : List V} (ha : H a = some (.tup xs)) (k : ∀ H' p ys, Same H H' → H' p = some (.tup ys) → (∀ y ∈ ys, y ∈ xs) → ys.length ≤ xs.length → Q (.ref p) H') : rSlA K (.ref a) none (some 1) H Q :=
  ⟨a, xs, rfl, SqT.of ha, fun _ => k H a xs (Same.refl _) ha (fun _ h => h) (Nat.le_refl _), fun _ p hp => k _ p _ (same_upd hp) upd_same (fun y hy => by
    unfold cutV at hy
    exact List.mem_of_mem_drop (List.mem_of_mem_take hy)) (cutV_length xs none (some 1))⟩
theorem lst_dq {H : Hp} {a : Addr} {ns : List Int} (h : H a = some (.lst (ns.map V.int))) : Dq H (.ref a) (.list (ns.map .int)) := .lst h (dqA_ints ns)
theorem doorsTail (T : Txt K mg) {c1 P1 c2 P2 : Addr} (C : Codes K mg base c1 P1 c2 P2) {A : Around} {outer : List Env} {s : Shared} {H : Hp} (hgd : A.guards = some []) (hr : Room 9 (A.deeper (envOfC "_law_doors_right" (defScope s_law_doors_right) s.heap.objs.size (He.ga K "_law_doors_right") (.ref c1))))
    {p t tw tt : Addr} {S : Std} {n : Nat} {xs : List V} (hB : BookK K H p n S) (hE : EntryAt H (.ref t) S n) (he : H t = some (.tup [.ref tw, .ref tt, .int S.paid, .int n])) (hw : H tw = some (.tup (S.loads.map V.int))) (ht : H tt = some (.tup xs)) (htl : All2 (TI H) xs S.tops) (hk : Ok S n) :
    ∃ t3 : TS, PSs (XD P w K mg base c1 A outer s H) ((defBody s_law_doors_right).drop 3) t3 ∧
      ∀ (Q : VK) (H1 : Hp) (v2 v5 v6 v7 : Option V) (lo : Addr) (os : List V), LamX.ExtN H H1 → LamX.Tabs (tabsT P1 P2) H1 → H1 lo = some (.lst os) → os.length ≤ 20 → (∀ v ∈ os, OddT S H1 v) →
        (∀ H2, LamX.ExtN H H2 → LamX.Tabs (tabsT P1 P2) H2 → Q (.bl true) H2) → t3 { nx := fun _ H' => Q .non H', rt := Q } [some (.ref p), some (.ref t), v2, some (.ref tt), some (.ref lo), v5, v6, v7] H1 := by
  have DS := (ok_stands (P := P) (w := w) (base := base) T).mono (show 5 ≤ 9 by omega)
  have nd := sc_law_doors_right.nd
  have hu5 := u65 hr
  have hgd' := deeper_g hgd (envOfC "_law_doors_right" (defScope s_law_doors_right) s.heap.objs.size (He.ga K "_law_doors_right") (.ref c1))
  obtain ⟨t5, p5, r5⟩ := doors5 (P := P) (w := w) (outer := outer) (t := t) T C hgd hr hB hk
  obtain ⟨t6, p6, r6⟩ := doors6 (P := P) (w := w) (outer := outer) (t := t) T C hgd hr hB hk
  have hg := hk.good
  have e8 := hg.n8
  have e20 := hg.n20
  refine ⟨_, (pss_cons (ps_set (i := 4) nd rfl (Or.inl rfl) (pe_op op_cat (pe_op op_cat (pv 4)
      (pe_lc (own := [("_law_top", 5)]) (g := gName 5) (tt := tTest (tOp (rI0 fun i j => .bl (decide (j < i))) (tCB (fun xs H Q => ∃ p ys, xs = [.ref p] ∧ (SqL K H p ys ∨ SqT K H p ys) ∧ Q (.int ys.length) H) (tCons (tVar 5) tNil)) (tC (.int 1)))) (te := tRevT K (tVar 5)) rfl nd (pi_tup (pv 3)) (blkOk_by (own := [("_law_top", 5)]) (N := n_law_doors_right) (sc := defScope s_law_doors_right) (by decide +kernel))
        (fun _ _ _ _ _ => pg_name (i := 5) nd rfl (Or.inl rfl)) (fun _ _ _ _ _ => pts_one (pt_cmpR op_gt (pe_callB call_len_seq rfl T.f_len boot_len (pa_cons (pv 5) pa_nil)) pe_int (nomark _))) (fun _ _ _ _ _ => pe_revT (pv 5))))
      (pe_lc (own := [("_law_top", 5)]) (g := gName 5) (tt := tYes) (te := tCB (fun xs H Q => ∃ p ys, xs = [.ref p] ∧ (SqL K H p ys ∨ SqT K H p ys) ∧ ∀ l, H l = none → Q (.ref l) (upd H l (.lst ys))) (tCons (tVar 5) tNil)) rfl nd (pi_tup (pe_slice sl_tupA (pv 3) po_none (po_some pe_int))) (blkOk_by (own := [("_law_top", 5)]) (N := n_law_doors_right) (sc := defScope s_law_doors_right) (by decide +kernel))
        (fun _ _ _ _ _ => pg_name (i := 5) nd rfl (Or.inl rfl)) (fun _ _ _ _ _ => pts_nil) (fun _ _ _ _ _ => pe_callTy call_list_of rfl T.f_list (by decide +kernel) (pa_cons (pv 5) pa_nil)))))
  (pss_cons (ps_set (i := 4) nd rfl (Or.inl rfl) (pe_op op_cat (pv 4)
      (pe_lc (own := [("_law_one", 6)]) (g := gName 6) (tt := tTest (tOp rNotInT (tTup (tCons (tVar 6) tNil)) (tVar 3))) (te := tTup (tCons (tVar 6) tNil)) rfl nd (pi_range1 rfl T.f_range (pa_cons (pe_op op_add (pe_callB call_len_seq rfl T.f_len boot_len (pa_cons (pe_ix ix_tup (pv 1) pe_int (fun _ _ => rfl)) pa_nil)) pe_int) pa_nil)) (blkOk_by (own := [("_law_one", 6)]) (N := n_law_doors_right) (sc := defScope s_law_doors_right) (by decide +kernel))
        (fun _ _ _ _ _ => pg_name (i := 6) nd rfl (Or.inl rfl)) (fun _ _ _ _ _ => pts_one (pt_cmpR (op_notInT T.sysd hu5) (pe_tup (pa_cons (pv 6) pa_nil)) (pv 3) (by rfl))) (fun _ _ _ _ _ => pe_tup (pa_cons (pv 6) pa_nil)))))
  (pss_cons p5 (pss_cons p6
  (pss_one (ps_ret (pe_cg DS hgd' hr T.g_law_stands (pa_cons (pv 0) (pa_cons (pv 1) pa_nil))))))))), ?_⟩
  intro Q H1 v2 v5 v6 v7 lo os e1 T1 hlo hol hos kn
  have z : ∀ m : Nat, m ≤ 1000 → m ≤ sizeLine := fun m h => by rw [sizeLine_eq]; omega
  have nt : ∀ {ps : Array Value} {ys : List V}, HO.tup ys ≠ .tbl ps := fun z => by cases z
  have ht1 := e1 _ _ ht fun _ => nt
  have he1 := e1 _ _ he fun _ => nt
  have hw1 := e1 _ _ hw fun _ => nt
  have htl1 := TIs.ext (ExtN.keeps e1).ext htl
  have hxl := htl.length
  -- the tops turned round
  refine ⟨_, rfl, _, rfl, tt, rfl, ⟨_, SqT.of ht1⟩, fun D1 hD1 => ?_⟩
  refine lc_tupD (K := K) (a := tt) (xs := xs) (fun i acc H => Gat D1 (fun o => ∃ x, x ∈ S.tops ∧ 1 < x.length ∧ o = .tup (x.reverse.map V.int)) acc H) (fun i acc H H' b h => h.but b) (SqT.of ht1) hD1 (by omega) (fun y hy => absurd hy (by simp)) ?_ ?_
  · intro i y H4 acc hi hDa s4 hG Qe Qn hqe hqn
    obtain ⟨x, ex, hx⟩ := htl1.get hi
    have hxm := List.mem_of_getElem? ex
    obtain ⟨ya, rfl, hya⟩ := hx.ext (Ext.of s4)
    refine ⟨rfl, _, rfl, ya, _, rfl, .inr (SqT.of hya), _, _, rfl, rfl, _, rfl, ?_⟩
    rw [List.length_map]
    by_cases hl : (1 : Int) < (x.length : Int)
    · rw [decide_eq_true hl]
      refine iteT ⟨_, rfl, ya, _, rfl, SqT.of hya, fun q hq => hqe _ _ (hG.add hDa hq (same_upd hq) upd_same ⟨x, hxm, by omega, by rw [List.map_reverse]⟩) (same_upd hq)⟩
    · rw [decide_eq_false hl]
      exact iteF (hqn _ hG (Same.refl _))
  intro acc1 H3 hG1 hl1 s3 hDs1
  refine ⟨lo, D1, os, acc1, rfl, rfl, s3 _ _ hlo, hDs1, z _ (by omega), fun l1 hl1' => ?_⟩
  have s4 := same_upd (o := .lst (os ++ acc1)) hl1'
  have s14 := s3.trans s4
  have G1 : Gat D1 (fun o => ∃ x, x ∈ S.tops ∧ 1 < x.length ∧ o = .tup (x.reverse.map V.int)) acc1 (upd H3 l1 (.lst (os ++ acc1))) := hG1.but (But.of s4)
  have hl14 : upd H3 l1 (.lst (os ++ acc1)) l1 = some (.lst (os ++ acc1)) := upd_same
  revert s14 G1 hl14
  generalize upd H3 l1 (.lst (os ++ acc1)) = H4
  intro s14 G1 hl14
  -- the first top as a list
  refine ⟨_, rfl, ?_⟩
  dsimp only [tNoPart]
  refine ⟨1, rfl, ?_⟩
  refine slTake (s14 _ _ ht1) fun H5 ta ys s5 hta hsub hyl => ?_
  have s15 := s14.trans s5
  refine ⟨ta, rfl, ⟨_, SqT.of hta⟩, fun D2 hD2 => ?_⟩
  refine lc_tupD (K := K) (a := ta) (xs := ys) (tt := tYes) (fun i acc H => Gat D2 (fun o => ∃ x, x ∈ S.tops ∧ o = .lst (x.map V.int)) acc H) (fun i acc H H' b h => h.but b) (SqT.of hta) hD2 (by omega) (fun y hy => absurd hy (by simp)) ?_ ?_
  · intro i y H6 acc hi hDa s6 hG Qe Qn hqe hqn
    obtain ⟨j, hj⟩ := List.getElem?_of_mem (hsub y (List.mem_of_getElem? hi))
    obtain ⟨x, ex, hx⟩ := htl1.get hj
    have hxm := List.mem_of_getElem? ex
    obtain ⟨ya, rfl, hya⟩ := hx.ext (Ext.of (s15.trans s6))
    refine ⟨rfl, ?_⟩
    dsimp only [tYes]
    rw [if_pos rfl]
    exact ⟨_, rfl, ya, _, rfl, .inr (SqT.of hya), fun q hq => hqe _ _ (hG.add hDa hq (same_upd hq) upd_same ⟨x, hxm, rfl⟩) (same_upd hq)⟩
  intro acc2 H6 hG2 hl2 s6 hDs2
  have hl1' := hl1
  refine ⟨l1, D2, os ++ acc1, acc2, rfl, rfl, s6 _ _ (s5 _ _ hl14), hDs2, z _ (by rw [List.length_append]; omega), fun l2 hl2' => ?_⟩
  have s7 := same_upd (o := .lst ((os ++ acc1) ++ acc2)) hl2'
  have s17 := s15.trans (s6.trans s7)
  have G1' : Gat D1 (fun o => ∃ x, x ∈ S.tops ∧ 1 < x.length ∧ o = .tup (x.reverse.map V.int)) acc1 (upd H6 l2 (.lst ((os ++ acc1) ++ acc2))) := G1.but (But.of (s5.trans (s6.trans s7)))
  have G2' : Gat D2 (fun o => ∃ x, x ∈ S.tops ∧ o = .lst (x.map V.int)) acc2 (upd H6 l2 (.lst ((os ++ acc1) ++ acc2))) := hG2.but (But.of s7)
  have hl27 : upd H6 l2 (.lst ((os ++ acc1) ++ acc2)) l2 = some (.lst ((os ++ acc1) ++ acc2)) := upd_same
  revert s17 G1' G2' hl27
  generalize upd H6 l2 (.lst ((os ++ acc1) ++ acc2)) = H7
  intro s17 G1' G2' hl27
  -- numbers that stand alone for no top
  refine ⟨_, rfl, _, rfl, t, _, _, _, rfl, rfl, SqT.of (s17 _ _ he1), at0 rfl, tw, _, rfl, .inr (SqT.of (s17 _ _ hw1)), _, _, rfl, rfl, _, rfl, by rw [List.length_map]; omega, by rw [List.length_map]; omega, fun D3 hD3 => ?_⟩
  have elen : (((S.loads.map V.int).length : Int) + 1).toNat = S.loads.length + 1 := by rw [List.length_map]; omega
  rw [elen]
  refine lc_rangeD (lo := 0) (n := S.loads.length + 1) (fun i acc H => Gat D3 (fun o => ∃ zz : Int, [zz] ∉ S.tops ∧ 0 ≤ zz ∧ zz ≤ 100 ∧ o = .tup [.int zz]) acc H) (fun i acc H H' b h => h.but b) hD3 (by omega) (fun y hy => absurd hy (by simp)) ?_ ?_
  · intro i H8 acc hi hDa s8 hG Qe Qn hqe hqn
    refine ⟨rfl, _, rfl, z 1 (by omega), fun q hq => ?_⟩
    have sq := same_upd (o := .tup [.int ((0 : Int) + i)]) hq
    have s18 := (s17.trans s8).trans sq
    refine ⟨_, rfl, [(0 : Int) + i], S.tops, ⟨q, rfl, upd_same⟩, ⟨tt, xs, rfl, s18 _ _ ht1, TIs.ext (Ext.of s18) htl1⟩, _, rfl, ?_⟩
    by_cases hm : [(0 : Int) + i] ∈ S.tops
    · rw [decide_eq_true hm]
      exact iteF (hqn _ (hG.but (But.of sq)) sq)
    · rw [decide_eq_false hm]
      refine iteT ⟨_, rfl, z 1 (by omega), fun q2 hq2 => hqe _ _ ((hG.but (But.of sq)).add (sq _ _ hDa) hq2 (same_upd hq2) upd_same ⟨_, hm, by omega, by omega, rfl⟩) (sq.trans (same_upd hq2))⟩
  intro acc3 H8 hG3 hl3 s8 hDs3
  refine ⟨l2, D3, (os ++ acc1) ++ acc2, acc3, rfl, rfl, s8 _ _ hl27, hDs3, z _ (by rw [List.length_append, List.length_append]; omega), fun l3 hl3' => ?_⟩
  have s9 := same_upd (o := .lst (((os ++ acc1) ++ acc2) ++ acc3)) hl3'
  have s19 := s17.trans (s8.trans s9)
  have hG1f : Gat D1 (fun o => ∃ x, x ∈ S.tops ∧ 1 < x.length ∧ o = .tup (x.reverse.map V.int)) acc1 (upd H8 l3 (.lst (((os ++ acc1) ++ acc2) ++ acc3))) := G1'.but (But.of (s8.trans s9))
  have hG2f : Gat D2 (fun o => ∃ x, x ∈ S.tops ∧ o = .lst (x.map V.int)) acc2 (upd H8 l3 (.lst (((os ++ acc1) ++ acc2) ++ acc3))) := G2'.but (But.of (s8.trans s9))
  have hG3f : Gat D3 (fun o => ∃ zz : Int, [zz] ∉ S.tops ∧ 0 ≤ zz ∧ zz ≤ 100 ∧ o = .tup [.int zz]) acc3 (upd H8 l3 (.lst (((os ++ acc1) ++ acc2) ++ acc3))) := hG3.but (But.of s9)
  have e9 := e1.trans (LamX.ExtN.of s19)
  refine r5 _ _ _ _ _ _ tt l3 xs _ e9 (T1.ext s19) ht htl upd_same (fun v hv => ?_) fun H10 w2 w5 w6 w7 e10 T10 => ?_
  · rcases List.mem_append.mp hv with hv | hv
    · rcases List.mem_append.mp hv with hv | hv
      · rcases List.mem_append.mp hv with hv | hv
        · exact (hos v hv).keeps (ExtN.keeps (LamX.ExtN.of s19))
        · obtain ⟨a, o, rfl, _, ha, x, hx, hl, rfl⟩ := hG1f v hv
          have hs := hg.short x hx
          have hti : TI (upd H8 l3 (.lst (((os ++ acc1) ++ acc2) ++ acc3))) (.ref a) x.reverse := ⟨a, rfl, ha⟩
          exact ⟨⟨_, hti.dq, (rp_dT (ns := x.reverse) fun i hi => (hg.tiny x hx).2 i (List.mem_reverse.mp hi)).mono (by rw [List.length_reverse]; omega) (by omega)⟩, some x.reverse, .yes hti (by rw [List.length_reverse]; omega), decide_eq_false (rev_not hk hx hl)⟩
      · obtain ⟨a, o, rfl, _, ha, x, hx, rfl⟩ := hG2f v hv
        have hs := hg.short x hx
        have rx := rp_list (n := 0) (k := 0) (ds := x.map .int) fun d hd => by
          obtain ⟨i, hi, rfl⟩ := List.mem_map.mp hd
          exact rp_int ((hg.tiny x hx).2 i hi)
        exact ⟨⟨_, lst_dq ha, rx.mono (by rw [List.length_map]; omega) (by omega)⟩, none, .other (.lst ha) (by decide), rfl⟩
    · obtain ⟨a, o, rfl, _, ha, zz, hzn, h0, h1, rfl⟩ := hG3f v hv
      have hti : TI (upd H8 l3 (.lst (((os ++ acc1) ++ acc2) ++ acc3))) (.ref a) [zz] := ⟨a, rfl, ha⟩
      exact ⟨⟨_, hti.dq, (rp_dT (ns := [zz]) fun i hi => by rw [List.mem_singleton.mp hi]; exact Tiny.of (by omega) (by omega)).mono (by simp) (by omega)⟩, some [zz], .yes hti (by simp), decide_eq_false hzn⟩
  · refine r6 _ _ _ _ _ _ _ tt xs e10 T10 ht htl fun H11 w2 w4 w5 w6 w7 e11 T11 => ?_
    refine ⟨_, rfl, _, rfl, p, _, S, n, rfl, (ExtN.keeps e11).book hB, hE.ext (ExtN.keeps e11).ext, hg, hk.mild, fun H12 s12 => kn _ (e11.trans (LamX.ExtN.of s12)) (T11.ext s12)⟩
theorem ok_doors (T : Txt K mg) {c1 P1 c2 P2 : Addr} (C : Codes K mg base c1 P1 c2 P2) : DefG P w K mg base 10 (He.ga K "_law_doors_right") (spDoors K P1 P2) := by
  have DS := (ok_stands (P := P) (w := w) (base := base) T).mono (show 5 ≤ 9 by omega)
  refine defG T.d_law_doors_right sc_law_doors_right (fun _ _ _ _ _ _ us hl => match us, hl with | [_, _], _ => rfl) (fun vs H Q E h => ?_) (fun cdv A outer s H vs Q hlk hgd hr h => ?_)
  · obtain ⟨p, ev, S, n, rfl, _⟩ := h
    rfl
  · obtain ⟨p, ev, S, n, rfl, hB, hE, hk, hT, k⟩ := h
    obtain ⟨od, dV, kV, doc, pm, an, ct, osl, oc, hlk⟩ := hlk
    obtain rfl : cdv = .ref c1 := C.k1 _ _ _ _ hlk
    have nd := sc_law_doors_right.nd
    have hu := hr.units
    have hu5 := u65 hr
    have hgd' := deeper_g hgd (envOfC "_law_doors_right" (defScope s_law_doors_right) s.heap.objs.size (He.ga K "_law_doors_right") (.ref c1))
    obtain ⟨t, lo, to, rfl, he, ⟨tw, rfl, hw⟩, ⟨tt, xs, rfl, ht, htl⟩⟩ := id hE
    obtain ⟨t0, p0, r0⟩ := doors0 (P := P) (w := w) (outer := outer) (t := t) T C hgd hr hB hk
    obtain ⟨ttl, ptail, rtail⟩ := doorsTail (P := P) (w := w) (outer := outer) T C hgd hr hB hE he hw ht htl hk
    have hg := hk.good
    have e8 := hg.n8
    have e20 := hg.n20
    refine ⟨_, pss_cons p0
      (pss_cons (ps_set (i := 3) nd rfl (Or.inr rfl) (pe_ix ix_tup (pv 1) pe_int (fun _ _ => rfl)))
      (pss_cons (ps_set (i := 4) nd rfl (Or.inl rfl) (pe_lst (pa_cons pe_non (pa_cons pe_int (pa_cons (pe_tup pa_nil) (pa_cons (pe_tup (pa_cons pe_int pa_nil)) (pa_cons (pe_tup (pa_cons (pe_un un_neg pe_int) pa_nil)) (pa_cons (pe_lst (pa_cons pe_int pa_nil)) (pa_cons pe_str (pa_cons pe_dnewK (pa_cons (pe_tup (pa_cons pe_non pa_nil))
        (pa_cons (pe_tup (pa_cons (pe_lst (pa_cons pe_int pa_nil)) pa_nil)) (pa_cons (pe_tup (pa_cons pe_bl pa_nil)) (pa_cons (pe_tup (pa_cons pe_bl pa_nil)) (pa_cons (pe_tup (pa_cons pe_str pa_nil)) (pa_cons (pe_tup (pa_cons (pe_tup (pa_cons pe_int pa_nil)) pa_nil)) pa_nil))))))))))))))))
      ptail)), ?_⟩
    have z : ∀ m : Nat, m ≤ 1000 → m ≤ sizeLine := fun m h => by rw [sizeLine_eq]; omega
    have nt : ∀ {ps : Array Value} {ys : List V}, HO.tup ys ≠ .tbl ps := fun z => by cases z
    refine r0 _ H none none none none none none (LamX.ExtN.refl _) hT fun H1 w2 w3 w4 w5 w6 w7 e1 T1 => ?_
    refine ⟨_, rfl, t, _, _, _, rfl, rfl, SqT.of (e1 _ _ he fun _ => nt), at1 rfl, ?_⟩
    refine ⟨z 0 (by omega), fun a1 ha1 => ⟨z 1 (by omega), fun a2 ha2 => ⟨1, rfl, z 1 (by omega), fun a3 ha3 => ⟨z 1 (by omega), fun a4 ha4 => fun a5 ha5 => ⟨z 1 (by omega), fun a6 ha6 => ⟨z 1 (by omega), fun a7 ha7 => ⟨z 1 (by omega), fun a8 ha8 => ⟨z 1 (by omega), fun a9 ha9 => ⟨z 1 (by omega), fun a10 ha10 => ⟨z 1 (by omega), fun a11 ha11 => ⟨z 1 (by omega), fun a12 ha12 => ⟨z 1 (by omega), fun a13 ha13 => ⟨z 14 (by omega), fun lo2 hlo2 => ?_⟩⟩⟩⟩⟩⟩⟩⟩⟩⟩⟩⟩⟩
    have s1 := same_upd (o := .tup []) ha1
    have s2 := same_upd (o := .tup [.int 20]) ha2
    have s3 := same_upd (o := .tup [.int (-1)]) ha3
    have s4 := same_upd (o := .lst [.int 0]) ha4
    have s5 := same_upd (o := .dK []) ha5
    have s6 := same_upd (o := .tup [.non]) ha6
    have s7 := same_upd (o := .lst [.int 0]) ha7
    have s8 := same_upd (o := .tup [.ref a7]) ha8
    have s9 := same_upd (o := .tup [.bl true]) ha9
    have s10 := same_upd (o := .tup [.bl false]) ha10
    have s11 := same_upd (o := .tup [.str "0"]) ha11
    have s12 := same_upd (o := .tup [.int 0]) ha12
    have s13 := same_upd (o := .tup [.ref a12]) ha13
    have s14 := same_upd (o := .lst [.non, .int 0, .ref a1, .ref a2, .ref a3, .ref a4, .str "0", .ref a5, .ref a6, .ref a8, .ref a9, .ref a10, .ref a11, .ref a13]) hlo2
    have g13 := s14
    have g12 := s13.trans g13
    have g11 := s12.trans g12
    have g10 := s11.trans g11
    have g9 := s10.trans g10
    have g8 := s9.trans g9
    have g7 := s8.trans g8
    have g6 := s7.trans g7
    have g5 := s6.trans g6
    have g4 := s5.trans g5
    have g3 := s4.trans g4
    have g2 := s3.trans g3
    have g1 := s2.trans g2
    have g0 := s1.trans g1
    have h1 := g1 _ _ (upd_same (o := .tup []))
    have h2 := g2 _ _ (upd_same (o := .tup [.int 20]))
    have h3 := g3 _ _ (upd_same (o := .tup [.int (-1)]))
    have h4 := g4 _ _ (upd_same (o := .lst [.int 0]))
    have h5 := g5 _ _ (upd_same (o := .dK []))
    have h6 := g6 _ _ (upd_same (o := .tup [.non]))
    have h7 := g7 _ _ (upd_same (o := .lst [.int 0]))
    have h8 := g8 _ _ (upd_same (o := .tup [.ref a7]))
    have h9 := g9 _ _ (upd_same (o := .tup [.bl true]))
    have h10 := g10 _ _ (upd_same (o := .tup [.bl false]))
    have h11 := g11 _ _ (upd_same (o := .tup [.str "0"]))
    have h12 := g12 _ _ (upd_same (o := .tup [.int 0]))
    have h13 := g13 _ _ (upd_same (o := .tup [.ref a12]))
    have ty : ∀ ns : List Int, [] ∉ S.tops := fun _ h => hg.ne _ h rfl
    refine rtail Q _ _ _ _ _ lo2 [.non, .int 0, .ref a1, .ref a2, .ref a3, .ref a4, .str "0", .ref a5, .ref a6, .ref a8, .ref a9, .ref a10, .ref a11, .ref a13] (e1.trans (LamX.ExtN.of g0)) (T1.ext g0) upd_same (by simp) (fun v hv => ?_) k
    have l0 : Rp 1 1 (.list [.int 0]) := rp_lst1 (rp_int (by decide))
    simp only [List.mem_cons, List.not_mem_nil, or_false] at hv
    rcases hv with rfl | rfl | rfl | rfl | rfl | rfl | rfl | rfl | rfl | rfl | rfl | rfl | rfl | rfl
    · exact ⟨⟨_, .non, rp_non.mono (by omega) (by omega)⟩, none, .other .non (by decide), rfl⟩
    · exact ⟨⟨_, .int _, (rp_int (by decide)).mono (by omega) (by omega)⟩, none, .other (.int _) (by decide), rfl⟩
    · have hti : TI _ (.ref a1) [] := ⟨a1, rfl, h1⟩
      exact ⟨⟨_, hti.dq, (rp_dT (ns := []) fun i hi => absurd hi (by simp)).mono (by simp) (by omega)⟩, some [], .yes hti (by simp), decide_eq_false fun h => hg.ne _ h rfl⟩
    · have hti : TI _ (.ref a2) [20] := ⟨a2, rfl, h2⟩
      exact ⟨⟨_, hti.dq, (rp_dT (ns := [20]) fun i hi => by rw [List.mem_singleton.mp hi]; unfold Tiny; decide).mono (by simp) (by omega)⟩, some [20], .yes hti (by simp), decide_eq_false fun h => by have := hg.inr _ h 20 (by simp); omega⟩
    · have hti : TI _ (.ref a3) [-1] := ⟨a3, rfl, h3⟩
      exact ⟨⟨_, hti.dq, (rp_dT (ns := [-1]) fun i hi => by rw [List.mem_singleton.mp hi]; unfold Tiny; decide).mono (by simp) (by omega)⟩, some [-1], .yes hti (by simp), decide_eq_false fun h => by have := hg.inr _ h (-1) (by simp); omega⟩
    · exact ⟨⟨_, .lst h4 (.cons (.int 0) .nil), l0.mono (by omega) (by omega)⟩, none, .other (.lst h4) (by decide), rfl⟩
    · exact ⟨⟨_, .str _, ⟨rfl, by decide, by decide, by simp [PyData.depth]⟩⟩, none, .other (.str _) (by decide), rfl⟩
    · exact ⟨⟨_, .dic h5, rp_dic.mono (by omega) (by omega)⟩, none, .other (.dic h5) (by decide), rfl⟩
    · exact ⟨⟨_, .tup h6 (.cons .non .nil), (rp_one rp_non).mono (by omega) (by omega)⟩, none, .odd h6 (fun x hx => by rw [List.mem_singleton.mp hx]; exact ⟨_, .non⟩) rfl (by simp), rfl⟩
    · exact ⟨⟨_, .tup h8 (.cons (.lst h7 (.cons (.int 0) .nil)) .nil), (rp_one l0).mono (by omega) (by omega)⟩, none, .odd h8 (fun x hx => by rw [List.mem_singleton.mp hx]; exact ⟨_, .lst h7⟩) rfl (by simp), rfl⟩
    · exact ⟨⟨_, .tup h9 (.cons (.bl true) .nil), (rp_one (rp_bl true)).mono (by omega) (by omega)⟩, none, .odd h9 (fun x hx => by rw [List.mem_singleton.mp hx]; exact ⟨_, .bl true⟩) rfl (by simp), rfl⟩
    · exact ⟨⟨_, .tup h10 (.cons (.bl false) .nil), (rp_one (rp_bl false)).mono (by omega) (by omega)⟩, none, .odd h10 (fun x hx => by rw [List.mem_singleton.mp hx]; exact ⟨_, .bl false⟩) rfl (by simp), rfl⟩
    · exact ⟨⟨_, .tup h11 (.cons (.str _) .nil), (rp_one (n := 20) (k := 0) ⟨rfl, by decide, by decide, by simp [PyData.depth]⟩).mono (by omega) (by omega)⟩, none, .odd h11 (fun x hx => by rw [List.mem_singleton.mp hx]; exact ⟨_, .str _⟩) rfl (by simp), rfl⟩
    · exact ⟨⟨_, .tup h13 (.cons (.tup h12 (.cons (.int 0) .nil)) .nil), (rp_one (rp_one (rp_int (i := 0) (by decide)))).mono (by omega) (by omega)⟩, none, .odd h13 (fun x hx => by rw [List.mem_singleton.mp hx]; exact ⟨_, .tup h12⟩) rfl (by simp), rfl⟩
end
end JB
set_option Elab.async false
set_option linter.all false
set_option maxRecDepth 100000
set_option maxHeartbeats 4000000
namespace JB
open PySem PySem.Spec PyProof.Rows L2
/-! ### books led by drawn deeds -/
def TabKeep (H H' : Hp) : Prop := ∀ b o, H b = some o → ((∃ ps, o = .tbl ps) ∨ ∃ φ, o = .ext φ) → H' b = some o
theorem TabKeep.of {H H' : Hp} (s : Same H H') : TabKeep H H' := fun b o e _ => s b o e
theorem TabKeep.tabs {H H' : Hp} (k : TabKeep H H') {T : List (Addr × Str)} (t : LamX.Tabs T H) : LamX.Tabs T H' := fun p hp => by
  obtain ⟨ps, h1, h2, h3⟩ := t p hp
  refine ⟨ps, k _ _ h1 (.inl ⟨_, rfl⟩), h2, fun pos cv hc => ?_⟩
  obtain ⟨c, e1, e2⟩ := h3 pos cv hc
  exact ⟨c, e1, k _ _ e2 (.inr ⟨_, rfl⟩)⟩
theorem StateAt.tabk {H H' : Hp} {st c l : Addr} {a : Int} (h : StateAt H st c l a) (b : But [st, l] H H') : TabKeep H H' := fun x o e t => by
  obtain ⟨cs, ls, e1, e2, e3, _⟩ := h
  refine b x o e fun m => ?_
  rcases List.mem_cons.mp m with z | m
  · rw [z, e1] at e
    cases e
    rcases t with ⟨_, t⟩ | ⟨_, t⟩ <;> cases t
  · rw [List.mem_singleton.mp m, e3] at e
    cases e
    rcases t with ⟨_, t⟩ | ⟨_, t⟩ <;> cases t
section
variable {K : PySem.W.Frag} {H H' : Hp} {p : Addr} {n : Nat} {S : Std}
theorem BookAt.tabk (h : BookK K H p n S) (b : But [p] H H') : TabKeep H H' := fun x o e t => by
  obtain ⟨dx, q, hp⟩ := h.ins
  refine b x o e fun m => ?_
  rw [List.mem_singleton.mp m, hp] at e
  cases e
  rcases t with ⟨_, t⟩ | ⟨_, t⟩ <;> cases t
theorem BookAt.butx (h : BookK K H p n S) (b : But [p] H H') : Ext H H' := fun x ys e => by
  obtain ⟨dx, q, hp⟩ := h.ins
  refine b x _ e fun m => ?_
  rw [List.mem_singleton.mp m, hp] at e
  cases e
theorem BookAt.state {st c l : Addr} {a : Int} (h : BookK K H p n S) (b : But [p] H H') (hs : StateAt H st c l a) : StateAt H' st c l a := by
  obtain ⟨dx, q, hp⟩ := h.ins
  obtain ⟨cs, ls, e1, e2, e3, e4⟩ := hs
  have no : ∀ {x o}, H x = some o → (∀ C dx fs, o ≠ .ins C dx fs) → x ∉ [p] := fun {x o} e t m => by
    rw [List.mem_singleton.mp m, hp] at e
    exact t _ _ _ (Option.some.inj e).symm
  exact ⟨cs, ls, b _ _ e1 (no e1 fun _ _ _ z => by cases z), b _ _ e2 (no e2 fun _ _ _ z => by cases z), b _ _ e3 (no e3 fun _ _ _ z => by cases z), e4⟩
/-- draws leave the book -/
theorem BookAt.draws {st c l : Addr} {a : Int} (hs : StateAt H st c l a) (b : But [st, l] H H') (h : BookK K H p n S) : BookK K H' p n S := by
  obtain ⟨cs, ls, e1, e2, e3, _⟩ := id hs
  have X := b.ext hs
  have no : ∀ {x C dx fs}, H x = some (.ins C dx fs) → x ∉ [st, l] := fun {x C dx fs} e m => by
    rcases List.mem_cons.mp m with z | m
    · rw [z, e1] at e; cases e
    · rw [List.mem_singleton.mp m, e3] at e; cases e
  obtain ⟨dx, t, pre, sv, h1, h2, h3, s, dy, dd, wc, tn, h4, h5, h6, h7⟩ := h
  exact ⟨dx, t, pre, sv, b _ _ h1 (no h1), X _ _ h2, h3, s, dy, dd, wc, tn, h4, b _ _ h5 (no h5), h6.ext X, h7.ext X⟩
end
/-- what a deed's tuple says -/
def dDeed : Deed → PyData
  | .come w => .tuple [.str "come", .int w]
  | .take t => .tuple [.str "take", dT t]
  | .join t o => .tuple [.str "join", dT t, dT o]
theorem DeedAt.dq {H : Hp} {v : V} {D : Deed} (h : DeedAt H v D) : Dq H v (dDeed D) ∧ ∃ a, v = .ref a := by
  cases D with
  | come w =>
    obtain ⟨a, rfl, h⟩ := h
    exact ⟨.tup h (.cons (.str _) (.cons (.int _) .nil)), a, rfl⟩
  | take t =>
    obtain ⟨a, tv, rfl, h, h1⟩ := h
    exact ⟨.tup h (.cons (.str _) (.cons h1.dq .nil)), a, rfl⟩
  | join t o =>
    obtain ⟨a, tv, ov, rfl, h, h1, h2⟩ := h
    exact ⟨.tup h (.cons (.str _) (.cons h1.dq (.cons h2.dq .nil))), a, rfl⟩
theorem rp_str {x : Str} (hx : (PyData.str x).leavesShort 40 = true) (hl : x.cps.size ≤ 20) : Rp 20 0 (.str x) := ⟨rfl, hx, by simp only [PyData.bulk]; omega, by simp [PyData.depth]⟩
theorem rp_deed {S : Std} {n : Nat} (k : Ok S n) {D : Deed} (h : S.okD D) : Rp 1000 4 (dDeed D) := by
  have hg := k.good
  cases D with
  | come w => exact (rp_told (x := "come") (by decide) (by decide) (rp_int (Tiny.of (by have := h.1; omega) (by have := h.2.1; omega)))).mono (by omega) (by omega)
  | take t =>
    have ht : t ∈ S.tops := h
    have hl := hg.short t ht
    exact (rp_told (x := "take") (by decide) (by decide) (rp_dT (hg.tiny t ht).2)).mono (by omega) (by omega)
  | join t o =>
    obtain ⟨h1, h2, _⟩ := h
    have l1 := hg.short t h1
    have l2 := hg.short o h2
    refine (rp_tuple (n := 20) (k := 1) (ds := [.str "join", dT t, dT o]) fun y hy => ?_).mono (by simp) (by omega)
    simp only [List.mem_cons, List.not_mem_nil, or_false] at hy
    rcases hy with rfl | rfl | rfl
    · exact (rp_str (by decide) (by decide)).mono (by omega) (by omega)
    · exact (rp_dT (hg.tiny t h1).2).mono l1 (by omega)
    · exact (rp_dT (hg.tiny o h2).2).mono l2 (by omega)
theorem due_tiny {S : Std} {n : Nat} (k : Ok S n) {D : Deed} (h : S.okD D) : Tiny (S.due D) := by
  cases D with
  | come w => exact Tiny.of (by show _ < (S.loads.length : Int); omega) (by show (S.loads.length : Int) < _; have := k.n20; omega)
  | take t => exact Tiny.of (by have := k.wt (t := t) h; show _ < S.wt t; omega) (by have := k.wt (t := t) h; show S.wt t < _; omega)
  | join t o => exact loss_small k h.1 h.2.1 h.2.2
theorem StateAt.extN {H H' : Hp} {st c l : Addr} {a : Int} (e : LamX.ExtN H H') (h : StateAt H st c l a) : StateAt H' st c l a := by
  obtain ⟨cs, ls, h1, h2, h3, h4⟩ := h
  exact ⟨cs, ls, e _ _ h1 (fun _ z => by cases z), e _ _ h2 (fun _ z => by cases z), e _ _ h3 (fun _ z => by cases z), h4⟩
/-- a new book is made -/
theorem made_same {H H2 : Hp} {x dx : Addr} {o u : HO} (hx : H x = none) (hd : H dx = none) (b : But [x] (upd (upd H dx o) x u) H2) : Same H H2 := fun y v e => by
  have n1 := ne_of_none e hx
  have n2 := ne_of_none e hd
  exact b y v (by rw [upd_ne n1, upd_ne n2]; exact e) (by simp [n1])
def spRight (P1 P2 : Addr) : Sp := fun vs H Q _ => ∃ st c l a, vs = [.ref st] ∧ StateAt H st c l a ∧ c ≠ l ∧ 0 ≤ a ∧ a ≤ 800000 ∧ LamX.Tabs (tabsT P1 P2) H ∧
  ∀ H' a', StateAt H' st c l a' → a ≤ a' → a' ≤ a + 200 → LamX.Tabs (tabsT P1 P2) H' → Q (.bl true) H'
section
variable {P : Program} {w : World} {K : PySem.W.Frag} {mg : Str → Option Value} {base : Heap}
theorem ok_right (T : Txt K mg) {c1 P1 c2 P2 : Addr} (C : Codes K mg base c1 P1 c2 P2) : DefG P w K mg base 11 (He.ga K "_law_right") (spRight P1 P2) := by
  have DN := (ok_book_init (P := P) (w := w) (base := base) T).mono (show 3 ≤ 9 by omega)
  have DE := (ok_entry (P := P) (w := w) (base := base) T).mono (show 1 ≤ 10 by omega)
  have DR := (ok_draw (P := P) (w := w) (base := base) T).mono (show 2 ≤ 10 by omega)
  have DD := (ok_deed (P := P) (w := w) (base := base) T).mono (show 4 ≤ 10 by omega)
  have DU := (ok_due (P := P) (w := w) (base := base) T).mono (show 3 ≤ 10 by omega)
  have DO := (ok_done (P := P) (w := w) (base := base) T).mono (show 7 ≤ 10 by omega)
  have DA := (ok_after (P := P) (w := w) (base := base) T).mono (show 1 ≤ 10 by omega)
  have DS := (ok_stands (P := P) (w := w) (base := base) T).mono (show 5 ≤ 10 by omega)
  have DL := (ok_losses (P := P) (w := w) (base := base) T).mono (show 6 ≤ 10 by omega)
  have DQ := ok_doors (P := P) (w := w) T C
  refine defG T.d_law_right sc_law_right (fun _ _ _ _ _ _ us hl => match us, hl with | [_], _ => rfl) (fun vs H Q E h => ?_) (fun cdv A outer s H vs Q hlk hgd hr h => ?_)
  · obtain ⟨st, c, l, a, rfl, _⟩ := h
    rfl
  · obtain ⟨st, c, l, a, rfl, hst, ncl, h0, h1, hT, k⟩ := h
    have nd := sc_law_right.nd
    have hu := hr.units
    have hgd' := deeper_g hgd (envOfC "_law_right" (defScope s_law_right) s.heap.objs.size (He.ga K "_law_right") cdv)
    have br : bootBuiltins "repr" = some (.builtin "repr") := by decide +kernel
    have ib : bootBuiltins "int" = some (.type "int") := by decide +kernel
    refine ⟨_, pss_cons (ps_par (i := 1) (j := 2) (by rfl) nd rfl rfl (by decide) rfl rfl (pa_cons (pe_new0 T.mkJ DN hr T.g_Joinbook pass0) (pa_cons (pe_cd0 DE hr T.g_law_entry pass0) pa_nil)) (by rfl))
      (pss_cons (ps_for PassesOwn.never rfl (pi_range1 rfl T.f_range (pa_cons (pe_op op_add pe_int (pe_cd DR hr T.g_law_draw pass0 (pa_cons (pv 0) (pa_cons pe_int pa_nil)))) pa_nil)) (pg_name (i := 3) nd rfl (Or.inl rfl))
        (pss_cons (ps_set (i := 4) nd rfl (Or.inl rfl) (pe_cd DD hr T.g_law_deed pass0 (pa_cons (pv 0) (pa_cons (pv 2) pa_nil))))
        (pss_cons (ps_if (pt_cmpR op_isN (pv 4) pe_non (by rfl)) (pss_one ps_break) pss_nil)
        (pss_cons (ps_par (i := 5) (j := 6) (by rfl) nd rfl rfl (by decide) rfl rfl (pa_cons (pe_cd DU hr T.g_law_due pass0 (pa_cons (pv 2) (pa_cons (pv 4) pa_nil))) (pa_cons (pe_callB (call_repr T.sysd hgd' hu) rfl T.f_repr br (pa_cons (pv 4) pa_nil)) pa_nil)) (by rfl))
        (pss_cons (ps_if (PW.pt (pw_or (pt_cmpR op_ne (pe_callB (call_repr T.sysd hgd' hu) rfl T.f_repr br (pa_cons (pe_cd DO hr T.g_law_done pass0 (pa_cons (pv 1) (pa_cons (pv 4) pa_nil))) pa_nil)) (pe_callB (call_repr T.sysd hgd' hu) rfl T.f_repr br (pa_cons (pv 5) pa_nil)) (by rfl))
            (pw_or1 (pt_cmpR op_ne (pe_callB (call_repr T.sysd hgd' hu) rfl T.f_repr br (pa_cons (pv 4) pa_nil)) (pv 6) (by rfl))))) (pss_one (ps_ret pe_bl)) pss_nil)
        (pss_cons (ps_set (i := 2) nd rfl (Or.inl rfl) (pe_cd DA hr T.g_law_after pass0 (pa_cons (pv 2) (pa_cons (pv 4) pa_nil))))
        (pss_one (ps_if (PW.pt (pw_or (pt_not (pt_val (pe_cg DS hgd' hr T.g_law_stands (pa_cons (pv 1) (pa_cons (pv 2) pa_nil))))) (pw_or1 (PW.pt (pw_and (pt_cmpR op_eq (pe_op op_mod (pe_callTy call_int1 rfl T.f_int ib (pa_cons (pv 3) pa_nil)) pe_int) pe_int (by rfl))
            (pw_and1 (pt_not (pt_val (pe_cg DL hgd' hr T.g_law_losses_right (pa_cons (pv 1) (pa_cons (pv 2) pa_nil))))))))))) (pss_one (ps_ret pe_bl)) pss_nil))))))))
      (pss_one (ps_ret (pe_and (pe_cg DL hgd' hr T.g_law_losses_right (pa_cons (pv 1) (pa_cons (pv 2) pa_nil))) (pe_one (pe_cg DQ hgd' hr T.g_law_doors_right (pa_cons (pv 1) (pa_cons (pv 2) pa_nil)))))))), ?_⟩
    intro x dx hx hdx ne
    refine ⟨x, dx, rfl, upd_same, fun H2 b2 hB2 => ⟨rfl, rfl, fun H3 e s3 hE3 => ⟨_, _, rfl, ?_⟩⟩⟩
    have s02 := made_same hx hdx b2
    have s03 := s02.trans s3
    refine ⟨_, rfl, st, c, l, a, 25, rfl, hst.same s03, ncl, h0, by omega, by decide, by decide, fun H4 r b4 hst4 r0 r1 => ⟨_, _, rfl, rfl, _, rfl, by omega, by omega, ?_⟩⟩
    have hst3 := hst.same s03
    have hB4 := BookAt.draws hst3 b4 (hB2.same s3)
    have hE4 := hE3.ext (b4.ext hst3)
    have T4 := (hst3.tabk b4).tabs (hT.ext s03)
    -- the end
    have fin : ∀ (σ : L2.St) (H' : Hp), (∃ ev S n a' v3 v4 v5 v6, σ = [some (.ref st), some (.ref x), some ev, v3, v4, v5, v6] ∧ StateAt H' st c l a' ∧ a ≤ a' ∧ a' ≤ a + 200 ∧ BookK K H' x n S ∧ EntryAt H' ev S n ∧ Ok S n ∧ LamX.Tabs (tabsT P1 P2) H') →
        tRet (tAndV (tCall (spLosses K) [] E0 (tCons (tVar 1) (tCons (tVar 2) tNil))) (tCall (spDoors K P1 P2) [] E0 (tCons (tVar 1) (tCons (tVar 2) tNil)))) { nx := fun _ H' => Q .non H', rt := Q } σ H' := by
      rintro σ H' ⟨ev, S, n, a', v3, v4, v5, v6, rfl, hs', ha0, ha1, hB', hE', hk', T'⟩
      refine ⟨_, rfl, _, rfl, x, ev, S, n, rfl, hB', hE', hk', fun H5 s5 => ⟨true, rfl, iteT ?_⟩⟩
      exact ⟨_, rfl, _, rfl, x, ev, S, n, rfl, hB'.same s5, hE'.ext (Ext.of s5), hk', T'.ext s5, fun H6 e6 T6 => k H6 a' ((hs'.same s5).extN e6) ha0 ha1 T6⟩
    refine for_range (lo := 0) (n := (6 + r).toNat) (fun i σ H' => ∃ ev S n a' v3 v4 v5 v6, σ = [some (.ref st), some (.ref x), some ev, v3, v4, v5, v6] ∧ StateAt H' st c l a' ∧ a ≤ a' ∧ a' ≤ a + 1 + 5 * (i : Int) ∧ BookK K H' x n S ∧ EntryAt H' ev S n ∧ Ok S n ∧ n ≤ i ∧ LamX.Tabs (tabsT P1 P2) H')
      ⟨e, std0, 0, a + 1, _, _, _, _, rfl, hst4, by omega, by omega, hB4, hE4, ok_std0, Nat.le_refl _, T4⟩ ?_ ?_
    · rintro i σ H5 hi ⟨ev, S, n, a', v3, v4, v5, v6, rfl, hs5, ha0, ha1, hB5, hE5, hk, hni, T5⟩
      have hg := hk.good
      refine ⟨_, rfl, _, rfl, st, c, l, a', ev, S, n, rfl, hs5, ncl, by omega, by omega, hE5, hg, hk.nd, fun H6 dv a6 b6 hs6 ha2 ha3 hcase => ?_⟩
      have X6 := b6.ext hs5
      have hB6 := BookAt.draws hs5 b6 hB5
      have hE6 := hE5.ext X6
      have T6 := (hs5.tabk b6).tabs T5
      refine ⟨_, rfl, rfl, _, rfl, ?_⟩
      rcases hcase with rfl | ⟨D, hD, hok⟩
      · rw [decide_eq_true rfl]
        exact iteT (fin _ _ ⟨ev, S, n, a6, _, _, _, _, rfl, hs6, by omega, by omega, hB6, hE6, hk, T6⟩)
      · obtain ⟨hdq, da, rfl⟩ := hD.dq
        rw [decide_eq_false (fun e => by cases e)]
        refine iteF ⟨_, rfl, _, rfl, _, _, S, n, D, rfl, hE6, hD, hg, hok, fun H7 s7 => ?_⟩
        have rd := rp_deed hk hok
        have ri := rp_int (due_tiny hk hok)
        refine ⟨_, rfl, _, dDeed D, rfl, Dq.same s7 _ _ hdq, .inr ⟨_, rfl⟩, rd.sh, Nat.le_trans rd.dp (by omega), rd.fits (by omega), _, _, rfl, ?_⟩
        refine ⟨_, rfl, _, rfl, x, _, S, n, D, rfl, hB6.same s7, hD.ext (Ext.of s7), hg, hok, by omega, fun H8 b8 hB8 => ?_⟩
        have hB7 := hB6.same s7
        have X8 := hB7.butx b8
        have hD8 := (hD.ext (Ext.of s7)).ext X8
        have hE8 := (hE6.ext (Ext.of s7)).ext X8
        have hs8 := hB7.state b8 (hs6.same s7)
        have T8 := (hB7.tabk b8).tabs (T6.ext s7)
        refine ⟨_, .int (S.due D), rfl, .int _, .inl ⟨_, rfl⟩, ri.sh, Nat.le_trans ri.dp (by omega), ri.fits (by omega), ?_⟩
        refine ⟨_, rfl, _, .int (S.due D), rfl, .int _, .inl ⟨_, rfl⟩, ri.sh, Nat.le_trans ri.dp (by omega), ri.fits (by omega), rfl, _, rfl, ?_⟩
        rw [decide_eq_true rfl]
        refine iteF ⟨_, rfl, _, dDeed D, rfl, hD8.dq.1, .inr ⟨_, rfl⟩, rd.sh, Nat.le_trans rd.dp (by omega), rd.fits (by omega), _, rfl, rfl, _, rfl, ?_⟩
        rw [decide_eq_true rfl]
        refine iteF ⟨_, rfl, _, rfl, _, _, S, n, D, rfl, hE8, hD8, hg, hok, fun H9 ev' s9 hE9 => ?_⟩
        have hk' : Ok (S.after D) (n + 1) := hk.after hok (by omega)
        have hB9 := hB8.same s9
        refine ⟨_, rfl, _, rfl, x, ev', S.after D, n + 1, rfl, hB9, hE9, hk'.good, hk'.mild, fun H10 s10 => ⟨true, rfl, iteF ?_⟩⟩
        have s910 := s9.trans s10
        refine ⟨_, rfl, .inl ⟨_, rfl, _, _, rfl, rfl, (show (0 : Int) < 5 by decide), rfl, _, rfl, ?_⟩⟩
        by_cases h5 : V.int (((0 : Int) + i) % 5) = V.int 0
        · rw [decide_eq_true h5]
          refine iteT ⟨_, rfl, _, rfl, x, ev', S.after D, n + 1, rfl, hB9.same s10, hE9.ext (Ext.of s10), hk', fun H11 s11 => ⟨true, rfl, iteF ?_⟩⟩
          have s911 := s910.trans s11
          exact ⟨ev', S.after D, n + 1, a6, _, _, _, _, rfl, hs8.same s911, by omega, by omega, hB8.same s911, hE9.ext (Ext.of (s10.trans s11)), hk', by omega, T8.ext s911⟩
        · rw [decide_eq_false h5]
          refine iteF (iteF ?_)
          exact ⟨ev', S.after D, n + 1, a6, _, _, _, _, rfl, hs8.same s910, by omega, by omega, hB8.same s910, hE9.ext (Ext.of s10), hk', by omega, T8.ext s910⟩
    · rintro σ H' ⟨ev, S, n, a', v3, v4, v5, v6, rfl, hs', ha0, ha1, hB', hE', hk', hni, T'⟩
      exact fin _ _ ⟨ev, S, n, a', _, _, _, _, rfl, hs', ha0, by omega, hB', hE', hk', T'⟩
end
end JB
set_option Elab.async false
set_option linter.all false
set_option maxRecDepth 100000
set_option maxHeartbeats 4000000
/-! The books that are written out. -/
namespace JB
open PySem PySem.Spec PyProof.Rows L2
def cb : Nat → Std
  | 0 => std0
  | i + 1 => (cb i).come 1000000000
def sb9 : Std := (cb 8).joined [0] [1]
def sb10 : Std := sb9.come 3
def sb11 : Std := sb10.taken [8]
def ce : Nat → Std
  | 0 => sb11
  | i + 1 => ((ce i).come (9 + i)).taken [(9 + i : Int)]
def sb12 : Std := (ce 10).come 1
def sb13 : Std := sb12.taken [19]
theorem come_len (S : Std) (w : Int) : (S.come w).loads.length = S.loads.length + 1 ∧ (S.come w).tops.length = S.tops.length + 1 := by
  refine ⟨by simp [Std.come], ?_⟩
  show (sT _).length = _
  rw [sT_len]
  simp
theorem cb_ok : ∀ i, i ≤ 8 → Ok (cb i) i ∧ (cb i).loads.length = i ∧ (cb i).tops.length = i
  | 0, _ => ⟨ok_std0, rfl, rfl⟩
  | i + 1, h => by
    obtain ⟨k, h1, h2⟩ := cb_ok i (by omega)
    refine ⟨k.come (by omega) (by omega) (by omega) (by omega) (by omega), ?_, ?_⟩
    · show ((cb i).come _).loads.length = _
      rw [(come_len _ _).1, h1]
    · show ((cb i).come _).tops.length = _
      rw [(come_len _ _).2, h2]
theorem f9 : [0] ∈ (cb 8).tops ∧ [1] ∈ (cb 8).tops ∧ (cb 8).loss [0] [1] = 0 := by decide +kernel
theorem ok9 : Ok sb9 9 := (cb_ok 8 (by omega)).1.joined f9.1 f9.2.1 (by decide) (by omega)
theorem f10 : sb9.loads.length = 8 ∧ sb9.tops.length = 7 := by decide +kernel
theorem ok10 : Ok sb10 10 := ok9.come (by omega) (by omega) (by rw [f10.2]; omega) (by rw [f10.1]; omega) (by omega)
theorem f11 : [8] ∈ sb10.tops ∧ sb10.wt [8] = 3 := by decide +kernel
theorem ok11 : Ok sb11 11 := ok10.taken (by omega)
theorem fe : ∀ i < 10, (ce i).tops.length = 7 ∧ (ce i).loads.length = 9 + i ∧ [(9 + i : Int)] ∈ ((ce i).come (9 + i)).tops ∧ ((ce i).come (9 + i)).wt [(9 + i : Int)] = 9 + i := by decide +kernel
theorem ce_ok : ∀ i, i ≤ 10 → Ok (ce i) (11 + 2 * i)
  | 0, _ => ok11
  | i + 1, h => by
    have k := ce_ok i (by omega)
    obtain ⟨f1, f2, f3, f4⟩ := fe i (by omega)
    have k1 := k.come (w := 9 + i) (by omega) (by omega) (by omega) (by omega) (by omega)
    exact (k1.taken (x := [(9 + i : Int)]) (by omega))
theorem f12 : (ce 10).tops.length = 7 ∧ (ce 10).loads.length = 19 := by decide +kernel
theorem ok12 : Ok sb12 32 := (ce_ok 10 (by omega)).come (by omega) (by omega) (by rw [f12.1]; omega) (by rw [f12.2]; omega) (by omega)
theorem f13 : sb12.loads.length = 20 ∧ sb12.tops.length = 8 ∧ sb12.tops[0]? = some [0, 1] ∧ [19] ∈ sb12.tops ∧ sb12.wt [19] = 1 := by decide +kernel
theorem ok13 : Ok sb13 33 := ok12.taken (by omega)
theorem f14 : sb13.loads.length = 20 ∧ sb13.tops.length = 7 := by decide +kernel
/-! the book of the law itself -/
def la : List Int := [5, 1, 1, 4]
def lc (i : Nat) : Std := (la.take i).foldl Std.come std0
def ld1 : Std := (lc 4).joined [0] [3]
def ld2 : Std := ld1.taken [1]
def ld3 : Std := ld2.joined [0, 3] [2]
theorem fl : (∀ i < 4, (lc i).tops.length = i ∧ (lc i).loads.length = i ∧ lc (i + 1) = (lc i).come (la.getD i 0)) ∧ (lc 4).fin = 19 ∧ [0] ∈ (lc 4).tops ∧ [1] ∈ (lc 4).tops ∧ [2] ∈ (lc 4).tops ∧ [3] ∈ (lc 4).tops ∧ (lc 4).loss [0] [1] = 3 ∧ (lc 4).loss [1] [2] = 0 ∧ (lc 4).loss [0] [3] = 3 := by
  refine ⟨?_, ?_⟩
  · intro i hi
    refine ⟨?_, ?_, ?_⟩
    · revert i; decide +kernel
    · revert i; decide +kernel
    · match i, hi with
      | 0, _ => rfl
      | 1, _ => rfl
      | 2, _ => rfl
      | 3, _ => rfl
  · decide +kernel
theorem fd1 : ld1.paid = 9 ∧ ld1.tops = [[0, 3], [1], [2]] ∧ ld1.wt [0, 3] = 9 ∧ ld1.fin = 22 ∧ ld1.wt [1] = 1 := by decide +kernel
theorem fd2 : ld2.fin = 19 ∧ ld2.tops = [[0, 3], [2]] ∧ ld2.loss [0, 3] [2] = 0 := by decide +kernel
theorem fd3 : ld3.tops = [[0, 2, 3]] ∧ ld3.paid = 19 := by decide +kernel
theorem lc_ok : ∀ i, i ≤ 4 → Ok (lc i) i
  | 0, _ => ok_std0
  | i + 1, h => by
    have k := lc_ok i (by omega)
    obtain ⟨f1, f2, f3⟩ := fl.1 i (by omega)
    rw [f3]
    have hr : 1 ≤ la.getD i 0 ∧ la.getD i 0 ≤ 1000000000 := by
      match i, h with
      | 0, _ => decide
      | 1, _ => decide
      | 2, _ => decide
      | 3, _ => decide
    exact k.come hr.1 hr.2 (by omega) (by omega) (by omega)
theorem ld1_ok : Ok ld1 5 := (lc_ok 4 (by omega)).joined fl.2.2.1 fl.2.2.2.2.2.1 (by decide) (by omega)
theorem ld2_ok : Ok ld2 6 := ld1_ok.taken (by omega)
theorem ld3_ok : Ok ld3 7 := ld2_ok.joined (by rw [fd2.2.1]; simp) (by rw [fd2.2.1]; simp) (by decide) (by omega)
end JB
set_option Elab.async false
set_option linter.all false
set_option maxRecDepth 100000
set_option maxHeartbeats 4000000
namespace JB
open PySem PySem.Spec PyProof.Rows L2
/-! ### calls that go well -/
def IsD : HO → Prop
  | .lst _ => True
  | .tup _ => True
  | .dK _ => True
  | _ => False
/-- what is data stays -/
def KeepD (H H' : Hp) : Prop := ∀ b o, H b = some o → IsD o → H' b = some o
theorem KeepD.of {H H' : Hp} (s : Same H H') : KeepD H H' := fun b o e _ => s b o e
theorem KeepD.trans {H H1 H2 : Hp} (a : KeepD H H1) (b : KeepD H1 H2) : KeepD H H2 := fun c o e d => b c o (a c o e d) d
theorem KeepD.ofN {H H' : Hp} (e : LamX.ExtN H H') : KeepD H H' := fun b o h d => e b o h fun ps z => by rw [z] at d; exact d
theorem KeepD.ext {H H' : Hp} (k : KeepD H H') : Ext H H' := fun b xs e => k b _ e trivial
theorem BookAt.keepD {K : PySem.W.Frag} {H H' : Hp} {p : Addr} {n : Nat} {S : Std} (h : BookK K H p n S) (b : But [p] H H') : KeepD H H' := fun x o e d => by
  obtain ⟨dx, q, hp⟩ := h.ins
  refine b x o e fun m => ?_
  rw [List.mem_singleton.mp m, hp] at e
  cases e
  exact d
mutual
theorem Dq.keepD {H H' : Hp} (s : KeepD H H') : ∀ (d : PyData) (v : V), Dq H v d → Dq H' v d
  | .none, _, h => by cases h; exact .non
  | .bool b, _, h => by cases h; exact .bl b
  | .int i, _, h => by cases h; exact .int i
  | .str x, _, h => by cases h; exact .str x
  | .list ds, _, h => by
    cases h with
    | lst e t => exact .lst (s _ _ e trivial) (DqA.keepD s ds _ t)
  | .tuple ds, _, h => by
    cases h with
    | tup e t => exact .tup (s _ _ e trivial) (DqA.keepD s ds _ t)
  | .dict _, _, h => by
    cases h with
    | dic e => exact .dic (s _ _ e trivial)
theorem DqA.keepD {H H' : Hp} (s : KeepD H H') : ∀ (ds : List PyData) (vs : List V), DqA H vs ds → DqA H' vs ds
  | [], _, h => by cases h; exact .nil
  | d :: ds, _, h => by
    cases h with
    | cons h1 h2 => exact .cons (Dq.keepD s d _ h1) (DqA.keepD s ds _ h2)
end
section
variable {K : PySem.W.Frag} {H : Hp} {Q : VK} {p : Addr} {n i : Nat} {S : Std} {σ : L2.St} {tA tB : TE}
theorem go_come {x : Int} (hB : BookK K H p n S) (hk : Ok S n) (h0 : σ[i]? = some (some (.ref p))) (hA : ∀ R : VK, R (.int x) H → tA σ H R) (h1 : 1 ≤ x) (h2 : x ≤ 1000000000) (h20 : S.loads.length ≠ 20) (h8 : S.tops.length ≠ 8)
    (k : ∀ H', But [p] H H' → BookK K H' p (n + 1) (S.come x) → Q (.int S.loads.length) H') : tMeth (cJ K) "come" (spBCome K) [] E0 (tVar i) (tCons tA tNil) σ H Q := by
  obtain ⟨dx, t, hp⟩ := hB.ins
  have hb : isB (.int x) 1 1000000000 = true := by simp [isB, h1, h2]
  exact ⟨_, h0, p, dx, _, rfl, hp, rfl, hA _ ⟨p, n, S, _, "int", rfl, hB, hk.good, by have := hk.n1; omega, .int x, (fun e => by rw [hb] at e; cases e), (fun _ e => absurd e h20), (fun _ _ e => absurd e h8), fun y ey _ _ _ => by cases ey; exact k⟩⟩
theorem go_take {t : List Int} (hB : BookK K H p n S) (hk : Ok S n) (h0 : σ[i]? = some (some (.ref p))) (hA : ∀ R : VK, (∀ H' v, Same H H' → TI H' v t → R v H') → tA σ H R) (ht : t ∈ S.tops)
    (k : ∀ H', But [p] H H' → BookK K H' p (n + 1) (S.taken t) → Q (.int (S.wt t)) H') : tMeth (cJ K) "take" (spTake K) [] E0 (tVar i) (tCons tA tNil) σ H Q := by
  obtain ⟨dx, q, hp⟩ := hB.ins
  have hl := hk.good.short t ht
  exact ⟨_, h0, p, dx, _, rfl, hp, rfl, hA _ fun H' v s' hv => ⟨p, n, S, v, some t, rfl, hB.same s', hk.good, by have := hk.n1; omega, .yes hv (by omega), fun z ez _ H'' b hb => by cases ez; exact k H'' (Same.but s' b) hb, fun e => by rw [show S.has (some t) = true from decide_eq_true ht] at e; cases e⟩⟩
theorem go_weight {t : List Int} (hB : BookK K H p n S) (hk : Ok S n) (h0 : σ[i]? = some (some (.ref p))) (hA : ∀ R : VK, (∀ H' v, Same H H' → TI H' v t → R v H') → tA σ H R) (ht : t ∈ S.tops)
    (k : ∀ H', Same H H' → Q (.int (S.wt t)) H') : tMeth (cJ K) "weight" (spBW K) [] E0 (tVar i) (tCons tA tNil) σ H Q := by
  obtain ⟨dx, q, hp⟩ := hB.ins
  have hl := hk.good.short t ht
  exact ⟨_, h0, p, dx, _, rfl, hp, rfl, hA _ fun H' v s' hv => ⟨p, n, S, v, some t, rfl, hB.same s', hk.good, .yes hv (by omega), fun z ez _ H'' s'' => by cases ez; exact k H'' (s'.trans s''), fun e => by rw [show S.has (some t) = true from decide_eq_true ht] at e; cases e⟩⟩
theorem go_loss {t u : List Int} (hB : BookK K H p n S) (hk : Ok S n) (h0 : σ[i]? = some (some (.ref p))) (hA : ∀ H1 (R : VK), (∀ H' v, Same H1 H' → TI H' v t → R v H') → tA σ H1 R) (hA2 : ∀ H1 (R : VK), (∀ H' v, Same H1 H' → TI H' v u → R v H') → tB σ H1 R) (ht : t ∈ S.tops) (hu : u ∈ S.tops) (ne : t ≠ u)
    (k : ∀ H', Same H H' → Q (.int (S.loss t u)) H') : tMeth (cJ K) "loss" (spLoss K) [] E0 (tVar i) (tCons tA (tCons tB tNil)) σ H Q := by
  obtain ⟨dx, q, hp⟩ := hB.ins
  have hl := hk.good.short t ht
  have hl2 := hk.good.short u hu
  exact ⟨_, h0, p, dx, _, rfl, hp, rfl, hA _ _ fun H' v s' hv => hA2 _ _ fun H2 v2 s2 hv2 => ⟨p, n, S, v, some t, v2, some u, rfl, hB.same (s'.trans s2), hk.good, .yes (hv.ext (Ext.of s2)) (by omega), fun _ => .yes hv2 (by omega), fun z y ez ey _ _ _ H'' s'' => by cases ez; cases ey; exact k H'' ((s'.trans s2).trans s''),
    fun e => by rw [show S.two (some t) (some u) = true by simp [Std.two, Std.has, ht, hu, ne]] at e; cases e⟩⟩
theorem go_join {t u : List Int} (hB : BookK K H p n S) (hk : Ok S n) (h0 : σ[i]? = some (some (.ref p))) (hA : ∀ H1 (R : VK), (∀ H' v, Same H1 H' → TI H' v t → R v H') → tA σ H1 R) (hA2 : ∀ H1 (R : VK), (∀ H' v, Same H1 H' → TI H' v u → R v H') → tB σ H1 R) (ht : t ∈ S.tops) (hu : u ∈ S.tops) (ne : t ≠ u)
    (k : ∀ H', But [p] H H' → BookK K H' p (n + 1) (S.joined t u) → Q (.int (S.loss t u)) H') : tMeth (cJ K) "join" (spJoin K) [] E0 (tVar i) (tCons tA (tCons tB tNil)) σ H Q := by
  obtain ⟨dx, q, hp⟩ := hB.ins
  have hl := hk.good.short t ht
  have hl2 := hk.good.short u hu
  exact ⟨_, h0, p, dx, _, rfl, hp, rfl, hA _ _ fun H' v s' hv => hA2 _ _ fun H2 v2 s2 hv2 => ⟨p, n, S, v, some t, v2, some u, rfl, hB.same (s'.trans s2), hk.good, by have := hk.n1; omega, .yes (hv.ext (Ext.of s2)) (by omega), fun _ => .yes hv2 (by omega), fun z y ez ey _ _ _ H'' b hb => by cases ez; cases ey; exact k H'' (Same.but (s'.trans s2) b) hb,
    fun e => by rw [show S.two (some t) (some u) = true by simp [Std.two, Std.has, ht, hu, ne]] at e; cases e⟩⟩
theorem rd_tup1 {H1 : Hp} {x : Int} {R : VK} (r : ∀ H' v, Same H1 H' → TI H' v [x] → R v H') : tTup (tCons (tC (.int x)) tNil) σ H1 R := ⟨by show 1 ≤ sizeLine; rw [sizeLine_eq]; omega, fun q hq => r _ _ (same_upd hq) ⟨q, rfl, upd_same⟩⟩
theorem rd_tup2 {H1 : Hp} {x y : Int} {R : VK} (r : ∀ H' v, Same H1 H' → TI H' v [x, y] → R v H') : tTup (tCons (tC (.int x)) (tCons (tC (.int y)) tNil)) σ H1 R := ⟨by show 2 ≤ sizeLine; rw [sizeLine_eq]; omega, fun q hq => r _ _ (same_upd hq) ⟨q, rfl, upd_same⟩⟩
theorem go_tops (hB : BookK K H p n S) (h0 : σ[i]? = some (some (.ref p))) (k : ∀ v, TT H v S.tops → Q v H) : tMeth (cJ K) "tops" (spTops K) [] E0 (tVar i) tNil σ H Q := by
  obtain ⟨dx, q, hp⟩ := hB.ins
  exact ⟨_, h0, p, dx, _, rfl, hp, rfl, p, n, S, rfl, hB, k⟩
theorem go_paid (hB : BookK K H p n S) (h0 : σ[i]? = some (some (.ref p))) (k : Q (.int S.paid) H) : tProp (cJ K) (spPaid K) [] E0 (tVar i) σ H Q := by
  obtain ⟨dx, q, hp⟩ := hB.ins
  exact ⟨_, h0, p, dx, _, rfl, hp, p, n, S, rfl, hB, k⟩
theorem go_finish (hB : BookK K H p n S) (hk : Ok S n) (h0 : σ[i]? = some (some (.ref p))) (k : ∀ H', Same H H' → Q (.int S.fin) H') : tMeth (cJ K) "finish" (spBFin K) [] E0 (tVar i) tNil σ H Q := by
  obtain ⟨dx, q, hp⟩ := hB.ins
  exact ⟨_, h0, p, dx, _, rfl, hp, rfl, p, n, S, rfl, hB, hk.good, k⟩
theorem go_len (hB : BookK K H p n S) (hk : Ok S n) (h0 : σ[i]? = some (some (.ref p))) (k : ∀ H', Same H H' → Q (.int n) H') : tCB (rLenOwn (cJ K) (spLen K) E0) (tCons (tVar i) tNil) σ H Q := by
  obtain ⟨dx, q, hp⟩ := hB.ins
  exact ⟨_, h0, p, dx, _, rfl, hp, p, n, S, rfl, hB, fun H' s' => ⟨n, rfl, by have := hk.n1; omega, k H' s'⟩⟩
end
/-- the list of a comprehension is none of the book's things -/
theorem BookAt.lst {K : PySem.W.Frag} {H : Hp} {p D : Addr} {n : Nat} {S : Std} {xs ys : List V} (h : BookK K H p n S) (hD : H D = some (.lst xs)) : BookK K (upd H D (.lst ys)) p n S := by
  have no : ∀ {b o}, H b = some o → (∀ zs, o ≠ .lst zs) → upd H D (.lst ys) b = some o := fun {b o} e t => by
    rw [upd_ne fun z => by rw [z, hD] at e; exact t _ (Option.some.inj e).symm]
    exact e
  have X : Ext H (upd H D (.lst ys)) := fun b zs e => no e fun _ z => by cases z
  obtain ⟨dx, t, pre, sv, h1, h2, h3, s, dy, dd, wc, tn, h4, h5, h6, h7⟩ := h
  exact ⟨dx, t, pre, sv, no h1 (fun _ z => by cases z), X _ _ h2, h3, s, dy, dd, wc, tn, h4, no h5 (fun _ z => by cases z), h6.ext X, h7.ext X⟩
end JB
set_option Elab.async false
set_option linter.all false
set_option maxRecDepth 100000
set_option maxHeartbeats 4000000
namespace JB
open PySem PySem.Spec PyProof.Rows L2
section
variable {σ : L2.St} {H : Hp} {Q : VK} {ta tb te : TE} {tr : TA} {t u : TS} {D : Ends} {g : TG} {r : R2} {tA tB' : L2.TT} {Qb : Bool → Hp → Prop}
theorem cons_go {Q : List V → Hp → Prop} (h : ta σ H fun x H1 => tr σ H1 fun xs H2 => Q (x :: xs) H2) : tCons ta tr σ H Q := h
theorem lst_go (h : tr σ H fun xs H1 => xs.length ≤ sizeLine ∧ ∀ p, H1 p = none → Q (.ref p) (upd H1 p (.lst xs))) : tLst tr σ H Q := h
theorem asg_go (h : te σ H fun x H1 => g x σ H1 D.nx) : tAsg te g D σ H := h
theorem seq_go (h : t { D with nx := u D } σ H) : tSeq t u D σ H := h
theorem next_go (h : D.nx σ H) : tNext D σ H := h
theorem op_go (h : ta σ H fun x H1 => tb σ H1 fun y H2 => r x y H2 Q) : tOp r ta tb σ H Q := h
theorem if_go {tc : L2.TT} (h : tc σ H fun b H1 => if b = true then t D σ H1 else u D σ H1) : tIfS tc t u D σ H := h
theorem or_go (h : tA σ H fun c H1 => if c = true then Qb true H1 else tB' σ H1 Qb) : tOr tA tB' σ H Qb := h
theorem test_go (h : te σ H fun x H1 => ∃ b, x = .bl b ∧ Qb b H1) : tTest te σ H Qb := h
theorem not_go (h : tA σ H fun c H1 => Qb (!c) H1) : tNot tA σ H Qb := h
theorem b_go (h : te σ H fun x H1 => ∃ c, x = .bl c ∧ Qb c H1) : tB te σ H Qb := h
theorem ret_go (h : te σ H D.rt) : tRet te D σ H := h
end
theorem tabs_lst {H : Hp} {D : Addr} {xs ys : List V} {T : List (Addr × Str)} (h : H D = some (.lst xs)) (t : LamX.Tabs T H) : LamX.Tabs T (upd H D (.lst ys)) := by
  refine TabKeep.tabs (fun b o e k => ?_) t
  rw [upd_ne fun z => ?_]
  · exact e
  · rw [z, h] at e
    cases e
    rcases k with ⟨_, k⟩ | ⟨_, k⟩ <;> cases k
theorem dqA_pairs {H : Hp} {R : Addr → Prop} : ∀ {vs : List V} {js : List Nat}, All2 (fun v (j : Nat) => ∃ a, v = .ref a ∧ R a ∧ H a = some (.lst [.int (9 + j), .int (9 + j)])) vs js → DqA H vs (js.map fun j : Nat => .list [.int (9 + (j : Int)), .int (9 + (j : Int))])
  | _, _, .nil => .nil
  | _, _, .cons ⟨a, e, _, h⟩ t => by
    rw [e]
    exact .cons (.lst h (.cons (.int _) (.cons (.int _) .nil))) (dqA_pairs t)
def spBounds (P1 P2 : Addr) : Sp := fun vs H Q _ => vs = [] ∧ LamX.Tabs (tabsT P1 P2) H ∧ ∀ H', Q (.bl true) H'
section
variable {K : PySem.W.Frag} {H3 : Hp} {E : XK} {Q : VK} {p : Addr} {n : Nat} {S : Std}
theorem rd_many {σ : L2.St} {tA : TE} {x m : Int} (hB : BookK K H3 p n S) (hk : Ok S n) (h0 : σ[0]? = some (some (.ref p))) (hA : ∀ Q : VK, Q (.int x) H3 → tA σ H3 Q) (h1 : 1 ≤ x) (h2 : x ≤ 1000000000)
    (hm : (S.loads.length = 20 ∧ m = 20) ∨ (S.loads.length ≠ 20 ∧ S.tops.length = 8 ∧ m = 8)) (bad : BadE K "TooMany" "most" (.int m) H3 E) :
    tMeth (cJ K) "come" (spBCome K) [] E (tVar 0) (tCons tA tNil) σ H3 Q := by
  obtain ⟨dx, t, hp⟩ := hB.ins
  have hb : isB (.int x) 1 1000000000 = true := by simp [isB, h1, h2]
  refine ⟨_, h0, p, dx, _, rfl, hp, rfl, hA _ ⟨p, n, S, _, "int", rfl, hB, hk.good, by have := hk.n1; omega, .int x, (fun e => by rw [hb] at e; cases e), fun _ e => ?_, fun _ ne e => ?_, fun y _ _ ne1 ne2 => ?_⟩⟩
  · rcases hm with ⟨_, rfl⟩ | ⟨ne, _⟩
    · exact bad
    · exact absurd e ne
  · rcases hm with ⟨e1, _⟩ | ⟨_, _, rfl⟩
    · exact absurd e1 ne
    · exact bad
  · rcases hm with ⟨e1, _⟩ | ⟨_, e1, _⟩
    · exact absurd e1 ne1
    · exact absurd e1 ne2
end
section
variable {P : Program} {w : World} {K : PySem.W.Frag} {mg : Str → Option Value} {base : Heap}
abbrev XB (P : Program) (w : World) (K : PySem.W.Frag) (mg : Str → Option Value) (base : Heap) (c2 : Addr) (A : Around) (outer : List Env) (s : Shared) (H : Hp) : Cx :=
  (cxOf CX0 P w K mg base n_law_bounds_right "_law_bounds_right" (defScope s_law_bounds_right) (He.ga K "_law_bounds_right") (.ref c2) A outer s H E0).nox
abbrev clB (s : Shared) : List (Str × Addr) := cellsFrom (s.heap.objs.size + 1) (defScope s_law_bounds_right).names []
theorem cxB (s : Shared) : CellsX (clB s) := cellsX_of (by decide +kernel)
theorem are_mid {c2 : Addr} {A : Around} {outer : List Env} {s : Shared} {H H1 : Hp} {p l t0 : Addr} {fs : List Addr} {C fl tag : String} {x : V} {dx : PyData} {n j : Nat} {σ : L2.St} {R : VK} (h0 : σ[0]? = some (some (.ref p))) (hl : H1 l = some (.lst (fs.map V.ref))) (ht0 : H1 t0 = some (.tup [.str tag, x])) (h30 : fs.length ≤ 30)
    (kd : Kd C fl tag) (hx : Dq H1 x dx) (rp : Rp n j (.tuple [.str tag, dx])) (hn : n ≤ 10000) (hj : j ≤ 20) (hd : ∀ f ∈ fs, Dies P w K mg base (clB s) [("_law_book_so", .ref p)] 7 C fl x f H1) (k : ∀ H', Same H1 H' → R (.bl true) H')
    (H2 : Hp) (out : ∀ b, b ∉ lamCells (XB P w K mg base c2 A outer s H).env.cells → H2 b = H1 b) (non : ∀ b ∈ lamCells (XB P w K mg base c2 A outer s H).env.cells, H1 b = none)
    (cel : ∀ c ∈ lamCells (XB P w K mg base c2 A outer s H).env.cells, ∃ o v, H2 c = some (.frz o (.own 0)) ∧ o.data = .cell v)
    (vals : ∀ (i : Nat) (y : Str) (v : V) (c : Addr), (XB P w K mg base c2 A outer s H).N[i]? = some y → σ[i]? = some (some v) → (XB P w K mg base c2 A outer s H).env.scope.names.lookup y = some .cell → (XB P w K mg base c2 A outer s H).env.cells.lookup y = some c → CellAt H2 c v) :
    spAre P w K mg base 7 [.ref l, .ref t0] H2 (fun v H' => R v (dropA H' (lamCells (XB P w K mg base c2 A outer s H).env.cells))) E0 := by
  have s2 := fz_same out non
  have tl : Tell (clB s) [("_law_book_so", .ref p)] H2 := ⟨cel, fun q hq c hc => by
    rw [List.mem_singleton.mp hq] at hc ⊢
    exact vals 0 _ _ c rfl h0 rfl hc⟩
  refine ⟨l, fs, t0, C, fl, tag, x, dx, n, j, rfl, s2 _ _ hl, h30, kd, s2 _ _ ht0, Dq.same s2 _ _ hx, rp, hn, hj, fun f hf H3 s3 => ?_, fun H3 s3 => k _ (fz_back out non s3)⟩
  exact hd f hf H3 (LamX.ExtN.of (s2.trans s3)) (tl.same s3)
theorem are1 {c2 P1 P2 : Addr} {A : Around} {outer : List Env} {s : Shared} {H H1 : Hp} {p : Addr} {C fl tag : String} {x : V} {dx : PyData} {n j : Nat} {σ : L2.St} {R : VK} {params : Arguments} {body : Expr} {scope : Scope} (T1 : LamX.Tabs (tabsT P1 P2) H1) (h0 : σ[0]? = some (some (.ref p)))
    (kd : Kd C fl tag) (hx : ∀ H, Dq H x dx) (rp : Rp n j (.tuple [.str tag, dx])) (hn : n ≤ 10000) (hj : j ≤ 20)
    (die : ∀ f H2, LamX.ExtN H1 H2 → LamAt params body scope q2 (cloFrom (clB s) scope.names []) H2 f → Dies P w K mg base (clB s) [("_law_book_so", .ref p)] 7 C fl x f H2) (k : ∀ H', LamX.ExtN H1 H' → LamX.Tabs (tabsT P1 P2) H' → R (.bl true) H') :
    tCallFz (XB P w K mg base c2 A outer s H) (spAre P w K mg base 7) (tCons (tLst (tCons (tLamY (tabsT P1 P2) params body scope q2 (cloFrom (clB s) scope.names [])) tNil)) (tCons (tTup (tCons (tC (.str tag)) (tCons (tC x) tNil))) tNil)) σ H1 R := by
  have z : ∀ m : Nat, m ≤ 5 → m ≤ sizeLine := fun m h => by rw [sizeLine_eq]; omega
  refine ⟨T1, fun f1 H2 e2 T2 n2 l2 => ⟨z 1 (by omega), fun l hl => ⟨z 2 (by omega), fun t0 ht0 => ?_⟩⟩⟩
  have s3 := same_upd (o := .lst [.ref f1]) hl
  have s4 := same_upd (o := .tup [.str tag, x]) ht0
  have s34 := s3.trans s4
  exact are_mid h0 (fs := [f1]) (s4 _ _ upd_same) upd_same (by simp) kd (hx _) rp hn hj (fun f hf => by
    rw [List.mem_singleton.mp hf]
    exact (die f1 H2 e2 l2).ext (LamX.ExtN.of s34)) fun H' s' => k H' (e2.trans (LamX.ExtN.of (s34.trans s'))) (T2.ext (s34.trans s'))
theorem are2 {c2 P1 P2 : Addr} {A : Around} {outer : List Env} {s : Shared} {H H1 : Hp} {p : Addr} {C fl tag : String} {x : V} {dx : PyData} {n j : Nat} {σ : L2.St} {R : VK} {params params' : Arguments} {body body' : Expr} {scope scope' : Scope} (T1 : LamX.Tabs (tabsT P1 P2) H1) (h0 : σ[0]? = some (some (.ref p)))
    (kd : Kd C fl tag) (hx : ∀ H, Dq H x dx) (rp : Rp n j (.tuple [.str tag, dx])) (hn : n ≤ 10000) (hj : j ≤ 20)
    (die : ∀ f H2, LamX.ExtN H1 H2 → LamAt params body scope q2 (cloFrom (clB s) scope.names []) H2 f → Dies P w K mg base (clB s) [("_law_book_so", .ref p)] 7 C fl x f H2)
    (die' : ∀ f H2, LamX.ExtN H1 H2 → LamAt params' body' scope' q2 (cloFrom (clB s) scope'.names []) H2 f → Dies P w K mg base (clB s) [("_law_book_so", .ref p)] 7 C fl x f H2) (k : ∀ H', LamX.ExtN H1 H' → LamX.Tabs (tabsT P1 P2) H' → R (.bl true) H') :
    tCallFz (XB P w K mg base c2 A outer s H) (spAre P w K mg base 7) (tCons (tLst (tCons (tLamY (tabsT P1 P2) params body scope q2 (cloFrom (clB s) scope.names [])) (tCons (tLamY (tabsT P1 P2) params' body' scope' q2 (cloFrom (clB s) scope'.names [])) tNil))) (tCons (tTup (tCons (tC (.str tag)) (tCons (tC x) tNil))) tNil)) σ H1 R := by
  have z : ∀ m : Nat, m ≤ 5 → m ≤ sizeLine := fun m h => by rw [sizeLine_eq]; omega
  refine ⟨T1, fun f1 H2 e2 T2 n2 l2 => ⟨T2, fun f2 H3 e3 T3 n3 l3 => ⟨z 2 (by omega), fun l hl => ⟨z 2 (by omega), fun t0 ht0 => ?_⟩⟩⟩⟩
  have s3 := same_upd (o := .lst [.ref f1, .ref f2]) hl
  have s4 := same_upd (o := .tup [.str tag, x]) ht0
  have s34 := s3.trans s4
  exact are_mid h0 (fs := [f1, f2]) (s4 _ _ upd_same) upd_same (by simp) kd (hx _) rp hn hj (fun f hf => by
    simp only [List.mem_cons, List.not_mem_nil, or_false] at hf
    rcases hf with rfl | rfl
    · exact (die f H2 e2 l2).ext (e3.trans (LamX.ExtN.of s34))
    · exact (die' f H3 (e2.trans e3) l3).ext (LamX.ExtN.of s34)) fun H' s' => k H' ((e2.trans e3).trans (LamX.ExtN.of (s34.trans s'))) (T3.ext (s34.trans s'))
theorem cutV_to (xs : List V) (n : Nat) (h : n ≤ xs.length) : cutV xs none (some (n : Int)) = xs.take n := by
  unfold cutV
  have e1 : HT.sIx xs.length 0 none = 0 := rfl
  have e2 : HT.sIx xs.length xs.length (some (n : Int)) = n := by
    simp only [HT.sIx]
    first
      | omega
      | (split <;> omega)
  rw [e1, e2]
  rfl
theorem ok_bounds (T : Txt K mg) {c1 P1 c2 P2 : Addr} (C : Codes K mg base c1 P1 c2 P2) : DefG P w K mg base 10 (He.ga K "_law_bounds_right") (spBounds P1 P2) := by
  have DA := (ok_are (P := P) (w := w) (base := base) T (k := 7))
  have DN := (ok_book_init (P := P) (w := w) (base := base) T).mono (show 3 ≤ 8 by omega)
  have DC := (ok_book_come (P := P) (w := w) (base := base) T).mono (show 4 ≤ 9 by omega)
  have DC6 := (ok_book_come (P := P) (w := w) (base := base) T).mono (show 4 ≤ 6 by omega)
  have DT := (ok_book_take (P := P) (w := w) (base := base) T).mono (show 5 ≤ 9 by omega)
  have DJ := (ok_book_join (P := P) (w := w) (base := base) T).mono (show 6 ≤ 9 by omega)
  have DO := (ok_tops (P := P) (w := w) (base := base) T).mono (show 1 ≤ 9 by omega)
  have DL := (ok_len (P := P) (w := w) (base := base) T).mono (show 1 ≤ 8 by omega)
  refine defG T.d_law_bounds_right sc_law_bounds_right (fun _ _ _ _ _ _ us hl => match us, hl with | [], _ => rfl) (fun vs H Q E h => ?_) (fun cdv A outer s H vs Q hlk hgd hr h => ?_)
  · obtain ⟨rfl, _⟩ := h
    rfl
  · obtain ⟨rfl, hT, k⟩ := h
    obtain ⟨od, dV, kV, doc, pm, an, ct, osl, oc, hlk⟩ := hlk
    obtain rfl : cdv = .ref c2 := C.k2 _ _ _ _ hlk
    have nd := sc_law_bounds_right.nd
    have hu := hr.units
    have hgd' := deeper_g hgd (envOfC "_law_bounds_right" (defScope s_law_bounds_right) s.heap.objs.size (He.ga K "_law_bounds_right") (.ref c2))
    have cx := cxB s
    have hu2 := hu2D C.ne
    have hm2 : (P2, q2) ∈ tabsT P1 P2 := List.Mem.tail _ (List.Mem.head _)
    have fb : ∀ {sc : Scope}, freeB (defScope s_law_bounds_right) sc = true → ∀ y ∈ sc.names, y.2 = .free → (defScope s_law_bounds_right).names.lookup y.1 = some .cell ∨ (defScope s_law_bounds_right).names.lookup y.1 = some .free := fun {sc} h => free_by h
    refine ⟨_, pss_cons (ps_set (i := 0) nd rfl (Or.inr rfl) (pe_new0 T.mkJ DN hr T.g_Joinbook pass0))
      (pss_cons (ps_setLc (i := 1) (own := [("_law_k", 2)]) (g := gName 2) (tt := tYes) (te := tMeth (cJ K) "come" (spBCome K) [] E0 (tVar 0) (tCons (tOp (rI CPow fun i j => .int (i ^ j.toNat)) (tC (.int 10)) (tC (.int 9))) tNil)) rfl nd rfl rfl rfl (pi_range1 rfl T.f_range (pa_cons pe_int pa_nil)) (blkOk_by (own := [("_law_k", 2)]) (N := n_law_bounds_right) (sc := defScope s_law_bounds_right) (by decide +kernel))
          (fun _ _ _ _ _ => pg_name (i := 2) nd rfl (Or.inl rfl)) (fun _ _ _ _ _ => pts_nil) (fun _ _ _ _ _ => pe_md (pv 0) T.clJ T.m_Joinbook_come DC hr passL (pa_cons (pe_op op_pow pe_int pe_int) pa_nil)))
      (pss_cons (ps_if (PW.pt (pw_or (pt_cmpR (op_neQ T.sysd hu) (pv 1) (pe_listRg rfl rfl T.f_list (prg_1 rfl T.f_range pe_int)) (by rfl)) (pw_or1 (pt_not (pt_val (pe_cgFz DA hgd' hr T.g_law_are (pa_cons (pe_lst (pa_cons (pe_lam0 (T := tabsT P1 P2) C.t2 rfl hm2 hu2 (fb (by decide +kernel)) rfl rfl) (pa_cons (pe_lam1 (T := tabsT P1 P2) C.t2 rfl hm2 hu2 (fb (by decide +kernel)) rfl rfl) pa_nil))) (pa_cons (pe_tup (pa_cons pe_str (pa_cons pe_int pa_nil))) pa_nil)) (fun _ => rfl) cx.pair)))))) (pss_one (ps_ret pe_bl)) pss_nil)
      (pss_cons (ps_if (pt_not (pt_val (pe_cgFz DA hgd' hr T.g_law_are (pa_cons (pe_lst (pa_cons (pe_lam0 (T := tabsT P1 P2) C.t2 rfl hm2 hu2 (fb (by decide +kernel)) rfl rfl) pa_nil)) (pa_cons (pe_tup (pa_cons pe_str (pa_cons pe_int pa_nil))) pa_nil)) (fun _ => rfl) cx.pair))) (pss_one (ps_ret pe_bl)) pss_nil)
      (pss_cons (ps_set (i := 1) nd rfl (Or.inl rfl) (pe_lst (pa_cons (pe_md (pv 0) T.clJ T.m_Joinbook_join DJ hr passL (pa_cons (pe_tup (pa_cons pe_int pa_nil)) (pa_cons (pe_tup (pa_cons pe_int pa_nil)) pa_nil)))
          (pa_cons (pe_md (pv 0) T.clJ T.m_Joinbook_come DC hr passL (pa_cons pe_int pa_nil)) (pa_cons (pe_md (pv 0) T.clJ T.m_Joinbook_take DT hr passL (pa_cons (pe_tup (pa_cons pe_int pa_nil)) pa_nil)) pa_nil)))))
      (pss_cons (ps_for PassesOwn.never rfl (pi_range2 rfl T.f_range (pa_cons pe_int (pa_cons pe_int pa_nil))) (pg_name (i := 2) nd rfl (Or.inl rfl))
        (pss_one (ps_expr (pe_bm PySem.F.plainAttrs_list PySem.F.slot_list_append PySem.F.type_list_append mt_append (pv 1) (pa_cons (pe_lst (pa_cons (pe_md (pv 0) T.clJ T.m_Joinbook_come DC hr passL (pa_cons (pv 2) pa_nil)) (pa_cons (pe_md (pv 0) T.clJ T.m_Joinbook_take DT hr passL (pa_cons (pe_tup (pa_cons (pv 2) pa_nil)) pa_nil)) pa_nil))) pa_nil)))))
      (pss_cons (ps_if (PW.pt (pw_or (pt_cmpR (op_neQ T.sysd hu) (pe_slice sl_list (pv 1) po_none (po_some pe_int)) (pe_lst (pa_cons pe_int (pa_cons pe_int (pa_cons pe_int pa_nil)))) (by rfl))
          (pw_or (pt_cmpR (op_neQ T.sysd hu) (pe_slice sl_list (pv 1) (po_some pe_int) po_none) (pe_lc (own := [("_law_k", 2)]) (g := gName 2) (tt := tYes) (te := tLst (tCons (tVar 2) (tCons (tVar 2) tNil))) rfl nd (pi_range2 rfl T.f_range (pa_cons pe_int (pa_cons pe_int pa_nil))) (blkOk_by (own := [("_law_k", 2)]) (N := n_law_bounds_right) (sc := defScope s_law_bounds_right) (by decide +kernel))
              (fun _ _ _ _ _ => pg_name (i := 2) nd rfl (Or.inl rfl)) (fun _ _ _ _ _ => pts_nil) (fun _ _ _ _ _ => pe_lst (pa_cons (pv 2) (pa_cons (pv 2) pa_nil)))) (by rfl))
            (pw_or1 (pt_cmpR op_ne (pe_callB (cr_lenOwn T.m_Joinbook_len DL hr pass0) rfl T.f_len boot_len (pa_cons (pv 0) pa_nil)) pe_int (by rfl)))))) (pss_one (ps_ret pe_bl)) pss_nil)
      (pss_cons (ps_if (PW.pt (pw_or (pt_cmpR op_ne (pe_md (pv 0) T.clJ T.m_Joinbook_come DC hr passL (pa_cons pe_int pa_nil)) pe_int (by rfl)) (pw_or (pt_cmpR (op_neQ T.sysd hu) (pe_ix ix_tup (pe_md0 (pv 0) T.clJ T.m_Joinbook_tops DO hr pass0) pe_int (fun _ _ => rfl)) (pe_tup (pa_cons pe_int (pa_cons pe_int pa_nil))) (by rfl))
            (pw_or1 (pt_cmpR op_ne (pe_callB call_len_seq rfl T.f_len boot_len (pa_cons (pe_md0 (pv 0) T.clJ T.m_Joinbook_tops DO hr pass0) pa_nil)) pe_int (by rfl)))))) (pss_one (ps_ret pe_bl)) pss_nil)
      (pss_cons (ps_if (pt_not (pt_val (pe_cgFz DA hgd' hr T.g_law_are (pa_cons (pe_lst (pa_cons (pe_lam0 (T := tabsT P1 P2) C.t2 rfl hm2 hu2 (fb (by decide +kernel)) rfl rfl) (pa_cons (pe_lam1 (T := tabsT P1 P2) C.t2 rfl hm2 hu2 (fb (by decide +kernel)) rfl rfl) pa_nil))) (pa_cons (pe_tup (pa_cons pe_str (pa_cons pe_int pa_nil))) pa_nil)) (fun _ => rfl) cx.pair))) (pss_one (ps_ret pe_bl)) pss_nil)
      (pss_cons (ps_if (PW.pt (pw_or (pt_cmpR op_ne (pe_md (pv 0) T.clJ T.m_Joinbook_take DT hr passL (pa_cons (pe_tup (pa_cons pe_int pa_nil)) pa_nil)) pe_int (by rfl)) (pw_or1 (pt_not (pt_val (pe_cgFz DA hgd' hr T.g_law_are (pa_cons (pe_lst (pa_cons (pe_lam0 (T := tabsT P1 P2) C.t2 rfl hm2 hu2 (fb (by decide +kernel)) rfl rfl) pa_nil)) (pa_cons (pe_tup (pa_cons pe_str (pa_cons pe_int pa_nil))) pa_nil)) (fun _ => rfl) cx.pair)))))) (pss_one (ps_ret pe_bl)) pss_nil)
      (pss_one (ps_ret (pe_cgFz DA hgd' hr T.g_law_are (pa_cons (pe_lst (pa_cons (pe_lam0 (T := tabsT P1 P2) C.t2 rfl hm2 hu2 (fb (by decide +kernel)) rfl rfl) pa_nil)) (pa_cons (pe_tup (pa_cons pe_str (pa_cons pe_non pa_nil))) pa_nil)) (fun _ => rfl) cx.pair)))))))))))), ?_⟩
    have z : ∀ m : Nat, m ≤ 100 → m ≤ sizeLine := fun m h => by rw [sizeLine_eq]; omega
    intro x dx hx hdx ne
    refine ⟨x, dx, rfl, upd_same, fun H1 b1 hB1 => ⟨rfl, ?_⟩⟩
    have T1 := hT.ext (made_same hx hdx b1)
    refine ⟨8, rfl, by omega, by omega, fun D hD => ?_⟩
    refine lc_range (lo := 0) (n := 8) (fun i H' => ∃ acc, H' D = some (.lst acc) ∧ acc = (List.range i).map (fun j : Nat => V.int (j : Int)) ∧ BookK K H' x i (cb i) ∧ LamX.Tabs (tabsT P1 P2) H') ⟨[], upd_same, rfl, hB1.same (same_upd hD), T1.ext (same_upd hD)⟩ ?_ ?_
    · rintro i H2 hi ⟨acc, hDa, ea, hB2, T2⟩
      obtain ⟨k1, k2, k3⟩ := cb_ok i (by omega)
      refine ⟨rfl, ?_⟩
      dsimp only [tYes]
      rw [if_pos rfl]
      refine go_come (x := 1000000000) hB2 k1 rfl (fun R r => ⟨_, _, rfl, rfl, ⟨by decide, by decide, by decide⟩, r⟩) (by omega) (by omega) (by omega) (by omega) fun H3 b3 hB3 => ?_
      have hD3 := hB2.keepD b3 _ _ hDa trivial
      refine ⟨acc, hD3, by rw [ea, List.length_map, List.length_range, sizeLine_eq]; omega, _, upd_same, ?_, hB3.lst hD3, ?_⟩
      · rw [ea, List.range_succ, List.map_append, k2]
        rfl
      · exact tabs_lst hD3 ((hB2.tabk b3).tabs T2)
    rintro H2 ⟨acc, hDa, ea, hB2, T2⟩
    -- eight are told, and no more
    refine ⟨_, rfl, 8, rfl, RgOk.of_le (by omega) (by omega) (by omega) (by omega), fun q hq => ?_⟩
    have sq := same_upd (o := .lst (rgV 0 8)) hq
    refine ⟨.list (([0, 1, 2, 3, 4, 5, 6, 7] : List Int).map .int), .list (([0, 1, 2, 3, 4, 5, 6, 7] : List Int).map .int), lst_dq (by rw [sq _ _ hDa, ea]; rfl), lst_dq (by rw [upd_same]; rfl), by decide +kernel, by decide +kernel, _, rfl, ?_⟩
    rw [show PyData.eqv (.list (([0, 1, 2, 3, 4, 5, 6, 7] : List Int).map .int)) (.list (([0, 1, 2, 3, 4, 5, 6, 7] : List Int).map .int)) = true by decide +kernel]
    refine iteF ?_
    dsimp only [tNot, tB]
    obtain ⟨k8, l8, t8⟩ := cb_ok 8 (by omega)
    have hB3 := hB2.same sq
    have T3 := T2.ext sq
    refine are2 T3 rfl .m (fun _ => .int 8) ((rp_told (x := "many") (by decide) (by decide) (rp_int (i := 8) (by decide))).mono (Nat.le_refl _) (Nat.le_refl _)) (by omega) (by omega)
      (fun f H2 e2 l2 => dies_lam (k := 6) (tb := fun E => tMeth (cJ K) "come" (spBCome K) [] E (tVar 0) (tCons (tC (.int 1)) tNil)) ["_law_book_so"] [("_law_book_so", .ref x)] rfl (fun _ h => h) cx (free_has (by decide +kernel)) (by decide +kernel) (bind0 rfl fun _ _ _ _ => rfl)
          (fun A' outer' s' H' E' c' hr' => pe_md (pv 0) T.clJ T.m_Joinbook_come DC6 hr' (passes_call (takes_of rfl rfl rfl rfl) fun _ _ _ _ h => h) (pa_cons pe_int pa_nil)) l2 (fun H9 E9 Q9 kp bad => rd_many (m := 8) (kp.book ((ExtN.keeps e2).book hB3)) k8 rfl (fun Q q => q) (by omega) (by omega) (.inr ⟨by omega, t8, rfl⟩) bad))
      (fun f H2 e2 l2 => dies_lam (k := 6) (tb := fun E => tMeth (cJ K) "come" (spBCome K) [] E (tVar 0) (tCons (tC (.int 5)) tNil)) ["_law_book_so"] [("_law_book_so", .ref x)] rfl (fun _ h => h) cx (free_has (by decide +kernel)) (by decide +kernel) (bind1 "_law_x" rfl rfl (fun t doc pm cdv ct => ⟨_, by rfl, fun v => by rfl⟩))
          (fun A' outer' s' H' E' c' hr' => pe_md (pv 0) T.clJ T.m_Joinbook_come DC6 hr' (passes_call (takes_of rfl rfl rfl rfl) fun _ _ _ _ h => h) (pa_cons pe_int pa_nil)) l2 (fun H9 E9 Q9 kp bad => rd_many (m := 8) (kp.book ((ExtN.keeps e2).book hB3)) k8 rfl (fun Q q => q) (by omega) (by omega) (.inr ⟨by omega, t8, rfl⟩) bad)) fun H4 e4 T4 => ⟨true, rfl, iteF ?_⟩
    have hB4 := (ExtN.keeps e4).book hB3
    -- none
    refine next_go ?_
    dsimp only
    refine seq_go ?_
    refine if_go (not_go (b_go ?_))
    refine are1 T4 rfl .n (fun _ => .int 0) ((rp_told (x := "number") (by decide) (by decide) (rp_int (i := 0) (by decide))).mono (Nat.le_refl _) (Nat.le_refl _)) (by omega) (by omega)
      (fun f H2 e2 l2 => dies_lam (k := 6) (tb := fun E => tMeth (cJ K) "come" (spBCome K) [] E (tVar 0) (tCons (tC (.int 0)) tNil)) ["_law_book_so"] [("_law_book_so", .ref x)] rfl (fun _ h => h) cx (free_has (by decide +kernel)) (by decide +kernel) (bind0 rfl fun _ _ _ _ => rfl)
          (fun A' outer' s' H' E' c' hr' => pe_md (pv 0) T.clJ T.m_Joinbook_come DC6 hr' (passes_call (takes_of rfl rfl rfl rfl) fun _ _ _ _ h => h) (pa_cons pe_int pa_nil)) l2 (fun H9 E9 Q9 kp bad => rd_come (kp.book ((ExtN.keeps e2).book hB4)) k8.good (by omega) rfl (fun Q q => q) ⟨"int", .int 0⟩ (by decide) bad)) fun H5 e5 T5 => ⟨true, rfl, iteF ?_⟩
    have hB5 := (ExtN.keeps e5).book hB4
    -- a join, one more, and it is taken
    refine next_go ?_
    dsimp only
    refine seq_go ?_
    refine asg_go (lst_go (cons_go ?_))
    refine go_join hB5 k8 rfl (fun H1 R r => rd_tup1 r) (fun H1 R r => rd_tup1 r) f9.1 f9.2.1 (by decide) fun H6 b6 hB6 => ?_
    rw [f9.2.2]
    have hB6 : BookK K H6 x 9 sb9 := hB6
    refine cons_go (go_come (x := 3) hB6 ok9 rfl (fun R r => r) (by omega) (by omega) (by rw [f10.1]; omega) (by rw [f10.2]; omega) fun H7 b7 hB7 => ?_)
    rw [f10.1]
    have hB7 : BookK K H7 x 10 sb10 := hB7
    refine cons_go (go_take hB7 ok10 rfl (fun R r => rd_tup1 r) f11.1 fun H8 b8 hB8 => ⟨z 3 (by omega), fun l hl => ?_⟩)
    rw [f11.2]
    have T8 := (hB7.tabk b8).tabs ((hB6.tabk b7).tabs ((hB5.tabk b6).tabs T5))
    have sl := same_upd (o := .lst [.int 0, .int (8 : Nat), .int 3]) hl
    -- ten that come and are taken
    dsimp only
    refine ⟨9, 19, rfl, by omega, ?_⟩
    refine for_range (lo := 9) (n := 10) (fun i σ H' => ∃ v2 bs, σ = [some (.ref x), some (.ref l), v2] ∧ BookK K H' x (11 + 2 * i) (ce i) ∧ LamX.Tabs (tabsT P1 P2) H' ∧ H' l = some (.lst ([.int 0, .int (8 : Nat), .int 3] ++ bs)) ∧
        All2 (fun v (j : Nat) => ∃ a, v = .ref a ∧ a ≠ l ∧ H' a = some (.lst [.int (9 + j), .int (9 + j)])) bs (List.range i)) ⟨_, [], rfl, hB8.same sl, T8.ext sl, upd_same, .nil⟩ ?_ ?_
    · rintro i σ H9 hi ⟨v2, bs, rfl, hB9, T9, hl9, hbs⟩
      obtain ⟨g1, g2, g3, g4⟩ := fe i hi
      have ki := ce_ok i (by omega)
      have hlb : bs.length = i := by rw [hbs.length, List.length_range]
      have klc := ki.come (w := 9 + (i : Int)) (by omega) (by omega) (by omega) (by omega) (by omega)
      refine ⟨_, rfl, .inl ⟨rfl, _, SqL.of hl9⟩, ?_⟩
      refine cons_go (lst_go (cons_go (go_come (x := 9 + (i : Int)) hB9 ki rfl (fun R r => ⟨_, rfl, r⟩) (by omega) (by omega) (by omega) (by omega) fun H10 b10 hB10 => ?_)))
      rw [g2]
      refine cons_go (go_take (t := [9 + (i : Int)]) hB10 klc rfl (fun R r => ⟨_, rfl, z 1 (by omega), fun q hq => r _ _ (same_upd hq) ⟨q, rfl, upd_same⟩⟩) g3 fun H11 b11 hB11 => ⟨z 2 (by omega), fun q hq => ?_⟩)
      rw [g4]
      have kd := (hB9.keepD b10).trans (hB10.keepD b11)
      have sq := same_upd (o := .lst [.int ((9 + i : Nat) : Int), .int (9 + (i : Int))]) hq
      have hl11 := kd _ _ hl9 trivial
      have hl12 := sq _ _ hl11
      have nql : q ≠ l := Ne.symm (ne_of_none hl11 hq)
      refine ⟨l, _, _, rfl, rfl, hl12, by rw [List.length_append, hlb, sizeLine_eq]; simp; omega, ?_⟩
      refine ⟨_, bs ++ [.ref q], rfl, (hB11.same sq).lst hl12, tabs_lst hl12 (((hB10.tabk b11).tabs ((hB9.tabk b10).tabs T9)).ext sq), by rw [upd_same, List.append_assoc], ?_⟩
      rw [List.range_succ]
      refine All2.append (hbs.imp fun v j ⟨a, ea, na, ha⟩ => ⟨a, ea, na, ?_⟩) (.cons ⟨q, rfl, nql, ?_⟩ .nil)
      · rw [upd_ne nql, upd_same]
        simp
      · rw [upd_ne na]
        exact sq _ _ (kd _ _ ha trivial)
    rintro σ H9 ⟨v2, bs, rfl, hB9, T9, hl9, hbs⟩
    dsimp only
    refine seq_go ?_
    refine if_go (or_go (test_go (op_go ?_)))
    refine ⟨_, rfl, 3, rfl, l, _, rfl, SqL.of hl9, fun p hp => ?_⟩
    have e3 : cutV ([V.int 0, .int (8 : Nat), .int 3] ++ bs) none (some 3) = ([0, 8, 3] : List Int).map V.int := cutV_to ([V.int 0, .int (8 : Nat), .int 3] ++ bs) 3 (by simp)
    rw [e3]
    have sp := same_upd (o := .lst (([0, 8, 3] : List Int).map V.int)) hp
    refine ⟨z 3 (by omega), fun q hq => ?_⟩
    have sq := same_upd (o := .lst [.int 0, .int 8, .int 3]) hq
    refine ⟨.list (([0, 8, 3] : List Int).map .int), .list (([0, 8, 3] : List Int).map .int), lst_dq (sq _ _ upd_same), lst_dq upd_same, by decide +kernel, by decide +kernel, _, rfl, ?_⟩
    rw [show PyData.eqv (.list (([0, 8, 3] : List Int).map .int)) (.list (([0, 8, 3] : List Int).map .int)) = true by decide +kernel]
    have s91 := sp.trans sq
    refine iteF ?_
    refine or_go (test_go (op_go ?_))
    refine ⟨_, rfl, 3, rfl, l, _, rfl, SqL.of (s91 _ _ hl9), fun p2 hp2 => ?_⟩
    have e4 : cutV ([V.int 0, .int (8 : Nat), .int 3] ++ bs) (some 3) none = bs := cutV_from (α := Nat) ([V.int 0, .int (8 : Nat), .int 3] ++ bs) 3 (by simp)
    rw [e4]
    have s92 := s91.trans (same_upd (o := .lst bs) hp2)
    refine ⟨9, 19, rfl, by omega, fun D2 hD2 => ?_⟩
    refine lc_rangeD (lo := 9) (n := 10) (tt := tYes) (fun i acc H => All2 (fun v (j : Nat) => ∃ a, v = .ref a ∧ a ≠ D2 ∧ H a = some (.lst [.int (9 + j), .int (9 + j)])) acc (List.range i)) (fun i acc H H' b h => h.imp fun v j ⟨a, ea, na, ha⟩ => ⟨a, ea, na, b _ _ ha (by simp [na])⟩) hD2 (by omega) .nil ?_ ?_
    · intro i H10 acc hi hDa s10 hG Qe Qn hqe hqn
      refine ⟨rfl, ?_⟩
      dsimp only [tYes]
      rw [if_pos rfl]
      refine ⟨_, rfl, _, rfl, z 2 (by omega), fun q3 hq3 => hqe _ _ ?_ (same_upd hq3)⟩
      rw [List.range_succ]
      exact All2.append (hG.imp fun v j ⟨a, ea, na, ha⟩ => ⟨a, ea, na, same_upd hq3 _ _ ha⟩) (.cons ⟨q3, rfl, Ne.symm (ne_of_none hDa hq3), upd_same⟩ .nil)
    intro acc H10 hG _ s10 hDs
    have s93 := s92.trans s10
    refine ⟨.list ((List.range 10).map fun j : Nat => .list [.int (9 + (j : Int)), .int (9 + (j : Int))]), .list ((List.range 10).map fun j : Nat => .list [.int (9 + (j : Int)), .int (9 + (j : Int))]), .lst (s10 _ _ upd_same) (DqA.same s93 _ _ (dqA_pairs hbs)), .lst hDs (dqA_pairs hG), by decide +kernel, by decide +kernel, _, rfl, ?_⟩
    rw [show PyData.eqv (.list ((List.range 10).map fun j : Nat => .list [.int (9 + (j : Int)), .int (9 + (j : Int))])) (.list ((List.range 10).map fun j : Nat => .list [.int (9 + (j : Int)), .int (9 + (j : Int))])) = true by decide +kernel]
    refine iteF ?_
    refine test_go (op_go ?_)
    have ke := ce_ok 10 (by omega)
    refine go_len (hB9.same s93) ke rfl fun H11 s11 => ⟨rfl, _, rfl, ?_⟩
    rw [decide_eq_true (show V.int ((11 + 2 * 10 : Nat) : Int) = V.int 31 from rfl)]
    refine iteF ?_
    have hB11 := hB9.same (s93.trans s11)
    have T11 := T9.ext (s93.trans s11)
    refine next_go ?_
    dsimp only
    refine seq_go ?_
    refine if_go (or_go (test_go (op_go ?_)))
    refine go_come (x := 1) hB11 ke rfl (fun R r => r) (by omega) (by omega) (by rw [f12.2]; omega) (by rw [f12.1]; omega) fun H12 b12 hB12 => ?_
    rw [f12.2]
    have hB12 : BookK K H12 x 32 sb12 := hB12
    have T12 := (hB11.tabk b12).tabs T11
    refine ⟨rfl, _, rfl, ?_⟩
    rw [decide_eq_true (show V.int ((19 : Nat) : Int) = V.int 19 from rfl)]
    refine iteF ?_
    refine or_go (test_go (op_go (op_go ?_)))
    refine go_tops hB12 rfl fun v hv => ?_
    obtain ⟨ta, xs, rfl, hta, htl⟩ := hv
    obtain ⟨y0, hy0, hyt⟩ := htl.back f13.2.2.1
    refine ⟨ta, xs, _, _, rfl, rfl, SqT.of hta, at0 hy0, z 2 (by omega), fun q4 hq4 => ?_⟩
    have s13 := same_upd (o := .tup [.int 0, .int 1]) hq4
    refine ⟨dT [0, 1], dT [0, 1], (hyt.ext (Ext.of s13)).dq, TI.dq ⟨q4, rfl, upd_same⟩, shaped_dT _, shaped_dT _, _, rfl, ?_⟩
    rw [eqv_dT, decide_eq_true rfl]
    refine iteF ?_
    refine test_go (op_go ?_)
    refine cons_go (go_tops (hB12.same s13) rfl fun v hv => ?_)
    obtain ⟨tb, xs2, rfl, htb, htl2⟩ := hv
    refine ⟨tb, xs2, rfl, .inr (SqT.of htb), rfl, _, rfl, ?_⟩
    rw [htl2.length, f13.2.1, decide_eq_true (show V.int ((8 : Nat) : Int) = V.int 8 from rfl)]
    refine iteF ?_
    have hB13 := hB12.same s13
    have T13 := T12.ext s13
    refine next_go ?_
    dsimp only
    refine seq_go ?_
    refine if_go (not_go (b_go ?_))
    refine are2 T13 rfl .m (fun _ => .int 20) ((rp_told (x := "many") (by decide) (by decide) (rp_int (i := 20) (by decide))).mono (Nat.le_refl _) (Nat.le_refl _)) (by omega) (by omega)
      (fun f H2 e2 l2 => dies_lam (k := 6) (tb := fun E => tMeth (cJ K) "come" (spBCome K) [] E (tVar 0) (tCons (tC (.int 1)) tNil)) ["_law_book_so"] [("_law_book_so", .ref x)] rfl (fun _ h => h) cx (free_has (by decide +kernel)) (by decide +kernel) (bind0 rfl fun _ _ _ _ => rfl)
          (fun A' outer' s' H' E' c' hr' => pe_md (pv 0) T.clJ T.m_Joinbook_come DC6 hr' (passes_call (takes_of rfl rfl rfl rfl) fun _ _ _ _ h => h) (pa_cons pe_int pa_nil)) l2 (fun H9 E9 Q9 kp bad => rd_many (m := 20) (kp.book ((ExtN.keeps e2).book hB13)) ok12 rfl (fun Q q => q) (by omega) (by omega) (.inl ⟨f13.1, rfl⟩) bad))
      (fun f H2 e2 l2 => dies_lam (k := 6) (tb := fun E => tMeth (cJ K) "come" (spBCome K) [] E (tVar 0) (tCons (tC (.int 7)) tNil)) ["_law_book_so"] [("_law_book_so", .ref x)] rfl (fun _ h => h) cx (free_has (by decide +kernel)) (by decide +kernel) (bind1 "_law_x" rfl rfl (fun t doc pm cdv ct => ⟨_, by rfl, fun v => by rfl⟩))
          (fun A' outer' s' H' E' c' hr' => pe_md (pv 0) T.clJ T.m_Joinbook_come DC6 hr' (passes_call (takes_of rfl rfl rfl rfl) fun _ _ _ _ h => h) (pa_cons pe_int pa_nil)) l2 (fun H9 E9 Q9 kp bad => rd_many (m := 20) (kp.book ((ExtN.keeps e2).book hB13)) ok12 rfl (fun Q q => q) (by omega) (by omega) (.inl ⟨f13.1, rfl⟩) bad)) fun H14 e14 T14 => ⟨true, rfl, iteF ?_⟩
    have hB14 := (ExtN.keeps e14).book hB13
    refine next_go ?_
    dsimp only
    refine seq_go ?_
    refine if_go (or_go (test_go (op_go ?_)))
    refine go_take hB14 ok12 rfl (fun R r => rd_tup1 r) f13.2.2.2.1 fun H15 b15 hB15 => ?_
    rw [f13.2.2.2.2]
    have hB15 : BookK K H15 x 33 sb13 := hB15
    have T15 := (hB14.tabk b15).tabs T14
    refine ⟨rfl, _, rfl, ?_⟩
    rw [decide_eq_true (show V.int 1 = V.int 1 from rfl)]
    refine iteF ?_
    refine not_go (b_go ?_)
    refine are1 T15 rfl .m (fun _ => .int 20) ((rp_told (x := "many") (by decide) (by decide) (rp_int (i := 20) (by decide))).mono (Nat.le_refl _) (Nat.le_refl _)) (by omega) (by omega)
      (fun f H2 e2 l2 => dies_lam (k := 6) (tb := fun E => tMeth (cJ K) "come" (spBCome K) [] E (tVar 0) (tCons (tC (.int 1)) tNil)) ["_law_book_so"] [("_law_book_so", .ref x)] rfl (fun _ h => h) cx (free_has (by decide +kernel)) (by decide +kernel) (bind0 rfl fun _ _ _ _ => rfl)
          (fun A' outer' s' H' E' c' hr' => pe_md (pv 0) T.clJ T.m_Joinbook_come DC6 hr' (passes_call (takes_of rfl rfl rfl rfl) fun _ _ _ _ h => h) (pa_cons pe_int pa_nil)) l2 (fun H9 E9 Q9 kp bad => rd_many (m := 20) (kp.book ((ExtN.keeps e2).book hB15)) ok13 rfl (fun Q q => q) (by omega) (by omega) (.inl ⟨f14.1, rfl⟩) bad)) fun H16 e16 T16 => ⟨true, rfl, iteF ?_⟩
    have hB16 := (ExtN.keeps e16).book hB15
    refine next_go ?_
    dsimp only
    refine ret_go ?_
    exact are1 T16 rfl .n (fun _ => .non) ((rp_told (x := "number") (by decide) (by decide) rp_non).mono (Nat.le_refl _) (Nat.le_refl _)) (by omega) (by omega)
      (fun f H2 e2 l2 => dies_lam (k := 6) (tb := fun E => tMeth (cJ K) "come" (spBCome K) [] E (tVar 0) (tCons (tC (.non)) tNil)) ["_law_book_so"] [("_law_book_so", .ref x)] rfl (fun _ h => h) cx (free_has (by decide +kernel)) (by decide +kernel) (bind0 rfl fun _ _ _ _ => rfl)
          (fun A' outer' s' H' E' c' hr' => pe_md (pv 0) T.clJ T.m_Joinbook_come DC6 hr' (passes_call (takes_of rfl rfl rfl rfl) fun _ _ _ _ h => h) (pa_cons pe_non pa_nil)) l2 (fun H9 E9 Q9 kp bad => rd_come (kp.book ((ExtN.keeps e2).book hB16)) ok13.good (by omega) rfl (fun Q q => q) ⟨_, .non⟩ rfl bad)) fun H17 e17 T17 => k H17
end
end JB
set_option Elab.async false
set_option linter.all false
set_option maxRecDepth 100000
set_option maxHeartbeats 4000000
namespace JB
open PySem PySem.Spec PyProof.Rows L2
def spBegin (K : PySem.W.Frag) : Sp := fun vs H Q _ => ∃ (a : Addr) (ns : List Int), vs = [.ref a] ∧ SqL K H a (ns.map V.int) ∧ ns.length ≤ 63 ∧ ∀ H' st c l, Same H H' → StateAt H' st c l 0 → c ≠ l → Q (.ref st) H'
def spLaw (K : PySem.W.Frag) (P1 P2 : Addr) : Sp := fun vs H Q _ => ∃ (a : Addr) (ns : List Int), vs = [.ref a] ∧ SqL K H a (ns.map V.int) ∧ ns.length ≤ 63 ∧ LamX.Tabs (tabsT P1 P2) H ∧ ∀ H', Q (.bl true) H'
theorem k5 : Str.ofString "room" ≠ Str.ofString "cells" := by decide +kernel
theorem k6 : Str.ofString "room" ≠ Str.ofString "lefts" := by decide +kernel
theorem merge_st (c l : Addr) : mergeK [] (stK c l 0) = stK c l 0 := by
  simp [mergeK, putK, stK, k1, k2, k3, k4, k5, k6, Ne.symm k1, Ne.symm k2, Ne.symm k3, Ne.symm k4, Ne.symm k5, Ne.symm k6]
theorem dp_ints {K : PySem.W.Frag} {H : Hp} : ∀ ns : List Int, DpAll K H (ns.map V.int) (ns.map .int)
  | [] => .nil
  | n :: r => .cons (.int n) (dp_ints r)
section
variable {P : Program} {w : World} {K : PySem.W.Frag} {mg : Str → Option Value} {base : Heap}
theorem ok_begin (T : Txt K mg) : Def P w K mg base CX0 1 (He.ga K "_law_begin") (spBegin K) := by
  refine def0 T.d_law_begin sc_law_begin (fun _ _ _ _ _ _ us hl => match us, hl with | [_], _ => rfl) (fun vs H Q E h => ?_) (fun cdv A outer s H vs Q E hr h => ?_)
  · obtain ⟨a, ns, rfl, _⟩ := h
    rfl
  · obtain ⟨a, ns, rfl, ha, hlen, k⟩ := h
    have nd := sc_law_begin.nd
    have hu := hr.units
    refine ⟨_, pss_cons (ps_set (i := 1) nd rfl (Or.inl rfl) (pe_ifExp (pt_cmpR (op_neD hu) (pv 0) (pe_lst pa_nil) (by rfl)) (pe_callTy call_list_of rfl T.f_list (by decide +kernel) (pa_cons (pv 0) pa_nil)) (pe_lst (pa_cons pe_int pa_nil))))
      (pss_one (ps_ret (pe_disp (pps_cons pe_str (pv 1) (pps_cons pe_str (pe_lc (own := [("_law_cell", 2)]) (g := gName 2) (tt := tYes) (te := tIf (tTest (tOp (rI0 fun i j => .bl (decide (j ≤ i))) (tVar 2) (tOp (rI CPow fun i j => .int (i ^ j.toNat)) (tC (.int 10)) (tC (.int 18))))) (tVar 2) (tC (.int 0))) rfl nd (pi_list (pv 1)) (blkOk_by (own := [("_law_cell", 2)]) (N := n_law_begin) (sc := defScope s_law_begin) (by decide +kernel))
          (fun _ _ _ _ _ => pg_name (i := 2) nd rfl (Or.inl rfl)) (fun _ _ _ _ _ => pts_nil) (fun _ _ _ _ _ => pe_ifExp (pt_cmpR op_ge (pv 2) (pe_op op_pow pe_int pe_int) (nomark _)) (pv 2) pe_int))
        (pps_cons pe_str pe_int (pps_cons pe_str pe_int pps_nil)))) rfl rfl (by simp) (by decide)))), ?_⟩
    have z : ∀ m : Nat, m ≤ 100 → m ≤ sizeLine := fun m h => by rw [sizeLine_eq]; omega
    refine ⟨_, rfl, z 0 (by omega), fun q hq => ?_⟩
    have sq := same_upd (o := .lst []) hq
    have ha1 := sq.seq ha
    refine ⟨.list (ns.map .int), .list [], .lst ha1 (dp_ints ns), .lst (SqL.of upd_same) .nil, ?_, by decide, ?_⟩
    · exact shaped_of (by simp [PyData.canLay0, lay_ints]) (by simp [PyData.depth, deep_ints])
    -- what stands behind
    have rest : ∀ (H2 : Hp) (c : Addr) (ms : List Int), Same H H2 → H2 c = some (.lst (ms.map V.int)) → 1 ≤ ms.length → ms.length ≤ 63 →
        tDisp [(tC (.str "cells"), tVar 1), (tC (.str "lefts"), tLc (iList K (tVar 1)) (gName 2) tYes (tIf (tTest (tOp (rI0 fun i j => .bl (decide (j ≤ i))) (tVar 2) (tOp (rI CPow fun i j => .int (i ^ j.toNat)) (tC (.int 10)) (tC (.int 18))))) (tVar 2) (tC (.int 0))) [2]), (tC (.str "at"), tC (.int 0)), (tC (.str "room"), tC (.int 0))]
          [some (.ref a), some (.ref c), none] H2 Q := by
      intro H2 c ms s2 hc m1 m2 st hst
      have s3 := same_upd (o := .dK []) hst
      have hc3 := s3 _ _ hc
      refine ⟨_, rfl, _, rfl, c, rfl, ⟨_, SqL.of hc3⟩, fun D hD => ?_⟩
      refine lc_listG (K := K) (a := c) (xs := ms.map V.int) (fun i acc => acc = (ms.take i).map fun zz => V.int (if (10 : Int) ^ (18 : Int).toNat ≤ zz then zz else 0)) (SqL.of hc3) hD (by rw [List.length_map]; omega) rfl ?_ ?_
      · intro i x H4 acc hi s4 hacc
        rw [List.getElem?_map] at hi
        cases ei : ms[i]? with
        | none => rw [ei] at hi; cases hi
        | some zz =>
          rw [ei] at hi
          cases hi
          refine turn_name fun Qe he => ⟨rfl, _, rfl, _, _, rfl, rfl, ⟨by decide, by decide, by decide⟩, _, _, rfl, rfl, _, rfl, ?_⟩
          have fin : ∀ y : Int, y = (if (10 : Int) ^ (18 : Int).toNat ≤ zz then zz else 0) → Qe (.int y) H4 := fun y ey => he _ _ (by rw [hacc, take_succ ei, ey]; simp) (Same.refl _)
          by_cases hz : (10 : Int) ^ (18 : Int).toNat ≤ zz
          · rw [decide_eq_true hz]
            exact iteT ⟨_, rfl, fin zz (by rw [if_pos hz])⟩
          · rw [decide_eq_false hz]
            exact iteF (fin 0 (by rw [if_neg hz]))
      · intro acc H4 hacc s4 hDs
        rw [List.length_map, List.take_length] at hacc
        have hst4 := s4 _ _ (upd_same (H := H2) (a := st) (o := .dK []))
        refine ⟨hst4, stK c D 0, rfl, (by show 4 ≤ 15; omega), ?_⟩
        rw [merge_st]
        have nst : ∀ {b o}, H2 b = some o → b ≠ st := fun {b o} e => ne_of_none e hst
        have nDs : D ≠ st := fun e => by rw [e, hst4] at hDs; cases hDs
        have ncD : c ≠ D := ne_of_none hc3 hD
        refine k _ st c D (fun b o e => ?_) ⟨ms, ms.map fun zz => if (10 : Int) ^ (18 : Int).toNat ≤ zz then zz else 0, upd_same, ?_, ?_, by simp, m1, by omega⟩ ncD
        · have e2 := s2 _ _ e
          rw [upd_ne (nst e2)]
          exact s4 _ _ (s3 _ _ e2)
        · rw [upd_ne (nst hc)]
          exact s4 _ _ hc3
        · rw [upd_ne nDs, hDs, hacc, List.map_map]
          rfl
    cases ns with
    | nil =>
      rw [show PyData.eqv (.list (([] : List Int).map .int)) (.list []) = true from rfl]
      refine ⟨_, rfl, iteF ⟨z 1 (by omega), fun l hl => ?_⟩⟩
      exact rest _ l [0] (sq.trans (same_upd hl)) upd_same (by simp) (by simp)
    | cons n r =>
      rw [show PyData.eqv (.list ((n :: r).map .int)) (.list []) = false by simp [PyData.eqv, PyData.eqvAll]]
      refine ⟨_, rfl, iteT ⟨_, rfl, a, _, rfl, .inl ha1, fun l hl => ?_⟩⟩
      exact rest _ l (n :: r) (sq.trans (same_upd hl)) upd_same (by simp) hlen
end
end JB
set_option Elab.async false
set_option linter.all false
set_option maxRecDepth 100000
set_option maxHeartbeats 4000000
namespace JB
open PySem PySem.Spec PyProof.Rows L2
/-! ### the list that is told -/
def ToldL (H : Hp) (l : Addr) (ds : List PyData) : Prop := ∃ vs, H l = some (.lst vs) ∧ DqA H vs ds
theorem ToldL.keepD {H H' : Hp} {l : Addr} {ds : List PyData} (s : KeepD H H') (h : ToldL H l ds) : ToldL H' l ds := by
  obtain ⟨vs, e, t⟩ := h
  exact ⟨vs, s _ _ e trivial, DqA.keepD s ds vs t⟩
theorem DqA.app {H : Hp} : ∀ {vs : List V} {ds : List PyData} {ws : List V} {es : List PyData}, DqA H vs ds → DqA H ws es → DqA H (vs ++ ws) (ds ++ es)
  | _, _, _, _, .nil, t => t
  | _, _, _, _, .cons h r, t => .cons h (DqA.app r t)
theorem DqA.len {H : Hp} : ∀ {vs : List V} {ds : List PyData}, DqA H vs ds → vs.length = ds.length
  | _, _, .nil => rfl
  | _, _, .cons _ r => congrArg (· + 1) (DqA.len r)
theorem cat_go {H : Hp} {Q : VK} {l p : Addr} {ds es : List PyData} (h1 : ToldL H l ds) (h2 : ToldL H p es) (hl : ds.length + es.length ≤ 100) (k : ∀ q H', Same H H' → ToldL H' q (ds ++ es) → Q (.ref q) H') : rCat (.ref l) (.ref p) H Q := by
  obtain ⟨vs, e1, t1⟩ := h1
  obtain ⟨ws, e2, t2⟩ := h2
  refine ⟨l, p, vs, ws, rfl, rfl, e1, e2, by rw [DqA.len t1, DqA.len t2, sizeLine_eq]; omega, fun q hq => ?_⟩
  have s := same_upd (o := .lst (vs ++ ws)) hq
  exact k q _ s ⟨_, upd_same, DqA.app (DqA.same s _ _ t1) (DqA.same s _ _ t2)⟩
theorem gets4 {σ : L2.St} {H : Hp} {Q : VK} {l : Addr} (h : σ[4]? = some (some (.ref l))) (q : Q (.ref l) H) : tVar 4 σ H Q := ⟨_, h, q⟩
def dDue : PyData := .list [dTT [], .int 0, .int 0, .int 0, .int 0, .int 1, .int 2, .int 3, .int 19, .int 3, .int 0, .int 3, .int 9, dTT [[0, 3], [1], [2]], .int 9, .int 22, .int 1, .int 19, .int 0, dTT [[0, 2, 3]], .int 19, .int 7]
theorem due_ok : SeqAt.shaped dDue = true ∧ PyData.eqv dDue dDue = true := by decide +kernel
section
variable {P : Program} {w : World} {K : PySem.W.Frag} {mg : Str → Option Value} {base : Heap}
theorem ok_law (T : Txt K mg) {c1 P1 c2 P2 : Addr} (C : Codes K mg base c1 P1 c2 P2) : DefG P w K mg base 12 (He.ga K "law") (spLaw K P1 P2) := by
  have DB := (ok_begin (P := P) (w := w) (base := base) T).mono (show 1 ≤ 11 by omega)
  have DR := ok_right (P := P) (w := w) T C
  have DX := (ok_bounds (P := P) (w := w) T C).mono (show 10 ≤ 11 by omega)
  have DN := (ok_book_init (P := P) (w := w) (base := base) T).mono (show 3 ≤ 10 by omega)
  have DC := (ok_book_come (P := P) (w := w) (base := base) T).mono (show 4 ≤ 11 by omega)
  have DT := (ok_book_take (P := P) (w := w) (base := base) T).mono (show 5 ≤ 11 by omega)
  have DJ := (ok_book_join (P := P) (w := w) (base := base) T).mono (show 6 ≤ 11 by omega)
  have DO := (ok_tops (P := P) (w := w) (base := base) T).mono (show 1 ≤ 11 by omega)
  have DP := (ok_paid (P := P) (w := w) (base := base) T).mono (show 1 ≤ 10 by omega)
  have DF := (ok_book_finish (P := P) (w := w) (base := base) T).mono (show 3 ≤ 11 by omega)
  have DW := (ok_book_weight (P := P) (w := w) (base := base) T).mono (show 4 ≤ 11 by omega)
  have DS := (ok_book_loss (P := P) (w := w) (base := base) T).mono (show 5 ≤ 11 by omega)
  have DL := (ok_len (P := P) (w := w) (base := base) T).mono (show 1 ≤ 10 by omega)
  refine defG T.d_law sc_law (fun _ _ _ _ _ _ us hl => match us, hl with | [_], _ => rfl) (fun vs H Q E h => ?_) (fun cdv A outer s H vs Q hlk hgd hr h => ?_)
  · obtain ⟨a, ns, rfl, _⟩ := h
    rfl
  · obtain ⟨a, ns, rfl, ha, hlen, hT, k⟩ := h
    obtain ⟨fdp, psp, FP, hkp, hbp⟩ := DP.ex
    have nd := sc_law.nd
    have hu := hr.units
    have hgd' := deeper_g hgd (envOfC "law" (defScope s_law) s.heap.objs.size (He.ga K "law") cdv)
    refine ⟨_, pss_cons (ps_set (i := 1) nd rfl (Or.inl rfl) (pe_cd DB hr T.g_law_begin pass0 (pa_cons (pv 0) pa_nil)))
      (pss_cons (ps_for PassesOwn.never rfl (pi_range1 rfl T.f_range (pa_cons (pe_op op_add pe_int (pe_callB (call_min2 rfl) rfl T.f_min (by decide +kernel) (pa_cons (pe_callB call_len_seq rfl T.f_len boot_len (pa_cons (pv 0) pa_nil)) (pa_cons pe_int pa_nil)))) pa_nil)) (pg_name (i := 2) nd rfl (Or.inl rfl)) (pss_one (ps_if (pt_not (pt_val (pe_cg DR hgd' hr T.g_law_right (pa_cons (pv 1) pa_nil)))) (pss_one (ps_ret pe_bl)) pss_nil)))
      (pss_cons (ps_set (i := 3) nd rfl (Or.inr rfl) (pe_new0 T.mkJ DN hr T.g_Joinbook pass0))
      (pss_cons (ps_set (i := 4) nd rfl (Or.inl rfl) (pe_lst (pa_cons (pe_md0 (pv 3) T.clJ T.m_Joinbook_tops DO hr pass0) (pa_cons (pe_prop (pv 3) T.clJ T.pr FP hr hbp .nil pass0 rfl) (pa_cons (pe_md0 (pv 3) T.clJ T.m_Joinbook_finish DF hr pass0) (pa_cons (pe_callB (cr_lenOwn T.m_Joinbook_len DL hr pass0) rfl T.f_len boot_len (pa_cons (pv 3) pa_nil)) pa_nil))))))
      (pss_cons (ps_set (i := 4) nd rfl (Or.inl rfl) (pe_op op_cat (pv 4) (pe_lc (own := [("_law_w", 5)]) (g := gName 5) (tt := tYes) (te := tMeth (cJ K) "come" (spBCome K) [] E0 (tVar 3) (tCons (tVar 5) tNil)) rfl nd (pi_tup (pe_tup (pa_cons pe_int (pa_cons pe_int (pa_cons pe_int (pa_cons pe_int pa_nil)))))) (blkOk_by (own := [("_law_w", 5)]) (N := n_law) (sc := defScope s_law) (by decide +kernel)) (fun _ _ _ _ _ => pg_name (i := 5) nd rfl (Or.inl rfl)) (fun _ _ _ _ _ => pts_nil) (fun _ _ _ _ _ => (pe_md (pv 3) T.clJ T.m_Joinbook_come DC hr passL (pa_cons (pv 5) pa_nil))))))
      (pss_cons (ps_set (i := 4) nd rfl (Or.inl rfl) (pe_op op_cat (pv 4) (pe_lst (pa_cons (pe_md0 (pv 3) T.clJ T.m_Joinbook_finish DF hr pass0) (pa_cons (pe_md (pv 3) T.clJ T.m_Joinbook_loss DS hr passL (pa_cons (pe_tup (pa_cons pe_int pa_nil)) (pa_cons (pe_tup (pa_cons pe_int pa_nil)) pa_nil))) (pa_cons (pe_md (pv 3) T.clJ T.m_Joinbook_loss DS hr passL (pa_cons (pe_tup (pa_cons pe_int pa_nil)) (pa_cons (pe_tup (pa_cons pe_int pa_nil)) pa_nil))) pa_nil))))))
      (pss_cons (ps_set (i := 4) nd rfl (Or.inl rfl) (pe_op op_cat (pv 4) (pe_lst (pa_cons (pe_md (pv 3) T.clJ T.m_Joinbook_join DJ hr passL (pa_cons (pe_tup (pa_cons pe_int pa_nil)) (pa_cons (pe_tup (pa_cons pe_int pa_nil)) pa_nil))) (pa_cons (pe_prop (pv 3) T.clJ T.pr FP hr hbp .nil pass0 rfl) (pa_cons (pe_md0 (pv 3) T.clJ T.m_Joinbook_tops DO hr pass0) (pa_cons (pe_md (pv 3) T.clJ T.m_Joinbook_weight DW hr passL (pa_cons (pe_tup (pa_cons pe_int (pa_cons pe_int pa_nil))) pa_nil)) (pa_cons (pe_md0 (pv 3) T.clJ T.m_Joinbook_finish DF hr pass0) pa_nil))))))))
      (pss_cons (ps_set (i := 4) nd rfl (Or.inl rfl) (pe_op op_cat (pv 4) (pe_lst (pa_cons (pe_md (pv 3) T.clJ T.m_Joinbook_take DT hr passL (pa_cons (pe_tup (pa_cons pe_int pa_nil)) pa_nil)) (pa_cons (pe_md0 (pv 3) T.clJ T.m_Joinbook_finish DF hr pass0) (pa_cons (pe_md (pv 3) T.clJ T.m_Joinbook_join DJ hr passL (pa_cons (pe_tup (pa_cons pe_int (pa_cons pe_int pa_nil))) (pa_cons (pe_tup (pa_cons pe_int pa_nil)) pa_nil))) (pa_cons (pe_md0 (pv 3) T.clJ T.m_Joinbook_tops DO hr pass0) pa_nil)))))))
      (pss_cons (ps_set (i := 4) nd rfl (Or.inl rfl) (pe_op op_cat (pv 4) (pe_lst (pa_cons (pe_prop (pv 3) T.clJ T.pr FP hr hbp .nil pass0 rfl) (pa_cons (pe_callB (cr_lenOwn T.m_Joinbook_len DL hr pass0) rfl T.f_len boot_len (pa_cons (pv 3) pa_nil)) pa_nil)))))
      (pss_cons (ps_set (i := 6) nd rfl (Or.inl rfl) (pe_lst (pa_cons (pe_tup pa_nil) (pa_cons pe_int (pa_cons pe_int (pa_cons pe_int (pa_cons pe_int (pa_cons pe_int (pa_cons pe_int (pa_cons pe_int (pa_cons pe_int (pa_cons pe_int (pa_cons pe_int (pa_cons pe_int (pa_cons pe_int (pa_cons (pe_tup (pa_cons (pe_tup (pa_cons pe_int (pa_cons pe_int pa_nil))) (pa_cons (pe_tup (pa_cons pe_int pa_nil)) (pa_cons (pe_tup (pa_cons pe_int pa_nil)) pa_nil)))) (pa_cons pe_int (pa_cons pe_int (pa_cons pe_int (pa_cons pe_int (pa_cons pe_int (pa_cons (pe_tup (pa_cons (pe_tup (pa_cons pe_int (pa_cons pe_int (pa_cons pe_int pa_nil)))) pa_nil)) (pa_cons pe_int (pa_cons pe_int pa_nil))))))))))))))))))))))))
      (pss_one (ps_ret (pe_and (pe_cmpR (op_eqQ T.sysd hu) (pv 4) (pv 6) (by rfl)) (pe_one (pe_cg0 DX hgd' hr T.g_law_bounds_right)))))))))))))), ?_⟩
    have z : ∀ m : Nat, m ≤ 100 → m ≤ sizeLine := fun m h => by rw [sizeLine_eq]; omega
    refine ⟨_, rfl, a, ns, rfl, ha, hlen, fun H1 st c l s1 hst ncl => ?_⟩
    have hm : (if (4 : Int) < ((ns.map V.int).length : Nat) then (4 : Int) else ((ns.map V.int).length : Nat)) = ((min ns.length 4 : Nat) : Int) := by
      rw [List.length_map]
      split <;> omega
    refine ⟨_, rfl, a, _, rfl, .inl (s1.seq ha), _, _, rfl, _, _, rfl, rfl, _, rfl, ?_⟩
    rw [hm]
    refine ⟨by omega, by omega, ?_⟩
    refine for_range (lo := 0) (n := (2 + ((min ns.length 4 : Nat) : Int)).toNat) (fun i σ H' => ∃ v2 a', σ = [some (.ref a), some (.ref st), v2, none, none, none, none] ∧ StateAt H' st c l a' ∧ 0 ≤ a' ∧ a' ≤ 200 * (i : Int) ∧ LamX.Tabs (tabsT P1 P2) H')
      ⟨_, 0, rfl, hst, by omega, by omega, hT.ext s1⟩ ?_ ?_
    · rintro i σ H5 hi ⟨v2, a', rfl, hs5, h0, h1, T5⟩
      refine ⟨_, rfl, st, c, l, a', rfl, hs5, ncl, h0, by omega, T5, fun H6 a6 hs6 ha2 ha3 T6 => ⟨true, rfl, iteF ?_⟩⟩
      exact ⟨_, a6, rfl, hs6, by omega, by omega, T6⟩
    rintro σ H5 ⟨v2, a5, rfl, hs5, _, _, T5⟩
    dsimp only
    refine seq_go ?_
    intro x dx hx hdx ne
    refine ⟨x, dx, rfl, upd_same, fun H6 b6 hB6 => ⟨rfl, ?_⟩⟩
    have T6 := T5.ext (made_same hx hdx b6)
    have hB6 : BookK K H6 x 0 (lc 0) := hB6
    have f0 : (lc 0).tops = [] ∧ (lc 0).paid = 0 ∧ (lc 0).fin = 0 := by decide +kernel
    obtain ⟨fl0, fl1, fl2, fl3, fl4, fl5, fl6, fl7, fl8⟩ := fl
    refine next_go ?_
    dsimp only
    refine seq_go ?_
    refine asg_go (lst_go (cons_go (go_tops hB6 rfl fun v hv => cons_go (go_paid hB6 rfl (cons_go (go_finish hB6 (lc_ok 0 (by omega)) rfl fun H7 s7 => cons_go (go_len (hB6.same s7) (lc_ok 0 (by omega)) rfl fun H8 s8 => ⟨z 4 (by omega), fun l hl => ?_⟩)))))))
    have s9 := same_upd (o := .lst [v, .int (lc 0).paid, .int (lc 0).fin, .int ((0 : Nat) : Int)]) hl
    have t9 : upd H8 l (.lst [v, .int (lc 0).paid, .int (lc 0).fin, .int ((0 : Nat) : Int)]) l = some (.lst [v, .int 0, .int 0, .int 0]) ∧ TT (upd H8 l (.lst [v, .int (lc 0).paid, .int (lc 0).fin, .int ((0 : Nat) : Int)])) v [] := by
      rw [f0.1] at hv
      rw [f0.2.1, f0.2.2]
      exact ⟨upd_same, hv.ext (Ext.of ((s7.trans s8).trans (same_upd hl)))⟩
    have s69 := (s7.trans s8).trans s9
    have hB9 := hB6.same s69
    have T9 := T6.ext s69
    revert t9 hB9 T9
    generalize upd H8 l (.lst [v, .int (lc 0).paid, .int (lc 0).fin, .int ((0 : Nat) : Int)]) = H9
    rintro ⟨t9, v9⟩ hB9 T9
    -- four that come
    refine next_go ?_
    dsimp only
    refine seq_go ?_
    refine asg_go (op_go (gets4 rfl ?_))
    refine ⟨z 4 (by omega), fun q hq => ?_⟩
    have sq := same_upd (o := .tup [.int 5, .int 1, .int 1, .int 4]) hq
    refine ⟨q, rfl, ⟨_, SqT.of upd_same⟩, fun D hD => ?_⟩
    have sD := same_upd (o := .lst []) hD
    have nlD : l ≠ D := ne_of_none (sq _ _ t9) hD
    refine lc_tup (K := K) (a := q) (xs := [.int 5, .int 1, .int 1, .int 4]) (fun i H' => ∃ acc, H' D = some (.lst acc) ∧ acc = (List.range i).map (fun j : Nat => V.int (j : Int)) ∧ BookK K H' x i (lc i) ∧ LamX.Tabs (tabsT P1 P2) H' ∧ H' q = some (.tup [.int 5, .int 1, .int 1, .int 4]) ∧ H' l = some (.lst [v, .int 0, .int 0, .int 0]) ∧ TT H' v []) ⟨[], upd_same, rfl, hB9.same (sq.trans sD), T9.ext (sq.trans sD), sD _ _ upd_same, sD _ _ (sq _ _ t9), v9.ext (Ext.of (sq.trans sD))⟩ (fun i H' hi ⟨acc, h1, h2, h3, h4, h5, h6⟩ => SqT.of h5) ?_ ?_
    · rintro i y H2 hi ⟨acc, hDa, ea, hB2, T2, hq2, hl2, hv2⟩
      have h4 : i < 4 := (List.getElem?_eq_some_iff.mp hi).1
      have hy : y = .int (la.getD i 0) ∧ 1 ≤ la.getD i 0 ∧ la.getD i 0 ≤ 1000000000 := by
        match i, h4, hi with
        | 0, _, e => exact ⟨(Option.some.inj e).symm, by decide, by decide⟩
        | 1, _, e => exact ⟨(Option.some.inj e).symm, by decide, by decide⟩
        | 2, _, e => exact ⟨(Option.some.inj e).symm, by decide, by decide⟩
        | 3, _, e => exact ⟨(Option.some.inj e).symm, by decide, by decide⟩
      obtain ⟨rfl, y1, y2⟩ := hy
      obtain ⟨g1, g2, g3⟩ := fl0 i h4
      refine ⟨rfl, ?_⟩
      dsimp only [tYes]
      rw [if_pos rfl]
      refine go_come (x := la.getD i 0) hB2 (lc_ok i (by omega)) rfl (fun R r => ⟨_, rfl, r⟩) y1 y2 (by omega) (by omega) fun H3 b3 hB3 => ?_
      have k3 := hB2.keepD b3
      have hD3 := k3 _ _ hDa trivial
      have eD : Ext H3 (upd H3 D (.lst (acc ++ [.int ((lc i).loads.length : Nat)]))) := fun b xs e => by
        rw [upd_ne fun z => by rw [z, hD3] at e; cases e]
        exact e
      refine ⟨acc, hD3, by rw [ea, List.length_map, List.length_range, sizeLine_eq]; omega, _, upd_same, ?_, ?_, tabs_lst hD3 ((hB2.tabk b3).tabs T2), eD _ _ (k3 _ _ hq2 trivial), ?_, (hv2.ext k3.ext).ext eD⟩
      · rw [ea, List.range_succ, List.map_append, g2]
        rfl
      · rw [g3]
        exact hB3.lst hD3
      · rw [upd_ne nlD]
        exact k3 _ _ hl2 trivial
    rintro H2 ⟨acc, hDa, ea, hB2, T2, hq2, hl2, hv2⟩
    have t2 : ToldL H2 l [dTT [], .int 0, .int 0, .int 0] := ⟨_, hl2, .cons hv2.dq (.cons (.int _) (.cons (.int _) (.cons (.int _) .nil)))⟩
    have t2' : ToldL H2 D [.int 0, .int 1, .int 2, .int 3] := ⟨_, by rw [hDa, ea]; rfl, .cons (.int _) (.cons (.int _) (.cons (.int _) (.cons (.int _) .nil)))⟩
    have hB2 : BookK K H2 x 4 (lc 4) := hB2
    refine cat_go t2 t2' (by simp) fun l3 H3 s23 t3 => ?_
    have hB3 := hB2.same s23
    have T3 := T2.ext s23
    -- its end, two losses
    refine next_go ?_
    dsimp only
    refine seq_go ?_
    refine asg_go (op_go (gets4 rfl ?_))
    have k4 := lc_ok 4 (by omega)
    refine lst_go (cons_go (go_finish hB3 k4 rfl fun H4 s4 => cons_go (go_loss (hB3.same s4) k4 rfl (fun H1 R r => rd_tup1 r) (fun H1 R r => rd_tup1 r) fl2 fl3 (by decide) fun H5 s5 => cons_go (go_loss (hB3.same (s4.trans s5)) k4 rfl (fun H1 R r => rd_tup1 r) (fun H1 R r => rd_tup1 r) fl3 fl4 (by decide) fun H6 s6 => ⟨z 3 (by omega), fun p6 hp6 => ?_⟩))))
    rw [fl1, fl6, fl7]
    have s36 := ((s4.trans s5).trans s6).trans (same_upd (o := .lst [.int 19, .int 3, .int 0]) hp6)
    refine cat_go (t3.keepD (KeepD.of s36)) ⟨_, upd_same, .cons (.int _) (.cons (.int _) (.cons (.int _) .nil))⟩ (by simp) fun l7 H7 s67 t7 => ?_
    have hB7 := hB3.same (s36.trans s67)
    have T7 := T3.ext (s36.trans s67)
    -- a join
    refine next_go ?_
    dsimp only
    refine seq_go ?_
    refine asg_go (op_go (gets4 rfl ?_))
    refine lst_go (cons_go (go_join hB7 k4 rfl (fun H1 R r => rd_tup1 r) (fun H1 R r => rd_tup1 r) fl2 fl5 (by decide) fun H8 b8 hB8 => ?_))
    have hB8 : BookK K H8 x 5 ld1 := hB8
    have T8 := (hB7.tabk b8).tabs T7
    rw [fl8]
    refine cons_go (go_paid hB8 rfl (cons_go (go_tops hB8 rfl fun v8 hv8 => cons_go (go_weight (t := [0, 3]) hB8 ld1_ok rfl (fun R r => rd_tup2 r) (by rw [fd1.2.1]; simp) fun H9 s9 => cons_go (go_finish (hB8.same s9) ld1_ok rfl fun H10 s10 => ⟨z 5 (by omega), fun p10 hp10 => ?_⟩)))))
    rw [fd1.2.1] at hv8
    rw [fd1.1, fd1.2.2.1, fd1.2.2.2.1]
    have s810 := (s9.trans s10).trans (same_upd (o := .lst [.int 3, .int 9, v8, .int 9, .int 22]) hp10)
    refine cat_go (t7.keepD ((hB7.keepD b8).trans (KeepD.of s810))) ⟨_, upd_same, .cons (.int _) (.cons (.int _) (.cons (Dq.same s810 _ _ hv8.dq) (.cons (.int _) (.cons (.int _) .nil))))⟩ (by simp) fun l11 H11 s11 t11 => ?_
    have hB11 := hB8.same (s810.trans s11)
    have T11 := T8.ext (s810.trans s11)
    -- a take, a join
    refine next_go ?_
    dsimp only
    refine seq_go ?_
    refine asg_go (op_go (gets4 rfl ?_))
    refine lst_go (cons_go (go_take (t := [1]) hB11 ld1_ok rfl (fun R r => rd_tup1 r) (by rw [fd1.2.1]; simp) fun H12 b12 hB12 => ?_))
    have hB12 : BookK K H12 x 6 ld2 := hB12
    rw [fd1.2.2.2.2]
    refine cons_go (go_finish hB12 ld2_ok rfl fun H13 s13 => cons_go (go_join (hB12.same s13) ld2_ok rfl (fun H1 R r => rd_tup2 r) (fun H1 R r => rd_tup1 r) (by rw [fd2.2.1]; simp) (by rw [fd2.2.1]; simp) (by decide) fun H14 b14 hB14 => ?_))
    have hB14 : BookK K H14 x 7 ld3 := hB14
    rw [fd2.1, fd2.2.2]
    refine cons_go (go_tops hB14 rfl fun v14 hv14 => ⟨z 4 (by omega), fun p14 hp14 => ?_⟩)
    rw [fd3.1] at hv14
    have s15 := same_upd (o := .lst [.int 1, .int 19, .int 0, v14]) hp14
    have T14 := (((hB12.same s13).tabk b14).tabs (((hB11.tabk b12).tabs T11).ext s13)).ext s15
    refine cat_go (t11.keepD ((((hB11.keepD b12).trans (KeepD.of s13)).trans ((hB12.same s13).keepD b14)).trans (KeepD.of s15))) ⟨_, upd_same, .cons (.int _) (.cons (.int _) (.cons (.int _) (.cons (Dq.same s15 _ _ hv14.dq) .nil)))⟩ (by simp) fun l16 H16 s16 t16 => ?_
    have hB16 := hB14.same (s15.trans s16)
    have T16 := T14.ext s16
    -- what it cost, and how long it is
    refine next_go ?_
    dsimp only
    refine seq_go ?_
    refine asg_go (op_go (gets4 rfl ?_))
    refine lst_go (cons_go (go_paid hB16 rfl (cons_go (go_len hB16 ld3_ok rfl fun H17 s17 => ⟨z 2 (by omega), fun p17 hp17 => ?_⟩))))
    rw [fd3.2]
    have s18 := s17.trans (same_upd (o := .lst [.int 19, .int ((7 : Nat) : Int)]) hp17)
    refine cat_go (t16.keepD (KeepD.of s18)) ⟨_, upd_same, .cons (.int _) (.cons (.int _) .nil)⟩ (by simp) fun l19 H19 s19 t19 => ?_
    have T19 := T16.ext (s18.trans s19)
    -- what is due
    refine next_go ?_
    dsimp only
    refine seq_go ?_
    refine asg_go (lst_go (cons_go ⟨z 0 (by omega), fun q0 hq0 => ?_⟩))
    refine ⟨z 2 (by omega), fun q1 hq1 => ⟨z 1 (by omega), fun q2 hq2 => ⟨z 1 (by omega), fun q3 hq3 => ⟨z 3 (by omega), fun q4 hq4 => ?_⟩⟩⟩⟩
    refine ⟨z 3 (by omega), fun q5 hq5 => ⟨z 1 (by omega), fun q6 hq6 => ⟨z 22 (by omega), fun q7 hq7 => ?_⟩⟩⟩
    have w0 := same_upd (o := .tup []) hq0
    have w1 := same_upd (o := .tup [.int 0, .int 3]) hq1
    have w2 := same_upd (o := .tup [.int 1]) hq2
    have w3 := same_upd (o := .tup [.int 2]) hq3
    have w4 := same_upd (o := .tup [.ref q1, .ref q2, .ref q3]) hq4
    have w5 := same_upd (o := .tup [.int 0, .int 2, .int 3]) hq5
    have w6 := same_upd (o := .tup [.ref q5]) hq6
    have w7 := same_upd (o := .lst [.ref q0, .int 0, .int 0, .int 0, .int 0, .int 1, .int 2, .int 3, .int 19, .int 3, .int 0, .int 3, .int 9, .ref q4, .int 9, .int 22, .int 1, .int 19, .int 0, .ref q6, .int 19, .int 7]) hq7
    have w67 := w6.trans w7
    have w57 := w5.trans w67
    have w47 := w4.trans w57
    have w37 := w3.trans w47
    have w27 := w2.trans w37
    have w17 := w1.trans w27
    have w07 := w0.trans w17
    have dd : Dq _ (.ref q7) dDue := .lst (upd_same (H := _) (a := q7) (o := .lst [.ref q0, .int 0, .int 0, .int 0, .int 0, .int 1, .int 2, .int 3, .int 19, .int 3, .int 0, .int 3, .int 9, .ref q4, .int 9, .int 22, .int 1, .int 19, .int 0, .ref q6, .int 19, .int 7]))
      (.cons (.tup (w17 _ _ upd_same) .nil) (.cons (.int _) (.cons (.int _) (.cons (.int _) (.cons (.int _) (.cons (.int _) (.cons (.int _) (.cons (.int _) (.cons (.int _) (.cons (.int _) (.cons (.int _) (.cons (.int _) (.cons (.int _)
      (.cons (.tup (w57 _ _ upd_same) (.cons (.tup (w27 _ _ upd_same) (.cons (.int _) (.cons (.int _) .nil))) (.cons (.tup (w37 _ _ upd_same) (.cons (.int _) .nil)) (.cons (.tup (w47 _ _ upd_same) (.cons (.int _) .nil)) .nil))))
      (.cons (.int _) (.cons (.int _) (.cons (.int _) (.cons (.int _) (.cons (.int _) (.cons (.tup (w7 _ _ upd_same) (.cons (.tup (w67 _ _ upd_same) (.cons (.int _) (.cons (.int _) (.cons (.int _) .nil)))) .nil))
      (.cons (.int _) (.cons (.int _) .nil))))))))))))))))))))))
    have Tz := T19.ext w07
    obtain ⟨vs19, e19, d19⟩ := t19.keepD (KeepD.of w07)
    refine next_go ?_
    dsimp only
    refine ret_go ?_
    refine ⟨_, rfl, _, rfl, dDue, dDue, .lst e19 d19, dd, due_ok.1, due_ok.1, _, rfl, ?_⟩
    rw [due_ok.2]
    exact iteT ⟨rfl, Tz, k⟩
end
end JB
set_option Elab.async false
set_option linter.all false
set_option maxRecDepth 100000
set_option maxHeartbeats 0
/-! The head: the module's top is run in the kernel, what it leaves is looked at. -/
namespace JB
open PySem PySem.Spec PyProof.Rows L2
abbrev R : PySem.W.OpenRow := PySem.W.OpenLaw.row PySem.Challenge.rw_joinsums_k28_whole_joinbooks
def h_BadNumber_init : He.DefD := ⟨("BadNumber", some "__init__"), "__init__", "BadNumber.__init__", defArgs s_BadNumber_init, defBody s_BadNumber_init, defScope s_BadNumber_init, [], []⟩
def h_BadTop_init : He.DefD := ⟨("BadTop", some "__init__"), "__init__", "BadTop.__init__", defArgs s_BadTop_init, defBody s_BadTop_init, defScope s_BadTop_init, [], []⟩
def h_TooMany_init : He.DefD := ⟨("TooMany", some "__init__"), "__init__", "TooMany.__init__", defArgs s_TooMany_init, defBody s_TooMany_init, defScope s_TooMany_init, [], []⟩
def h_is_integer : He.DefD := ⟨("is_integer", none), "is_integer", "is_integer", defArgs s_is_integer, defBody s_is_integer, defScope s_is_integer, [], []⟩
def h_is_between : He.DefD := ⟨("is_between", none), "is_between", "is_between", defArgs s_is_between, defBody s_is_between, defScope s_is_between, [], []⟩
def h_first_in : He.DefD := ⟨("first_in", none), "first_in", "first_in", defArgs s_first_in, defBody s_first_in, defScope s_first_in, [], []⟩
def h_Stand_init : He.DefD := ⟨("Stand", some "__init__"), "__init__", "Stand.__init__", defArgs s_Stand_init, defBody s_Stand_init, defScope s_Stand_init, [], []⟩
def h_Stand_weight_in : He.DefD := ⟨("Stand", some "weight_in"), "weight_in", "Stand.weight_in", defArgs s_Stand_weight_in, defBody s_Stand_weight_in, defScope s_Stand_weight_in, [], []⟩
def h_Stand_finish : He.DefD := ⟨("Stand", some "finish"), "finish", "Stand.finish", defArgs s_Stand_finish, defBody s_Stand_finish, defScope s_Stand_finish, [], []⟩
def h_Stand_come : He.DefD := ⟨("Stand", some "come"), "come", "Stand.come", defArgs s_Stand_come, defBody s_Stand_come, defScope s_Stand_come, [], []⟩
def h_Stand_joined : He.DefD := ⟨("Stand", some "joined"), "joined", "Stand.joined", defArgs s_Stand_joined, defBody s_Stand_joined, defScope s_Stand_joined, [], []⟩
def h_Stand_taken : He.DefD := ⟨("Stand", some "taken"), "taken", "Stand.taken", defArgs s_Stand_taken, defBody s_Stand_taken, defScope s_Stand_taken, [], []⟩
def h_Joinbook_init : He.DefD := ⟨("Joinbook", some "__init__"), "__init__", "Joinbook.__init__", defArgs s_Joinbook_init, defBody s_Joinbook_init, defScope s_Joinbook_init, [], []⟩
def h_Joinbook_go_on : He.DefD := ⟨("Joinbook", some "go_on"), "go_on", "Joinbook.go_on", defArgs s_Joinbook_go_on, defBody s_Joinbook_go_on, defScope s_Joinbook_go_on, [], []⟩
def h_Joinbook_come : He.DefD := ⟨("Joinbook", some "come"), "come", "Joinbook.come", defArgs s_Joinbook_come, defBody s_Joinbook_come, defScope s_Joinbook_come, [], []⟩
def h_Joinbook_tops : He.DefD := ⟨("Joinbook", some "tops"), "tops", "Joinbook.tops", defArgs s_Joinbook_tops, defBody s_Joinbook_tops, defScope s_Joinbook_tops, [], []⟩
def h_Joinbook_is_top : He.DefD := ⟨("Joinbook", some "is_top"), "is_top", "Joinbook.is_top", defArgs s_Joinbook_is_top, defBody s_Joinbook_is_top, defScope s_Joinbook_is_top, [], []⟩
def h_Joinbook_need_top : He.DefD := ⟨("Joinbook", some "need_top"), "need_top", "Joinbook.need_top", defArgs s_Joinbook_need_top, defBody s_Joinbook_need_top, defScope s_Joinbook_need_top, [], []⟩
def h_Joinbook_need_two : He.DefD := ⟨("Joinbook", some "need_two"), "need_two", "Joinbook.need_two", defArgs s_Joinbook_need_two, defBody s_Joinbook_need_two, defScope s_Joinbook_need_two, [], []⟩
def h_Joinbook_weight : He.DefD := ⟨("Joinbook", some "weight"), "weight", "Joinbook.weight", defArgs s_Joinbook_weight, defBody s_Joinbook_weight, defScope s_Joinbook_weight, [], []⟩
def h_Joinbook_loss : He.DefD := ⟨("Joinbook", some "loss"), "loss", "Joinbook.loss", defArgs s_Joinbook_loss, defBody s_Joinbook_loss, defScope s_Joinbook_loss, [], []⟩
def h_Joinbook_join : He.DefD := ⟨("Joinbook", some "join"), "join", "Joinbook.join", defArgs s_Joinbook_join, defBody s_Joinbook_join, defScope s_Joinbook_join, [], []⟩
def h_Joinbook_take : He.DefD := ⟨("Joinbook", some "take"), "take", "Joinbook.take", defArgs s_Joinbook_take, defBody s_Joinbook_take, defScope s_Joinbook_take, [], []⟩
def h_Joinbook_finish : He.DefD := ⟨("Joinbook", some "finish"), "finish", "Joinbook.finish", defArgs s_Joinbook_finish, defBody s_Joinbook_finish, defScope s_Joinbook_finish, [], []⟩
def h_Joinbook_len : He.DefD := ⟨("Joinbook", some "__len__"), "__len__", "Joinbook.__len__", defArgs s_Joinbook_len, defBody s_Joinbook_len, defScope s_Joinbook_len, [], []⟩
def h_law_mixed : He.DefD := ⟨("_law_mixed", none), "_law_mixed", "_law_mixed", defArgs s_law_mixed, defBody s_law_mixed, defScope s_law_mixed, [], []⟩
def h_law_begin : He.DefD := ⟨("_law_begin", none), "_law_begin", "_law_begin", defArgs s_law_begin, defBody s_law_begin, defScope s_law_begin, [], []⟩
def h_law_draw : He.DefD := ⟨("_law_draw", none), "_law_draw", "_law_draw", defArgs s_law_draw, defBody s_law_draw, defScope s_law_draw, [], []⟩
def h_law_of : He.DefD := ⟨("_law_of", none), "_law_of", "_law_of", defArgs s_law_of, defBody s_law_of, defScope s_law_of, [], []⟩
def h_law_entry : He.DefD := ⟨("_law_entry", none), "_law_entry", "_law_entry", defArgs s_law_entry, defBody s_law_entry, defScope s_law_entry, [], []⟩
def h_law_mass : He.DefD := ⟨("_law_mass", none), "_law_mass", "_law_mass", defArgs s_law_mass, defBody s_law_mass, defScope s_law_mass, [], []⟩
def h_law_ending : He.DefD := ⟨("_law_ending", none), "_law_ending", "_law_ending", defArgs s_law_ending, defBody s_law_ending, defScope s_law_ending, [], []⟩
def h_law_after : He.DefD := ⟨("_law_after", none), "_law_after", "_law_after", defArgs s_law_after, defBody s_law_after, defScope s_law_after, [], []⟩
def h_law_deed : He.DefD := ⟨("_law_deed", none), "_law_deed", "_law_deed", defArgs s_law_deed, defBody s_law_deed, defScope s_law_deed, [], []⟩
def h_law_due : He.DefD := ⟨("_law_due", none), "_law_due", "_law_due", defArgs s_law_due, defBody s_law_due, defScope s_law_due, [], []⟩
def h_law_done : He.DefD := ⟨("_law_done", none), "_law_done", "_law_done", defArgs s_law_done, defBody s_law_done, defScope s_law_done, [], []⟩
def h_law_shows : He.DefD := ⟨("_law_shows", none), "_law_shows", "_law_shows", defArgs s_law_shows, defBody s_law_shows, defScope s_law_shows, [], []⟩
def h_law_stands : He.DefD := ⟨("_law_stands", none), "_law_stands", "_law_stands", defArgs s_law_stands, defBody s_law_stands, defScope s_law_stands, [], []⟩
def h_law_told : He.DefD := ⟨("_law_told", none), "_law_told", "_law_told", defArgs s_law_told, defBody s_law_told, defScope s_law_told, [], []⟩
def h_law_are : He.DefD := ⟨("_law_are", none), "_law_are", "_law_are", defArgs s_law_are, defBody s_law_are, defScope s_law_are, [], []⟩
def h_law_losses_right : He.DefD := ⟨("_law_losses_right", none), "_law_losses_right", "_law_losses_right", defArgs s_law_losses_right, defBody s_law_losses_right, defScope s_law_losses_right, [], []⟩
def h_law_doors_right : He.DefD := ⟨("_law_doors_right", none), "_law_doors_right", "_law_doors_right", defArgs s_law_doors_right, defBody s_law_doors_right, defScope s_law_doors_right, [], []⟩
def h_law_right : He.DefD := ⟨("_law_right", none), "_law_right", "_law_right", defArgs s_law_right, defBody s_law_right, defScope s_law_right, [], []⟩
def h_law_bounds_right : He.DefD := ⟨("_law_bounds_right", none), "_law_bounds_right", "_law_bounds_right", defArgs s_law_bounds_right, defBody s_law_bounds_right, defScope s_law_bounds_right, [], []⟩
def h_law : He.DefD := ⟨("law", none), "law", "law", defArgs s_law, defBody s_law, defScope s_law, [], []⟩
def fn : List He.DefD := [h_BadNumber_init, h_BadTop_init, h_TooMany_init, h_is_integer, h_is_between, h_first_in, h_Stand_init, h_Stand_weight_in, h_Stand_finish, h_Stand_come, h_Stand_joined, h_Stand_taken, h_Joinbook_init, h_Joinbook_go_on, h_Joinbook_come, h_Joinbook_tops, h_Joinbook_is_top, h_Joinbook_need_top, h_Joinbook_need_two, h_Joinbook_weight, h_Joinbook_loss, h_Joinbook_join, h_Joinbook_take, h_Joinbook_finish, h_Joinbook_len, h_law_mixed, h_law_begin, h_law_draw, h_law_of, h_law_entry, h_law_mass, h_law_ending, h_law_after, h_law_deed, h_law_due, h_law_done, h_law_shows, h_law_stands, h_law_told, h_law_are, h_law_losses_right, h_law_doors_right, h_law_right, h_law_bounds_right, h_law]
def fa : List He.Fa := [.glo "JoinError", .glo "BadNumber", .glo "BadTop", .glo "TooMany", .glo "is_integer", .glo "is_between", .glo "first_in", .glo "Stand", .glo "Joinbook", .glo "_law_mixed", .glo "_law_begin", .glo "_law_draw", .glo "_law_of", .glo "_law_entry", .glo "_law_mass", .glo "_law_ending", .glo "_law_after", .glo "_law_deed", .glo "_law_due", .glo "_law_done", .glo "_law_shows", .glo "_law_stands", .glo "_law_told", .glo "_law_are", .glo "_law_losses_right", .glo "_law_doors_right", .glo "_law_right", .glo "_law_bounds_right", .glo "law", .free "len", .free "sorted", .free "sum", .free "all", .free "isinstance", .free "int", .free "bool", .free "tuple", .free "list", .free "range", .free "repr", .free "min", .free "max", .free "OverflowError", .int "MOST_WEIGHT" 1000000000, .int "MOST_COME" 20, .int "MOST_TOPS" 8, .str "COME" "come", .str "JOIN" "join", .str "TAKE" "take", .cls "Stand", .cls "Joinbook", .mkr "Stand", .mkr "Joinbook", .noat "Stand" "deed", .noat "Stand" "weights_come", .noat "Stand" "tops_now", .noat "Stand" "paid_now", .noat "Joinbook" "own_past", .meth "Stand" "weight_in", .meth "Stand" "finish", .meth "Stand" "come", .meth "Stand" "joined", .meth "Stand" "taken", .meth "Joinbook" "go_on", .meth "Joinbook" "come", .meth "Joinbook" "tops", .meth "Joinbook" "is_top", .meth "Joinbook" "need_top", .meth "Joinbook" "need_two", .meth "Joinbook" "weight", .meth "Joinbook" "loss", .meth "Joinbook" "join", .meth "Joinbook" "take", .meth "Joinbook" "finish", .meth "Joinbook" "__len__", .exm "BadNumber" "BadNumber" true, .exm "BadTop" "BadNumber" false, .exm "BadTop" "BadTop" true, .exm "TooMany" "BadNumber" false, .exm "TooMany" "BadTop" false, .exm "TooMany" "TooMany" true]
def names1 : List PySem.Str := ["_wall", "JoinError", "BadNumber", "BadTop", "TooMany", "MOST_WEIGHT", "is_integer", "is_between", "first_in", "MOST_COME", "MOST_TOPS", "COME", "JOIN", "TAKE", "Stand", "Joinbook", "_law_mixed", "_law_begin", "_law_draw", "_law_of"]
def names2 : List PySem.Str := ["_law_entry", "_law_mass", "_law_ending", "_law_after", "_law_deed", "_law_due", "_law_done", "_law_shows", "_law_stands", "_law_told", "_law_are", "_law_losses_right", "_law_doors_right", "_law_right", "_law_bounds_right"]
def names : List PySem.Str := names1 ++ names2
def tf : List He.Defn := [("_law_doors_right", none), ("_law_bounds_right", none)]
def vB (K : PySem.W.Frag) (cls : Value) (b : String) : Bool := match PySem.W.findCls K cls (.type "type") "__init__" with
  | some (.val (.builtin n)) => n == b
  | _ => false
theorem vB_ok {K : PySem.W.Frag} {cls : Value} {b : String} (h : vB K cls b = true) : PySem.W.findCls K cls (.type "type") "__init__" = some (.val (.builtin b)) := by
  unfold vB at h
  split at h
  · rename_i n e
    rw [e, beq_iff_eq.mp h]
  · cases h
def oB (K : PySem.W.Frag) (C : Addr) (tl : List Value) (newId : String) : Bool := match K.lookup C with
  | some ⟨.type "type", _, .cls cd, sl⟩ => (match cd.mro, sl.toList with
    | .ref C' :: bm, [_, _, _, _, some (.builtin n), _] => C' == C && (n == newId && (!cd.hasDel && (cd.hasDict && refsT tl bm)))
    | _, _ => false)
  | _ => false
theorem oB_ok {K : PySem.W.Frag} {C : Addr} {tl : List Value} {newId : String} (q : oB K C tl newId = true) : ∃ nm q N bs bm sn sub ab col dd k0 k1 k2 k3 k5, K.lookup C = some (excClassObj nm q C N bs bm true sn sub ab col dd k0 k1 k2 k3 k5 newId) ∧ refsT tl bm = true := by
  unfold oB at q
  split at q
  · rename_i dd cd sl ho
    split at q
    · rename_i C' bm k0 k1 k2 k3 n k5 hm hs
      simp only [Bool.and_eq_true, beq_iff_eq, Bool.not_eq_true'] at q
      obtain ⟨rfl, rfl, hdel, hdct, ht⟩ := q
      obtain ⟨nm, bs, mro, ns, qn, hd, sn, sub, ab, col, del⟩ := cd
      dsimp only at hm hdel hdct
      subst hm hdel hdct
      have hsl : sl = #[k0, k1, k2, k3, some (.builtin n), k5] := by
        obtain ⟨l⟩ := sl
        simp only at hs
        rw [hs]
      subst hsl
      exact ⟨nm, qn, ns, bs, bm, sn, sub, ab, col, dd, k0, k1, k2, k3, k5, ho, ht⟩
    · cases q
  · cases q
def errB (K : PySem.W.Frag) (tl : List Value) (newId : String) (f : Str) (C fI : Addr) : Bool :=
  oB K C tl newId && (He.eqO (PySem.W.findIn K (.ref C) "__setattr__") (some (some (.builtin "object.__setattr__"))) && (decide (PySem.W.subIn K (.ref C) (.type "BaseException") = some true) && (decide (PySem.W.typeIn K (.ref C) = some (.type "type")) && (PySem.W.keepIn K (.ref C) &&
  (He.eqO (PySem.W.findIn K (.ref C) f) (some none) && (He.eqO (PySem.W.findIn K (.ref C) "__init__") (some (some (.ref fI))) && (decide (PySem.W.typeIn K (.ref fI) = some (.type "function")) && xfB K C)))))))
theorem errB_ok {K : PySem.W.Frag} {tl : List Value} {newId : String} {f : Str} {C fI : Addr} (h : errB K tl newId f C fI = true) : ErrF K tl newId f C fI := by
  obtain ⟨h1, h⟩ := He.ba h
  obtain ⟨h2, h⟩ := He.ba h
  obtain ⟨h3, h⟩ := He.ba h
  obtain ⟨h4, h⟩ := He.ba h
  obtain ⟨h5, h⟩ := He.ba h
  obtain ⟨h6, h⟩ := He.ba h
  obtain ⟨h7, h⟩ := He.ba h
  obtain ⟨h8, h9⟩ := He.ba h
  exact ⟨⟨oB_ok h1, He.eqO_ok h2, of_decide_eq_true h3, of_decide_eq_true h4, h5⟩, He.eqO_ok h6, He.eqO_ok h7, of_decide_eq_true h8, xfB_ok h9⟩
def sysB (K : PySem.W.Frag) : Bool := match K.lookup PySem.sysModules with
  | some o => decide (o.cls = .type "dict")
  | none => false
theorem sysB_ok {K : PySem.W.Frag} (h : sysB K = true) : SysD K := by
  unfold sysB at h
  split at h
  · rename_i o e
    exact ⟨o, e, of_decide_eq_true h⟩
  · cases h
def prB (K : PySem.W.Frag) : Bool := He.eqO (PySem.W.findIn K (.ref (He.ga K "Joinbook")) "paid") (some (some (.ref (He.ma K (He.ga K "Joinbook") "paid")))) &&
  (He.eqO (PySem.W.specialIn K (.ref (He.ma K (He.ga K "Joinbook") "paid")) "__get__") (some (some (.builtin "property.__get__"))) && (decide (PySem.W.takesIn K (.ref (He.ma K (He.ga K "Joinbook") "paid")) = some true) &&
  (match PySem.W.recIn K (He.ma K (He.ga K "Joinbook") "paid") "property" with
    | some (.ref _ :: _) => true
    | _ => false)))
theorem prB_ok {K : PySem.W.Frag} (h : prB K = true) : PropOf K (He.ga K "Joinbook") "paid" (He.ma K (He.ga K "Joinbook") "paid") (paidF K) := by
  obtain ⟨h1, h⟩ := He.ba h
  obtain ⟨h2, h⟩ := He.ba h
  obtain ⟨h3, h4⟩ := He.ba h
  refine ⟨He.eqO_ok h1, He.eqO_ok h2, of_decide_eq_true h3, ?_⟩
  split at h4
  · rename_i g r e
    refine ⟨r, ?_⟩
    unfold paidF
    rw [e]
  · cases h4
/-- the getter -/
def okA (K : PySem.W.Frag) (a : Addr) (q : Str) : Bool := PySem.W.keepIn K (.ref a) && (match K.lookup a with
  | some ⟨_, _, .func fd, _⟩ => PySem.W.codeIn K fd.code q && (He.dflB K fd.defaults [] && He.kwdB K fd.kwdefaults [])
  | _ => false)
def fdA (K : PySem.W.Frag) (a : Addr) : He.FnW := match K.lookup a with
  | some ⟨_, _, .func fd, _⟩ => some (fd.name, fd.qualname, fd.params, fd.body, fd.scope, fd.globals, fd.closure, fd.builtins)
  | _ => none
theorem okA_ok {K : PySem.W.Frag} {a : Addr} {x q : Str} {ps : Arguments} {b : List Stmt} {sc : Scope} (e : fdA K a = some (x, q, ps, .stmts b, sc, mainGlobals, [], builtinsNs)) (c : okA K a q = true) : ∃ fd, FunD K x q ps b sc [] [] a fd := by
  obtain ⟨kp, c2⟩ := He.ba c
  unfold fdA at e
  cases z : K.lookup a with
  | none =>
    rw [z] at c2
    cases c2
  | some o =>
    obtain ⟨oc, od, dt, osl⟩ := o
    rw [z] at c2 e
    cases dt with
    | func fd =>
      obtain ⟨n1, n2, n3, n4, n5, n6, n7, n8, n9, n10, n11, n12, n13, n14, n15⟩ := fd
      have e2 : (some (n1, n2, n3, n4, n5, n6, n7, n15) : He.FnW) = some (x, q, ps, .stmts b, sc, mainGlobals, [], builtinsNs) := e
      simp only [Option.some.injEq, Prod.mk.injEq] at e2
      obtain ⟨h1, h2, h3, h4, h5, h6, h7, h8⟩ := e2
      subst h1 h2 h3 h4 h5 h6 h7 h8
      obtain ⟨k1, k2⟩ := He.ba (show (PySem.W.codeIn K n13 n2 && (He.dflB K n8 [] && He.kwdB K n9 [])) = true from c2)
      obtain ⟨k3, k4⟩ := He.ba k2
      exact ⟨_, ⟨oc, od, n8, n9, n10, n11, n12, n13, n14, osl, rfl, z, k1, He.dflB_ok k3, He.kwdB_ok k4⟩, kp⟩
    | _ => cases c2
def ex (K : PySem.W.Frag) : Bool := okA K (paidF K) "Joinbook.paid" && (prB K && (sysB K && (
  errB K veT "ValueError.__new__" "given" (He.ga K "BadNumber") (He.ma K (He.ga K "BadNumber") "__init__") && (errB K veT "ValueError.__new__" "given" (He.ga K "BadTop") (He.ma K (He.ga K "BadTop") "__init__") && (errB K oeT "OverflowError.__new__" "most" (He.ga K "TooMany") (He.ma K (He.ga K "TooMany") "__init__") &&
  (PySem.W.readsIn K (He.ga K "JoinError") (.type "type") && (He.eqO (PySem.W.specialIn K (.ref (He.ga K "JoinError")) "__getattribute__") (some (some (.builtin "type.__getattribute__"))) && (vB K (.ref (He.ga K "JoinError")) "ValueError.__init__" && (vB K (.type "OverflowError") "OverflowError.__init__" &&
  !((He.cT K ("_law_doors_right", none)).2 == (He.cT K ("_law_bounds_right", none)).2))))))))))

def asJ (g : Addr → Option Obj) : List Addr := He.asD g 6 ++ [cStatics, PySem.sysModules]
def KJ (g : Addr → Option Obj) : PySem.W.Frag := He.frT g (asJ g)
abbrev AlJ : Type := He.AlX × He.FnW
def vPaid : He.FnW := some ("paid", "Joinbook.paid", defArgs s_Joinbook_paid, .stmts (defBody s_Joinbook_paid), defScope s_Joinbook_paid, mainGlobals, [], builtinsNs)
def obsJ (g : Addr → Option Obj) : AlJ := ((He.obsT fa fn [] (KJ g), ex (KJ g) && He.tabsB g tf (KJ g)), fdA (KJ g) (paidF (KJ g)))
def valJ (w : World) : AlJ := ((He.valT fn [] w, true), vPaid)
theorem saysG {fa : List He.Fa} {fn : List He.DefD} {tf : List He.Defn} {ex : PySem.W.Frag → Bool} {as : List Addr} {w : World} {h : Heap} (e1 : He.obsT fa fn [] (He.frT h.get? as) = He.valT fn [] w) (e2 : (ex (He.frT h.get? as) && He.tabsB h.get? tf (He.frT h.get? as)) = true) : He.SaysX fa fn [] tf ex w h (He.frT h.get? as) := by
  obtain ⟨h1, h2⟩ := He.ba e2
  have key : ∀ p ∈ tf, PySem.W.codeHdIn (He.frT h.get? as) (He.cT (He.frT h.get? as) p).1 (He.cT (He.frT h.get? as) p).2 = true ∧ ∃ o, h.get? (He.cT (He.frT h.get? as) p).2 = some o ∧ He.emptyTab o = true := fun p hp => by
    obtain ⟨h3, h4⟩ := He.ba (List.all_eq_true.mp h2 p hp)
    refine ⟨h3, ?_⟩
    cases q : h.get? (He.cT (He.frT h.get? as) p).2 with
    | none =>
      rw [q] at h4
      cases h4
    | some o =>
      rw [q] at h4
      exact ⟨o, rfl, h4⟩
  exact ⟨e1, h1, fun p hp => (key p hp).1, fun p hp => by
    obtain ⟨_, o, q, z⟩ := key p hp
    exact He.frT_none q z, fun p hp => by
    obtain ⟨_, o, q, z⟩ := key p hp
    rw [q, He.emptyTab_eq z]⟩
theorem pair3 {α β γ : Type} {a a' : α} {b b' : β} {c c' : γ} (e : ((a, b), c) = ((a', b'), c')) : a = a' ∧ b = b' ∧ c = c' := by
  simp only [Prod.mk.injEq] at e
  exact ⟨e.1.1, e.1.2, e.2⟩
theorem saysJ {w : World} {h : Heap} (e : obsJ h.get? = valJ w) : He.SaysX fa fn [] tf ex w h (KJ h.get?) ∧ fdA (KJ h.get?) (paidF (KJ h.get?)) = vPaid := by
  unfold obsJ valJ at e
  obtain ⟨e1, e2, e3⟩ := pair3 e
  exact ⟨saysG (as := asJ h.get?) e1 e2, e3⟩
def SaysJ (w : World) (h : Heap) : Prop := ∃ K : PySem.W.Frag, K.In h ∧ He.SaysX fa fn [] tf ex w h K ∧ fdA K (paidF K) = vPaid
def hk : PySem.W.Hook where
  α := AlJ
  obs := fun s => obsJ s.heap.get?
  val := fun w => valJ w
  says := SaysJ
  of := fun _ _ e => ⟨_, He.frT_in, saysJ e⟩
  keeps := fun _ _ _ ⟨K, hK, c, p⟩ k => ⟨K, PySem.W.Frag.In.keeps hK k, ⟨c.t, c.more, c.hd, c.out, fun p hp => k _ _ (c.empty p hp)⟩, p⟩
def ob (s : PySem.W.SharedT) : AlJ := obsJ (HandSHeadRun.getT s)
theorem ob_eq (s : PySem.W.SharedT) : ob s = hk.obs s.abs := by
  have e : HandSHeadRun.getT s = s.abs.heap.get? := funext (HandSHeadRun.getT_eq s)
  show obsJ (HandSHeadRun.getT s) = obsJ s.abs.heap.get?
  rw [e]
theorem run (w : World) : HandSHeadRun.RunEq R (PySem.W.view R.prog [40]) hk ob 4000 names w := by
  intro os
  kernel_rfl

theorem txt {K : PySem.W.Frag} {w : World} {h : Heap} {mg : Str → Option Value} (X : K.In h) (G : h.Ns mainGlobals mg) (S : He.SaysX fa fn [] tf ex w h K) (pf : fdA K (paidF K) = vPaid) : Txt K mg ∧ (He.cT K ("_law_doors_right", none)).2 ≠ (He.cT K ("_law_bounds_right", none)).2 := by
  have C := S.t.d
  obtain ⟨x0, m⟩ := He.ba S.more
  obtain ⟨x1, m⟩ := He.ba m
  obtain ⟨x2, m⟩ := He.ba m
  obtain ⟨x3, m⟩ := He.ba m
  obtain ⟨x4, m⟩ := He.ba m
  obtain ⟨x5, m⟩ := He.ba m
  obtain ⟨x6, m⟩ := He.ba m
  obtain ⟨x7, m⟩ := He.ba m
  obtain ⟨x8, m⟩ := He.ba m
  obtain ⟨x9, m⟩ := He.ba m
  refine ⟨?_, fun e => ?_⟩
  have y_d_BadNumber_init := C.def_ 0 (d := h_BadNumber_init)
  have y_d_BadTop_init := C.def_ 1 (d := h_BadTop_init)
  have y_d_TooMany_init := C.def_ 2 (d := h_TooMany_init)
  have y_d_is_integer := C.def_ 3 (d := h_is_integer)
  have y_d_is_between := C.def_ 4 (d := h_is_between)
  have y_d_first_in := C.def_ 5 (d := h_first_in)
  have y_d_Stand_init := C.def_ 6 (d := h_Stand_init)
  have y_d_Stand_weight_in := C.def_ 7 (d := h_Stand_weight_in)
  have y_d_Stand_finish := C.def_ 8 (d := h_Stand_finish)
  have y_d_Stand_come := C.def_ 9 (d := h_Stand_come)
  have y_d_Stand_joined := C.def_ 10 (d := h_Stand_joined)
  have y_d_Stand_taken := C.def_ 11 (d := h_Stand_taken)
  have y_d_Joinbook_init := C.def_ 12 (d := h_Joinbook_init)
  have y_d_Joinbook_paid := okA_ok pf x0
  have y_d_Joinbook_go_on := C.def_ 13 (d := h_Joinbook_go_on)
  have y_d_Joinbook_come := C.def_ 14 (d := h_Joinbook_come)
  have y_d_Joinbook_tops := C.def_ 15 (d := h_Joinbook_tops)
  have y_d_Joinbook_is_top := C.def_ 16 (d := h_Joinbook_is_top)
  have y_d_Joinbook_need_top := C.def_ 17 (d := h_Joinbook_need_top)
  have y_d_Joinbook_need_two := C.def_ 18 (d := h_Joinbook_need_two)
  have y_d_Joinbook_weight := C.def_ 19 (d := h_Joinbook_weight)
  have y_d_Joinbook_loss := C.def_ 20 (d := h_Joinbook_loss)
  have y_d_Joinbook_join := C.def_ 21 (d := h_Joinbook_join)
  have y_d_Joinbook_take := C.def_ 22 (d := h_Joinbook_take)
  have y_d_Joinbook_finish := C.def_ 23 (d := h_Joinbook_finish)
  have y_d_Joinbook_len := C.def_ 24 (d := h_Joinbook_len)
  have y_d_law_mixed := C.def_ 25 (d := h_law_mixed)
  have y_d_law_begin := C.def_ 26 (d := h_law_begin)
  have y_d_law_draw := C.def_ 27 (d := h_law_draw)
  have y_d_law_of := C.def_ 28 (d := h_law_of)
  have y_d_law_entry := C.def_ 29 (d := h_law_entry)
  have y_d_law_mass := C.def_ 30 (d := h_law_mass)
  have y_d_law_ending := C.def_ 31 (d := h_law_ending)
  have y_d_law_after := C.def_ 32 (d := h_law_after)
  have y_d_law_deed := C.def_ 33 (d := h_law_deed)
  have y_d_law_due := C.def_ 34 (d := h_law_due)
  have y_d_law_done := C.def_ 35 (d := h_law_done)
  have y_d_law_shows := C.def_ 36 (d := h_law_shows)
  have y_d_law_stands := C.def_ 37 (d := h_law_stands)
  have y_d_law_told := C.def_ 38 (d := h_law_told)
  have y_d_law_are := C.def_ 39 (d := h_law_are)
  have y_d_law_losses_right := C.def_ 40 (d := h_law_losses_right)
  have y_d_law_doors_right := C.def_ 41 (d := h_law_doors_right)
  have y_d_law_right := C.def_ 42 (d := h_law_right)
  have y_d_law_bounds_right := C.def_ 43 (d := h_law_bounds_right)
  have y_d_law := C.def_ 44 (d := h_law)
  have y_g_JoinError := He.glo_ok X G (C.fact 0 (f := .glo "JoinError"))
  have y_g_BadNumber := He.glo_ok X G (C.fact 1 (f := .glo "BadNumber"))
  have y_g_BadTop := He.glo_ok X G (C.fact 2 (f := .glo "BadTop"))
  have y_g_TooMany := He.glo_ok X G (C.fact 3 (f := .glo "TooMany"))
  have y_g_is_integer := He.glo_ok X G (C.fact 4 (f := .glo "is_integer"))
  have y_g_is_between := He.glo_ok X G (C.fact 5 (f := .glo "is_between"))
  have y_g_first_in := He.glo_ok X G (C.fact 6 (f := .glo "first_in"))
  have y_g_Stand := He.glo_ok X G (C.fact 7 (f := .glo "Stand"))
  have y_g_Joinbook := He.glo_ok X G (C.fact 8 (f := .glo "Joinbook"))
  have y_g_law_mixed := He.glo_ok X G (C.fact 9 (f := .glo "_law_mixed"))
  have y_g_law_begin := He.glo_ok X G (C.fact 10 (f := .glo "_law_begin"))
  have y_g_law_draw := He.glo_ok X G (C.fact 11 (f := .glo "_law_draw"))
  have y_g_law_of := He.glo_ok X G (C.fact 12 (f := .glo "_law_of"))
  have y_g_law_entry := He.glo_ok X G (C.fact 13 (f := .glo "_law_entry"))
  have y_g_law_mass := He.glo_ok X G (C.fact 14 (f := .glo "_law_mass"))
  have y_g_law_ending := He.glo_ok X G (C.fact 15 (f := .glo "_law_ending"))
  have y_g_law_after := He.glo_ok X G (C.fact 16 (f := .glo "_law_after"))
  have y_g_law_deed := He.glo_ok X G (C.fact 17 (f := .glo "_law_deed"))
  have y_g_law_due := He.glo_ok X G (C.fact 18 (f := .glo "_law_due"))
  have y_g_law_done := He.glo_ok X G (C.fact 19 (f := .glo "_law_done"))
  have y_g_law_shows := He.glo_ok X G (C.fact 20 (f := .glo "_law_shows"))
  have y_g_law_stands := He.glo_ok X G (C.fact 21 (f := .glo "_law_stands"))
  have y_g_law_told := He.glo_ok X G (C.fact 22 (f := .glo "_law_told"))
  have y_g_law_are := He.glo_ok X G (C.fact 23 (f := .glo "_law_are"))
  have y_g_law_losses_right := He.glo_ok X G (C.fact 24 (f := .glo "_law_losses_right"))
  have y_g_law_doors_right := He.glo_ok X G (C.fact 25 (f := .glo "_law_doors_right"))
  have y_g_law_right := He.glo_ok X G (C.fact 26 (f := .glo "_law_right"))
  have y_g_law_bounds_right := He.glo_ok X G (C.fact 27 (f := .glo "_law_bounds_right"))
  have y_g_law := He.glo_ok X G (C.fact 28 (f := .glo "law"))
  have y_f_len := He.free_ok X G (C.fact 29 (f := .free "len"))
  have y_f_sorted := He.free_ok X G (C.fact 30 (f := .free "sorted"))
  have y_f_sum := He.free_ok X G (C.fact 31 (f := .free "sum"))
  have y_f_all := He.free_ok X G (C.fact 32 (f := .free "all"))
  have y_f_isinstance := He.free_ok X G (C.fact 33 (f := .free "isinstance"))
  have y_f_int := He.free_ok X G (C.fact 34 (f := .free "int"))
  have y_f_bool := He.free_ok X G (C.fact 35 (f := .free "bool"))
  have y_f_tuple := He.free_ok X G (C.fact 36 (f := .free "tuple"))
  have y_f_list := He.free_ok X G (C.fact 37 (f := .free "list"))
  have y_f_range := He.free_ok X G (C.fact 38 (f := .free "range"))
  have y_f_repr := He.free_ok X G (C.fact 39 (f := .free "repr"))
  have y_f_min := He.free_ok X G (C.fact 40 (f := .free "min"))
  have y_f_max := He.free_ok X G (C.fact 41 (f := .free "max"))
  have y_f_OverflowError := He.free_ok X G (C.fact 42 (f := .free "OverflowError"))
  have y_i_weight := He.int_ok X G (C.fact 43 (f := .int "MOST_WEIGHT" 1000000000))
  have y_i_come := He.int_ok X G (C.fact 44 (f := .int "MOST_COME" 20))
  have y_i_tops := He.int_ok X G (C.fact 45 (f := .int "MOST_TOPS" 8))
  have y_s_come := He.str_ok X G (C.fact 46 (f := .str "COME" "come"))
  have y_s_join := He.str_ok X G (C.fact 47 (f := .str "JOIN" "join"))
  have y_s_take := He.str_ok X G (C.fact 48 (f := .str "TAKE" "take"))
  have y_clS := He.cls_ok (C.fact 49 (f := .cls "Stand"))
  have y_clJ := He.cls_ok (C.fact 50 (f := .cls "Joinbook"))
  have y_mkS := He.mkr_ok (C.fact 51 (f := .mkr "Stand"))
  have y_mkJ := He.mkr_ok (C.fact 52 (f := .mkr "Joinbook"))
  have y_n_deed := He.noat_ok (C.fact 53 (f := .noat "Stand" "deed"))
  have y_n_weights_come := He.noat_ok (C.fact 54 (f := .noat "Stand" "weights_come"))
  have y_n_tops_now := He.noat_ok (C.fact 55 (f := .noat "Stand" "tops_now"))
  have y_n_paid_now := He.noat_ok (C.fact 56 (f := .noat "Stand" "paid_now"))
  have y_n_own_past := He.noat_ok (C.fact 57 (f := .noat "Joinbook" "own_past"))
  have y_m_Stand_weight_in := He.meth_ok (C.fact 58 (f := .meth "Stand" "weight_in"))
  have y_m_Stand_finish := He.meth_ok (C.fact 59 (f := .meth "Stand" "finish"))
  have y_m_Stand_come := He.meth_ok (C.fact 60 (f := .meth "Stand" "come"))
  have y_m_Stand_joined := He.meth_ok (C.fact 61 (f := .meth "Stand" "joined"))
  have y_m_Stand_taken := He.meth_ok (C.fact 62 (f := .meth "Stand" "taken"))
  have y_m_Joinbook_go_on := He.meth_ok (C.fact 63 (f := .meth "Joinbook" "go_on"))
  have y_m_Joinbook_come := He.meth_ok (C.fact 64 (f := .meth "Joinbook" "come"))
  have y_m_Joinbook_tops := He.meth_ok (C.fact 65 (f := .meth "Joinbook" "tops"))
  have y_m_Joinbook_is_top := He.meth_ok (C.fact 66 (f := .meth "Joinbook" "is_top"))
  have y_m_Joinbook_need_top := He.meth_ok (C.fact 67 (f := .meth "Joinbook" "need_top"))
  have y_m_Joinbook_need_two := He.meth_ok (C.fact 68 (f := .meth "Joinbook" "need_two"))
  have y_m_Joinbook_weight := He.meth_ok (C.fact 69 (f := .meth "Joinbook" "weight"))
  have y_m_Joinbook_loss := He.meth_ok (C.fact 70 (f := .meth "Joinbook" "loss"))
  have y_m_Joinbook_join := He.meth_ok (C.fact 71 (f := .meth "Joinbook" "join"))
  have y_m_Joinbook_take := He.meth_ok (C.fact 72 (f := .meth "Joinbook" "take"))
  have y_m_Joinbook_finish := He.meth_ok (C.fact 73 (f := .meth "Joinbook" "finish"))
  have y_m_Joinbook_len := He.meth_ok (C.fact 74 (f := .meth "Joinbook" "__len__"))
  have y_pr := prB_ok x1
  have y_sysd := sysB_ok x2
  have y_e_number := errB_ok x3
  have y_e_top := errB_ok x4
  have y_e_many := errB_ok x5
  have y_x_nn := He.exm_ok (C.fact 75 (f := .exm "BadNumber" "BadNumber" true))
  have y_x_tn := He.exm_ok (C.fact 76 (f := .exm "BadTop" "BadNumber" false))
  have y_x_tt := He.exm_ok (C.fact 77 (f := .exm "BadTop" "BadTop" true))
  have y_x_mn := He.exm_ok (C.fact 78 (f := .exm "TooMany" "BadNumber" false))
  have y_x_mt := He.exm_ok (C.fact 79 (f := .exm "TooMany" "BadTop" false))
  have y_x_mm := He.exm_ok (C.fact 80 (f := .exm "TooMany" "TooMany" true))
  have y_j_rd := x6
  have y_j_ga := He.eqO_ok x7
  have y_j_in := vB_ok x8
  have y_o_in := vB_ok x9
  · exact ⟨y_d_BadNumber_init, y_d_BadTop_init, y_d_TooMany_init, y_d_is_integer, y_d_is_between, y_d_first_in, y_d_Stand_init, y_d_Stand_weight_in, y_d_Stand_finish, y_d_Stand_come, y_d_Stand_joined, y_d_Stand_taken, y_d_Joinbook_init, y_d_Joinbook_paid, y_d_Joinbook_go_on, y_d_Joinbook_come, y_d_Joinbook_tops, y_d_Joinbook_is_top, y_d_Joinbook_need_top, y_d_Joinbook_need_two, y_d_Joinbook_weight, y_d_Joinbook_loss, y_d_Joinbook_join, y_d_Joinbook_take, y_d_Joinbook_finish, y_d_Joinbook_len, y_d_law_mixed, y_d_law_begin, y_d_law_draw, y_d_law_of, y_d_law_entry, y_d_law_mass, y_d_law_ending, y_d_law_after, y_d_law_deed, y_d_law_due, y_d_law_done, y_d_law_shows, y_d_law_stands, y_d_law_told, y_d_law_are, y_d_law_losses_right, y_d_law_doors_right, y_d_law_right, y_d_law_bounds_right, y_d_law, y_g_JoinError, y_g_BadNumber, y_g_BadTop, y_g_TooMany, y_g_is_integer, y_g_is_between, y_g_first_in, y_g_Stand, y_g_Joinbook, y_g_law_mixed, y_g_law_begin, y_g_law_draw, y_g_law_of, y_g_law_entry, y_g_law_mass, y_g_law_ending, y_g_law_after, y_g_law_deed, y_g_law_due, y_g_law_done, y_g_law_shows, y_g_law_stands, y_g_law_told, y_g_law_are, y_g_law_losses_right, y_g_law_doors_right, y_g_law_right, y_g_law_bounds_right, y_g_law, y_f_len, y_f_sorted, y_f_sum, y_f_all, y_f_isinstance, y_f_int, y_f_bool, y_f_tuple, y_f_list, y_f_range, y_f_repr, y_f_min, y_f_max, y_f_OverflowError, y_i_weight, y_i_come, y_i_tops, y_s_come, y_s_join, y_s_take, y_clS, y_clJ, y_mkS, y_mkJ, y_n_deed, y_n_weights_come, y_n_tops_now, y_n_paid_now, y_n_own_past, y_m_Stand_weight_in, y_m_Stand_finish, y_m_Stand_come, y_m_Stand_joined, y_m_Stand_taken, y_m_Joinbook_go_on, y_m_Joinbook_come, y_m_Joinbook_tops, y_m_Joinbook_is_top, y_m_Joinbook_need_top, y_m_Joinbook_need_two, y_m_Joinbook_weight, y_m_Joinbook_loss, y_m_Joinbook_join, y_m_Joinbook_take, y_m_Joinbook_finish, y_m_Joinbook_len, y_pr, y_sysd, y_e_number, y_e_top, y_e_many, y_x_nn, y_x_tn, y_x_tt, y_x_mn, y_x_mt, y_x_mm, y_j_rd, y_j_ga, y_j_in, y_o_in⟩
  · rw [e] at m
    simp at m
end JB
set_option Elab.async false
set_option linter.all false
set_option maxRecDepth 100000
set_option maxHeartbeats 4000000
/-! The end: a law whose promise asks that no repr is under way. -/
namespace JB
open PySem PySem.Spec PyProof.Rows L2
/-- what is tracked at the law's call: the empty tables, and the script where the written part does not hold it -/
def H0 (K : PySem.W.Frag) (a : Addr) (vs : List Value) (ns : List Int) (T : List Addr) : Hp := fun b =>
  if b ∈ T then some (.tbl #[]) else if b = a ∧ K.lookup a = none then some (.frz { cls := .type "list", data := .seq vs.toArray } (.lst (ns.map V.int))) else none
section
variable {K : PySem.W.Frag} {a b : Addr} {vs : List Value} {ns : List Int} {T : List Addr}
theorem H0_tab (h : b ∈ T) : H0 K a vs ns T b = some (.tbl #[]) := if_pos h
theorem H0_cases {u : HO} (h : H0 K a vs ns T b = some u) : (b ∈ T ∧ u = .tbl #[]) ∨ (b ∉ T ∧ b = a ∧ K.lookup a = none ∧ u = .frz { cls := .type "list", data := .seq vs.toArray } (.lst (ns.map V.int))) := by
  unfold H0 at h
  by_cases hb : b ∈ T
  · rw [if_pos hb] at h
    exact .inl ⟨hb, (Option.some.inj h).symm⟩
  · rw [if_neg hb] at h
    by_cases hc : b = a ∧ K.lookup a = none
    · rw [if_pos hc] at h
      exact .inr ⟨hb, hc.1, hc.2, (Option.some.inj h).symm⟩
    · rw [if_neg hc] at h
      cases h
end
theorem law_callG {P : Program} {w : World} {K : PySem.W.Frag} {mg mb : Str → Option Value} {k : Nat} {fa a : Addr} {cs : List (Addr × Addr)} {sp : Sp} {s₁ : Shared} {vs : List Value} {ns : List Int}
    (KX : K.In s₁.heap) (hns : s₁.heap.Ns mainGlobals mg) (hb : s₁.heap.Ns builtinsNs mb) (hbb : ∀ x : Str, x ≠ "__name__" → mb x = bootBuiltins x) (hlim : s₁.heap.NoLimit) (hg : s₁.gens = #[])
    (hT : ∀ p ∈ cs, s₁.heap.get? p.2 = some { cls := .none, data := .fields #[] }) (nT : ∀ p ∈ cs, K.lookup p.2 = none) (C : ∀ p ∈ cs, PySem.W.CodeHd s₁.heap p.1 p.2)
    (hbm : ∃ (bm : Addr) (ob : Obj), mg "__builtins__" = some (.ref bm) ∧ bm ≠ builtinsNs ∧ s₁.heap.get? bm = some ob ∧ ob.cls = .type "module" ∧ ob.dict = some builtinsNs ∧ ob.data = .plain)
    (ha : s₁.heap.get? a = some { cls := .type "list", data := .seq vs.toArray }) (hi : IntsAre vs ns) (hl : ns.length ≤ sizeLine) (hr : Room k callerA)
    (F : ∀ base : Heap, K.In base → base.Ns mainGlobals mg → (∀ p ∈ cs, LamX.TabB base mg p.1 p.2) → DefG P w K mg base k fa sp)
    (hsp : ∀ H : Hp, (∀ p ∈ cs, H p.2 = some (.tbl #[])) → SqL K H a (ns.map V.int) → sp [.ref a] H (fun v _ => v = .bl true) E0) :
    codeAny (model P w) callerA (.call (.ref fa) ⟨[.ref a], []⟩) (fun r s' => r = .ok (.ret (.bool true)) ∧ OldK s₁.heap s'.heap ∧ s'.os = s₁.os ∧ AllBare s'.gens) s₁ := by
  have rv := vals_ints hi
  have isT : ∀ b : Addr, b ∈ cs.map (·.2) → s₁.heap.get? b = some { cls := .none, data := .fields #[] } := fun b hb => by
    obtain ⟨p, hp, e⟩ := List.mem_map.mp hb
    exact e ▸ hT p hp
  have memT : ∀ p ∈ cs, p.2 ∈ cs.map (·.2) := fun p hp => List.mem_map.mpr ⟨p, hp, rfl⟩
  have aT : a ∉ cs.map (·.2) := fun z => by
    have q : Data.seq vs.toArray _ = Data.fields #[] := congrArg Obj.data (Option.some.inj (ha.symm.trans (isT a z)))
    cases q
  generalize eH : H0 K a vs ns (cs.map (·.2)) = H
  have cas : ∀ {b u}, H b = some u → (b ∈ cs.map (·.2) ∧ u = .tbl #[]) ∨ (b ∉ cs.map (·.2) ∧ b = a ∧ K.lookup a = none ∧ u = .frz { cls := .type "list", data := .seq vs.toArray } (.lst (ns.map V.int))) := fun {b u} h => H0_cases (by rw [eH]; exact h)
  have hH : ∀ p ∈ cs, H p.2 = some (.tbl #[]) := fun p hp => by
    rw [← eH]
    exact H0_tab (memT p hp)
  have hok : HOk P w H s₁.heap := fun b u z => by
    rcases cas z with ⟨h1, rfl⟩ | ⟨_, rfl, _, rfl⟩
    · exact isT b h1
    · exact ⟨ha, by rw [List.length_map]; exact hl, vs, _, rv, ha⟩
  have sq : SqL K H a (ns.map V.int) := by
    cases hk : K.lookup a with
    | some o =>
      have e := KX a o hk
      rw [ha] at e
      cases e
      exact .inr ⟨_, vs.toArray, _, hk, rfl, rfl, rfl, by rw [List.size_toArray, hi.length]; exact hl, by simpa using rv⟩
    | none =>
      refine .inl (.inr ⟨{ cls := .type "list", data := .seq vs.toArray }, ?_⟩)
      rw [← eH]
      unfold H0
      rw [if_neg aT, if_pos ⟨rfl, hk⟩]
  -- an object that is neither the script nor a table is told of by the base
  have noT : ∀ {b : Addr} {o : Obj}, s₁.heap.get? b = some o → (∀ vs n, o.data ≠ .seq vs n) → o.data ≠ .fields #[] → H b = none := fun {b o} e h1 h2 => by
    cases q : H b with
    | none => rfl
    | some u =>
      rcases cas q with ⟨h3, _⟩ | ⟨_, rfl, _⟩
      · exact absurd (congrArg Obj.data (Option.some.inj (e.symm.trans (isT b h3)))) h2
      · exact absurd (congrArg Obj.data (Option.some.inj (e.symm.trans ha))) (h1 _ _)
  have bas : ∀ {b : Addr} {o : Obj}, s₁.heap.get? b = some o → (∀ vs n, o.data ≠ .seq vs n) → o.data ≠ .fields #[] → (hidT s₁.heap H).get? b = some o := fun e h1 h2 => hidT_get e (noT e h1 h2)
  have nsK : ∀ {b : Addr} {m : Str → Option Value}, s₁.heap.Ns b m → (hidT s₁.heap H).Ns b m := fun {b m} ⟨o, es, ep, e, d, r⟩ => ⟨o, es, ep, bas e (by rw [d]; exact fun _ _ z => by cases z) (by rw [d]; exact fun z => by cases z), d, r⟩
  have hKb : K.In (hidT s₁.heap H) := fun b o e => hidT_get (KX b o e) (by
    cases q : H b with
    | none => rfl
    | some u =>
      rcases cas q with ⟨h3, _⟩ | ⟨_, rfl, h4, _⟩
      · obtain ⟨p, hp, ep⟩ := List.mem_map.mp h3
        have n := nT p hp
        rw [ep, e] at n
        cases n
      · rw [h4] at e
        cases e)
  have hM : L2.Mod K mg (hidT s₁.heap H) := ⟨hKb, nsK hns, ⟨mb, nsK hb, hbb⟩, let ⟨mc, h1, h2⟩ := hlim; ⟨mc, nsK h1, h2⟩⟩
  have TB : ∀ p ∈ cs, LamX.TabB (hidT s₁.heap H) mg p.1 p.2 := fun p hp => by
    refine ⟨?_, ?_, fun z => ?_⟩
    · obtain ⟨o, us, file, tf, flags, tg, inF, text, tt, e1, r1, r2, r3, r⟩ := C p hp
      refine ⟨o, us, file, tf, flags, tg, inF, text, tt, bas e1 (by rw [r2]; exact fun _ _ z => by cases z) (fun z => ?_), r1, r2, r3, r⟩
      rw [r2] at z
      cases z
      simp at r3
    · obtain ⟨bm, ob, b1, b2, b3, b4, b5, b6⟩ := hbm
      refine ⟨bm, ob, b1, b2, fun q => ?_, fun q => ?_, bas b3 (by rw [b6]; exact fun _ _ z => by cases z) (by rw [b6]; exact fun z => by cases z), b4, b5, b6⟩
      · obtain ⟨o, es, ep, e, hd, _⟩ := hns
        rw [q, e] at b3
        cases b3
        rw [hd] at b6
        cases b6
      · rw [q, hT p hp] at b3
        cases b3
        cases b6
    · obtain ⟨o, es, ep, e, hd, _⟩ := hns
      rw [z, hT p hp] at e
      cases e
      cases hd
  have e0 : L2.Env0 P w K mg (hidT s₁.heap H) callerA [] s₁ H := ⟨rfl, hM, fun b o e => of_hidT e, Nat.le_of_eq (hidT_size _ _), trivial, fun b hb => absurd (show b ∈ ([] : List Addr) from hb) (by simp), hok, .of_eq hg⟩
  refine codeAny_mono ((F _ hKb (nsK hns) TB).run callerA [] s₁ H [.ref a] [.ref a] _ rfl hr e0 (.cons rfl .nil) (hsp H hH sq)) fun r s' h => ?_
  cases r with
  | error e => exact False.elim h
  | ok fl =>
    cases fl with
    | next => exact False.elim h
    | brk => exact False.elim h
    | cont => exact False.elim h
    | ret u =>
      obtain ⟨v, H', os, bare, un, hok', r', q⟩ := h
      have q' : v = .bl true := q
      subst q'
      obtain rfl : u = Value.bool true := r'
      have key : ∀ b o, b ∉ cs.map (·.2) → s₁.heap.get? b = some o → s'.heap.get? b = some o := fun b o nb e => by
        cases z : H b with
        | none => exact un.keep b o e z (by intro y; exact absurd (show b ∈ ([] : List Addr) from y) (by simp)) (by simp)
        | some u =>
          rcases cas z with ⟨h3, _⟩ | ⟨_, _, _, rfl⟩
          · exact absurd h3 nb
          · obtain ⟨e1, _⟩ := hok b _ z
            obtain ⟨e2, _⟩ := hok' b _ (un.frzs b _ _ z)
            rw [e] at e1
            cases e1
            exact e2
      have grown : ∀ p ∈ cs, ∃ more : Array Value, s'.heap.get? p.2 = some { cls := .none, data := .fields more } := fun p hp => by
        obtain ⟨more, z⟩ := un.tbls p.2 #[] (hH p hp)
        exact ⟨_, hok' p.2 _ z⟩
      refine ⟨rfl, ⟨fun b o e => ?_, fun b o e => ?_⟩, os, bare⟩
      · by_cases hb : b ∈ cs.map (·.2)
        · obtain ⟨p, hp, rfl⟩ := List.mem_map.mp hb
          obtain ⟨more, hm⟩ := grown p hp
          rw [hT p hp] at e
          cases e
          exact .inr (.inl ⟨((C p hp).tab (hT p hp)).isCodeTable, rfl, #[], more, rfl, by rw [Array.empty_append]; exact hm⟩)
        · exact .inl (key b o hb e)
      · by_cases hb : b ∈ cs.map (·.2)
        · obtain ⟨p, hp, rfl⟩ := List.mem_map.mp hb
          obtain ⟨more, hm⟩ := grown p hp
          exact ⟨_, hm⟩
        · exact ⟨o, key b o hb e⟩
end JB
set_option Elab.async false
set_option linter.all false
set_option maxRecDepth 100000
set_option maxHeartbeats 0
namespace JB
open PySem PySem.Spec PyProof.Rows L2
theorem code_of {K : PySem.W.Frag} {x q : Str} {ps : Arguments} {b : List Stmt} {sc : Scope} (F : ∃ fd, FunD K x q ps b sc [] [] (He.ga K x) fd) : ∀ oc od fd osl, K.lookup (He.ga K x) = some ⟨oc, od, .func fd, osl⟩ → fd.code = .ref (He.codeOf K (x, none)) := by
  intro oc od fd osl lk
  obtain ⟨fd', ⟨oc', od', n8, n9, n10, n11, n12, cdv, n14, osl', efd, z, k1, _⟩, kp⟩ := F
  rw [lk] at z
  obtain ⟨c, rfl⟩ := He.codeIn_ref k1
  have e : fd.code = .ref c := by
    have z2 := congrArg Obj.data (Option.some.inj z)
    have z3 : fd = _ := Data.func.inj z2
    rw [z3, efd]
  rw [e, He.codeOf_eq (p := (x, none)) lk e]
theorem end_law (w : World) {K : PySem.W.Frag} {mg mb : Str → Option Value} {s₁ : Shared} {fa a : Addr} {vs : List Value} {ns : List Int} (KX : K.In s₁.heap) (S : He.SaysX JB.fa JB.fn [] tf ex w s₁.heap K) (pf : fdA K (paidF K) = vPaid)
    (hns : s₁.heap.Ns mainGlobals mg) (hb : s₁.heap.Ns builtinsNs mb) (hbb : ∀ x : Str, x ≠ "__name__" → mb x = bootBuiltins x) (hlim : s₁.heap.NoLimit) (hg : s₁.gens = #[])
    (hbm : ∃ (bm : Addr) (ob : Obj), mg "__builtins__" = some (.ref bm) ∧ bm ≠ builtinsNs ∧ s₁.heap.get? bm = some ob ∧ ob.cls = .type "module" ∧ ob.dict = some builtinsNs ∧ ob.data = .plain)
    (hmg : mg "law" = some (.ref fa)) (hobj : s₁.heap.get? a = some { cls := .type "list", data := .seq vs.toArray }) (hints : IntsAre vs ns) (hlen : ns.length ≤ 63) (P : Program) :
    codeAny (model P w) callerA (.call (.ref fa) ⟨[.ref a], []⟩) (fun r s' => r = .ok (.ret (.bool true)) ∧ OldK s₁.heap s'.heap ∧ s'.os = s₁.os ∧ AllBare s'.gens) s₁ := by
  obtain ⟨T, ne⟩ := txt KX hns S pf
  obtain rfl : fa = He.ga K "law" := by
    have e := hmg.symm.trans T.g_law
    cases e
    rfl
  have m1 : (("_law_doors_right", none) : He.Defn) ∈ tf := List.Mem.head _
  have m2 : (("_law_bounds_right", none) : He.Defn) ∈ tf := List.Mem.tail _ (List.Mem.head _)
  refine law_callG (k := 12) (cs := [He.cT K ("_law_doors_right", none), He.cT K ("_law_bounds_right", none)]) (sp := spLaw K (He.cT K ("_law_doors_right", none)).2 (He.cT K ("_law_bounds_right", none)).2) KX hns hb hbb hlim hg ?_ ?_ ?_ hbm hobj hints (by rw [sizeLine_eq]; omega) ⟨rfl, by decide, by decide⟩ (fun base hK hN TB => ?_) (fun H hH hS => ?_)
  · intro p hp
    simp only [List.mem_cons, List.not_mem_nil, or_false] at hp
    rcases hp with rfl | rfl
    · exact S.empty _ m1
    · exact S.empty _ m2
  · intro p hp
    simp only [List.mem_cons, List.not_mem_nil, or_false] at hp
    rcases hp with rfl | rfl
    · exact S.out _ m1
    · exact S.out _ m2
  · intro p hp
    simp only [List.mem_cons, List.not_mem_nil, or_false] at hp
    rcases hp with rfl | rfl
    · exact PySem.W.codeHd_of_K KX (S.hd _ m1)
    · exact PySem.W.codeHd_of_K KX (S.hd _ m2)
  · exact ok_law T ⟨code_of T.d_law_doors_right, code_of T.d_law_bounds_right, TB _ (List.Mem.head _), TB _ (List.Mem.tail _ (List.Mem.head _)), ne⟩
  · refine ⟨a, ns, rfl, hS, hlen, ?_, fun _ => rfl⟩
    intro p hp
    simp only [tabsT, List.mem_cons, List.not_mem_nil, or_false] at hp
    rcases hp with rfl | rfl
    · exact LamX.TabS.nil (hH _ (List.Mem.head _))
    · exact LamX.TabS.nil (hH _ (List.Mem.tail _ (List.Mem.head _)))
end JB
open PySem PySem.W PySem.Calls PyProof.Rows
theorem PySem.Challenge.cw_joinsums_k28_whole_joinbooks_holds : PySem.Challenge.rw_joinsums_k28_whole_joinbooks.Holds := by
  w_on; o_law
  refine HandSHeadRun.head_any (r := OpenLaw.row PySem.Challenge.rw_joinsums_k28_whole_joinbooks) (q := view (OpenLaw.row PySem.Challenge.rw_joinsums_k28_whole_joinbooks).prog [40]) (H := JB.hk) (ob := JB.ob) (M := 4000) (loose := JB.names) (d := HandSHeadRun.topDef (OpenLaw.row PySem.Challenge.rw_joinsums_k28_whole_joinbooks).prog 40) (kwd := []) JB.ob_eq
    (by kernel_rfl) (fun s => by kernel_rfl) JB.run (by kernel_rfl) (by kernel_rfl) (by kernel_rfl) (by rfl) (by first | assumption | decide +kernel) (by decide +kernel) ⟨rfl, rfl, rfl, rfl, rfl, by decide +kernel⟩ ?hw ?hc
  case hw => w_witness2
  case hc =>
    refine Att.attach_callB (l := PySem.Challenge.rw_joinsums_k28_whole_joinbooks) (n := 63) rfl (by kernel_rfl) fun w s₀ s₁ mg mb fa o pm cd doc a vs ns G Y ho hd hcd hmg0 hobj hints hlen hbits hg => ?_
    obtain ⟨K, KX, S, pf⟩ := Y
    have hmg : mg ("law" : PySem.Str) = some (.ref fa) := by
      have e : (HandSHeadRun.topDef (OpenLaw.row PySem.Challenge.rw_joinsums_k28_whole_joinbooks).prog 40).name = ("law" : PySem.Str) := by kernel_rfl
      rw [← e]
      exact hmg0
    exact JB.end_law w KX S pf G.T.g G.T.b G.T.builtins G.T.nolimit hg G.T.bmain hmg hobj hints hlen _
