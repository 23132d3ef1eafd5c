import PyProof.Rows.All
import Wide.All
import OpenK.AllK
import Wide.FinOn
import HandS.ForMost
import HandS.Codes
import HandS.Deep
import HandS.TupLe
import HandS.SortRule
import HandS.SortInts
import HandS.Walk
import HandS.Zip
import HandS.IsInst
import HandS.Small
import HandS.Flow
import PySem.Challenge.RW_trueatlas_k29_whole_each_half_edge_once
import KE.GoesNew
import KE.GoesMore
import HandS.More
/-! K29: the plain mathematics, no program in sight. -/
namespace K29
set_option linter.all false

abbrev P2 := Int × Int
abbrev Sg := P2 × P2

/-! ### order -/
/-- strictly before: by the first, then by the second -/
def ltP (p q : P2) : Bool := if p.1 = q.1 then decide (p.2 < q.2) else decide (p.1 < q.1)
theorem ltP_iff {p q : P2} : ltP p q = true ↔ p.1 < q.1 ∨ (p.1 = q.1 ∧ p.2 < q.2) := by
  unfold ltP
  by_cases e : p.1 = q.1
  · rw [if_pos e, decide_eq_true_eq]; omega
  · rw [if_neg e, decide_eq_true_eq]; omega
theorem ltP_no {p q : P2} : ltP p q = false ↔ ¬ (p.1 < q.1 ∨ (p.1 = q.1 ∧ p.2 < q.2)) := by
  rw [← ltP_iff]; cases ltP p q <;> simp
theorem ext2 {p q : P2} (h1 : p.1 = q.1) (h2 : p.2 = q.2) : p = q := Prod.ext h1 h2
theorem ltP_irr (p : P2) : ltP p p = false := ltP_no.mpr (by omega)
theorem ltP_tot {p q : P2} (h1 : ltP p q = false) (h2 : ltP q p = false) : p = q := by
  have a := ltP_no.mp h1
  have b := ltP_no.mp h2
  exact ext2 (by omega) (by omega)
theorem ltP_tr {p q r : P2} (h1 : ltP p q = true) (h2 : ltP q r = true) : ltP p r = true := by
  have a := ltP_iff.mp h1
  have b := ltP_iff.mp h2
  exact ltP_iff.mpr (by omega)
theorem ltP_le {p q r : P2} (h1 : ltP q p = false) (h2 : ltP r q = false) : ltP r p = false := by
  have a := ltP_no.mp h1
  have b := ltP_no.mp h2
  exact ltP_no.mpr (by omega)
theorem ltP_asym {p q : P2} (h : ltP p q = true) : ltP q p = false := by
  have a := ltP_iff.mp h
  exact ltP_no.mpr (by omega)

def ltS (s t : Sg) : Bool := if s.1 = t.1 then ltP s.2 t.2 else ltP s.1 t.1
theorem ltS_no {s t : Sg} : ltS s t = false ↔ (s.1 = t.1 ∧ ltP s.2 t.2 = false) ∨ (s.1 ≠ t.1 ∧ ltP s.1 t.1 = false) := by
  unfold ltS
  by_cases e : s.1 = t.1
  · rw [if_pos e]; simp [e]
  · rw [if_neg e]; simp [e]
theorem ltS_irr (s : Sg) : ltS s s = false := ltS_no.mpr (.inl ⟨rfl, ltP_irr _⟩)
theorem ltS_tot {s t : Sg} (h1 : ltS s t = false) (h2 : ltS t s = false) : s = t := by
  rcases ltS_no.mp h1 with ⟨a, b⟩ | ⟨a, b⟩
  · rcases ltS_no.mp h2 with ⟨c, d⟩ | ⟨c, d⟩
    · exact Prod.ext a (ltP_tot b d)
    · exact absurd a.symm c
  · rcases ltS_no.mp h2 with ⟨c, d⟩ | ⟨c, d⟩
    · exact absurd c.symm a
    · exact absurd (ltP_tot b d) a
theorem ltS_asym {s t : Sg} (h : ltS s t = true) : ltS t s = false := by
  unfold ltS at h ⊢
  by_cases e : s.1 = t.1
  · rw [if_pos e] at h
    rw [if_pos e.symm]
    exact ltP_asym h
  · rw [if_neg e] at h
    rw [if_neg (fun z => e z.symm)]
    exact ltP_asym h
theorem ltS_le {s t u : Sg} (h1 : ltS t s = false) (h2 : ltS u t = false) : ltS u s = false := by
  refine ltS_no.mpr ?_
  rcases ltS_no.mp h1 with ⟨a, b⟩ | ⟨a, b⟩
  · rcases ltS_no.mp h2 with ⟨c, d⟩ | ⟨c, d⟩
    · exact .inl ⟨c.trans a, ltP_le b d⟩
    · exact .inr ⟨fun z => c (z.trans a.symm), by rw [← a]; exact d⟩
  · rcases ltS_no.mp h2 with ⟨c, d⟩ | ⟨c, d⟩
    · exact .inr ⟨fun z => a (c.symm.trans z), by rw [c]; exact b⟩
    · refine .inr ⟨fun z => ?_, ltP_le b d⟩
      have b' := b
      rw [← z] at b'
      exact c (ltP_tot b' d).symm

/-- a sorted copy -/
def srtP (l : List P2) : List P2 := l.mergeSort fun a b => !ltP b a
def srtS (l : List Sg) : List Sg := l.mergeSort fun a b => !ltS b a
theorem nt {b : Bool} : (!b) = true ↔ b = false := by cases b <;> simp
theorem srtP_perm (l : List P2) : (srtP l).Perm l := List.mergeSort_perm _ _
theorem srtS_perm (l : List Sg) : (srtS l).Perm l := List.mergeSort_perm _ _
theorem srtP_ord (l : List P2) : (srtP l).Pairwise fun x y => ltP y x = false := by
  have h := List.pairwise_mergeSort (le := fun a b : P2 => !ltP b a) (fun a b c h1 h2 => nt.mpr (ltP_le (nt.mp h1) (nt.mp h2))) (fun a b => by
    cases e : ltP b a with
    | false => rfl
    | true => rw [ltP_asym e]; rfl) l
  exact h.imp fun x => nt.mp x
theorem srtS_ord (l : List Sg) : (srtS l).Pairwise fun x y => ltS y x = false := by
  have h := List.pairwise_mergeSort (le := fun a b : Sg => !ltS b a) (fun a b c h1 h2 => nt.mpr (ltS_le (nt.mp h1) (nt.mp h2))) (fun a b => by
    cases e : ltS b a with
    | false => rfl
    | true => rw [ltS_asym e]; rfl) l
  exact h.imp fun x => nt.mp x
theorem srtP_uniq {l m : List P2} (h : m.Pairwise fun x y => ltP y x = false) (p : m.Perm l) : m = srtP l :=
  List.Perm.eq_of_pairwise (fun a b _ _ h1 h2 => ltP_tot h2 h1) h (srtP_ord l) (p.trans (srtP_perm l).symm)
theorem srtS_uniq {l m : List Sg} (h : m.Pairwise fun x y => ltS y x = false) (p : m.Perm l) : m = srtS l :=
  List.Perm.eq_of_pairwise (fun a b _ _ h1 h2 => ltS_tot h2 h1) h (srtS_ord l) (p.trans (srtS_perm l).symm)
/-- strictly ascending -/
abbrev Asc (l : List P2) : Prop := l.Pairwise fun x y => ltP x y = true
theorem asc_of {l : List P2} (nd : l.Nodup) (h : l.Pairwise fun x y => ltP y x = false) : Asc l := by
  have := List.Pairwise.and nd h
  refine this.imp fun {a b} ⟨ne, le⟩ => ?_
  cases e : ltP a b with
  | true => rfl
  | false => exact absurd (ltP_tot e le) ne
theorem srtP_asc {l : List P2} (nd : l.Nodup) : Asc (srtP l) := asc_of ((srtP_perm l).nodup_iff.mpr nd) (srtP_ord l)
theorem Asc.nodup {l : List P2} (h : Asc l) : l.Nodup := h.imp fun {a b} e z => by
  rw [z, ltP_irr] at e; cases e
theorem Asc.get {l : List P2} (h : Asc l) {i j : Nat} {x y : P2} (hij : i < j) (hi : l[i]? = some x) (hj : l[j]? = some y) : ltP x y = true := by
  obtain ⟨a, rfl⟩ := List.getElem?_eq_some_iff.mp hi
  obtain ⟨b, rfl⟩ := List.getElem?_eq_some_iff.mp hj
  exact List.pairwise_iff_getElem.mp h i j a b hij

/-! ### going round: a one-to-one map of finitely many things -/
section cyc
variable (nx : P2 → P2)
/-- go on from h until something seen is met -/
def goOn : Nat → List P2 → P2 → List P2
  | 0, _, _ => []
  | n + 1, seen, h => if h ∈ seen then [] else h :: goOn n (seen ++ [h]) (nx h)
/-- the cycles of hs, from the first on -/
def cycs (F : Nat) : List P2 → List P2 → List (List P2)
  | [], _ => []
  | h :: r, seen => if h ∈ seen then cycs F r seen else goOn nx F seen h :: cycs F r (seen ++ goOn nx F seen h)

/-- a cycle: each goes on to the next, the last one to the first -/
def Ring (c : List P2) : Prop := c ≠ [] ∧ ∀ i x, c[i]? = some x → c[(i + 1) % c.length]? = some (nx x)

variable {nx}
variable {H : List P2}
theorem goOn_spec (hm : ∀ x ∈ H, nx x ∈ H) (hi : ∀ x ∈ H, ∀ y ∈ H, nx x = nx y → x = y) (seen : List P2) (hs : ∀ x ∈ H, nx x ∈ seen → x ∈ seen) (h : P2) (hh : h ∈ H) (hn : h ∉ seen) :
    ∀ (n : Nat) (done : List P2) (here : P2), (done = [] ∧ here = h ∨ ∃ d0 z, done = d0 ++ [z] ∧ here = nx z) → done.head? = (if done = [] then none else some h) → here ∈ H → (∀ x ∈ done, x ∈ H) → (∀ i x y, done[i]? = some x → done[i + 1]? = some y → y = nx x) →
      done.Nodup → (∀ x ∈ done, x ∉ seen) → H.length + 1 ≤ n + done.length → ∃ more, goOn nx n (seen ++ done) here = more ∧ Ring nx (done ++ more) ∧ (done ++ more).Nodup ∧ (∀ x ∈ done ++ more, x ∈ H ∧ x ∉ seen) ∧ (done ++ more).head? = some h
  | 0, done, here, _, _, _, hd, _, nd, _, hf => by
    have := List.Nodup.length_le_of_subset nd hd
    omega
  | n + 1, done, here, hst, hhd, hin, hd, hch, nd, hns, hf => by
    unfold goOn
    by_cases hsn : here ∈ seen ++ done
    · rw [if_pos hsn]
      refine ⟨[], rfl, ?_⟩
      rw [List.append_nil]
      rcases hst with ⟨e, e2⟩ | ⟨d0, z, e, e2⟩
      · subst e; subst e2
        rw [List.append_nil] at hsn
        exact absurd hsn hn
      · have hz : z ∈ H := hd z (by rw [e]; simp)
        have hzn : z ∉ seen := hns z (by rw [e]; simp)
        have hne : done ≠ [] := by rw [e]; simp
        rw [if_neg hne] at hhd
        -- here is the first one
        have key : here = h := by
          rcases List.mem_append.mp hsn with q | q
          · exact absurd (hs z hz (by rw [← e2]; exact q)) hzn
          · obtain ⟨i, hil, hi2⟩ := List.mem_iff_getElem.mp q
            cases i with
            | zero =>
              have : done.head? = some done[0] := by rw [List.head?_eq_getElem?, List.getElem?_eq_getElem hil]
              rw [hhd] at this
              rw [← hi2]; exact (Option.some.inj this).symm
            | succ j =>
              have hj : j < done.length := by omega
              have e3 := hch j done[j] done[j + 1] (List.getElem?_eq_getElem hj) (List.getElem?_eq_getElem hil)
              have e4 : done[j] = z := hi _ (hd _ (List.getElem_mem hj)) _ hz (by rw [← e3, hi2, e2])
              have hlast : done[done.length - 1]? = some z := by rw [e]; simp
              have hlt : done.length - 1 < done.length := by omega
              rw [List.getElem?_eq_getElem hlt] at hlast
              have e5 : done[j] = done[done.length - 1] := e4.trans (Option.some.inj hlast).symm
              have := (List.getElem_inj nd).mp e5
              omega
        refine ⟨⟨hne, fun i x hx => ?_⟩, nd, fun x hx => ⟨hd x hx, hns x hx⟩, hhd⟩
        have hil := (List.getElem?_eq_some_iff.mp hx).1
        by_cases hlast : i + 1 = done.length
        · rw [hlast, Nat.mod_self, ← List.head?_eq_getElem?, hhd, ← key, e2]
          have : done[i]? = some z := by
            have : i = d0.length := by rw [e] at hlast; simp at hlast; exact hlast
            rw [e, this]; simp
          rw [hx] at this
          rw [Option.some.inj this]
        · have hlt : i + 1 < done.length := by omega
          rw [Nat.mod_eq_of_lt hlt]
          have := hch i x _ hx (List.getElem?_eq_getElem hlt)
          rw [List.getElem?_eq_getElem hlt, this]
    · rw [if_neg hsn]
      have hsn1 : here ∉ seen := fun z => hsn (List.mem_append_left _ z)
      have hsn2 : here ∉ done := fun z => hsn (List.mem_append_right _ z)
      obtain ⟨more, e1, e2, e3, e4, e5⟩ := goOn_spec hm hi seen hs h hh hn n (done ++ [here]) (nx here) (.inr ⟨done, here, rfl, rfl⟩) (by
          rw [if_neg (by simp)]
          rcases hst with ⟨e, e2⟩ | ⟨d0, z, e, e2⟩
          · rw [e, e2]; rfl
          · have hne : done ≠ [] := by rw [e]; simp
            rw [if_neg hne] at hhd
            cases done with
            | nil => exact absurd rfl hne
            | cons a b => exact hhd) (hm _ hin) (fun x hx => (List.mem_append.mp hx).elim (hd x) fun q => by rw [List.mem_singleton.mp q]; exact hin)
        (fun i x y hx hy => by
          by_cases hil : i + 1 < done.length
          · rw [List.getElem?_append_left hil] at hy
            rw [List.getElem?_append_left (by omega)] at hx
            exact hch i x y hx hy
          · have hil2 := (List.getElem?_eq_some_iff.mp hy).1
            rw [List.length_append, List.length_singleton] at hil2
            have hi3 : i + 1 = done.length := by omega
            rw [hi3, List.getElem?_append_right (Nat.le_refl _), Nat.sub_self] at hy
            have hy' : here = y := Option.some.inj hy
            rw [List.getElem?_append_left (by omega)] at hx
            rcases hst with ⟨e, _⟩ | ⟨d0, z, e, e2⟩
            · rw [e] at hi3; simp at hi3
            · have : done[i]? = some z := by
                have : i = d0.length := by rw [e] at hi3; simp at hi3; exact hi3
                rw [e, this]; simp
              rw [hx] at this
              rw [← hy', e2, Option.some.inj this])
        (by
          rw [List.nodup_append]
          exact ⟨nd, by simp, fun a ha b hb e => hsn2 (by rw [← List.mem_singleton.mp hb, ← e]; exact ha)⟩)
        (fun x hx => (List.mem_append.mp hx).elim (hns x) fun q => by rw [List.mem_singleton.mp q]; exact hsn1)
        (by rw [List.length_append, List.length_singleton]; omega)
      refine ⟨here :: more, ?_, ?_⟩
      · rw [← e1, List.append_assoc]
      · rw [show done ++ here :: more = done ++ [here] ++ more by simp]
        exact ⟨e2, e3, e4, e5⟩

/-- what the cycle from h is -/
theorem goOn_is (hm : ∀ x ∈ H, nx x ∈ H) (hi : ∀ x ∈ H, ∀ y ∈ H, nx x = nx y → x = y) {F : Nat} (hF : H.length < F) {seen : List P2} (hs : ∀ x ∈ H, nx x ∈ seen → x ∈ seen) {h : P2} (hh : h ∈ H) (hn : h ∉ seen) :
    Ring nx (goOn nx F seen h) ∧ (goOn nx F seen h).Nodup ∧ (∀ x ∈ goOn nx F seen h, x ∈ H ∧ x ∉ seen) ∧ (goOn nx F seen h).head? = some h := by
  obtain ⟨more, e1, e2, e3, e4, e5⟩ := goOn_spec hm hi seen hs h hh hn F [] h (.inl ⟨rfl, rfl⟩) rfl hh (fun _ z => nomatch z) (fun _ _ _ z => nomatch z) List.nodup_nil (fun _ z => nomatch z) (by simp only [List.length_nil, Nat.add_zero]; omega)
  rw [List.append_nil] at e1
  rw [e1]
  exact ⟨e2, e3, e4, e5⟩

/-- a ring goes round backwards, too -/
theorem Ring.back (hi : ∀ x ∈ H, ∀ y ∈ H, nx x = nx y → x = y) {c : List P2} (r : Ring nx c) (hc : ∀ x ∈ c, x ∈ H) {x : P2} (hx : x ∈ H) (h : nx x ∈ c) : x ∈ c := by
  obtain ⟨i, hil, e⟩ := List.mem_iff_getElem.mp h
  -- the one ahead of place i
  have hl : 0 < c.length := by omega
  have hj : (i + c.length - 1) % c.length < c.length := Nat.mod_lt _ hl
  have q := r.2 ((i + c.length - 1) % c.length) _ (List.getElem?_eq_getElem hj)
  have e2 : ((i + c.length - 1) % c.length + 1) % c.length = i := by
    rcases Nat.eq_zero_or_pos i with z | z
    · subst z
      rw [Nat.zero_add, Nat.mod_eq_of_lt (show c.length - 1 < c.length by omega), Nat.sub_add_cancel hl, Nat.mod_self]
    · have : (i + c.length - 1) % c.length = i - 1 := by
        rw [show i + c.length - 1 = (i - 1) + c.length by omega, Nat.add_mod_right, Nat.mod_eq_of_lt (by omega)]
      rw [this, Nat.sub_add_cancel z, Nat.mod_eq_of_lt hil]
  rw [e2, List.getElem?_eq_getElem hil, e] at q
  have := hi x hx _ (hc _ (List.getElem_mem hj)) (Option.some.inj q)
  rw [this]
  exact List.getElem_mem hj

/-- the cycles of H: what is found from the rest, behind seen -/
structure CycOk (nx : P2 → P2) (seen hs : List P2) (cs : List (List P2)) : Prop where
  rings : ∀ c ∈ cs, Ring nx c
  nodup : (seen ++ cs.flatten).Nodup
  mem : ∀ x, x ∈ seen ++ cs.flatten ↔ x ∈ seen ∨ x ∈ hs ∨ ∃ c ∈ cs, x ∈ c
  all : ∀ x ∈ hs, x ∈ seen ++ cs.flatten
  heads : ∀ c ∈ cs, ∃ h, c.head? = some h ∧ h ∈ hs ∧ ∀ x ∈ c, x ≠ h → ltP h x = true
  asc : (cs.filterMap List.head?).Pairwise fun a b => ltP a b = true

theorem cycs_spec (hm : ∀ x ∈ H, nx x ∈ H) (hi : ∀ x ∈ H, ∀ y ∈ H, nx x = nx y → x = y) {F : Nat} (hF : H.length < F) (hasc : Asc H) :
    ∀ (pre hs seen : List P2), pre ++ hs = H → (∀ x ∈ pre, x ∈ seen) → (∀ x ∈ seen, x ∈ H) → seen.Nodup → (∀ x ∈ H, nx x ∈ seen → x ∈ seen) →
      (∀ c ∈ cycs nx F hs seen, Ring nx c ∧ (∀ x ∈ c, x ∈ H) ∧ ∃ h, c.head? = some h ∧ h ∈ hs ∧ ∀ x ∈ c, x ≠ h → ltP h x = true) ∧ (seen ++ (cycs nx F hs seen).flatten).Nodup ∧ (∀ x ∈ hs, x ∈ seen ++ (cycs nx F hs seen).flatten) ∧
        ((cycs nx F hs seen).filterMap List.head?).Pairwise (fun a b => ltP a b = true)
  | pre, [], seen, _, _, _, nd, _ => by
    unfold cycs
    exact ⟨fun _ z => (by cases z), (by simpa using nd), fun _ z => (by cases z), .nil⟩
  | pre, h :: r, seen, e, hp, hsH, nd, hb => by
    unfold cycs
    have hhH : h ∈ H := by rw [← e]; simp
    by_cases hin : h ∈ seen
    · rw [if_pos hin]
      obtain ⟨a1, a2, a3, a4⟩ := cycs_spec hm hi hF hasc (pre ++ [h]) r seen (by rw [List.append_assoc]; exact e) (fun x hx => (List.mem_append.mp hx).elim (hp x) fun q => by rw [List.mem_singleton.mp q]; exact hin) hsH nd hb
      refine ⟨fun c hc => ?_, a2, fun x hx => ?_, a4⟩
      · obtain ⟨b1, b2, h', b3, b4, b5⟩ := a1 c hc
        exact ⟨b1, b2, h', b3, List.mem_cons_of_mem _ b4, b5⟩
      · rcases List.mem_cons.mp hx with q | q
        · rw [q]; exact List.mem_append_left _ hin
        · exact a3 x q
    · rw [if_neg hin]
      obtain ⟨r1, r2, r3, r4⟩ := goOn_is hm hi hF hb hhH hin
      generalize hc0 : goOn nx F seen h = c0 at r1 r2 r3 r4 ⊢
      have hmem0 : h ∈ c0 := List.mem_of_mem_head? (by rw [r4]; rfl)
      -- h is the least of its ring
      have least : ∀ x ∈ c0, x ≠ h → ltP h x = true := fun x hx hne => by
        obtain ⟨q1, q2⟩ := r3 x hx
        rw [← e] at q1
        rcases List.mem_append.mp q1 with q | q
        · exact absurd (hp x q) q2
        · rcases List.mem_cons.mp q with q | q
          · exact absurd q hne
          · rw [← e] at hasc
            exact (List.pairwise_cons.mp (List.pairwise_append.mp hasc).2.1).1 x q
      obtain ⟨a1, a2, a3, a4⟩ := cycs_spec hm hi hF hasc (pre ++ [h]) r (seen ++ c0) (by rw [List.append_assoc]; exact e)
        (fun x hx => (List.mem_append.mp hx).elim (fun q => List.mem_append_left _ (hp x q)) fun q => by rw [List.mem_singleton.mp q]; exact List.mem_append_right _ hmem0)
        (fun x hx => (List.mem_append.mp hx).elim (hsH x) fun q => (r3 x q).1)
        (by
          rw [List.nodup_append]
          exact ⟨nd, r2, fun a ha b hb' z => (r3 b hb').2 (by rw [← z]; exact ha)⟩)
        (fun x hx hn => (List.mem_append.mp hn).elim (fun q => List.mem_append_left _ (hb x hx q)) fun q => List.mem_append_right _ (r1.back hi (fun y hy => (r3 y hy).1) hx q))
      refine ⟨fun c hc => ?_, ?_, fun x hx => ?_, ?_⟩
      · rcases List.mem_cons.mp hc with q | q
        · rw [q]
          exact ⟨r1, fun x hx => (r3 x hx).1, h, r4, List.mem_cons_self, least⟩
        · obtain ⟨b1, b2, h', b3, b4, b5⟩ := a1 c q
          exact ⟨b1, b2, h', b3, List.mem_cons_of_mem _ b4, b5⟩
      · rw [List.flatten_cons, ← List.append_assoc]
        exact a2
      · rw [List.flatten_cons, ← List.append_assoc]
        rcases List.mem_cons.mp hx with q | q
        · rw [q]; exact List.mem_append_left _ (List.mem_append_right _ hmem0)
        · exact a3 x q
      · rw [List.filterMap_cons, r4]
        refine List.pairwise_cons.mpr ⟨fun b hb' => ?_, a4⟩
        obtain ⟨c, hc, hbc⟩ := List.mem_filterMap.mp hb'
        obtain ⟨_, _, h', b3, b4, _⟩ := a1 c hc
        rw [b3] at hbc
        cases hbc
        rw [← e] at hasc
        exact (List.pairwise_cons.mp (List.pairwise_append.mp hasc).2.1).1 _ b4

/-- ALL: the cycles of H -/
theorem cycs_all (hm : ∀ x ∈ H, nx x ∈ H) (hi : ∀ x ∈ H, ∀ y ∈ H, nx x = nx y → x = y) {F : Nat} (hF : H.length < F) (hasc : Asc H) :
    (∀ c ∈ cycs nx F H [], Ring nx c ∧ (∀ x ∈ c, x ∈ H) ∧ ∃ h, c.head? = some h ∧ h ∈ H ∧ ∀ x ∈ c, x ≠ h → ltP h x = true) ∧ (cycs nx F H []).flatten.Perm H ∧ ((cycs nx F H []).filterMap List.head?).Pairwise fun a b => ltP a b = true := by
  obtain ⟨a1, a2, a3, a4⟩ := cycs_spec hm hi hF hasc [] H [] rfl (fun _ z => nomatch z) (fun _ z => nomatch z) List.nodup_nil (fun _ _ z => nomatch z)
  refine ⟨a1, ?_, a4⟩
  rw [List.nil_append] at a2
  refine (List.perm_ext_iff_of_nodup a2 hasc.nodup).mpr fun x => ⟨fun hx => ?_, fun hx => ?_⟩
  · obtain ⟨c, hc, hxc⟩ := List.mem_flatten.mp hx
    exact (a1 c hc).2.1 x hxc
  · simpa using a3 x hx
end cyc
end K29
/-! K29: what the program's small functions compute. -/
namespace K29
/-! ### geometry -/
def mn (i j : Int) : Int := if j < i then j else i
def mx (i j : Int) : Int := if j > i then j else i
def tur (a b c : P2) : Int := (b.1 - a.1) * (c.2 - a.2) - (b.2 - a.2) * (c.1 - a.1)
def onB (p a b : P2) : Bool := (decide (mn a.1 b.1 ≤ p.1) && decide (p.1 ≤ mx a.1 b.1)) && (decide (mn a.2 b.2 ≤ p.2) && decide (p.2 ≤ mx a.2 b.2))
def onSeg (p a b : P2) : Bool := decide (tur a b p = 0) && onB p a b
def opp (f s : Int) : Bool := (decide (0 < f) && decide (s < 0)) || (decide (f < 0) && decide (0 < s))
def crs (a b c d : P2) : Bool := opp (tur a b c) (tur a b d) && opp (tur c d a) (tur c d b)
/-- a point of the map -/
def InR (p : P2) : Prop := -1000 ≤ p.1 ∧ p.1 ≤ 1000 ∧ -1000 ≤ p.2 ∧ p.2 ≤ 1000
theorem opp_iff {f s : Int} : opp f s = true ↔ (0 < f ∧ s < 0) ∨ (f < 0 ∧ 0 < s) := by
  unfold opp
  rw [Bool.or_eq_true, Bool.and_eq_true, Bool.and_eq_true, decide_eq_true_eq, decide_eq_true_eq, decide_eq_true_eq, decide_eq_true_eq]
theorem opp_mul {f s : Int} : opp f s = decide (f * s < 0) := by
  have h : opp f s = true ↔ f * s < 0 := by
    rw [opp_iff]
    rcases Int.lt_trichotomy f 0 with h | h | h <;> rcases Int.lt_trichotomy s 0 with k | k | k
    · have := Int.mul_pos_of_neg_of_neg h k
      omega
    · subst k; rw [Int.mul_zero]; omega
    · have := Int.mul_neg_of_neg_of_pos h k
      omega
    · subst h; rw [Int.zero_mul]; omega
    · subst h; rw [Int.zero_mul]; omega
    · subst h; rw [Int.zero_mul]; omega
    · have := Int.mul_neg_of_pos_of_neg h k
      omega
    · subst k; rw [Int.mul_zero]; omega
    · have := Int.mul_pos h k
      omega
  by_cases e : f * s < 0
  · rw [decide_eq_true e, h.mpr e]
  · rw [decide_eq_false e]
    cases q : opp f s with
    | false => rfl
    | true => exact absurd (h.mp q) e
theorem crs_sym (a b c d : P2) : crs a b c d = crs c d a b := by
  unfold crs
  exact Bool.and_comm _ _
/-- p is an end of s, or not on it -/
def away (s : Sg) (p : P2) : Bool := !(!decide (p = s.1 ∨ p = s.2) && onSeg p s.1 s.2)
/-- two segments that meet at common ends alone -/
def sepB (s t : Sg) : Bool := !crs s.1 s.2 t.1 t.2 && ((away s t.1 && away s t.2) && (away t s.1 && away t s.2))
theorem sepB_iff {s t : Sg} : sepB s t = true ↔ crs s.1 s.2 t.1 t.2 = false ∧ (away s t.1 = true ∧ away s t.2 = true) ∧ (away t s.1 = true ∧ away t s.2 = true) := by
  unfold sepB
  rw [Bool.and_eq_true, Bool.and_eq_true, Bool.and_eq_true, Bool.and_eq_true, Bool.not_eq_true']
theorem sepB_sym {s t : Sg} (h : sepB s t = true) : sepB t s = true := by
  rw [sepB_iff] at h ⊢
  exact ⟨(crs_sym _ _ _ _).trans h.1, h.2.2, h.2.1⟩
def InRS (s : Sg) : Prop := InR s.1 ∧ InR s.2
def ptAt (pts : List P2) (i : Int) : P2 := pts.getD i.toNat (0, 0)
def segOf (pts : List P2) (e : P2) : Sg := (ptAt pts e.1, ptAt pts e.2)
/-- a plane -/
structure GoodPl (pts eds : List P2) : Prop where
  pos : 1 ≤ pts.length
  len : pts.length ≤ 60
  elen : eds.length ≤ 31
  inr : ∀ p ∈ pts, InR p
  asc : Asc pts
  easc : Asc eds
  edge : ∀ e ∈ eds, 0 ≤ e.1 ∧ e.1 < e.2 ∧ e.2 < (pts.length : Int)
  away : ∀ e ∈ eds, ∀ p ∈ pts, away (segOf pts e) p = true
  sep : ∀ e ∈ eds, ∀ f ∈ eds, e ≠ f → sepB (segOf pts e) (segOf pts f) = true
theorem ptAt_get {pts : List P2} {i : Int} (h0 : 0 ≤ i) (h1 : i < (pts.length : Int)) : pts[i.toNat]? = some (ptAt pts i) := by
  have h : i.toNat < pts.length := by omega
  unfold ptAt
  rw [List.getD_eq_getElem?_getD, List.getElem?_eq_getElem h]
  rfl
theorem ptAt_mem {pts : List P2} {i : Int} (h0 : 0 ≤ i) (h1 : i < (pts.length : Int)) : ptAt pts i ∈ pts := List.mem_of_getElem? (ptAt_get h0 h1)
theorem GoodPl.ends {pts eds : List P2} (g : GoodPl pts eds) {e : P2} (he : e ∈ eds) : InRS (segOf pts e) := by
  obtain ⟨h0, h1, h2⟩ := g.edge e he
  exact ⟨g.inr _ (ptAt_mem h0 (by omega)), g.inr _ (ptAt_mem (by omega) h2)⟩
end K29
/-! K29: the order around a point, the next half-edge, planes' half-edges. -/
namespace K29
def lowB (p : P2) : Bool := decide (p.2 < 0) || (decide (p.2 = 0) && decide (p.1 < 0))
def low (p : P2) : Int := if lowB p = true then 1 else 0
def bef (f s : P2) : Bool := if low f = low s then decide (0 < f.1 * s.2 - f.2 * s.1) else decide (low f < low s)
abbrev JP := Int × P2
def wayTo (c p : P2) : P2 := (p.1 - c.1, p.2 - c.2)
def insAt (found : List JP) (way : P2) : Nat := (found.takeWhile fun q => bef q.2 way).length
def putStep (c : P2) (found : List JP) (q : JP) : List JP := found.take (insAt found (wayTo c q.2)) ++ [(q.1, wayTo c q.2)] ++ found.drop (insAt found (wayTo c q.2))
def putAll (c : P2) (l : List JP) : List JP := l.foldl (putStep c) []
def putAround (c : P2) (l : List JP) : List Int := (putAll c l).map Prod.fst
theorem insAt_le (found : List JP) (way : P2) : insAt found way ≤ found.length := by
  unfold insAt
  exact (List.takeWhile_prefix _).length_le
theorem putStep_len (c : P2) (found : List JP) (q : JP) : (putStep c found q).length = found.length + 1 := by
  have := insAt_le found (wayTo c q.2)
  unfold putStep
  simp only [List.length_append, List.length_take, List.length_drop, List.length_singleton]
  omega
theorem putStep_perm (c : P2) (found : List JP) (q : JP) : ((putStep c found q).map Prod.fst).Perm (q.1 :: found.map Prod.fst) := by
  unfold putStep
  rw [List.map_append, List.map_append, List.append_assoc]
  show (_ ++ ((q.1 :: []) ++ _)).Perm _
  refine List.perm_middle.trans ?_
  show (q.1 :: (List.map Prod.fst _ ++ List.map Prod.fst _)).Perm _
  rw [← List.map_append, List.take_append_drop]
theorem putAll_perm (c : P2) : ∀ (l found : List JP), ((l.foldl (putStep c) found).map Prod.fst).Perm (l.map Prod.fst ++ found.map Prod.fst)
  | [], found => List.Perm.refl _
  | q :: l, found => by
    rw [List.foldl_cons]
    refine (putAll_perm c l (putStep c found q)).trans ?_
    rw [List.map_cons, List.cons_append]
    refine ((putStep_perm c found q).append_left _).trans ?_
    exact List.perm_middle
theorem putAround_perm (c : P2) (l : List JP) : (putAround c l).Perm (l.map Prod.fst) := by
  have h := putAll_perm c l []
  rw [List.map_nil, List.append_nil] at h
  exact h
end K29
set_option Elab.async false
set_option maxRecDepth 100000
set_option maxHeartbeats 4000000
/-! K29: readings over data. A value is data of a part G of the heap H; what is not in G may change. -/
namespace K29
open PySem PySem.Spec PyProof.Rows L2

mutual
inductive Da (G : Hp) : V → PyData → Prop
  | non : Da G .non .none
  | bl (b : Bool) : Da G (.bl b) (.bool b)
  | int (i : Int) : Da G (.int i) (.int i)
  | str (x : Str) : Da G (.str x) (.str x)
  | lst {a : Addr} {xs : List V} {ds : List PyData} : G a = some (.lst xs) → DaAll G xs ds → Da G (.ref a) (.list ds)
  | tup {a : Addr} {xs : List V} {ds : List PyData} : G a = some (.tup xs) → DaAll G xs ds → Da G (.ref a) (.tuple ds)
inductive DaAll (G : Hp) : List V → List PyData → Prop
  | nil : DaAll G [] []
  | cons {v : V} {vs : List V} {d : PyData} {ds : List PyData} : Da G v d → DaAll G vs ds → DaAll G (v :: vs) (d :: ds)
end

mutual
theorem Da.same {G G' : Hp} (s : Same G G') : ∀ {v : V} {d : PyData}, Da G v d → Da G' v d
  | _, _, .non => .non
  | _, _, .bl b => .bl b
  | _, _, .int i => .int i
  | _, _, .str x => .str x
  | _, _, .lst h a => .lst (s _ _ h) (DaAll.same s a)
  | _, _, .tup h a => .tup (s _ _ h) (DaAll.same s a)
theorem DaAll.same {G G' : Hp} (s : Same G G') : ∀ {vs : List V} {ds : List PyData}, DaAll G vs ds → DaAll G' vs ds
  | _, _, .nil => .nil
  | _, _, .cons h t => .cons (Da.same s h) (DaAll.same s t)
end
mutual
theorem Da.dp {K : PySem.W.Frag} {G : Hp} : ∀ {v : V} {d : PyData}, Da G v d → Dp K G v d
  | _, _, .non => .non
  | _, _, .bl b => .bl b
  | _, _, .int i => .int i
  | _, _, .str x => .str x
  | _, _, .lst h a => .lst (.of h) (DaAll.dp a)
  | _, _, .tup h a => .tup (.of h) (DaAll.dp a)
theorem DaAll.dp {K : PySem.W.Frag} {G : Hp} : ∀ {vs : List V} {ds : List PyData}, DaAll G vs ds → DpAll K G vs ds
  | _, _, .nil => .nil
  | _, _, .cons h t => .cons (Da.dp h) (DaAll.dp t)
end
section
variable {G G' H H' : Hp} {v : V} {d : PyData} {vs : List V} {ds : List PyData}
theorem DaAll.length : ∀ {vs : List V} {ds : List PyData}, DaAll G vs ds → vs.length = ds.length
  | _, _, .nil => rfl
  | _, _, .cons _ t => by rw [List.length_cons, List.length_cons, DaAll.length t]
theorem DaAll.get : ∀ {vs : List V} {ds : List PyData} {i : Nat} {d : PyData}, DaAll G vs ds → ds[i]? = some d → ∃ v, vs[i]? = some v ∧ Da G v d
  | _, _, _, _, .nil, e => by simp at e
  | _, _, 0, _, .cons h _, e => by
    simp at e
    subst e
    exact ⟨_, rfl, h⟩
  | _, _, i + 1, d, .cons _ t, e => by
    obtain ⟨v, h1, h2⟩ := DaAll.get (i := i) (d := d) t (by simpa using e)
    exact ⟨v, by simpa using h1, h2⟩
theorem DaAll.at : ∀ {vs : List V} {ds : List PyData} {i : Nat} {v : V}, DaAll G vs ds → vs[i]? = some v → ∃ d, ds[i]? = some d ∧ Da G v d
  | _, _, _, _, .nil, e => by simp at e
  | _, _, 0, _, .cons h _, e => by
    simp at e
    subst e
    exact ⟨_, rfl, h⟩
  | _, _, i + 1, v, .cons _ t, e => by
    obtain ⟨d, h1, h2⟩ := DaAll.at (i := i) (v := v) t (by simpa using e)
    exact ⟨d, by simpa using h1, h2⟩
theorem DaAll.app : ∀ {vs ws : List V} {ds es : List PyData}, DaAll G vs ds → DaAll G ws es → DaAll G (vs ++ ws) (ds ++ es)
  | _, _, _, _, .nil, s => s
  | _, _, _, _, .cons h t, s => .cons h (DaAll.app t s)
theorem DaAll.take : ∀ {vs : List V} {ds : List PyData} (n : Nat), DaAll G vs ds → DaAll G (vs.take n) (ds.take n)
  | _, _, 0, _ => .nil
  | _, _, _ + 1, .nil => .nil
  | _, _, n + 1, .cons h t => .cons h (DaAll.take n t)
theorem DaAll.drop : ∀ {vs : List V} {ds : List PyData} (n : Nat), DaAll G vs ds → DaAll G (vs.drop n) (ds.drop n)
  | _, _, 0, h => h
  | _, _, _ + 1, .nil => .nil
  | _, _, n + 1, .cons _ t => DaAll.drop n t
theorem DaAll.one (h : Da G v d) : DaAll G [v] [d] := .cons h .nil
theorem Da.tupE (h : Da G v (.tuple ds)) : ∃ a vs, v = .ref a ∧ G a = some (.tup vs) ∧ DaAll G vs ds := by
  cases h with
  | tup h a => exact ⟨_, _, rfl, h, a⟩
theorem Da.lstE (h : Da G v (.list ds)) : ∃ a vs, v = .ref a ∧ G a = some (.lst vs) ∧ DaAll G vs ds := by
  cases h with
  | lst h a => exact ⟨_, _, rfl, h, a⟩
theorem Da.intE {i : Int} (h : Da G v (.int i)) : v = .int i := by cases h; rfl
theorem Da.blE {b : Bool} (h : Da G v (.bool b)) : v = .bl b := by cases h; rfl
theorem DaAll.consE {d : PyData} (h : DaAll G vs (d :: ds)) : ∃ v ws, vs = v :: ws ∧ Da G v d ∧ DaAll G ws ds := by
  cases h with
  | cons h t => exact ⟨_, _, rfl, h, t⟩
theorem DaAll.nilE (h : DaAll G vs []) : vs = [] := by cases h; rfl
theorem DaAll.oneE (h : DaAll G vs [d]) : ∃ v, vs = [v] ∧ Da G v d := by
  obtain ⟨v, ws, rfl, h1, h2⟩ := h.consE
  rw [h2.nilE]
  exact ⟨v, rfl, h1⟩
theorem DaAll.twoE {e : PyData} (h : DaAll G vs [d, e]) : ∃ v w, vs = [v, w] ∧ Da G v d ∧ Da G w e := by
  obtain ⟨v, ws, rfl, h1, h2⟩ := h.consE
  obtain ⟨w, rfl, h3⟩ := h2.oneE
  exact ⟨v, w, rfl, h1, h3⟩
theorem DaAll.ints : ∀ {ns : List Int} {vs : List V}, DaAll G vs (ns.map PyData.int) → vs = ns.map V.int
  | [], _, h => h.nilE
  | n :: ns, _, h => by
    obtain ⟨v, ws, rfl, h1, h2⟩ := h.consE
    rw [h1.intE, h2.ints]
    rfl
theorem DaAll.bls : ∀ {ns : List Bool} {vs : List V}, DaAll G vs (ns.map PyData.bool) → vs = ns.map V.bl
  | [], _, h => h.nilE
  | n :: ns, _, h => by
    obtain ⟨v, ws, rfl, h1, h2⟩ := h.consE
    rw [h1.blE, h2.bls]
    rfl
theorem daAll_ints (G : Hp) : ∀ ns : List Int, DaAll G (ns.map V.int) (ns.map PyData.int)
  | [] => .nil
  | n :: ns => .cons (.int n) (daAll_ints G ns)
theorem same_new {p : Addr} {o : HO} (h : H p = none) : Same H (upd H p o) := fun b x e => by
  rw [upd_ne (ne_of_none e h)]
  exact e
theorem same_put {p : Addr} {o : HO} (s : Same G H) (h : G p = none) : Same G (upd H p o) := fun b x e => by
  rw [upd_ne (ne_of_none e h)]
  exact s b x e
theorem same_both {p : Addr} {o : HO} (s : Same G H) : Same (upd G p o) (upd H p o) := fun b x e => by
  by_cases hb : b = p
  · subst hb
    rw [upd_same] at e ⊢
    exact e
  · rw [upd_ne hb] at e ⊢
    exact s b x e
theorem same_add {p : Addr} {o : HO} (s : Same G H) (h : H p = some o) : Same (upd G p o) H := fun b x e => by
  by_cases hb : b = p
  · subst hb
    rw [upd_same] at e
    rw [h]
    exact e
  · rw [upd_ne hb] at e
    exact s b x e
end

/-- G, the known part of H, grows to G' of H'; what is new in G' is new in H' -/
structure Grow (G H G' H' : Hp) : Prop where
  g : Same G G'
  s : Same G' H'
  h : Same H H'
  n : ∀ a o, G' a = some o → G a = some o ∨ H a = none
theorem Grow.refl {G H : Hp} (s : Same G H) : Grow G H G H := ⟨Same.refl G, s, Same.refl H, fun _ _ e => .inl e⟩
theorem Grow.trans {G H G1 H1 G2 H2 : Hp} (a : Grow G H G1 H1) (b : Grow G1 H1 G2 H2) : Grow G H G2 H2 :=
  ⟨a.g.trans b.g, b.s, a.h.trans b.h, fun x o e => by
    rcases b.n x o e with q | q
    · exact a.n x o q
    · exact .inr (a.h.free q)⟩
theorem Grow.new {G H : Hp} {p : Addr} {o : HO} (s : Same G H) (h : H p = none) : Grow G H (upd G p o) (upd H p o) :=
  ⟨same_new (s.free h), same_both s, same_new h, fun a x e => by
    by_cases ha : a = p
    · subst ha
      exact .inr h
    · rw [upd_ne ha] at e
      exact .inl e⟩
/-- what stood aside stands aside -/
theorem Grow.out {G H G' H' : Hp} (a : Grow G H G' H') {p : Addr} {o : HO} (h1 : G p = none) (h2 : H p = some o) : G' p = none := by
  cases e : G' p with
  | none => rfl
  | some x =>
    rcases a.n p x e with q | q
    · rw [h1] at q
      cases q
    · rw [h2] at q
      cases q

/-! ### slots -/
abbrev DE := List (Option PyData)
inductive Env (G : Hp) : L2.St → DE → Prop
  | nil : Env G [] []
  | no {x : Option V} {σ : L2.St} {ds : DE} : Env G σ ds → Env G (x :: σ) (none :: ds)
  | da {v : V} {d : PyData} {σ : L2.St} {ds : DE} : Da G v d → Env G σ ds → Env G (some v :: σ) (some d :: ds)
section
variable {G G' H H' : Hp} {σ : L2.St} {ds : DE} {v : V} {d : PyData}
theorem Env.same (s : Same G G') : ∀ {σ : L2.St} {ds : DE}, Env G σ ds → Env G' σ ds
  | _, _, .nil => .nil
  | _, _, .no e => .no (Env.same s e)
  | _, _, .da h e => .da (h.same s) (Env.same s e)
theorem Env.get : ∀ {σ : L2.St} {ds : DE} {i : Nat} {d : PyData}, Env G σ ds → ds[i]? = some (some d) → ∃ v, σ[i]? = some (some v) ∧ Da G v d
  | _, _, _, _, .nil, e => by simp at e
  | _, _, 0, _, .no _, e => by simp at e
  | _, _, 0, _, .da h _, e => by
    simp at e
    subst e
    exact ⟨_, rfl, h⟩
  | _, _, i + 1, d, .no t, e => by
    obtain ⟨v, h1, h2⟩ := Env.get (i := i) (d := d) t (by simpa using e)
    exact ⟨v, by simpa using h1, h2⟩
  | _, _, i + 1, d, .da _ t, e => by
    obtain ⟨v, h1, h2⟩ := Env.get (i := i) (d := d) t (by simpa using e)
    exact ⟨v, by simpa using h1, h2⟩
theorem Env.set (h : Da G v d) : ∀ {σ : L2.St} {ds : DE} (i : Nat), Env G σ ds → Env G (σ.set i (some v)) (ds.set i (some d))
  | _, _, _, .nil => .nil
  | _, _, 0, .no t => .da h t
  | _, _, 0, .da _ t => .da h t
  | _, _, i + 1, .no t => .no (Env.set h i t)
  | _, _, i + 1, .da q t => .da q (Env.set h i t)
theorem Env.unset : ∀ {σ : L2.St} {ds : DE} (i : Nat), Env G σ ds → Env G (σ.set i none) (ds.set i none)
  | _, _, _, .nil => .nil
  | _, _, 0, .no t => .no t
  | _, _, 0, .da _ t => .no t
  | _, _, i + 1, .no t => .no (Env.unset i t)
  | _, _, i + 1, .da q t => .da q (Env.unset i t)
def wipeD (ds : DE) : List Nat → DE
  | [] => ds
  | v :: vs => (wipeD ds vs).set v none
theorem Env.wipe (e : Env G σ ds) : ∀ vs : List Nat, Env G (wipe σ vs) (wipeD ds vs)
  | [] => e
  | v :: vs => (Env.wipe e vs).unset v
theorem env_start (h : ∀ n : Nat, Env G (List.replicate n none) (List.replicate n none)) : ∀ {vs : List V} {dl : List PyData} {n : Nat}, DaAll G vs dl → Env G (vs.map some ++ List.replicate n none) (dl.map some ++ List.replicate n none)
  | _, _, n, .nil => h n
  | _, _, n, .cons q t => .da q (env_start h t)
theorem env_none (G : Hp) : ∀ n : Nat, Env G (List.replicate n none) (List.replicate n none)
  | 0 => .nil
  | n + 1 => .no (env_none G n)
def startD (N : List Str) (dl : List PyData) : DE := dl.map some ++ List.replicate (N.length - dl.length) none
theorem Env.start {N : List Str} {vs : List V} {dl : List PyData} (h : DaAll G vs dl) : Env G (L2.start N vs) (startD N dl) := by
  unfold L2.start startD
  rw [h.length]
  exact env_start (env_none G) h
theorem wipe_out : ∀ {vs : List Nat} {σ : L2.St} {i : Nat} {x : Option V}, i ∉ vs → wipe (σ.set i x) vs = (wipe σ vs).set i x
  | [], _, _, _, _ => rfl
  | v :: vs, σ, i, x, h => by
    have h1 : i ≠ v := fun z => h (by rw [z]; exact List.mem_cons_self)
    have h2 : i ∉ vs := fun z => h (List.mem_cons_of_mem _ z)
    show (wipe (σ.set i x) vs).set v none = ((wipe σ vs).set v none).set i x
    rw [wipe_out h2, List.set_comm _ _ h1]
theorem wipe_in : ∀ {vs : List Nat} {σ : L2.St} {i : Nat} {x : Option V}, i ∈ vs → wipe (σ.set i x) vs = wipe σ vs
  | [], _, _, _, h => nomatch h
  | v :: vs, σ, i, x, h => by
    show (wipe (σ.set i x) vs).set v none = (wipe σ vs).set v none
    by_cases h2 : i ∈ vs
    · rw [wipe_in h2]
    · have h1 : i = v := (List.mem_cons.mp h).resolve_right h2
      subst h1
      rw [wipe_out h2, List.set_set]
theorem wipe_wipe (vs : List Nat) (σ : L2.St) : wipe (wipe σ vs) vs = wipe σ vs := by
  have h : ∀ (l ws : List Nat), (∀ i ∈ l, i ∈ ws) → wipe (wipe σ l) ws = wipe σ ws := by
    intro l
    induction l with
    | nil => intro _ _; rfl
    | cons v l ih =>
      intro ws hw
      show wipe ((wipe σ l).set v none) ws = wipe σ ws
      rw [wipe_in (hw v List.mem_cons_self), ih ws fun i hi => hw i (List.mem_cons_of_mem _ hi)]
  exact h vs vs fun _ q => q
end

/-! ### what a reading evaluates to -/
def EvD (te : TE) (ds : DE) (d : PyData) : Prop := ∀ (G H : Hp) (σ : L2.St), Same G H → Env G σ ds → ∀ Q : VK, (∀ v G' H', Grow G H G' H' → Da G' v d → Q v H') → te σ H Q
def EvB (tt : TT) (ds : DE) (b : Bool) : Prop := ∀ (G H : Hp) (σ : L2.St), Same G H → Env G σ ds → ∀ Q : Bool → Hp → Prop, (∀ G' H', Grow G H G' H' → Q b H') → tt σ H Q
def EvA (ta : TA) (ds : DE) (dl : List PyData) : Prop := ∀ (G H : Hp) (σ : L2.St), Same G H → Env G σ ds → ∀ Q : List V → Hp → Prop, (∀ vs G' H', Grow G H G' H' → DaAll G' vs dl → Q vs H') → ta σ H Q
def EvO (to : TO) (ds : DE) (o : Option Int) : Prop := ∀ (G H : Hp) (σ : L2.St), Same G H → Env G σ ds → ∀ Q : Option Int → Hp → Prop, (∀ G' H', Grow G H G' H' → Q o H') → to σ H Q
def RoD (r : R2) (a b d : PyData) : Prop := ∀ (G H : Hp) (x y : V), Same G H → Da G x a → Da G y b → ∀ Q : VK, (∀ v G' H', Grow G H G' H' → Da G' v d → Q v H') → r x y H Q
def RcD (r : List V → Hp → VK → Prop) (dl : List PyData) (d : PyData) : Prop := ∀ (G H : Hp) (vs : List V), Same G H → DaAll G vs dl → ∀ Q : VK, (∀ v G' H', Grow G H G' H' → Da G' v d → Q v H') → r vs H Q
section
variable {K : PySem.W.Frag} {ds : DE} {d a b c e : PyData} {ta tb tc te : TE} {tt tu : TT} {tl : TA} {dl : List PyData} {r r' : R2} {i j : Int}
theorem ev_is (h : EvD te ds d) (q : d = e) : EvD te ds e := by
  rw [← q]
  exact h
theorem eb_is {k l : Bool} (h : EvB tt ds k) (q : k = l) : EvB tt ds l := by
  rw [← q]
  exact h
theorem ev_var {i : Nat} (h : ds[i]? = some (some d)) : EvD (tVar i) ds d := fun G H σ s e Q q => by
  obtain ⟨v, h1, h2⟩ := e.get h
  exact ⟨v, h1, q v G H (.refl s) h2⟩
theorem ev_cint {i : Int} : EvD (tC (.int i)) ds (.int i) := fun G H σ s _ Q q => q _ G H (.refl s) (.int i)
theorem ev_cbl {b : Bool} : EvD (tC (.bl b)) ds (.bool b) := fun G H σ s _ Q q => q _ G H (.refl s) (.bl b)
theorem ev_cnon : EvD (tC .non) ds .none := fun G H σ s _ Q q => q _ G H (.refl s) .non
theorem ev_op (ha : EvD ta ds a) (hb : EvD tb ds b) (hr : RoD r a b d) : EvD (tOp r ta tb) ds d := fun G H σ s e Q q =>
  ha G H σ s e _ fun x G1 H1 g1 d1 => hb G1 H1 σ g1.s (e.same g1.g) _ fun y G2 H2 g2 d2 => hr G2 H2 x y g2.s (d1.same g2.g) d2 _ fun v G3 H3 g3 d3 => q v G3 H3 ((g1.trans g2).trans g3) d3
theorem ro_I0i {f : Int → Int → Int} : RoD (rI0 fun i j => .int (f i j)) (.int i) (.int j) (.int (f i j)) := fun G H x y s h1 h2 Q q => ⟨i, j, h1.intE, h2.intE, q _ G H (.refl s) (.int _)⟩
theorem ro_I0b {f : Int → Int → Bool} : RoD (rI0 fun i j => .bl (f i j)) (.int i) (.int j) (.bool (f i j)) := fun G H x y s h1 h2 Q q => ⟨i, j, h1.intE, h2.intE, q _ G H (.refl s) (.bl _)⟩
theorem ro_Ii {C : Int → Int → Prop} {f : Int → Int → Int} (hc : C i j) : RoD (rI C fun i j => .int (f i j)) (.int i) (.int j) (.int (f i j)) := fun G H x y s h1 h2 Q q => ⟨i, j, h1.intE, h2.intE, hc, q _ G H (.refl s) (.int _)⟩
theorem ro_add : RoD (rI0 fun i j => .int (i + j)) (.int i) (.int j) (.int (i + j)) := ro_I0i (f := fun i j => i + j)
theorem ro_sub : RoD (rI0 fun i j => .int (i - j)) (.int i) (.int j) (.int (i - j)) := ro_I0i (f := fun i j => i - j)
theorem ro_mul (hc : CMul i j) : RoD (rI CMul fun i j => .int (i * j)) (.int i) (.int j) (.int (i * j)) := ro_Ii (f := fun i j => i * j) hc
theorem ro_lt : RoD (rI0 fun i j => .bl (decide (i < j))) (.int i) (.int j) (.bool (decide (i < j))) := ro_I0b (f := fun i j => decide (i < j))
theorem ro_le : RoD (rI0 fun i j => .bl (decide (i ≤ j))) (.int i) (.int j) (.bool (decide (i ≤ j))) := ro_I0b (f := fun i j => decide (i ≤ j))
theorem ro_gt : RoD (rI0 fun i j => .bl (decide (j < i))) (.int i) (.int j) (.bool (decide (j < i))) := ro_I0b (f := fun i j => decide (j < i))
theorem ro_ge : RoD (rI0 fun i j => .bl (decide (j ≤ i))) (.int i) (.int j) (.bool (decide (j ≤ i))) := ro_I0b (f := fun i j => decide (j ≤ i))
theorem v_int_eq : decide (V.int i = V.int j) = decide (i = j) := by
  by_cases h : i = j
  · subst h; simp
  · rw [decide_eq_false h, decide_eq_false fun z => h (V.int.inj z)]
theorem ro_eq : RoD rEq (.int i) (.int j) (.bool (decide (i = j))) := fun G H x y s h1 h2 Q q => by
  rw [h1.intE, h2.intE]
  refine ⟨rfl, ?_⟩
  rw [v_int_eq]
  exact q _ G H (.refl s) (.bl _)
theorem ro_ne : RoD rNe (.int i) (.int j) (.bool (!decide (i = j))) := fun G H x y s h1 h2 Q q => by
  rw [h1.intE, h2.intE]
  refine ⟨rfl, ?_⟩
  rw [v_int_eq]
  exact q _ G H (.refl s) (.bl _)
theorem ev_un {f : Int → Int} (ha : EvD ta ds (.int i)) : EvD (tUn (rU fun i => .int (f i)) ta) ds (.int (f i)) := fun G H σ s e Q q =>
  ha G H σ s e _ fun x G1 H1 g1 d1 => ⟨i, d1.intE, q _ G1 H1 g1 (.int _)⟩
theorem ev_neg (ha : EvD ta ds (.int i)) : EvD (tUn (rU fun i => .int (-i)) ta) ds (.int (-i)) := ev_un (f := fun i => -i) ha
/-- an item -/
def atG {α : Type} (xs : List α) (i : Int) : Option α := (ixN xs.length i).bind fun j => xs[j]?
theorem atG_nat {α : Type} {xs : List α} {k : Nat} {v : α} (h : xs[k]? = some v) : atG xs (k : Int) = some v := atI_nat h
theorem DaAll.atI {G : Hp} {vs : List V} {xs : List PyData} {i : Int} {d : PyData} (h : DaAll G vs xs) (e : atG xs i = some d) : ∃ v, L2.atI vs i = some v ∧ Da G v d := by
  unfold atG at e
  unfold L2.atI
  rw [h.length]
  cases q : ixN xs.length i with
  | none => rw [q] at e; cases e
  | some k =>
    rw [q] at e
    exact h.get e
theorem ro_ixT {xs : List PyData} (h : atG xs i = some d) : RoD (rIxT K) (.tuple xs) (.int i) d := fun G H x y s h1 h2 Q q => by
  obtain ⟨p, vs, rfl, hp, ha⟩ := h1.tupE
  obtain ⟨v, e1, e2⟩ := ha.atI h
  exact ⟨p, vs, i, v, rfl, h2.intE, .of (s _ _ hp), e1, q v G H (.refl s) e2⟩
theorem ro_ixL {xs : List PyData} (h : atG xs i = some d) : RoD (rIxL K) (.list xs) (.int i) d := fun G H x y s h1 h2 Q q => by
  obtain ⟨p, vs, rfl, hp, ha⟩ := h1.lstE
  obtain ⟨v, e1, e2⟩ := ha.atI h
  exact ⟨p, vs, i, v, rfl, h2.intE, .of (s _ _ hp), e1, q v G H (.refl s) e2⟩
theorem same_sl {G H : Hp} {vs : List V} {dl : List PyData} (s : Same G H) (h : DaAll G vs dl) : DaAll H vs dl := h.same s
theorem ro_cat {xs ys : List PyData} (h : xs.length + ys.length ≤ 100000) : RoD rCat (.list xs) (.list ys) (.list (xs ++ ys)) := fun G H x y s h1 h2 Q q => by
  obtain ⟨p, vs, rfl, hp, ha⟩ := h1.lstE
  obtain ⟨p2, ws, rfl, hp2, ha2⟩ := h2.lstE
  refine ⟨p, p2, vs, ws, rfl, rfl, s _ _ hp, s _ _ hp2, ?_, fun n hn => ?_⟩
  · rw [ha.length, ha2.length]
    exact Nat.le_trans h (by decide)
  · have g := Grow.new (o := .lst (vs ++ ws)) s hn
    exact q _ _ _ g (.lst upd_same ((ha.app ha2).same g.g))
theorem ro_inD {xs : List PyData} (h1 : SeqAt.shaped a = true) (h2 : SeqAt.shaped (.list xs) = true) : RoD (rInD K) a (.list xs) (.bool (xs.any fun z => PyData.eqv z a)) := fun G H x y s d1 d2 Q q =>
  ⟨a, xs, (d1.same s).dp, (d2.same s).dp, h1, h2, q _ G H (.refl s) (.bl _)⟩
theorem ro_notInD {xs : List PyData} (h1 : SeqAt.shaped a = true) (h2 : SeqAt.shaped (.list xs) = true) : RoD (rNotInD K) a (.list xs) (.bool (!xs.any fun z => PyData.eqv z a)) := fun G H x y s d1 d2 Q q =>
  ⟨a, xs, (d1.same s).dp, (d2.same s).dp, h1, h2, q _ G H (.refl s) (.bl _)⟩
theorem ro_eqD (h1 : SeqAt.shaped a = true) (h2 : SeqAt.shaped b = true) : RoD (rEqD K) a b (.bool (PyData.eqv a b)) := fun G H x y s d1 d2 Q q =>
  ⟨a, b, (d1.same s).dp, (d2.same s).dp, h1, h2, q _ G H (.refl s) (.bl _)⟩
theorem ro_neD (h1 : SeqAt.shaped a = true) (h2 : SeqAt.shaped b = true) : RoD (rNeD K) a b (.bool (!PyData.eqv a b)) := fun G H x y s d1 d2 Q q =>
  ⟨a, b, (d1.same s).dp, (d2.same s).dp, h1, h2, q _ G H (.refl s) (.bl _)⟩
theorem ev_chain {k1 k2 : Bool} (ha : EvD ta ds a) (hb : EvD tb ds b) (hc : EvD tc ds c) (h1 : RoD r a b (.bool k1)) (h2 : RoD r' b c (.bool k2)) : EvD (tChain r r' ta tb tc) ds (.bool (k1 && k2)) := fun G H σ s e Q q =>
  ha G H σ s e _ fun x G1 H1 g1 d1 => hb G1 H1 σ g1.s (e.same g1.g) _ fun y G2 H2 g2 d2 => h1 G2 H2 x y g2.s (d1.same g2.g) d2 _ fun v G3 H3 g3 d3 => ⟨k1, d3.blE, by
    cases k1 with
    | true =>
      show tc σ H3 _
      exact hc G3 H3 σ g3.s (e.same ((g1.trans g2).trans g3).g) _ fun z G4 H4 g4 d4 => h2 G4 H4 y z g4.s (d2.same (g3.trans g4).g) d4 _ fun u G5 H5 g5 d5 => q u G5 H5 ((((g1.trans g2).trans g3).trans g4).trans g5) (by simpa using d5)
    | false =>
      show Q (.bl false) H3
      exact q _ G3 H3 ((g1.trans g2).trans g3) (.bl _)⟩
theorem ev_and {k l : Bool} (ha : EvD ta ds (.bool k)) (hb : k = true → EvD tb ds (.bool l)) : EvD (tAndV ta tb) ds (.bool (k && l)) := fun G H σ s e Q q =>
  ha G H σ s e _ fun x G1 H1 g1 d1 => ⟨k, d1.blE, by
    cases k with
    | true =>
      show tb σ H1 Q
      exact hb rfl G1 H1 σ g1.s (e.same g1.g) _ fun y G2 H2 g2 d2 => q y G2 H2 (g1.trans g2) (by simpa using d2)
    | false =>
      show Q (.bl false) H1
      exact q _ G1 H1 g1 (.bl _)⟩
theorem ev_or {k l : Bool} (ha : EvD ta ds (.bool k)) (hb : k = false → EvD tb ds (.bool l)) : EvD (tOrV ta tb) ds (.bool (k || l)) := fun G H σ s e Q q =>
  ha G H σ s e _ fun x G1 H1 g1 d1 => ⟨k, d1.blE, by
    cases k with
    | true =>
      show Q (.bl true) H1
      exact q _ G1 H1 g1 (.bl _)
    | false =>
      show tb σ H1 Q
      exact hb rfl G1 H1 σ g1.s (e.same g1.g) _ fun y G2 H2 g2 d2 => q y G2 H2 (g1.trans g2) (by simpa using d2)⟩
theorem ev_not {k : Bool} (ha : EvD ta ds (.bool k)) : EvD (tNotV ta) ds (.bool (!k)) := fun G H σ s e Q q =>
  ha G H σ s e _ fun x G1 H1 g1 d1 => ⟨k, d1.blE, q _ G1 H1 g1 (.bl _)⟩
theorem ea_nil : EvA tNil ds [] := fun G H σ s e Q q => q [] G H (.refl s) .nil
theorem ea_cons (ha : EvD ta ds a) (hr : EvA tl ds dl) : EvA (tCons ta tl) ds (a :: dl) := fun G H σ s e Q q =>
  ha G H σ s e _ fun x G1 H1 g1 d1 => hr G1 H1 σ g1.s (e.same g1.g) _ fun xs G2 H2 g2 d2 => q _ G2 H2 (g1.trans g2) (.cons (d1.same g2.g) d2)
theorem ev_tup (h : EvA tl ds dl) (hl : dl.length ≤ 1000 := by decide) : EvD (tTup tl) ds (.tuple dl) := fun G H σ s e Q q =>
  h G H σ s e _ fun xs G1 H1 g1 d1 => ⟨by rw [d1.length]; exact Nat.le_trans hl (by decide), fun p hp => by
    have g := Grow.new (o := .tup xs) g1.s hp
    exact q _ _ _ (g1.trans g) (.tup upd_same (d1.same g.g))⟩
theorem ev_lst (h : EvA tl ds dl) (hl : dl.length ≤ 1000 := by decide) : EvD (tLst tl) ds (.list dl) := fun G H σ s e Q q =>
  h G H σ s e _ fun xs G1 H1 g1 d1 => ⟨by rw [d1.length]; exact Nat.le_trans hl (by decide), fun p hp => by
    have g := Grow.new (o := .lst xs) g1.s hp
    exact q _ _ _ (g1.trans g) (.lst upd_same (d1.same g.g))⟩
theorem ev_cb {rc : List V → Hp → VK → Prop} (h : EvA tl ds dl) (hr : RcD rc dl d) : EvD (tCB rc tl) ds d := fun G H σ s e Q q =>
  h G H σ s e _ fun xs G1 H1 g1 d1 => hr G1 H1 xs g1.s d1 _ fun v G2 H2 g2 d2 => q v G2 H2 (g1.trans g2) d2
/-! tests -/
theorem eb_test {k : Bool} (h : EvD te ds (.bool k)) : EvB (tTest te) ds k := fun G H σ s e Q q => h G H σ s e _ fun v G1 H1 g1 d1 => ⟨k, d1.blE, q G1 H1 g1⟩
theorem eb_B {k : Bool} (h : EvD te ds (.bool k)) : EvB (tB te) ds k := fun G H σ s e Q q => h G H σ s e _ fun v G1 H1 g1 d1 => ⟨k, d1.blE, q G1 H1 g1⟩
theorem eb_yes : EvB tYes ds true := fun G H σ s e Q q => q G H (.refl s)
theorem eb_and {k l : Bool} (h1 : EvB tt ds k) (h2 : k = true → EvB tu ds l) : EvB (tAnd tt tu) ds (k && l) := fun G H σ s e Q q => h1 G H σ s e _ fun G1 H1 g1 => by
  cases k with
  | true =>
    show tu σ H1 Q
    exact h2 rfl G1 H1 σ g1.s (e.same g1.g) _ fun G2 H2 g2 => by simpa using q G2 H2 (g1.trans g2)
  | false =>
    show Q false H1
    exact q G1 H1 g1
theorem eb_or {k l : Bool} (h1 : EvB tt ds k) (h2 : k = false → EvB tu ds l) : EvB (tOr tt tu) ds (k || l) := fun G H σ s e Q q => h1 G H σ s e _ fun G1 H1 g1 => by
  cases k with
  | true =>
    show Q true H1
    exact q G1 H1 g1
  | false =>
    show tu σ H1 Q
    exact h2 rfl G1 H1 σ g1.s (e.same g1.g) _ fun G2 H2 g2 => by simpa using q G2 H2 (g1.trans g2)
theorem eb_not {k : Bool} (h : EvB tt ds k) : EvB (tNot tt) ds (!k) := fun G H σ s e Q q => h G H σ s e _ fun G1 H1 g1 => q G1 H1 g1
/-! slices -/
theorem eo_no : EvO tNoPart ds none := fun G H σ s e Q q => q G H (.refl s)
theorem eo_some (h : EvD te ds (.int i)) : EvO (tPart te) ds (some i) := fun G H σ s e Q q => h G H σ s e _ fun v G1 H1 g1 d1 => ⟨i, d1.intE, q G1 H1 g1⟩
def cutG {α : Type} (xs : List α) (lo hi : Option Int) : List α := (xs.drop (HT.sIx xs.length 0 lo)).take (HT.sIx xs.length xs.length hi - HT.sIx xs.length 0 lo)
theorem DaAll.cut {G : Hp} {vs : List V} {xs : List PyData} (h : DaAll G vs xs) (lo hi : Option Int) : DaAll G (cutV vs lo hi) (cutG xs lo hi) := by
  unfold cutV cutG
  rw [h.length]
  exact (h.drop _).take _
theorem ev_slL {xs : List PyData} {to tu : TO} {lo hi : Option Int} (h : EvD te ds (.list xs)) (h1 : EvO to ds lo) (h2 : EvO tu ds hi) : EvD (L2.tSl (rSlL K) te to tu) ds (.list (cutG xs lo hi)) := fun G H σ s e Q q =>
  h G H σ s e _ fun v G1 H1 g1 d1 => h1 G1 H1 σ g1.s (e.same g1.g) _ fun G2 H2 g2 => h2 G2 H2 σ g2.s (e.same (g1.trans g2).g) _ fun G3 H3 g3 => by
    obtain ⟨p, vs, rfl, hp, ha⟩ := d1.lstE
    refine ⟨p, vs, rfl, .of ((g2.trans g3).h _ _ (g1.s _ _ hp)), fun n hn => ?_⟩
    have g := Grow.new (o := .lst (cutV vs lo hi)) g3.s hn
    exact q _ _ _ (((g1.trans g2).trans g3).trans g) (.lst upd_same ((ha.cut lo hi).same ((g2.trans g3).trans g).g))
/-! truth -/
theorem eb_truL {xs : List PyData} (h : EvD te ds (.list xs)) : EvB (fun σ H Q => te σ H fun x H' => ∃ k, TruV K x H' k ∧ Q k H') ds (!xs.isEmpty) := fun G H σ s e Q q => h G H σ s e _ fun v G1 H1 g1 d1 => by
  obtain ⟨p, vs, rfl, hp, ha⟩ := d1.lstE
  refine ⟨_, .inl ⟨vs, .of (g1.s _ _ hp), rfl⟩, ?_⟩
  have e1 : vs.isEmpty = xs.isEmpty := by
    have := ha.length
    cases vs <;> cases xs <;> simp_all
  rw [e1]
  exact q G1 H1 g1
end
end K29
namespace K29
open PySem PySem.Spec PyProof.Rows L2

/-! ### targets, statements -/
/-- the target g, given d, makes the slots ds2; it stores at the places pl alone -/
def TgD (g : TG) (pl : List Nat) (d : PyData) (ds ds2 : DE) : Prop := ∀ (G H : Hp) (σ : L2.St) (v : V), Same G H → Da G v d → Env G σ ds → ∀ Q : L2.St → Hp → Prop,
  (∀ σ', Env G σ' ds2 → (∀ vs, (∀ i ∈ pl, i ∈ vs) → wipe σ' vs = wipe σ vs) → Q σ' H) → g v σ H Q
def StD (ts : TS) (ds : DE) (N : DE → Prop) (R : PyData → Prop) : Prop := ∀ (D : Ends) (G H : Hp) (σ : L2.St), Same G H → Env G σ ds →
  (∀ ds' σ' G' H', N ds' → Grow G H G' H' → Env G' σ' ds' → D.nx σ' H') → (∀ d v G' H', R d → Grow G H G' H' → Da G' v d → D.rt v H') → ts D σ H
section
variable {K : PySem.W.Frag} {ds ds2 ds3 : DE} {d e : PyData} {te : TE} {tt : TT} {g g' : TG} {t u : TS} {N M : DE → Prop} {R : PyData → Prop} {pl pl' : List Nat}
theorem tg_name {i : Nat} : TgD (gName i) [i] d ds (ds.set i (some d)) := fun G H σ v s h e Q q =>
  q _ (e.set h i) fun vs hv => wipe_in (hv i (by simp))
theorem tg_pair (h1 : TgD g pl d ds ds2) (h2 : TgD g' pl' e ds2 ds3) : TgD (gTup K 2 (gCons g (gCons g' gNil))) (pl ++ pl') (.tuple [d, e]) ds ds3 := fun G H σ v s h en Q q => by
  obtain ⟨a, vs, rfl, ha, hd⟩ := h.tupE
  obtain ⟨x, y, rfl, dx, dy⟩ := hd.twoE
  refine ⟨a, _, rfl, .of (s _ _ ha), rfl, x, [y], rfl, ?_⟩
  refine h1 G H σ x s dx en _ fun σ1 e1 w1 => ?_
  refine ⟨y, [], rfl, ?_⟩
  refine h2 G H σ1 y s dy e1 _ fun σ2 e2 w2 => ?_
  exact ⟨rfl, q σ2 e2 fun ws hw => (w2 ws fun i hi => hw i (List.mem_append_right _ hi)).trans (w1 ws fun i hi => hw i (List.mem_append_left _ hi))⟩

theorem st_next (h : N ds) : StD tNext ds N R := fun D G H σ s e qn qr => qn ds σ G H h (.refl s) e
theorem st_seq (h1 : StD t ds M R) (h2 : ∀ ds', M ds' → StD u ds' N R) : StD (tSeq t u) ds N R := fun D G H σ s e qn qr =>
  h1 { D with nx := u D } G H σ s e (fun ds' σ' G' H' hm g1 e1 => h2 ds' hm D G' H' σ' g1.s e1 (fun ds2 σ2 G2 H2 hn g2 e2 => qn ds2 σ2 G2 H2 hn (g1.trans g2) e2) fun d v G2 H2 hr g2 d2 => qr d v G2 H2 hr (g1.trans g2) d2) qr
/-- a statement, then the rest at just these slots -/
theorem st_then (h1 : StD t ds (fun x => x = ds2) R) (h2 : StD u ds2 N R) : StD (tSeq t u) ds N R := st_seq h1 fun ds' e => by
  rw [e]
  exact h2
theorem st_tgt (he : EvD te ds d) (hg : TgD g pl d ds ds2) (h : N ds2) : StD (tAsg te g) ds N R := fun D G H σ s e qn qr =>
  he G H σ s e _ fun v G1 H1 g1 d1 => hg G1 H1 σ v g1.s d1 (e.same g1.g) _ fun σ' e' _ => qn ds2 σ' G1 H1 h g1 e'
theorem st_asg {i : Nat} (he : EvD te ds d) (h : N (ds.set i (some d))) : StD (tAsg te (gName i)) ds N R := st_tgt he tg_name h
theorem st_ret (he : EvD te ds d) (h : R d) : StD (tRet te) ds N R := fun D G H σ s e qn qr => he G H σ s e _ fun v G1 H1 g1 d1 => qr d v G1 H1 h g1 d1
theorem st_if {b : Bool} (hc : EvB tt ds b) (h1 : b = true → StD t ds N R) (h2 : b = false → StD u ds N R) : StD (tIfS tt t u) ds N R := fun D G H σ s e qn qr =>
  hc G H σ s e _ fun G1 H1 g1 => by
    cases b with
    | true =>
      show t D σ H1
      exact h1 rfl D G1 H1 σ g1.s (e.same g1.g) (fun ds' σ' G' H' hn g2 e2 => qn ds' σ' G' H' hn (g1.trans g2) e2) fun d v G' H' hr g2 d2 => qr d v G' H' hr (g1.trans g2) d2
    | false =>
      show u D σ H1
      exact h2 rfl D G1 H1 σ g1.s (e.same g1.g) (fun ds' σ' G' H' hn g2 e2 => qn ds' σ' G' H' hn (g1.trans g2) e2) fun d v G' H' hr g2 d2 => qr d v G' H' hr (g1.trans g2) d2
/-- an if whose test is true; false -/
theorem st_ifT (hc : EvB tt ds true) (h1 : StD t ds N R) : StD (tIfS tt t u) ds N R := st_if hc (fun _ => h1) fun z => nomatch z
theorem st_ifF (hc : EvB tt ds false) (h2 : StD u ds N R) : StD (tIfS tt t u) ds N R := st_if hc (fun z => nomatch z) fun _ => h2
theorem st_drop (he : EvD te ds d) (h : N ds) : StD (tDrop te) ds N R := fun D G H σ s e qn qr => he G H σ s e _ fun v G1 H1 g1 d1 => qn ds σ G1 H1 h g1 (e.same g1.g)
theorem st_aug {i : Nat} {f : Int → Int → Int} {a b : Int} (hx : ds[i]? = some (some (.int a))) (he : EvD te ds (.int b)) (h : N (ds.set i (some (.int (f a b))))) : StD (tAug i te (ipI f)) ds N R := fun D G H σ s e qn qr => by
  obtain ⟨x, e1, d1⟩ := e.get hx
  refine ⟨x, e1, ?_⟩
  exact he G H σ s e _ fun v G1 H1 g1 d2 => ⟨a, b, d1.intE, d2.intE, qn _ _ G1 H1 h g1 ((e.same g1.g).set (.int _) i)⟩
theorem st_weak {N' : DE → Prop} {R' : PyData → Prop} (h : StD t ds N R) (hn : ∀ x, N x → N' x) (hr : ∀ x, R x → R' x) : StD t ds N' R' := fun D G H σ s e qn qr =>
  h D G H σ s e (fun ds' σ' G' H' q => qn ds' σ' G' H' (hn _ q)) fun d v G' H' q => qr d v G' H' (hr _ q)

/-! ### what is walked -/
def WalkD (J : It) (G : Hp) (l : List PyData) : Prop := ∃ (Gp : Hp → Prop) (Y : Nat → Hp → V → Hp → Prop), Walk J l.length Gp Y ∧ (∀ H', Same G H' → Gp H') ∧
  ∀ (i : Nat) (Gc H : Hp) (x : V) (H' : Hp), Same G Gc → Same Gc H → i < l.length → Y i H x H' → ∃ d Gc', l[i]? = some d ∧ Grow Gc H Gc' H' ∧ Da Gc' x d
def ItD (wi : TI) (ds : DE) (l : List PyData) : Prop := ∀ (G H : Hp) (σ : L2.St), Same G H → Env G σ ds → ∀ R : It → Hp → Prop, (∀ J G' H', Grow G H G' H' → WalkD J G' l → R J H') → wi σ H R
theorem wd_list {a : Addr} {vs : List V} {G : Hp} {l : List PyData} (h : G a = some (.lst vs)) (hd : DaAll G vs l) : WalkD (Itl K a) G l := by
  have e := hd.length
  refine ⟨fun H => SqL K H a vs, YAt vs, e ▸ walk_list (K := K) (a := a) (xs := vs), fun H' s => SqL.of (s _ _ h), fun i Gc H x H' s1 s2 hi y => ?_⟩
  obtain ⟨rfl, q⟩ := y
  obtain ⟨d, q1, q2⟩ := hd.at q
  exact ⟨d, Gc, q1, .refl s2, q2.same s1⟩
theorem wd_tup {a : Addr} {vs : List V} {G : Hp} {l : List PyData} (h : G a = some (.tup vs)) (hd : DaAll G vs l) : WalkD (Itt K a) G l := by
  have e := hd.length
  refine ⟨fun H => SqT K H a vs, YAt vs, e ▸ walk_tup (K := K) (a := a) (xs := vs), fun H' s => SqT.of (s _ _ h), fun i Gc H x H' s1 s2 hi y => ?_⟩
  obtain ⟨rfl, q⟩ := y
  obtain ⟨d, q1, q2⟩ := hd.at q
  exact ⟨d, Gc, q1, .refl s2, q2.same s1⟩
/-- lo, lo + 1, .. -/
def rangeD (lo : Int) (n : Nat) : List PyData := (List.range n).map fun k => .int (lo + (k : Nat))
theorem rangeD_len {lo : Int} {n : Nat} : (rangeD lo n).length = n := by
  unfold rangeD
  rw [List.length_map, List.length_range]
theorem rangeD_get {lo : Int} {n i : Nat} (h : i < n) : (rangeD lo n)[i]? = some (.int (lo + (i : Nat))) := by
  unfold rangeD
  rw [List.getElem?_map, List.getElem?_range h]
  rfl
theorem wd_range {lo : Int} {n : Nat} {G : Hp} : WalkD (Itr lo n) G (rangeD lo n) := by
  refine ⟨_, _, by rw [rangeD_len]; exact walk_range, fun _ _ => trivial, fun i Gc H x H' s1 s2 hi y => ?_⟩
  obtain ⟨rfl, rfl⟩ := y
  rw [rangeD_len] at hi
  exact ⟨_, Gc, rangeD_get hi, .refl s2, .int _⟩
/-- (0, x), (1, y), .. -/
def enumD (l : List PyData) : List PyData := (List.range l.length).map fun k => .tuple [.int (k : Nat), l.getD k .none]
theorem enumD_len {l : List PyData} : (enumD l).length = l.length := by
  unfold enumD
  rw [List.length_map, List.length_range]
theorem enumD_get {l : List PyData} {i : Nat} {d : PyData} (h : l[i]? = some d) : (enumD l)[i]? = some (.tuple [.int (i : Nat), d]) := by
  have hi := (List.getElem?_eq_some_iff.mp h).1
  unfold enumD
  rw [List.getElem?_map, List.getElem?_range hi, Option.map_some, List.getD_eq_getElem?_getD, h]
  rfl
theorem wd_enum {a : Addr} {vs : List V} {G : Hp} {l : List PyData} (h : G a = some (.lst vs)) (hd : DaAll G vs l) : WalkD (Ite K a) G (enumD l) := by
  have e := hd.length
  refine ⟨fun H => SqL K H a vs, _, by rw [enumD_len, ← e]; exact walk_enum (K := K) (a := a) (xs := vs), fun H' s => SqL.of (s _ _ h), fun i Gc H x H' s1 s2 hi y => ?_⟩
  obtain ⟨T, x1, x2, rfl, nT, rfl, e1, e2⟩ := y
  obtain ⟨d, q1, q2⟩ := hd.at e2
  cases e1
  have gr := Grow.new (o := .tup [.int (i : Nat), x2]) s2 nT
  exact ⟨_, _, enumD_get q1, gr, .tup upd_same (.cons (.int _) (.one ((q2.same s1).same gr.g)))⟩

theorem it_list {tl : TE} {l : List PyData} (h : EvD tl ds (.list l)) : ItD (iList K tl) ds l := fun G H σ s e R q => h G H σ s e _ fun v G1 H1 g1 d1 => by
  obtain ⟨a, vs, rfl, ha, hd⟩ := d1.lstE
  exact ⟨a, rfl, ⟨vs, .of (g1.s _ _ ha)⟩, q _ G1 H1 g1 (wd_list ha hd)⟩
theorem it_tup {tl : TE} {l : List PyData} (h : EvD tl ds (.tuple l)) : ItD (iTup K tl) ds l := fun G H σ s e R q => h G H σ s e _ fun v G1 H1 g1 d1 => by
  obtain ⟨a, vs, rfl, ha, hd⟩ := d1.tupE
  exact ⟨a, rfl, ⟨vs, .of (g1.s _ _ ha)⟩, q _ G1 H1 g1 (wd_tup ha hd)⟩
theorem it_range {tl : TA} {n : Nat} (h : EvA tl ds [.int n]) (hn : n ≤ 100000) : ItD (iRng1 tl) ds (rangeD 0 n) := fun G H σ s e R q => h G H σ s e _ fun vs G1 H1 g1 d1 => by
  obtain ⟨v, rfl, d2⟩ := d1.oneE
  have z : (n : Int) < 2 ^ 62 := by omega
  have z2 : -(2 ^ 62) ≤ (n : Int) := by omega
  exact ⟨(n : Int), by rw [d2.intE], z2, z, q _ G1 H1 g1 wd_range⟩
theorem it_enum {tl : TA} {l : List PyData} (h : EvA tl ds [.list l]) : ItD (iEnum K tl) ds (enumD l) := fun G H σ s e R q => h G H σ s e _ fun vs G1 H1 g1 d1 => by
  obtain ⟨v, rfl, d2⟩ := d1.oneE
  obtain ⟨a, vs, rfl, ha, hd⟩ := d2.lstE
  exact ⟨a, vs, rfl, .of (g1.s _ _ ha), q _ G1 H1 g1 (wd_enum ha hd)⟩

/-! ### for -/
theorem st_for {wi : TI} {l : List PyData} (hi : ItD wi ds l) (I : Nat → DE → Prop) (h0 : I 0 ds)
    (hs : ∀ i d ds', l[i]? = some d → I i ds' → ∃ pl ds2, TgD g pl d ds' ds2 ∧ StD t ds2 (I (i + 1)) R) (hd : ∀ ds', I l.length ds' → N ds') : StD (tFor wi g t) ds N R := fun D G H σ s e qn qr =>
  hi G H σ s e _ fun J G1 H1 g1 ⟨Gp, Y, w, k1, k2⟩ => by
    refine for_it w (fun i σ' H' => ∃ ds' G', I i ds' ∧ Grow G1 H1 G' H' ∧ Env G' σ' ds') ⟨ds, G1, h0, .refl g1.s, e.same g1.g⟩ (fun i σ' H' _ ⟨ds', G', _, g2, _⟩ => k1 H' (g2.g.trans g2.s)) ?_ fun σ' H' ⟨ds', G', a1, g2, e2⟩ => qn ds' σ' G' H' (hd _ a1) (g1.trans g2) e2
    rintro i x σ' H' H2 hil ⟨ds', G', a1, g2, e2⟩ y
    obtain ⟨d, G3, b1, g3, d3⟩ := k2 i G' H' x H2 g2.g g2.s hil y
    obtain ⟨pl, ds2, c1, c2⟩ := hs i d ds' b1 a1
    refine c1 G3 H2 σ' x g3.s d3 (e2.same g3.g) _ fun σ2 e3 _ => ?_
    exact c2 _ G3 H2 σ2 g3.s e3 (fun ds4 σ4 G4 H4 hn g4 e4 => ⟨ds4, G4, hn, (g2.trans g3).trans g4, e4⟩) fun d v G4 H4 hr g4 d4 => qr d v G4 H4 hr (((g1.trans g2).trans g3).trans g4) d4

/-! ### comprehensions -/
theorem ev_lc {α : Type} {wi : TI} {vs : List Nat} (l : List α) (enc : α → PyData) (f : α → Bool) (val : α → PyData) (hi : ItD wi ds (l.map enc)) (hl : l.length ≤ 100000)
    (hs : ∀ x ∈ l, ∃ pl ds2, TgD g pl (enc x) (wipeD ds vs) ds2 ∧ (∀ i ∈ pl, i ∈ vs) ∧ EvB tt ds2 (f x) ∧ (f x = true → EvD te ds2 (val x))) : EvD (tLc wi g tt te vs) ds (.list ((l.filter f).map val)) := fun G H σ s e Q q =>
  hi G H σ s e _ fun J G1 H1 g1 ⟨Gp, Y, w, k1, k2⟩ Dl nD => by
    have el := List.length_map (as := l) enc
    rw [el] at w k2
    refine lc_it w (fun i H' => ∃ G' acc, Same G1 G' ∧ Same G' H' ∧ Same H1 H' ∧ (∀ a o, G' a = some o → G1 a = some o ∨ H1 a = none) ∧ G' Dl = none ∧ H' Dl = some (.lst acc) ∧ DaAll G' acc (((l.take i).filter f).map val))
      ⟨G1, [], Same.refl _, same_put g1.s (g1.s.free nD), same_new nD, fun _ _ z => .inl z, g1.s.free nD, upd_same, by simpa using DaAll.nil⟩ (fun i H' _ ⟨G', acc, a1, a2, _⟩ => k1 H' (a1.trans a2)) ?_ ?_
    · rintro i x H' H2 hil ⟨G', acc, a1, a2, a3, a4, a5, a6, a7⟩ y
      obtain ⟨d, G3, b1, g3, d3⟩ := k2 i G' H' x H2 a1 a2 hil y
      obtain ⟨z, hz⟩ : ∃ z, l[i]? = some z := ⟨l[i], List.getElem?_eq_getElem hil⟩
      have hd : d = enc z := by
        rw [List.getElem?_map, hz] at b1
        exact (Option.some.inj b1).symm
      subst hd
      obtain ⟨pl, ds2, c1, c2, c3, c4⟩ := hs z (List.mem_of_getElem? hz)
      have eT : l.take (i + 1) = l.take i ++ [z] := by rw [List.take_add_one, hz]; rfl
      refine c1 G3 H2 (wipe σ vs) x g3.s d3 ((e.same (g1.g.trans (a1.trans g3.g))).wipe vs) _ fun σ2 e3 w3 => ⟨?_, ?_⟩
      · rw [w3 vs c2, wipe_wipe]
      · have o3 := g3.out a5 a6
        have l3 := g3.h _ _ a6
        refine c3 G3 H2 σ2 g3.s e3 _ fun G4 H4 g4 => ?_
        have o4 := g4.out o3 l3
        have l4 := g4.h _ _ l3
        cases hf : f z with
        | true =>
          show te σ2 H4 _
          refine c4 hf G4 H4 σ2 g4.s (e3.same g4.g) _ fun v G5 H5 g5 d5 => ?_
          have gg := (g3.trans g4).trans g5
          have o5 := g5.out o4 l4
          have l5 := g5.h _ _ l4
          have len : acc.length = (((l.take i).filter f).map val).length := a7.length
          have len2 : acc.length ≤ l.length := by
            rw [len, List.length_map]
            exact Nat.le_trans (List.length_filter_le _ _) (by rw [List.length_take]; exact Nat.min_le_right _ _)
          refine ⟨acc, l5, Nat.lt_of_le_of_lt (Nat.le_trans len2 hl) (by decide), G5, acc ++ [v], a1.trans gg.g, same_put gg.s o5, fun b o z => ?_, fun a o z => ?_, o5, upd_same, ?_⟩
          · have nb : b ≠ Dl := ne_of_none z nD
            rw [upd_ne nb]
            exact gg.h b o (a3 b o z)
          · rcases gg.n a o z with z | z
            · exact a4 a o z
            · exact .inr (a3.free z)
          · rw [eT, List.filter_append, List.map_append]
            refine (a7.same gg.g).app ?_
            rw [List.filter_cons, if_pos hf]
            exact .one d5
        | false =>
          show ∃ G' acc, _
          have gg := g3.trans g4
          refine ⟨G4, acc, a1.trans gg.g, gg.s, fun b o z => gg.h b o (a3 b o z), fun a o z => ?_, o4, l4, ?_⟩
          · rcases gg.n a o z with z | z
            · exact a4 a o z
            · exact .inr (a3.free z)
          · rw [eT, List.filter_append, List.map_append, List.filter_cons, if_neg (by rw [hf]; decide)]
            simpa using a7.same gg.g
    · rintro H' ⟨G', acc, a1, a2, a3, a4, a5, a6, a7⟩
      rw [List.take_length] at a7
      refine q (.ref Dl) (upd G' Dl (.lst acc)) H' (g1.trans ⟨a1.trans (same_new a5), same_add a2 a6, a3, fun a o z => ?_⟩) (.lst upd_same (a7.same (same_new a5)))
      by_cases ha : a = Dl
      · subst ha
        exact .inr nD
      · rw [upd_ne ha] at z
        exact a4 a o z
/-- without a test -/
theorem ev_lcA {α : Type} {wi : TI} {vs : List Nat} (l : List α) (enc : α → PyData) (val : α → PyData) (hi : ItD wi ds (l.map enc)) (hl : l.length ≤ 100000)
    (hs : ∀ x ∈ l, ∃ pl ds2, TgD g pl (enc x) (wipeD ds vs) ds2 ∧ (∀ i ∈ pl, i ∈ vs) ∧ EvD te ds2 (val x)) : EvD (tLc wi g tYes te vs) ds (.list (l.map val)) := by
  have h := ev_lc (ds := ds) (g := g) (tt := tYes) (te := te) (vs := vs) l enc (fun _ => true) val hi hl fun x hx => by
    obtain ⟨pl, ds2, a, b, c⟩ := hs x hx
    exact ⟨pl, ds2, a, b, eb_yes, fun _ => c⟩
  have e : l.filter (fun _ => true) = l := List.filter_eq_self.mpr fun _ _ => rfl
  rw [e] at h
  exact h
end

/-! ### calls of the program's own defs -/
def SpD (sp : List PyData → PyData → Prop) : Sp := fun vs H Q _ => ∃ (G : Hp) (dl : List PyData) (d : PyData), Same G H ∧ DaAll G vs dl ∧ sp dl d ∧ ∀ v G' H', Grow G H G' H' → Da G' v d → Q v H'
theorem ev_call {sp : List PyData → PyData → Prop} {ds : DE} {tl : TA} {dl : List PyData} {d : PyData} {E : XK} (h : EvA tl ds dl) (hs : sp dl d) : EvD (tCall (SpD sp) [] E tl) ds d := fun G H σ s e Q q =>
  h G H σ s e _ fun vs G1 H1 g1 d1 => ⟨G1, dl, d, g1.s, by rw [List.append_nil]; exact d1, hs, fun v G2 H2 g2 d2 => q v G2 H2 (g1.trans g2) d2⟩
section
variable {P : Program} {w : World} {K : PySem.W.Frag} {mg : Str → Option Value} {base : Heap}
abbrev Cal (P : Program) (w : World) (K : PySem.W.Frag) (mg : Str → Option Value) (base : Heap) (k : Nat) (x : Str) (sp : Sp) : Prop := C8.Cal P w K mg base k x sp []
/-- a def of data: its body's reading takes the data to what sp says -/
theorem cal_pure {x : Str} {st : Stmt} {f : Addr} {fd : FuncData} {N ps : List Str} {k : Nat} {sp : List PyData → PyData → Prop} (F : Fun K x x st f fd) (hm : mg x = some (.ref f)) (b : Binds K fd ps []) (S : FnScope N ps (defScope st)) (hlen : ∀ dl d, sp dl d → dl.length = ps.length)
    (hbody : ∀ (cdv : Value) (A : Around) (outer : List PySem.Env) (s : Shared) (H : Hp) (E : XK), Room k (A.deeper (envOfC x (defScope st) s.heap.objs.size f cdv)) →
      ∃ t, PSs (cxOf CX0 P w K mg base N x (defScope st) f cdv A outer s H E).nox (defBody st) t ∧ ∀ dl d, sp dl d → StD t (startD N dl) (fun _ => d = .none) (fun r => r = d)) : Cal P w K mg base (k + 1) x (SpD sp) := by
  refine ⟨f, fd, ps, [], F.ok S (fun vs H Q E h => ?_) (fun cdv A outer s H vs Q E hr h => ?_), hm, F.kp, b, .nil⟩
  · obtain ⟨G, dl, d, _, a, c, _⟩ := h
    rw [a.length]
    exact hlen dl d c
  · obtain ⟨G, dl, d, s1, a, c, q⟩ := h
    obtain ⟨t, ht, hs⟩ := hbody cdv A outer s H E hr
    refine ⟨t, ht, hs dl d c _ G H _ s1 (.start a) (fun ds' σ' G' H' z g e => ?_) fun d' v G' H' z g dv => ?_⟩
    · subst z
      exact q .non G' H' g .non
    · subst z
      exact q v G' H' g dv
end
end K29
namespace K29
open PySem PySem.Spec PyProof.Rows L2

/-! ### points, segments as data -/
abbrev eI (i : Int) : PyData := .int i
abbrev eP (p : P2) : PyData := .tuple [.int p.1, .int p.2]
abbrev eS (s : Sg) : PyData := .tuple [eP s.1, eP s.2]
theorem eP_lay (p : P2) : (eP p).canLay0 = true := by simp [PyData.canLay0, PyData.canLayAll0]
theorem eS_lay (s : Sg) : (eS s).canLay0 = true := by simp [PyData.canLay0, PyData.canLayAll0]
theorem eP_dep (p : P2) : (eP p).depth = 1 := by simp [PyData.depth, PyData.depthAll]
theorem eS_dep (s : Sg) : (eS s).depth = 2 := by simp [PyData.depth, PyData.depthAll]
theorem lays_of {α : Type} {e : α → PyData} (h : ∀ a, (e a).canLay0 = true) : ∀ l : List α, PyData.canLayAll0 (l.map e) = true
  | [] => by simp [PyData.canLayAll0]
  | a :: l => by simp [PyData.canLayAll0, h a, lays_of h l]
theorem deps_of {α : Type} {e : α → PyData} {n : Nat} (h : ∀ a, (e a).depth ≤ n) : ∀ l : List α, PyData.depthAll (l.map e) ≤ n
  | [] => by simp [PyData.depthAll]
  | a :: l => by
    have h1 := h a
    have h2 := deps_of h l
    simp only [List.map_cons, PyData.depthAll]
    omega
theorem shaped_of {d : PyData} (h1 : d.canLay0 = true) (h2 : d.depth ≤ 60) : SeqAt.shaped d = true := by
  show (d.canLay0 && decide (d.depth ≤ 64)) = true
  rw [h1, Bool.true_and]
  exact decide_eq_true (by omega)
theorem eP_sh (p : P2) : SeqAt.shaped (eP p) = true := shaped_of (eP_lay p) (by rw [eP_dep]; decide)
theorem eS_sh (s : Sg) : SeqAt.shaped (eS s) = true := shaped_of (eS_lay s) (by rw [eS_dep]; decide)
theorem ePs_shL (l : List P2) : SeqAt.shaped (.list (l.map eP)) = true := shaped_of (by simp only [PyData.canLay0]; exact lays_of eP_lay l) (by
  have := deps_of (n := 1) (fun p => Nat.le_of_eq (eP_dep p)) l
  simp only [PyData.depth]
  omega)
theorem eSs_shL (l : List Sg) : SeqAt.shaped (.list (l.map eS)) = true := shaped_of (by simp only [PyData.canLay0]; exact lays_of eS_lay l) (by
  have := deps_of (n := 2) (fun p => Nat.le_of_eq (eS_dep p)) l
  simp only [PyData.depth]
  omega)
theorem ePs_shT (l : List P2) : SeqAt.shaped (.tuple (l.map eP)) = true := shaped_of (by simp only [PyData.canLay0]; exact lays_of eP_lay l) (by
  have := deps_of (n := 1) (fun p => Nat.le_of_eq (eP_dep p)) l
  simp only [PyData.depth]
  omega)
theorem eP_eqv (p q : P2) : PyData.eqv (eP p) (eP q) = decide (p = q) := by
  obtain ⟨a, b⟩ := p
  obtain ⟨c, d⟩ := q
  have e : PyData.eqv (eP (a, b)) (eP (c, d)) = ((a == c) && ((b == d) && true)) := by simp only [PyData.eqv, PyData.eqvAll]
  rw [e]
  by_cases h1 : a = c <;> by_cases h2 : b = d <;> simp [h1, h2]
theorem eS_eqv (s t : Sg) : PyData.eqv (eS s) (eS t) = decide (s = t) := by
  obtain ⟨a, b⟩ := s
  obtain ⟨c, d⟩ := t
  have e : PyData.eqv (eS (a, b)) (eS (c, d)) = (PyData.eqv (eP a) (eP c) && (PyData.eqv (eP b) (eP d) && true)) := by simp only [PyData.eqv, PyData.eqvAll]
  rw [e, eP_eqv, eP_eqv]
  by_cases h1 : a = c <;> by_cases h2 : b = d <;> simp [h1, h2]
theorem any_eqv {α : Type} [DecidableEq α] {e : α → PyData} (h : ∀ a b, PyData.eqv (e a) (e b) = decide (a = b)) (x : α) : ∀ l : List α, ((l.map e).any fun z => PyData.eqv z (e x)) = decide (x ∈ l)
  | [] => by simp
  | a :: l => by
    rw [List.map_cons, List.any_cons, h, any_eqv h x l]
    by_cases e1 : a = x
    · simp [e1]
    · have : ¬ x = a := fun z => e1 z.symm
      simp [e1, this]

theorem dec_eq {p : Prop} (a b : Decidable p) : @decide p a = @decide p b := by
  cases a <;> cases b <;> first | rfl | contradiction
theorem any_eqvP (p : P2) (l : List P2) : ((l.map eP).any fun z => PyData.eqv z (eP p)) = decide (p ∈ l) := (any_eqv eP_eqv p l).trans (dec_eq _ _)
theorem any_eqvS (p : Sg) (l : List Sg) : ((l.map eS).any fun z => PyData.eqv z (eS p)) = decide (p ∈ l) := (any_eqv eS_eqv p l).trans (dec_eq _ _)
/-! ### a tuple as the container -/
def rInT (K : PySem.W.Frag) : R2 := fun x y H Q => ∃ d ds, Dp K H x d ∧ Dp K H y (.tuple ds) ∧ SeqAt.shaped d = true ∧ SeqAt.shaped (.tuple ds) = true ∧ Q (.bl (ds.any fun z => PyData.eqv z d)) H
def rNotInT (K : PySem.W.Frag) : R2 := fun x y H Q => ∃ d ds, Dp K H x d ∧ Dp K H y (.tuple ds) ∧ SeqAt.shaped d = true ∧ SeqAt.shaped (.tuple ds) = true ∧ Q (.bl (!ds.any fun z => PyData.eqv z d)) H
section
variable {X : Cx}
theorem op_inT (hu : X.A.units + 65 < cLine) : OpR X (compareOp .In) (rInT X.K) := by
  rintro pins s σ H x y v u Q I rx ry ⟨d, ds, hd, he, sd, se, q⟩
  have r1 := Dp.reads I d x v hd rx
  have r2 := Dp.reads I (.tuple ds) y u he ry
  have l2 : PyData.canLayAll0 ds = true := SeqAt.canLay_of_shaped se
  exact SeqAt.in_tuple_reads r2.choose_spec r1.choose_spec l2 (SeqAt.canLay_of_shaped sd) (room_in_shaped sd hu) ⟨.bl _, H, I, rfl, q⟩
theorem op_notInT (hu : X.A.units + 65 < cLine) : OpR X (compareOp .NotIn) (rNotInT X.K) := by
  rintro pins s σ H x y v u Q I rx ry ⟨d, ds, hd, he, sd, se, q⟩
  have r1 := Dp.reads I d x v hd rx
  have r2 := Dp.reads I (.tuple ds) y u he ry
  have l2 : PyData.canLayAll0 ds = true := SeqAt.canLay_of_shaped se
  exact SeqAt.notIn_tuple_reads r2.choose_spec r1.choose_spec l2 (SeqAt.canLay_of_shaped sd) (room_in_shaped sd hu) ⟨.bl _, H, I, rfl, q⟩
end
theorem u65 {k : Nat} {A : Around} (hr : Room k A) : A.units + 65 < cLine := by
  have := hr.un
  omega

section
variable {K : PySem.W.Frag} {ds : DE} {d e : PyData} {ta tb tc te : TE} {tl : TA} {i j : Int} {p q : P2}
theorem ro_is {r : R2} {a b d d' : PyData} (h : RoD r a b d) (q : d = d') : RoD r a b d' := by
  rw [← q]
  exact h
theorem ro_inPL {l : List P2} : RoD (rInD K) (eP p) (.list (l.map eP)) (.bool (decide (p ∈ l))) := ro_is (ro_inD (eP_sh p) (ePs_shL l)) (congrArg PyData.bool (any_eqvP p l))
theorem ro_niPL {l : List P2} : RoD (rNotInD K) (eP p) (.list (l.map eP)) (.bool (!decide (p ∈ l))) := ro_is (ro_notInD (eP_sh p) (ePs_shL l)) (congrArg (fun b => PyData.bool (!b)) (any_eqvP p l))
theorem ro_niSL {s : Sg} {l : List Sg} : RoD (rNotInD K) (eS s) (.list (l.map eS)) (.bool (!decide (s ∈ l))) := ro_is (ro_notInD (eS_sh s) (eSs_shL l)) (congrArg (fun b => PyData.bool (!b)) (any_eqvS s l))
theorem ro_inTup {xs : List PyData} (h1 : SeqAt.shaped d = true) (h2 : SeqAt.shaped (.tuple xs) = true) : RoD (rInT K) d (.tuple xs) (.bool (xs.any fun z => PyData.eqv z d)) := fun G H x y s d1 d2 Q q =>
  ⟨d, xs, (d1.same s).dp, (d2.same s).dp, h1, h2, q _ G H (.refl s) (.bl _)⟩
theorem ro_niTup {xs : List PyData} (h1 : SeqAt.shaped d = true) (h2 : SeqAt.shaped (.tuple xs) = true) : RoD (rNotInT K) d (.tuple xs) (.bool (!xs.any fun z => PyData.eqv z d)) := fun G H x y s d1 d2 Q q =>
  ⟨d, xs, (d1.same s).dp, (d2.same s).dp, h1, h2, q _ G H (.refl s) (.bl _)⟩
theorem ro_inPT {l : List P2} : RoD (rInT K) (eP p) (.tuple (l.map eP)) (.bool (decide (p ∈ l))) := ro_is (ro_inTup (eP_sh p) (ePs_shT l)) (congrArg PyData.bool (any_eqvP p l))
theorem ro_niPT {l : List P2} : RoD (rNotInT K) (eP p) (.tuple (l.map eP)) (.bool (!decide (p ∈ l))) := ro_is (ro_niTup (eP_sh p) (ePs_shT l)) (congrArg (fun b => PyData.bool (!b)) (any_eqvP p l))
/-- p not in a segment -/
theorem ro_niPS {s : Sg} : RoD (rNotInT K) (eP p) (eS s) (.bool (!decide (p = s.1 ∨ p = s.2))) := by
  have h := ro_niPT (K := K) (p := p) (l := [s.1, s.2])
  have e1 : decide (p ∈ [s.1, s.2]) = decide (p = s.1 ∨ p = s.2) := by simp
  rw [e1] at h
  exact h
theorem ro_eqP : RoD (rEqD K) (eP p) (eP q) (.bool (decide (p = q))) := ro_is (ro_eqD (eP_sh p) (eP_sh q)) (congrArg PyData.bool (eP_eqv p q))
theorem ro_neP : RoD (rNeD K) (eP p) (eP q) (.bool (!decide (p = q))) := ro_is (ro_neD (eP_sh p) (eP_sh q)) (congrArg (fun b => PyData.bool (!b)) (eP_eqv p q))
theorem ro_nePs {l m : List P2} : RoD (rNeD K) (.list (l.map eP)) (.list (m.map eP)) (.bool (!PyData.eqv (.list (l.map eP)) (.list (m.map eP)))) := ro_neD (ePs_shL l) (ePs_shL m)
theorem lexLt2 {a b c e : Int} : HT.lexLt [a, b] [c, e] = ltP (a, b) (c, e) := by
  show (if a = c then (if b = e then false else decide (b < e)) else decide (a < c)) = if a = c then decide (b < e) else decide (a < c)
  by_cases h1 : a = c
  · rw [if_pos h1, if_pos h1]
    by_cases h2 : b = e
    · rw [if_pos h2, h2, decide_eq_false (Int.lt_irrefl _)]
    · rw [if_neg h2]
  · rw [if_neg h1, if_neg h1]
theorem ro_ltP : RoD (rLtT K) (eP p) (eP q) (.bool (ltP p q)) := fun G H x y s h1 h2 Q k => by
  obtain ⟨a, vs, rfl, ha, hd⟩ := h1.tupE
  obtain ⟨b, ws, rfl, hb, he⟩ := h2.tupE
  have e1 : vs = [p.1, p.2].map V.int := DaAll.ints (ns := [p.1, p.2]) hd
  have e2 : ws = [q.1, q.2].map V.int := DaAll.ints (ns := [q.1, q.2]) he
  subst e1 e2
  refine ⟨a, b, _, _, rfl, rfl, .of (s _ _ ha), .of (s _ _ hb), ?_⟩
  rw [lexLt2]
  exact k _ G H (.refl s) (.bl _)
theorem lexAt2 {a b c e : Int} : Ob.lexAt (fun j => decide ([a, b].getD j 0 = [c, e].getD j 0)) (fun j => decide ([a, b].getD j 0 ≤ [c, e].getD j 0)) (decide ([a, b].length ≤ [c, e].length)) 0 (min [a, b].length [c, e].length) = !ltP (c, e) (a, b) := by
  show (if decide (a = c) = true then (if decide (b = e) = true then true else decide (b ≤ e)) else decide (a ≤ c)) = !(if c = a then decide (e < b) else decide (c < a))
  by_cases h1 : a = c
  · rw [if_pos (decide_eq_true h1), if_pos h1.symm]
    by_cases h2 : b = e
    · rw [if_pos (decide_eq_true h2), h2, decide_eq_false (Int.lt_irrefl _)]
      rfl
    · rw [if_neg (by simpa using h2)]
      by_cases h3 : e < b
      · rw [decide_eq_true h3, decide_eq_false (by omega)]
        rfl
      · rw [decide_eq_false h3, decide_eq_true (by omega)]
        rfl
  · rw [if_neg (by simpa using h1), if_neg (fun z => h1 z.symm)]
    by_cases h3 : c < a
    · rw [decide_eq_true h3, decide_eq_false (by omega)]
      rfl
    · rw [decide_eq_false h3, decide_eq_true (by omega)]
      rfl
theorem ro_leP : RoD (rLeT K) (eP p) (eP q) (.bool (!ltP q p)) := fun G H x y s h1 h2 Q k => by
  obtain ⟨a, vs, rfl, ha, hd⟩ := h1.tupE
  obtain ⟨b, ws, rfl, hb, he⟩ := h2.tupE
  have e1 : vs = [p.1, p.2].map V.int := DaAll.ints (ns := [p.1, p.2]) hd
  have e2 : ws = [q.1, q.2].map V.int := DaAll.ints (ns := [q.1, q.2]) he
  subst e1 e2
  refine ⟨a, b, _, _, rfl, rfl, .of (s _ _ ha), .of (s _ _ hb), ?_⟩
  rw [lexAt2]
  exact k _ G H (.refl s) (.bl _)
/-! items of pairs -/
theorem at0 {x y : PyData} : atG [x, y] 0 = some x := rfl
theorem at1 {x y : PyData} : atG [x, y] 1 = some y := rfl
theorem ev_fst {x y : PyData} (h : EvD te ds (.tuple [x, y])) : EvD (tOp (rIxT K) te (tC (.int 0))) ds x := ev_op h ev_cint (ro_ixT at0)
theorem ev_snd {x y : PyData} (h : EvD te ds (.tuple [x, y])) : EvD (tOp (rIxT K) te (tC (.int 1))) ds y := ev_op h ev_cint (ro_ixT at1)
theorem ev_pair {x y : PyData} (h1 : EvD ta ds x) (h2 : EvD tb ds y) : EvD (tTup (tCons ta (tCons tb tNil))) ds (.tuple [x, y]) := ev_tup (ea_cons h1 (ea_cons h2 ea_nil)) (by simp)

/-! ### built-in calls -/
theorem rc_lenL {xs : List PyData} : RcD (fun ys H Q => ∃ p zs, ys = [.ref p] ∧ (SqL K H p zs ∨ SqT K H p zs) ∧ Q (.int zs.length) H) [.list xs] (.int (xs.length : Int)) := fun G H vs s h Q q => by
  obtain ⟨v, rfl, h1⟩ := h.oneE
  obtain ⟨a, ws, rfl, ha, hd⟩ := h1.lstE
  refine ⟨a, ws, rfl, .inl (.of (s _ _ ha)), ?_⟩
  rw [hd.length]
  exact q _ G H (.refl s) (.int _)
theorem rc_lenT {xs : List PyData} : RcD (fun ys H Q => ∃ p zs, ys = [.ref p] ∧ (SqL K H p zs ∨ SqT K H p zs) ∧ Q (.int zs.length) H) [.tuple xs] (.int (xs.length : Int)) := fun G H vs s h Q q => by
  obtain ⟨v, rfl, h1⟩ := h.oneE
  obtain ⟨a, ws, rfl, ha, hd⟩ := h1.tupE
  refine ⟨a, ws, rfl, .inr (.of (s _ _ ha)), ?_⟩
  rw [hd.length]
  exact q _ G H (.refl s) (.int _)

theorem rc_min2 : RcD (fun xs H Q => ∃ i j, xs = [.int i, .int j] ∧ Q (.int (if j < i then j else i)) H) [.int i, .int j] (.int (mn i j)) := fun G H vs s h Q q => by
  obtain ⟨v, w, rfl, h1, h2⟩ := h.twoE
  exact ⟨i, j, by rw [h1.intE, h2.intE], q _ G H (.refl s) (.int _)⟩
theorem rc_max2 : RcD (fun xs H Q => ∃ i j, xs = [.int i, .int j] ∧ Q (.int (if j > i then j else i)) H) [.int i, .int j] (.int (mx i j)) := fun G H vs s h Q q => by
  obtain ⟨v, w, rfl, h1, h2⟩ := h.twoE
  exact ⟨i, j, by rw [h1.intE, h2.intE], q _ G H (.refl s) (.int _)⟩
theorem rc_abs : RcD (fun xs H Q => ∃ i, xs = [.int i] ∧ Q (.int (if i < 0 then -i else i)) H) [.int i] (.int (if i < 0 then -i else i)) := fun G H vs s h Q q => by
  obtain ⟨v, rfl, h1⟩ := h.oneE
  exact ⟨i, by rw [h1.intE], q _ G H (.refl s) (.int _)⟩
theorem rc_intI : RcD (fun xs H Q => (∃ i, xs = [.int i] ∧ Q (.int i) H) ∨ ∃ k, xs = [.bl k] ∧ Q (.int (if k then 1 else 0)) H) [.int i] (.int i) := fun G H vs s h Q q => by
  obtain ⟨v, rfl, h1⟩ := h.oneE
  exact .inl ⟨i, by rw [h1.intE], q _ G H (.refl s) (.int _)⟩
theorem rc_intB {k : Bool} : RcD (fun xs H Q => (∃ i, xs = [.int i] ∧ Q (.int i) H) ∨ ∃ k, xs = [.bl k] ∧ Q (.int (if k then 1 else 0)) H) [.bool k] (.int (if k then 1 else 0)) := fun G H vs s h Q q => by
  obtain ⟨v, rfl, h1⟩ := h.oneE
  refine .inr ⟨k, by rw [h1.blE], ?_⟩
  exact q _ G H (.refl s) (.int _)
theorem rc_sum {ns : List Int} : RcD (rSum K) [.list (ns.map eI)] (.int ns.sum) := fun G H vs s h Q q => by
  obtain ⟨v, rfl, h1⟩ := h.oneE
  obtain ⟨a, ws, rfl, ha, hd⟩ := h1.lstE
  rw [hd.ints] at ha
  exact ⟨a, ns, rfl, .of (s _ _ ha), q _ G H (.refl s) (.int _)⟩
theorem rc_any {bs : List Bool} : RcD (rAny K) [.list (bs.map .bool)] (.bool (bs.any id)) := fun G H vs s h Q q => by
  obtain ⟨v, rfl, h1⟩ := h.oneE
  obtain ⟨a, ws, rfl, ha, hd⟩ := h1.lstE
  rw [hd.bls] at ha
  exact ⟨a, bs, rfl, .of (s _ _ ha), q _ G H (.refl s) (.bl _)⟩
theorem rc_all {bs : List Bool} : RcD (rAll K) [.list (bs.map .bool)] (.bool (bs.all id)) := fun G H vs s h Q q => by
  obtain ⟨v, rfl, h1⟩ := h.oneE
  obtain ⟨a, ws, rfl, ha, hd⟩ := h1.lstE
  rw [hd.bls] at ha
  exact ⟨a, bs, rfl, .of (s _ _ ha), q _ G H (.refl s) (.bl _)⟩
/-- all, any of a list of answers -/
theorem ev_allM {α : Type} {l : List α} {f : α → Bool} (h : EvD te ds (.list (l.map fun x => .bool (f x)))) : EvD (tCB (rAll K) (tCons te tNil)) ds (.bool (l.all f)) := by
  have e1 : l.map (fun x => PyData.bool (f x)) = (l.map f).map .bool := by rw [List.map_map]; rfl
  have e2 : l.all f = (l.map f).all id := by rw [List.all_map]; rfl
  rw [e1] at h
  rw [e2]
  exact ev_cb (ea_cons h ea_nil) rc_all
theorem ev_anyM {α : Type} {l : List α} {f : α → Bool} (h : EvD te ds (.list (l.map fun x => .bool (f x)))) : EvD (tCB (rAny K) (tCons te tNil)) ds (.bool (l.any f)) := by
  have e1 : l.map (fun x => PyData.bool (f x)) = (l.map f).map .bool := by rw [List.map_map]; rfl
  have e2 : l.any f = (l.map f).any id := by rw [List.any_map]; rfl
  rw [e1] at h
  rw [e2]
  exact ev_cb (ea_cons h ea_nil) rc_any
theorem rc_boolL {xs : List PyData} : RcD (fun vs H Q => ∃ (a : Addr) (zs : List V), vs = [.ref a] ∧ SqL K H a zs ∧ Q (.bl (!zs.isEmpty)) H) [.list xs] (.bool (!xs.isEmpty)) := fun G H vs s h Q q => by
  obtain ⟨v, rfl, h1⟩ := h.oneE
  obtain ⟨a, ws, rfl, ha, hd⟩ := h1.lstE
  refine ⟨a, ws, rfl, .of (s _ _ ha), ?_⟩
  have e1 : ws.isEmpty = xs.isEmpty := by
    have := hd.length
    cases ws <;> cases xs <;> simp_all
  rw [e1]
  exact q _ G H (.refl s) (.bl _)
theorem ev_orT {xs ys : List PyData} (ha : EvD ta ds (.list xs)) (hb : EvD tb ds (.list ys)) : EvD (tOrT K ta tb) ds (.list (if xs.isEmpty then ys else xs)) := fun G H σ s e Q q => ha G H σ s e _ fun v G1 H1 g1 d1 => by
  have d1' := d1
  obtain ⟨a, ws, rfl, ha, hd⟩ := d1.lstE
  refine ⟨!ws.isEmpty, .inl ⟨ws, .of (g1.s _ _ ha), rfl⟩, ?_⟩
  have e1 : ws.isEmpty = xs.isEmpty := by
    have := hd.length
    cases ws <;> cases xs <;> simp_all
  rw [e1]
  cases hx : xs.isEmpty with
  | true =>
    show tb σ H1 Q
    exact hb G1 H1 σ g1.s (e.same g1.g) _ fun v G2 H2 g2 d2 => q v G2 H2 (g1.trans g2) (by rw [hx]; exact d2)
  | false =>
    show Q _ H1
    exact q _ G1 H1 g1 (by rw [hx]; exact d1')
theorem rc_tupL {xs : List PyData} : RcD (fun vs H Q => ∃ p ys, vs = [.ref p] ∧ ((SqL K H p ys ∧ ∀ l, H l = none → Q (.ref l) (upd H l (.tup ys))) ∨ (SqT K H p ys ∧ Q (.ref p) H))) [.list xs] (.tuple xs) := fun G H vs s h Q q => by
  obtain ⟨v, rfl, h1⟩ := h.oneE
  obtain ⟨a, ws, rfl, ha, hd⟩ := h1.lstE
  refine ⟨a, ws, rfl, .inl ⟨.of (s _ _ ha), fun l hl => ?_⟩⟩
  have g := Grow.new (o := .tup ws) s hl
  exact q _ _ _ g (.tup upd_same (hd.same g.g))
theorem rc_lstT {xs : List PyData} : RcD (fun vs H Q => ∃ p ys, vs = [.ref p] ∧ (SqL K H p ys ∨ SqT K H p ys) ∧ ∀ l, H l = none → Q (.ref l) (upd H l (.lst ys))) [.tuple xs] (.list xs) := fun G H vs s h Q q => by
  obtain ⟨v, rfl, h1⟩ := h.oneE
  obtain ⟨a, ws, rfl, ha, hd⟩ := h1.tupE
  refine ⟨a, ws, rfl, .inr (.of (s _ _ ha)), fun l hl => ?_⟩
  have g := Grow.new (o := .lst ws) s hl
  exact q _ _ _ g (.lst upd_same (hd.same g.g))
/-! isinstance -/
inductive TyD : PyData → String → Prop
  | int (i : Int) : TyD (.int i) "int"
  | lst (l : List PyData) : TyD (.list l) "list"
  | tup (l : List PyData) : TyD (.tuple l) "tuple"
theorem TyD.x {G H : Hp} {v : V} {d : PyData} {T : String} (t : TyD d T) (s : Same G H) (h : Da G v d) : TyX K H v (.type T) := by
  cases t with
  | int i => rw [h.intE]; exact .base (.int i)
  | lst l =>
    obtain ⟨a, ws, rfl, ha, _⟩ := h.lstE
    exact .base (.lst (s _ _ ha))
  | tup l =>
    obtain ⟨a, ws, rfl, ha, _⟩ := h.tupE
    exact .base (.tup (s _ _ ha))
theorem ev_isi {T n : String} {b : Bool} (h : EvD te ds d) (t : TyD d T) (k : kitB T n = some b) : EvD (tCB (rIsi K) (tCons te (tCons (tC (.ty n)) tNil))) ds (.bool b) := fun G H σ s e Q q =>
  h G H σ s e _ fun v G1 H1 g1 d1 => ⟨v, .ty n, _, _, b, rfl, .ty n, t.x g1.s d1, kit_ty k, q _ G1 H1 g1 (.bl b)⟩
/-! sorted of pairs -/
def kP (G : Hp) (v : V) : Int × Int := match v with
  | .ref a => (match G a with
    | some (.tup [.int i, .int j]) => (i, j)
    | _ => (0, 0))
  | _ => (0, 0)
theorem kP_is {G : Hp} {v : V} {p : P2} (h : Da G v (eP p)) : kP G v = p ∧ ∃ t, v = .ref t ∧ G t = some (.tup [.int p.1, .int p.2]) := by
  obtain ⟨a, ws, rfl, ha, hd⟩ := h.tupE
  have e1 : ws = [p.1, p.2].map V.int := DaAll.ints (ns := [p.1, p.2]) hd
  subst e1
  refine ⟨?_, a, rfl, ha⟩
  show (match G a with
    | some (.tup [.int i, .int j]) => (i, j)
    | _ => (0, 0)) = p
  rw [ha]
  rfl
theorem daAll_of {α : Type} {G : Hp} {enc : α → PyData} {f : V → α} : ∀ {vs : List V}, (∀ v ∈ vs, Da G v (enc (f v))) → DaAll G vs ((vs.map f).map enc)
  | [], _ => .nil
  | v :: vs, h => .cons (h v List.mem_cons_self) (daAll_of fun w hw => h w (List.mem_cons_of_mem _ hw))
theorem DaAll.mem {G : Hp} {vs : List V} {l : List PyData} (h : DaAll G vs l) {v : V} (hv : v ∈ vs) : ∃ d ∈ l, Da G v d := by
  obtain ⟨i, hi, rfl⟩ := List.mem_iff_getElem.mp hv
  obtain ⟨d, h1, h2⟩ := h.at (List.getElem?_eq_getElem hi)
  exact ⟨d, List.mem_of_getElem? h1, h2⟩
theorem map_of {α : Type} {G : Hp} {enc : α → PyData} {f : V → α} (hf : ∀ v a, Da G v (enc a) → f v = a) : ∀ {l : List α} {vs : List V}, DaAll G vs (l.map enc) → vs.map f = l
  | [], _, h => by rw [h.nilE]; rfl
  | a :: l, _, h => by
    obtain ⟨v, ws, rfl, h1, h2⟩ := h.consE
    rw [List.map_cons, hf v a h1, map_of hf h2]
theorem ltP_lexB : ltP p q = SrtO.lexB p q := rfl
theorem rc_sortP {l : List P2} : RcD (rSortedPO K) [.list (l.map eP)] (.list ((srtP l).map eP)) := fun G H vs s h Q q => by
  obtain ⟨v, rfl, h1⟩ := h.oneE
  obtain ⟨a, ws, rfl, ha, hd⟩ := h1.lstE
  have hk : ∀ v ∈ ws, Da G v (eP (kP G v)) := fun v hv => by
    obtain ⟨d, hd1, hd2⟩ := hd.mem hv
    obtain ⟨p, _, rfl⟩ := List.mem_map.mp hd1
    rw [(kP_is hd2).1]
    exact hd2
  have hm : ws.map (kP G) = l := map_of (fun v a h => (kP_is h).1) hd
  refine ⟨a, ws, kP G, rfl, .of (s _ _ ha), fun x hx => ?_, fun ys n h1 h2 hn => ?_⟩
  · obtain ⟨t, e1, e2⟩ := (kP_is (hk x hx)).2
    exact ⟨t, e1, s _ _ e2⟩
  · have g := Grow.new (o := .lst ys) s hn
    refine q _ _ _ g (.lst upd_same ?_)
    have e1 : ys.map (kP G) = srtP l := by
      rw [← hm]
      exact srtP_uniq (SrtO.srtd_map (lt := ltP) (f := kP G) h1) (h2.perm.map _)
    rw [← e1]
    exact daAll_of fun v hv => (hk v (h2.perm.mem_iff.mp hv)).same g.g
end
end K29
namespace K29
open PySem PySem.Spec PyProof.Rows L2
/-- x op y, wherever TT holds of the heap -/
def CmpH (prog : Program) (w : World) (A : Around) (op : CmpOp) (TT : Heap → Prop) (P : Nat → Value → Prop) (bt : Nat → Nat → Bool) : Prop :=
  ∀ i j vi vj (st : Shared) (Q E : Value → Shared → Prop), TT st.heap → P i vi → P j vj → Q (.bool (bt i j)) st → wpAny (model prog w) A (richCompare op vi vj) Q E st
def Stays (wr : List Addr) (Z : Addr) (TT : Heap → Prop) : Prop := ∀ h h' : Heap, TT h → (∀ b o, b ∉ wr → b ≠ Z → h.get? b = some o → h'.get? b = some o) → TT h'
def Old (h0 h : Heap) : Prop := ∀ b o, h0.get? b = some o → h.get? b = some o
abbrev bestObj (xs : Array Value) (c : Nat) : Obj := { cls := .type "list", dict := none, data := .seq xs c, slots := #[] }
/-- a built-in's first step has ended: it hands back, or goes on with a quiet one that hands back -/
def FinEnd (prog : Program) (w : World) (A : Around) (Q E : Value → Shared → Prop) (fin : PySem.Fin) (s' : Shared) : Prop := match fin with
  | .done f => (match (Except.ok f : Result) with
    | .ok (.ret v) => Q v s'
    | .ok _ => False
    | .error e => E e s')
  | .again c' => c'.quiet = true ∧ codeAny (model prog w) A c' (fun r s' => match r with
    | .ok (.ret v) => Q v s'
    | .ok _ => False
    | .error e => E e s') s'
section
variable {prog : Program} {w : World} {A : Around} {R : Result → Shared → Prop} {I : Addr} {fp wr : List Addr} {n : Nat} {P : Nat → Value → Prop} {St : Nat → Heap → Prop} {TT : Heap → Prop}

/-! ### min over items that compare as bt says wherever TT holds -/
theorem loop_min (W : Walks prog w A.in1 I fp wr n P St) (bt : Nat → Nat → Bool) (hcmp : CmpH prog w A.in1 .Lt TT P bt) (Z : Addr) (hZ : Z ∉ fp) (hT : Stays wr Z TT) :
    ∀ (k j : Nat) (st : Shared) (vb : Value) (c : Nat), n - (j + 1) = k → j + 1 ≤ n → St (j + 1) st.heap → TT st.heap → P (argBest bt j) vb →
      st.heap.get? Z = some (bestObj #[vb, vb] c) →
      (∀ v h' tk, P (argBest bt (n - 1)) v → (∀ b o, b ∉ wr → b ≠ Z → st.heap.get? b = some o → h'.get? b = some o) → R (.ok (.ret v)) { st with heap := h', toks := tk }) →
      codeAny (model prog w) A (.builtin "min.loop" ⟨[.ref I, .none, .ref Z], []⟩) R st := by
  have hZw : Z ∉ wr := fun q => hZ (W.sub _ q)
  have nm : (toString "min" ++ toString ".loop" : String) = "min.loop" := by decide
  intro k
  induction k with
  | zero =>
    intro j st vb c hk hj hst hTT hPb hbest hR
    have hin : j + 1 = n := by omega
    refine codeAny_builtin F.entry_min_loop ?_
    rw [Around.under_plainId F.plain_min_loop _]
    show wpAny _ (A.in1) (seqItems? (.ref Z) >>= _) _ _ st
    refine wpAny_bind (wpAny_seqItems hbest rfl ?_)
    show wpAny _ (A.in1) (tryCatch (pyNext (.ref I)) _ >>= _) _ _ st
    refine wpAny_bind (wpAny_tryCatch (W.done st _ _ (hin ▸ hst) fun h1 tk kept => ?_))
    have best1 := kept Z _ hZw hbest
    show wpAny _ (A.in1) (updateSeq Z (fun _ => #[]) >>= _) _ _ _
    refine wpAny_bind (wpAny_updateSeq best1 rfl (wpAny_bind (wpAny_letGo (wpAny_pure ?_))))
    exact hR vb _ tk (hin ▸ hPb) fun b o nw nZ e => (Heap.get?_update_other _ _ (Ne.symm nZ)).trans (kept b o nw e)
  | succ k ih =>
    intro j st vb c hk hj hst hTT hPb hbest hR
    have hlt : j + 1 < n := by omega
    refine codeAny_builtin F.entry_min_loop ?_
    rw [Around.under_plainId F.plain_min_loop _]
    show wpAny _ (A.in1) (seqItems? (.ref Z) >>= _) _ _ st
    refine wpAny_bind (wpAny_seqItems hbest rfl ?_)
    show wpAny _ (A.in1) (tryCatch (pyNext (.ref I)) _ >>= _) _ _ st
    refine wpAny_bind (wpAny_tryCatch (W.item (j + 1) st _ _ hlt hst fun v h1 tk hPv hst1 kept => ?_))
    have best1 := kept Z _ hZw hbest
    have TT1 : TT h1 := hT st.heap h1 hTT fun b o nw _ e => kept b o nw e
    show wpAny _ (A.in1) (tryCatch (holding [v, v] (richCompare .Lt v vb >>= _)) _ >>= _) _ _ _
    refine wpAny_bind (wpAny_tryCatch (wpAny_holding (wpAny_bind (hcmp (j + 1) (argBest bt j) v vb { st with heap := h1, toks := tk } _ _ TT1 hPv hPb ?_))))
    refine wpAny_bind (wpAny_holding (wpAny_truthy_bool ?_))
    refine wpAny_bind (wpAny_letGo (wpAny_pure ?_))
    cases hb : bt (j + 1) (argBest bt j) with
    | true =>
      simp only [if_true]
      refine wpAny_bind (wpAny_updateSeq best1 rfl (wpAny_bind (wpAny_letGo ?_)))
      rw [nm]
      have eb : argBest bt (j + 1) = j + 1 := by
        show (if bt (j + 1) (argBest bt j) = true then j + 1 else argBest bt j) = j + 1
        rw [hb, if_pos rfl]
      refine wpAny_pure ⟨plainId_quiet F.plain_min_loop _, ih (j + 1) _ v _ (by omega) hlt (W.frame _ _ _ hst1 fun b hf o e => ?_) (hT h1 _ TT1 fun b o _ nZ e => (Heap.get?_update_other _ _ (Ne.symm nZ)).trans e) (by rw [eb]; exact hPv)
        (Heap.get?_update_self _ best1 rfl) fun v2 h2 tk2 hP2 kept2 => ?_⟩
      · exact (Heap.get?_update_other _ _ (fun q : Z = b => hZ (q ▸ hf))).trans e
      · exact hR v2 h2 tk2 hP2 fun b o nw nZ e => kept2 b o nw nZ ((Heap.get?_update_other _ _ (Ne.symm nZ)).trans (kept b o nw e))
    | false =>
      simp only [Bool.false_eq_true, if_false]
      refine wpAny_bind (wpAny_letGo ?_)
      rw [nm]
      have eb : argBest bt (j + 1) = argBest bt j := by
        show (if bt (j + 1) (argBest bt j) = true then j + 1 else argBest bt j) = argBest bt j
        rw [hb, if_neg (by decide)]
      refine wpAny_pure ⟨plainId_quiet F.plain_min_loop _, ih (j + 1) _ vb c (by omega) hlt hst1 TT1 (by rw [eb]; exact hPb) best1 fun v2 h2 tk2 hP2 kept2 => ?_⟩
      exact hR v2 h2 tk2 hP2 fun b o nw nZ e => kept2 b o nw nZ (kept b o nw e)

theorem first_min (W : Walks prog w A.in1 I fp wr n P St) (bt : Nat → Nat → Bool) (hcmp : CmpH prog w A.in1 .Lt TT P bt) (Z : Addr) (hZ : Z ∉ fp) (hT : Stays wr Z TT) (hn : 0 < n) {st : Shared} {c : Nat} (hst : St 0 st.heap) (hTT : TT st.heap)
    (hbest : st.heap.get? Z = some (bestObj #[] c))
    (hR : ∀ v h' tk, P (argBest bt (n - 1)) v → (∀ b o, b ∉ wr → b ≠ Z → st.heap.get? b = some o → h'.get? b = some o) → R (.ok (.ret v)) { st with heap := h', toks := tk }) :
    codeAny (model prog w) A (.builtin "min.loop" ⟨[.ref I, .none, .ref Z], []⟩) R st := by
  have hZw : Z ∉ wr := fun q => hZ (W.sub _ q)
  have nm : (toString "min" ++ toString ".loop" : String) = "min.loop" := by decide
  refine codeAny_builtin F.entry_min_loop ?_
  rw [Around.under_plainId F.plain_min_loop _]
  show wpAny _ (A.in1) (seqItems? (.ref Z) >>= _) _ _ st
  refine wpAny_bind (wpAny_seqItems hbest rfl ?_)
  show wpAny _ (A.in1) (tryCatch (pyNext (.ref I)) _ >>= _) _ _ st
  refine wpAny_bind (wpAny_tryCatch (W.item 0 st _ _ hn hst fun v h1 tk hPv hst1 kept => ?_))
  have best1 := kept Z _ hZw hbest
  have TT1 : TT h1 := hT st.heap h1 hTT fun b o nw _ e => kept b o nw e
  show wpAny _ (A.in1) (updateSeq Z (fun _ => #[v, v]) >>= _) _ _ _
  refine wpAny_bind (wpAny_updateSeq best1 rfl ?_)
  rw [nm]
  refine wpAny_pure ⟨plainId_quiet F.plain_min_loop _, loop_min W bt hcmp Z hZ hT _ 0 _ v _ rfl hn (W.frame _ _ _ hst1 fun b hf o e => ?_) (hT h1 _ TT1 fun b o _ nZ e => (Heap.get?_update_other _ _ (Ne.symm nZ)).trans e) hPv
    (Heap.get?_update_self _ best1 rfl) fun v2 h2 tk2 hP2 kept2 => ?_⟩
  · exact (Heap.get?_update_other _ _ (fun q : Z = b => hZ (q ▸ hf))).trans e
  · exact hR v2 h2 tk2 hP2 fun b o nw nZ e => kept2 b o nw nZ ((Heap.get?_update_other _ _ (Ne.symm nZ)).trans (kept b o nw e))

/-- what is known of the iterator, ahead of the loop -/
def Ready_min (prog : Program) (w : World) (A : Around) (s : Shared) (Q : Value → Shared → Prop) (it : Value) (s2 : Shared) : Prop :=
  ∃ I fp wr n P St bt, it = .ref I ∧ Walks prog w A.in1 I fp wr n P St ∧ St 0 s2.heap ∧ (∀ b ∈ fp, b < s2.heap.objs.size) ∧ (∀ b o, s.heap.get? b = some o → s2.heap.get? b = some o) ∧ (∀ b ∈ wr, s.heap.get? b = none) ∧ 0 < n ∧
    CmpH prog w A.in1 .Lt (Old s.heap) P bt ∧ ∀ v h' tk, P (argBest bt (n - 1)) v → (∀ b o, s.heap.get? b = some o → h'.get? b = some o) → Q v { s2 with heap := h', toks := tk }
theorem go_min {Q : Value → Shared → Prop} {E : Value → Shared → Prop} {s s2 : Shared} {it : Value} (h : Ready_min prog w A s Q it s2) :
    wpAny (model prog w) A.in1 (newList [] >>= fun b => again (.builtin (toString "min" ++ toString ".loop") ⟨[it, .none, b], []⟩)) (FinEnd prog w A Q E) E s2 := by
  obtain ⟨I, fp, wr, n, P, St, bt, rfl, W, hst, hfp, old, fresh, hn, hcmp, hQ⟩ := h
  refine wpAny_bind (wpAny_newObj_type ?_)
  have hZ : s2.heap.objs.size ∉ fp := fun q => Nat.lt_irrefl _ (hfp _ q)
  rw [show (toString "min" ++ toString ".loop" : String) = "min.loop" by decide]
  have oldlt : ∀ b o, s.heap.get? b = some o → b ∉ wr ∧ b ≠ s2.heap.objs.size := fun b o e => ⟨fun q => (nomatch (fresh b q).symm.trans e), Nat.ne_of_lt (Heap.lt_size (old b o e))⟩
  have stays : Stays wr s2.heap.objs.size (Old s.heap) := fun h h' t k b o e => k b o (oldlt b o e).1 (oldlt b o e).2 (t b o e)
  refine wpAny_pure ⟨plainId_quiet F.plain_min_loop _, first_min W bt hcmp s2.heap.objs.size hZ stays hn (W.frame _ _ _ hst fun b _ o e => Heap.get?_push_of_some _ e) (fun b o e => Heap.get?_push_of_some _ (old b o e)) (Heap.get?_push_size _ rfl) fun v h' tk hPv k => ?_⟩
  exact hQ v h' tk hPv fun b o e => k b o (oldlt b o e).1 (oldlt b o e).2 (Heap.get?_push_of_some _ (old b o e))
theorem call1_min {Q E : Value → Shared → Prop} {s : Shared} {x : Value} (h : wpAny (model prog w) A.in1 (pyIter x) (Ready_min prog w A s Q) E s) : wpAny (model prog w) A (call (.builtin "min") [x]) Q E s := by
  refine call_function_tree F.kind_min F.plain_min F.entry_min (F.args_min1 _) ?_
  show wpAny _ (A.in1) (Builtin.Builtins.bindParams "min" ["key", "default"] 0 ⟨[], []⟩ >>= _) _ _ s
  have e0 : Builtin.Builtins.bindParams "min" ["key", "default"] 0 ⟨[], []⟩ = pure [none, none] := rfl
  refine wpAny_bind (wpAny_of_eq e0 (wpAny_bind (wpAny_pure ?_)))
  refine wpAny_bind (wpAny_mono h (fun it s2 r => ?_) fun _ _ e => e)
  exact go_min r
theorem call2_min {Q E : Value → Shared → Prop} {s : Shared} {x y : Value} (h : wpAny (model prog w) A.in1 (pyIter (.ref s.heap.objs.size)) (Ready_min prog w A s Q) E { s with heap := s.heap.push { cls := .type "tuple", data := .seq #[x, y] } }) :
    wpAny (model prog w) A (call (.builtin "min") [x, y]) Q E s := by
  refine call_function_tree F.kind_min F.plain_min F.entry_min (F.args_min2 _ _) ?_
  show wpAny _ (A.in1) (Builtin.Builtins.bindParams "min" ["key", "default"] 0 ⟨[], []⟩ >>= _) _ _ s
  have e0 : Builtin.Builtins.bindParams "min" ["key", "default"] 0 ⟨[], []⟩ = pure [none, none] := rfl
  refine wpAny_bind (wpAny_of_eq e0 ?_)
  show wpAny _ (A.in1) (newTuple [x, y] >>= _) _ _ s
  refine wpAny_bind (wpAny_newObj_type ?_)
  refine wpAny_bind (wpAny_mono h (fun it s2 r => ?_) fun _ _ e => e)
  exact go_min r

/-! ### max over items that compare as bt says wherever TT holds -/
theorem loop_max (W : Walks prog w A.in1 I fp wr n P St) (bt : Nat → Nat → Bool) (hcmp : CmpH prog w A.in1 .Gt TT P bt) (Z : Addr) (hZ : Z ∉ fp) (hT : Stays wr Z TT) :
    ∀ (k j : Nat) (st : Shared) (vb : Value) (c : Nat), n - (j + 1) = k → j + 1 ≤ n → St (j + 1) st.heap → TT st.heap → P (argBest bt j) vb →
      st.heap.get? Z = some (bestObj #[vb, vb] c) →
      (∀ v h' tk, P (argBest bt (n - 1)) v → (∀ b o, b ∉ wr → b ≠ Z → st.heap.get? b = some o → h'.get? b = some o) → R (.ok (.ret v)) { st with heap := h', toks := tk }) →
      codeAny (model prog w) A (.builtin "max.loop" ⟨[.ref I, .none, .ref Z], []⟩) R st := by
  have hZw : Z ∉ wr := fun q => hZ (W.sub _ q)
  have nm : (toString "max" ++ toString ".loop" : String) = "max.loop" := by decide
  intro k
  induction k with
  | zero =>
    intro j st vb c hk hj hst hTT hPb hbest hR
    have hin : j + 1 = n := by omega
    refine codeAny_builtin F.entry_max_loop ?_
    rw [Around.under_plainId F.plain_max_loop _]
    show wpAny _ (A.in1) (seqItems? (.ref Z) >>= _) _ _ st
    refine wpAny_bind (wpAny_seqItems hbest rfl ?_)
    show wpAny _ (A.in1) (tryCatch (pyNext (.ref I)) _ >>= _) _ _ st
    refine wpAny_bind (wpAny_tryCatch (W.done st _ _ (hin ▸ hst) fun h1 tk kept => ?_))
    have best1 := kept Z _ hZw hbest
    show wpAny _ (A.in1) (updateSeq Z (fun _ => #[]) >>= _) _ _ _
    refine wpAny_bind (wpAny_updateSeq best1 rfl (wpAny_bind (wpAny_letGo (wpAny_pure ?_))))
    exact hR vb _ tk (hin ▸ hPb) fun b o nw nZ e => (Heap.get?_update_other _ _ (Ne.symm nZ)).trans (kept b o nw e)
  | succ k ih =>
    intro j st vb c hk hj hst hTT hPb hbest hR
    have hlt : j + 1 < n := by omega
    refine codeAny_builtin F.entry_max_loop ?_
    rw [Around.under_plainId F.plain_max_loop _]
    show wpAny _ (A.in1) (seqItems? (.ref Z) >>= _) _ _ st
    refine wpAny_bind (wpAny_seqItems hbest rfl ?_)
    show wpAny _ (A.in1) (tryCatch (pyNext (.ref I)) _ >>= _) _ _ st
    refine wpAny_bind (wpAny_tryCatch (W.item (j + 1) st _ _ hlt hst fun v h1 tk hPv hst1 kept => ?_))
    have best1 := kept Z _ hZw hbest
    have TT1 : TT h1 := hT st.heap h1 hTT fun b o nw _ e => kept b o nw e
    show wpAny _ (A.in1) (tryCatch (holding [v, v] (richCompare .Gt v vb >>= _)) _ >>= _) _ _ _
    refine wpAny_bind (wpAny_tryCatch (wpAny_holding (wpAny_bind (hcmp (j + 1) (argBest bt j) v vb { st with heap := h1, toks := tk } _ _ TT1 hPv hPb ?_))))
    refine wpAny_bind (wpAny_holding (wpAny_truthy_bool ?_))
    refine wpAny_bind (wpAny_letGo (wpAny_pure ?_))
    cases hb : bt (j + 1) (argBest bt j) with
    | true =>
      simp only [if_true]
      refine wpAny_bind (wpAny_updateSeq best1 rfl (wpAny_bind (wpAny_letGo ?_)))
      rw [nm]
      have eb : argBest bt (j + 1) = j + 1 := by
        show (if bt (j + 1) (argBest bt j) = true then j + 1 else argBest bt j) = j + 1
        rw [hb, if_pos rfl]
      refine wpAny_pure ⟨plainId_quiet F.plain_max_loop _, ih (j + 1) _ v _ (by omega) hlt (W.frame _ _ _ hst1 fun b hf o e => ?_) (hT h1 _ TT1 fun b o _ nZ e => (Heap.get?_update_other _ _ (Ne.symm nZ)).trans e) (by rw [eb]; exact hPv)
        (Heap.get?_update_self _ best1 rfl) fun v2 h2 tk2 hP2 kept2 => ?_⟩
      · exact (Heap.get?_update_other _ _ (fun q : Z = b => hZ (q ▸ hf))).trans e
      · exact hR v2 h2 tk2 hP2 fun b o nw nZ e => kept2 b o nw nZ ((Heap.get?_update_other _ _ (Ne.symm nZ)).trans (kept b o nw e))
    | false =>
      simp only [Bool.false_eq_true, if_false]
      refine wpAny_bind (wpAny_letGo ?_)
      rw [nm]
      have eb : argBest bt (j + 1) = argBest bt j := by
        show (if bt (j + 1) (argBest bt j) = true then j + 1 else argBest bt j) = argBest bt j
        rw [hb, if_neg (by decide)]
      refine wpAny_pure ⟨plainId_quiet F.plain_max_loop _, ih (j + 1) _ vb c (by omega) hlt hst1 TT1 (by rw [eb]; exact hPb) best1 fun v2 h2 tk2 hP2 kept2 => ?_⟩
      exact hR v2 h2 tk2 hP2 fun b o nw nZ e => kept2 b o nw nZ (kept b o nw e)

theorem first_max (W : Walks prog w A.in1 I fp wr n P St) (bt : Nat → Nat → Bool) (hcmp : CmpH prog w A.in1 .Gt TT P bt) (Z : Addr) (hZ : Z ∉ fp) (hT : Stays wr Z TT) (hn : 0 < n) {st : Shared} {c : Nat} (hst : St 0 st.heap) (hTT : TT st.heap)
    (hbest : st.heap.get? Z = some (bestObj #[] c))
    (hR : ∀ v h' tk, P (argBest bt (n - 1)) v → (∀ b o, b ∉ wr → b ≠ Z → st.heap.get? b = some o → h'.get? b = some o) → R (.ok (.ret v)) { st with heap := h', toks := tk }) :
    codeAny (model prog w) A (.builtin "max.loop" ⟨[.ref I, .none, .ref Z], []⟩) R st := by
  have hZw : Z ∉ wr := fun q => hZ (W.sub _ q)
  have nm : (toString "max" ++ toString ".loop" : String) = "max.loop" := by decide
  refine codeAny_builtin F.entry_max_loop ?_
  rw [Around.under_plainId F.plain_max_loop _]
  show wpAny _ (A.in1) (seqItems? (.ref Z) >>= _) _ _ st
  refine wpAny_bind (wpAny_seqItems hbest rfl ?_)
  show wpAny _ (A.in1) (tryCatch (pyNext (.ref I)) _ >>= _) _ _ st
  refine wpAny_bind (wpAny_tryCatch (W.item 0 st _ _ hn hst fun v h1 tk hPv hst1 kept => ?_))
  have best1 := kept Z _ hZw hbest
  have TT1 : TT h1 := hT st.heap h1 hTT fun b o nw _ e => kept b o nw e
  show wpAny _ (A.in1) (updateSeq Z (fun _ => #[v, v]) >>= _) _ _ _
  refine wpAny_bind (wpAny_updateSeq best1 rfl ?_)
  rw [nm]
  refine wpAny_pure ⟨plainId_quiet F.plain_max_loop _, loop_max W bt hcmp Z hZ hT _ 0 _ v _ rfl hn (W.frame _ _ _ hst1 fun b hf o e => ?_) (hT h1 _ TT1 fun b o _ nZ e => (Heap.get?_update_other _ _ (Ne.symm nZ)).trans e) hPv
    (Heap.get?_update_self _ best1 rfl) fun v2 h2 tk2 hP2 kept2 => ?_⟩
  · exact (Heap.get?_update_other _ _ (fun q : Z = b => hZ (q ▸ hf))).trans e
  · exact hR v2 h2 tk2 hP2 fun b o nw nZ e => kept2 b o nw nZ ((Heap.get?_update_other _ _ (Ne.symm nZ)).trans (kept b o nw e))

/-- what is known of the iterator, ahead of the loop -/
def Ready_max (prog : Program) (w : World) (A : Around) (s : Shared) (Q : Value → Shared → Prop) (it : Value) (s2 : Shared) : Prop :=
  ∃ I fp wr n P St bt, it = .ref I ∧ Walks prog w A.in1 I fp wr n P St ∧ St 0 s2.heap ∧ (∀ b ∈ fp, b < s2.heap.objs.size) ∧ (∀ b o, s.heap.get? b = some o → s2.heap.get? b = some o) ∧ (∀ b ∈ wr, s.heap.get? b = none) ∧ 0 < n ∧
    CmpH prog w A.in1 .Gt (Old s.heap) P bt ∧ ∀ v h' tk, P (argBest bt (n - 1)) v → (∀ b o, s.heap.get? b = some o → h'.get? b = some o) → Q v { s2 with heap := h', toks := tk }
theorem go_max {Q : Value → Shared → Prop} {E : Value → Shared → Prop} {s s2 : Shared} {it : Value} (h : Ready_max prog w A s Q it s2) :
    wpAny (model prog w) A.in1 (newList [] >>= fun b => again (.builtin (toString "max" ++ toString ".loop") ⟨[it, .none, b], []⟩)) (FinEnd prog w A Q E) E s2 := by
  obtain ⟨I, fp, wr, n, P, St, bt, rfl, W, hst, hfp, old, fresh, hn, hcmp, hQ⟩ := h
  refine wpAny_bind (wpAny_newObj_type ?_)
  have hZ : s2.heap.objs.size ∉ fp := fun q => Nat.lt_irrefl _ (hfp _ q)
  rw [show (toString "max" ++ toString ".loop" : String) = "max.loop" by decide]
  have oldlt : ∀ b o, s.heap.get? b = some o → b ∉ wr ∧ b ≠ s2.heap.objs.size := fun b o e => ⟨fun q => (nomatch (fresh b q).symm.trans e), Nat.ne_of_lt (Heap.lt_size (old b o e))⟩
  have stays : Stays wr s2.heap.objs.size (Old s.heap) := fun h h' t k b o e => k b o (oldlt b o e).1 (oldlt b o e).2 (t b o e)
  refine wpAny_pure ⟨plainId_quiet F.plain_max_loop _, first_max W bt hcmp s2.heap.objs.size hZ stays hn (W.frame _ _ _ hst fun b _ o e => Heap.get?_push_of_some _ e) (fun b o e => Heap.get?_push_of_some _ (old b o e)) (Heap.get?_push_size _ rfl) fun v h' tk hPv k => ?_⟩
  exact hQ v h' tk hPv fun b o e => k b o (oldlt b o e).1 (oldlt b o e).2 (Heap.get?_push_of_some _ (old b o e))
theorem call1_max {Q E : Value → Shared → Prop} {s : Shared} {x : Value} (h : wpAny (model prog w) A.in1 (pyIter x) (Ready_max prog w A s Q) E s) : wpAny (model prog w) A (call (.builtin "max") [x]) Q E s := by
  refine call_function_tree F.kind_max F.plain_max F.entry_max (F.args_max1 _) ?_
  show wpAny _ (A.in1) (Builtin.Builtins.bindParams "max" ["key", "default"] 0 ⟨[], []⟩ >>= _) _ _ s
  have e0 : Builtin.Builtins.bindParams "max" ["key", "default"] 0 ⟨[], []⟩ = pure [none, none] := rfl
  refine wpAny_bind (wpAny_of_eq e0 (wpAny_bind (wpAny_pure ?_)))
  refine wpAny_bind (wpAny_mono h (fun it s2 r => ?_) fun _ _ e => e)
  exact go_max r
theorem call2_max {Q E : Value → Shared → Prop} {s : Shared} {x y : Value} (h : wpAny (model prog w) A.in1 (pyIter (.ref s.heap.objs.size)) (Ready_max prog w A s Q) E { s with heap := s.heap.push { cls := .type "tuple", data := .seq #[x, y] } }) :
    wpAny (model prog w) A (call (.builtin "max") [x, y]) Q E s := by
  refine call_function_tree F.kind_max F.plain_max F.entry_max (F.args_max2 _ _) ?_
  show wpAny _ (A.in1) (Builtin.Builtins.bindParams "max" ["key", "default"] 0 ⟨[], []⟩ >>= _) _ _ s
  have e0 : Builtin.Builtins.bindParams "max" ["key", "default"] 0 ⟨[], []⟩ = pure [none, none] := rfl
  refine wpAny_bind (wpAny_of_eq e0 ?_)
  show wpAny _ (A.in1) (newTuple [x, y] >>= _) _ _ s
  refine wpAny_bind (wpAny_newObj_type ?_)
  refine wpAny_bind (wpAny_mono h (fun it s2 r => ?_) fun _ _ e => e)
  exact go_max r

end
end K29
namespace K29
open PySem PySem.Spec PyProof.Rows L2

/-! ### pairs and pairs of pairs on the heap -/
def IsP (h : Heap) (v : Value) (p : P2) : Prop := ∃ (a : Addr) (t u : Tok), v = .ref a ∧ h.IsTuple a #[.int p.1 t, .int p.2 u]
def IsS (h : Heap) (v : Value) (s : Sg) : Prop := ∃ (a : Addr) (x y : Value), v = .ref a ∧ h.IsTuple a #[x, y] ∧ IsP h x s.1 ∧ IsP h y s.2
/-- all tuples stay -/
def TupsOld (h0 h : Heap) : Prop := ∀ b o, h0.get? b = some o → o.cls = .type "tuple" → h.get? b = some o
theorem Old.tups {h0 h : Heap} (k : Old h0 h) : TupsOld h0 h := fun b o e _ => k b o e
theorem tup_keep {h h' : Heap} {a : Addr} {xs : Array Value} (k : TupsOld h h') (t : h.IsTuple a xs) : h'.IsTuple a xs := by
  obtain ⟨o, ho, hc, r⟩ := t
  exact ⟨o, k a o ho hc, hc, r⟩
theorem IsP.keep {h h' : Heap} {v : Value} {p : P2} (k : TupsOld h h') : IsP h v p → IsP h' v p
  | ⟨a, t, u, e, i⟩ => ⟨a, t, u, e, tup_keep k i⟩
theorem IsS.keep {h h' : Heap} {v : Value} {s : Sg} (k : TupsOld h h') : IsS h v s → IsS h' v s
  | ⟨a, x, y, e, i, p, q⟩ => ⟨a, x, y, e, tup_keep k i, p.keep k, q.keep k⟩
section
variable {A : Around} {s : Shared} {v u : Value} {p q : P2}
theorem lex_two {e r : Nat → Bool} {z : Bool} : Ob.lexAt e r z 0 2 = if e 0 = true then (if e 1 = true then z else r 1) else r 0 := rfl
theorem ltP_lex (p q : P2) : (if decide (p.1 = q.1) = true then (if decide (p.2 = q.2) = true then false else decide (p.2 < q.2)) else decide (p.1 < q.1)) = ltP p q := by
  unfold ltP
  by_cases h1 : p.1 = q.1
  · rw [if_pos (decide_eq_true h1), if_pos h1]
    by_cases h2 : p.2 = q.2
    · rw [if_pos (decide_eq_true h2), h2, decide_eq_false (Int.lt_irrefl _)]
    · rw [if_neg (by simpa using h2)]
  · rw [if_neg (by simpa using h1), if_neg h1]
theorem eqAt_two {a b : Int} {t u : Tok} : SeqAt.EqAt A s (.int a t) (.int b u) (decide (a = b)) := by
  have h := SeqAt.EqAt.int_int (A := A) (s := s) a t b u
  rw [Bool.beq_eq_decide_eq] at h
  exact h
theorem rc_ltP (hu : A.units < cLine) (h1 : IsP s.heap v p) (h2 : IsP s.heap u q) : Ob.RcOp .Lt A s v u (ltP p q) := by
  obtain ⟨a, t1, t2, rfl, i1⟩ := h1
  obtain ⟨b, u1, u2, rfl, i2⟩ := h2
  have r := Ob.RcOp.tuples_lt (A := A) (s := s) (e := fun j => if j = 0 then decide (p.1 = q.1) else decide (p.2 = q.2)) (r := fun j => if j = 0 then decide (p.1 < q.1) else decide (p.2 < q.2)) i1 i2 hu
    (fun j h1 h2 => match j, h1, h2 with
      | 0, _, _ => eqAt_two
      | 1, _, _ => eqAt_two)
    (fun j h1 h2 _ => match j, h1, h2 with
      | 0, _, _ => Ob.RcOp.lt_int _ _ _ _
      | 1, _, _ => Ob.RcOp.lt_int _ _ _ _)
  rw [← ltP_lex]
  exact r
theorem rc_gtP (hu : A.units < cLine) (h1 : IsP s.heap v p) (h2 : IsP s.heap u q) : Ob.RcOp .Gt A s v u (ltP q p) := by
  obtain ⟨a, t1, t2, rfl, i1⟩ := h1
  obtain ⟨b, u1, u2, rfl, i2⟩ := h2
  have r := Ob.RcOp.tuples_gt (A := A) (s := s) (e := fun j => if j = 0 then decide (q.1 = p.1) else decide (q.2 = p.2)) (r := fun j => if j = 0 then decide (q.1 < p.1) else decide (q.2 < p.2)) i1 i2 hu
    (fun j h1 h2 => match j, h1, h2 with
      | 0, _, _ => by
        show SeqAt.EqAt _ _ _ _ (decide (q.1 = p.1))
        rw [show decide (q.1 = p.1) = decide (p.1 = q.1) by simp [eq_comm]]
        exact eqAt_two
      | 1, _, _ => by
        show SeqAt.EqAt _ _ _ _ (decide (q.2 = p.2))
        rw [show decide (q.2 = p.2) = decide (p.2 = q.2) by simp [eq_comm]]
        exact eqAt_two)
    (fun j h1 h2 _ => match j, h1, h2 with
      | 0, _, _ => Ob.RcOp.gt_int _ _ _ _
      | 1, _, _ => Ob.RcOp.gt_int _ _ _ _)
  rw [← ltP_lex]
  exact r
theorem eq_P (hu : A.units < cLine) (h1 : IsP s.heap v p) (h2 : IsP s.heap u q) : SeqAt.EqAt A s v u (decide (p = q)) := by
  obtain ⟨a, t1, t2, rfl, i1⟩ := h1
  obtain ⟨b, u1, u2, rfl, i2⟩ := h2
  by_cases hab : a = b
  · subst hab
    obtain ⟨o, ho, _, n, hd⟩ := i1
    obtain ⟨o', ho', _, n', hd'⟩ := i2
    have e1 : some o = some o' := ho.symm.trans ho'
    cases e1
    have e2 := hd.symm.trans hd'
    injection e2 with e3 _
    have e4 := congrArg Array.toList e3
    simp at e4
    have e5 : p = q := Prod.ext e4.1.1 e4.2.1
    rw [decide_eq_true e5]
    exact SeqAt.EqAt.same _
  · have r := SeqAt.RcAt.tuples (A := A) (s := s) (e := fun j => if j = 0 then decide (p.1 = q.1) else decide (p.2 = q.2)) i1 i2 hu
      (fun j h1 h2 => match j, h1, h2 with
        | 0, _, _ => eqAt_two
        | 1, _, _ => eqAt_two)
    refine SeqAt.EqAt.of_refs hab ?_
    have e1 : decide (p = q) = (((decide (p.1 = q.1)) && ((decide (p.2 = q.2)) && true)) && true) := by
      by_cases h1 : p.1 = q.1 <;> by_cases h2 : p.2 = q.2 <;> simp [h1, h2, Prod.ext_iff]
    rw [e1]
    exact r
end

/-! ### from the abstract heap -/
section
variable {X : Cx} {pins : List (Addr × Obj)} {σ : L2.St} {H : Hp} {s : Shared}
theorem isP_of (I : Inv X pins σ H s) {a : Addr} {p : P2} (h : H a = some (.tup [.int p.1, .int p.2])) : IsP s.heap (.ref a) p := by
  obtain ⟨_, its, r, i⟩ := I.hok a _ h
  obtain ⟨u1, u2, rfl, ⟨t1, rfl⟩, ⟨t2, rfl⟩⟩ := vals2 r
  exact ⟨a, t1, t2, rfl, i⟩
theorem isS_of (I : Inv X pins σ H s) {a b c : Addr} {g : Sg} (h : H a = some (.tup [.ref b, .ref c])) (hb : H b = some (.tup [.int g.1.1, .int g.1.2])) (hc : H c = some (.tup [.int g.2.1, .int g.2.2])) : IsS s.heap (.ref a) g := by
  obtain ⟨_, its, r, i⟩ := I.hok a _ h
  obtain ⟨u1, u2, rfl, r1, r2⟩ := vals2 r
  cases r1
  cases r2
  exact ⟨a, _, _, rfl, i, isP_of I hb, isP_of I hc⟩
end

/-! ### min, max of two pairs -/
def mnP (p q : P2) : P2 := if ltP q p = true then q else p
def mxP (p q : P2) : P2 := if ltP p q = true then q else p
def rMinP : List V → Hp → VK → Prop := fun vs H Q => ∃ (a b : Addr) (p q : P2), vs = [.ref a, .ref b] ∧ H a = some (.tup [.int p.1, .int p.2]) ∧ H b = some (.tup [.int q.1, .int q.2]) ∧ Q (if ltP q p = true then .ref b else .ref a) H
def rMaxP : List V → Hp → VK → Prop := fun vs H Q => ∃ (a b : Addr) (p q : P2), vs = [.ref a, .ref b] ∧ H a = some (.tup [.int p.1, .int p.2]) ∧ H b = some (.tup [.int q.1, .int q.2]) ∧ Q (if ltP p q = true then .ref b else .ref a) H
theorem two_at {x y v : Value} {k : Nat} (h : #[x, y][k]? = some v) : (k = 0 ∧ v = x) ∨ (k = 1 ∧ v = y) := by
  match k, h with
  | 0, h => exact .inl ⟨rfl, (by simpa using h.symm)⟩
  | 1, h => exact .inr ⟨rfl, (by simpa using h.symm)⟩
  | k + 2, h => simp at h
section
variable {X : Cx}
/-- the iterator over the two, ready -/
theorem iter_two {prog : Program} {w : World} {A : Around} {s : Shared} {x y : Value} {R : Value → Shared → Prop} {E : Value → Shared → Prop} (h : ∀ s2 : Shared, s2 = { s with heap := (s.heap.push { cls := .type "tuple", data := .seq #[x, y] }).push { cls := .type "tuple_iterator", data := .fields #[.ref s.heap.objs.size, .int 0 0] } } →
      s2.heap.IsTupleIter (s.heap.objs.size + 1) s.heap.objs.size 0 → s2.heap.IsTuple s.heap.objs.size #[x, y] → s2.heap.objs.size = s.heap.objs.size + 2 → Old s.heap s2.heap → R (.ref (s.heap.objs.size + 1)) s2) :
    wpAny (model prog w) A (pyIter (.ref s.heap.objs.size)) R E { s with heap := s.heap.push { cls := .type "tuple", data := .seq #[x, y] } } := by
  have hT : (s.heap.push { cls := .type "tuple", data := .seq #[x, y] }).IsTuple s.heap.objs.size #[x, y] := ⟨_, Heap.get?_push_size _ rfl, rfl, 0, rfl⟩
  have sz : (s.heap.push { cls := .type "tuple", data := .seq #[x, y] }).objs.size = s.heap.objs.size + 1 := Heap.size_push ..
  refine wpAny_pyIter_tuple hT ?_
  show R (.ref (s.heap.push { cls := .type "tuple", data := .seq #[x, y] }).objs.size) _
  rw [sz]
  have itE : ((s.heap.push { cls := .type "tuple", data := .seq #[x, y] }).push { cls := .type "tuple_iterator", data := .fields #[.ref s.heap.objs.size, .int 0 0] }).get? (s.heap.objs.size + 1) = some { cls := .type "tuple_iterator", data := .fields #[.ref s.heap.objs.size, .int 0 0] } := by
    rw [← sz]
    exact Heap.get?_push_size _ rfl
  refine h _ rfl ⟨_, itE, rfl, rfl⟩ (hT.push _) ?_ fun b o e => Heap.get?_push_of_some _ (Heap.get?_push_of_some _ e)
  · show ((s.heap.push _).push _).objs.size = _
    rw [Heap.size_push, sz]
theorem ready_wr {h : Heap} {b : Addr} (hb : b ∈ [h.objs.size + 1]) : h.get? b = none := by
  rw [List.mem_singleton.mp hb]
  exact Heap.get?_none_of_le (Nat.le_succ _)
theorem ready_fp {h h2 : Heap} (sz : h2.objs.size = h.objs.size + 2) {b : Addr} (hb : b ∈ [h.objs.size + 1, h.objs.size]) : b < h2.objs.size := by
  rw [sz]
  rcases List.mem_cons.mp hb with e | e
  · rw [e]; exact Nat.lt_succ_self _
  · rw [List.mem_singleton.mp e]; exact Nat.lt_succ_of_lt (Nat.lt_succ_self _)
theorem call_minP (hc : X.calm = true) (hu : X.A.units + 65 < cLine) : CallR X (.builtin "min") rMinP := by
  rintro pins s σ H vs us Q I r ⟨a, b, p, q, rfl, ha, hb, k⟩
  obtain ⟨u1, u2, rfl, r1, r2⟩ := vals2 r
  cases r1
  cases r2
  have pa := isP_of I ha
  have pb := isP_of I hb
  refine call2_min (iter_two fun s2 e2 it tp sz old => ?_)
  subst e2
  refine ⟨_, _, _, _, _, _, fun i j => decide (i = 1) && decide (j = 0) && ltP q p || decide (i = 0) && decide (j = 1) && ltP p q, rfl, Walks.tuple (A := X.A.in1) (I.ok.hd hc) (s.heap.objs.size + 1) s.heap.objs.size (Nat.ne_of_lt (Nat.lt_succ_self _)) #[.ref a, .ref b], ⟨it, tp⟩, fun b hb => ready_fp sz hb, old, fun b hb => ready_wr hb, (show 0 < 2 by decide), ?_, ?_⟩
  · intro i j vi vj st Q' E' ho hi hj hq
    have hu' : X.A.in1.units < cLine := by
      show X.A.units + 1 < cLine
      omega
    rcases two_at hi with ⟨rfl, rfl⟩ | ⟨rfl, rfl⟩ <;> rcases two_at hj with ⟨rfl, rfl⟩ | ⟨rfl, rfl⟩
    · exact rc_ltP hu' (pa.keep ho.tups) (pa.keep ho.tups) X.prog X.w E' Q' (by rw [ltP_irr]; simpa using hq)
    · exact rc_ltP hu' (pa.keep ho.tups) (pb.keep ho.tups) X.prog X.w E' Q' (by simpa using hq)
    · exact rc_ltP hu' (pb.keep ho.tups) (pa.keep ho.tups) X.prog X.w E' Q' (by simpa using hq)
    · exact rc_ltP hu' (pb.keep ho.tups) (pb.keep ho.tups) X.prog X.w E' Q' (by rw [ltP_irr]; simpa using hq)
  · intro v h' tk hP hk
    have e1 : v = if ltP q p = true then Value.ref b else Value.ref a := by
      cases hl : ltP q p with
      | true =>
        rcases two_at hP with ⟨z, rfl⟩ | ⟨z, rfl⟩
        · simp [argBest, hl] at z
        · rfl
      | false =>
        rcases two_at hP with ⟨z, rfl⟩ | ⟨z, rfl⟩
        · rfl
        · simp [argBest, hl] at z
    subst e1
    refine ⟨_, H, I.kept (t' := tk) hk, ?_, k⟩
    cases ltP q p <;> rfl
theorem call_maxP (hc : X.calm = true) (hu : X.A.units + 65 < cLine) : CallR X (.builtin "max") rMaxP := by
  rintro pins s σ H vs us Q I r ⟨a, b, p, q, rfl, ha, hb, k⟩
  obtain ⟨u1, u2, rfl, r1, r2⟩ := vals2 r
  cases r1
  cases r2
  have pa := isP_of I ha
  have pb := isP_of I hb
  refine call2_max (iter_two fun s2 e2 it tp sz old => ?_)
  subst e2
  refine ⟨_, _, _, _, _, _, fun i j => decide (i = 1) && decide (j = 0) && ltP p q || decide (i = 0) && decide (j = 1) && ltP q p, rfl, Walks.tuple (A := X.A.in1) (I.ok.hd hc) (s.heap.objs.size + 1) s.heap.objs.size (Nat.ne_of_lt (Nat.lt_succ_self _)) #[.ref a, .ref b], ⟨it, tp⟩, fun b hb => ready_fp sz hb, old, fun b hb => ready_wr hb, (show 0 < 2 by decide), ?_, ?_⟩
  · intro i j vi vj st Q' E' ho hi hj hq
    have hu' : X.A.in1.units < cLine := by
      show X.A.units + 1 < cLine
      omega
    rcases two_at hi with ⟨rfl, rfl⟩ | ⟨rfl, rfl⟩ <;> rcases two_at hj with ⟨rfl, rfl⟩ | ⟨rfl, rfl⟩
    · exact rc_gtP hu' (pa.keep ho.tups) (pa.keep ho.tups) X.prog X.w E' Q' (by rw [ltP_irr]; simpa using hq)
    · exact rc_gtP hu' (pa.keep ho.tups) (pb.keep ho.tups) X.prog X.w E' Q' (by simpa using hq)
    · exact rc_gtP hu' (pb.keep ho.tups) (pa.keep ho.tups) X.prog X.w E' Q' (by simpa using hq)
    · exact rc_gtP hu' (pb.keep ho.tups) (pb.keep ho.tups) X.prog X.w E' Q' (by rw [ltP_irr]; simpa using hq)
  · intro v h' tk hP hk
    have e1 : v = if ltP p q = true then Value.ref b else Value.ref a := by
      cases hl : ltP p q with
      | true =>
        rcases two_at hP with ⟨z, rfl⟩ | ⟨z, rfl⟩
        · simp [argBest, hl] at z
        · rfl
      | false =>
        rcases two_at hP with ⟨z, rfl⟩ | ⟨z, rfl⟩
        · rfl
        · simp [argBest, hl] at z
    subst e1
    refine ⟨_, H, I.kept (t' := tk) hk, ?_, k⟩
    cases ltP p q <;> rfl
end
theorem Da.pairE {G : Hp} {v : V} {p : P2} (h : Da G v (eP p)) : ∃ a, v = .ref a ∧ G a = some (.tup [.int p.1, .int p.2]) := (kP_is h).2
theorem rc_minP {p q : P2} : RcD rMinP [eP p, eP q] (eP (mnP p q)) := fun G H vs s h Q k => by
  obtain ⟨v, w, rfl, h1, h2⟩ := h.twoE
  have h1' := h1
  have h2' := h2
  obtain ⟨a, rfl, ea⟩ := h1.pairE
  obtain ⟨b, rfl, eb⟩ := h2.pairE
  refine ⟨a, b, p, q, rfl, s _ _ ea, s _ _ eb, ?_⟩
  unfold mnP at k
  cases hl : ltP q p with
  | true =>
    rw [hl] at k
    exact k _ G H (.refl s) h2'
  | false =>
    rw [hl] at k
    exact k _ G H (.refl s) h1'
theorem rc_maxP {p q : P2} : RcD rMaxP [eP p, eP q] (eP (mxP p q)) := fun G H vs s h Q k => by
  obtain ⟨v, w, rfl, h1, h2⟩ := h.twoE
  have h1' := h1
  have h2' := h2
  obtain ⟨a, rfl, ea⟩ := h1.pairE
  obtain ⟨b, rfl, eb⟩ := h2.pairE
  refine ⟨a, b, p, q, rfl, s _ _ ea, s _ _ eb, ?_⟩
  unfold mxP at k
  cases hl : ltP p q with
  | true =>
    rw [hl] at k
    exact k _ G H (.refl s) h2'
  | false =>
    rw [hl] at k
    exact k _ G H (.refl s) h1'
end K29
namespace K29
open PySem PySem.Spec PyProof.Rows L2

/-! ### the least of a list of pairs -/
theorem argBest_le (bt : Nat → Nat → Bool) : ∀ n, argBest bt n ≤ n
  | 0 => Nat.le_refl _
  | n + 1 => by
    show (if bt (n + 1) (argBest bt n) = true then n + 1 else argBest bt n) ≤ n + 1
    have := argBest_le bt n
    split <;> omega
theorem argBest_min (f : Nat → P2) : ∀ n j, j ≤ n → ltP (f j) (f (argBest (fun i j => ltP (f i) (f j)) n)) = false
  | 0, j, h => by
    have : j = 0 := by omega
    subst this
    exact ltP_irr _
  | n + 1, j, h => by
    show ltP (f j) (f (if ltP (f (n + 1)) (f (argBest (fun i j => ltP (f i) (f j)) n)) = true then n + 1 else argBest (fun i j => ltP (f i) (f j)) n)) = false
    have ih := argBest_min f n
    cases hb : ltP (f (n + 1)) (f (argBest (fun i j => ltP (f i) (f j)) n)) with
    | true =>
      rw [if_pos rfl]
      by_cases hj : j ≤ n
      · exact ltP_le (ltP_asym hb) (ih j hj)
      · have : j = n + 1 := by omega
        subst this
        exact ltP_irr _
    | false =>
      rw [if_neg (by decide)]
      by_cases hj : j ≤ n
      · exact ih j hj
      · have : j = n + 1 := by omega
        subst this
        exact hb
def rMinLP : List V → Hp → VK → Prop := fun vs H Q => ∃ (a : Addr) (ys : List V) (k : V → P2), vs = [.ref a] ∧ H a = some (.lst ys) ∧ (∀ y ∈ ys, ∃ t, y = V.ref t ∧ H t = some (.tup [.int (k y).1, .int (k y).2])) ∧ ys ≠ [] ∧
  ∀ y ∈ ys, (∀ z ∈ ys, ltP (k z) (k y) = false) → Q y H
def rExtT (up : Bool) : List V → Hp → VK → Prop := fun vs H Q => ∃ (a : Addr) (i j : Int), vs = [.ref a] ∧ H a = some (.tup [.int i, .int j]) ∧ Q (.int (if up = true then mx i j else mn i j)) H
section
variable {X : Cx}
theorem call_minLP (hc : X.calm = true) (hu : X.A.units + 65 < cLine) : CallR X (.builtin "min") rMinLP := by
  rintro pins s σ H vs us Q I r ⟨a, ys, k, rfl, ha, hk, hne, q⟩
  obtain ⟨u1, rfl, r1⟩ := vals1 r
  cases r1
  obtain ⟨its, rv, pl, _⟩ := I.list (.of ha)
  have hl := pl.isList
  have hlt : a < s.heap.objs.size := pl.lt
  have len : its.length = ys.length := rv.length.symm
  have pos : 0 < ys.length := List.length_pos_iff.mpr hne
  have item : ∀ (i : Nat) (v : Value), its.toArray[i]? = some v → ∃ y ∈ ys, ys[i]? = some y ∧ RelV y v ∧ IsP s.heap v (k y) := fun i v hv => by
    have hv' : its[i]? = some v := by simpa using hv
    have hi : i < ys.length := by
      have := (List.getElem?_eq_some_iff.mp hv').1
      omega
    obtain ⟨u, hu1, hu2⟩ := rv.get (List.getElem?_eq_getElem hi)
    rw [hv'] at hu1
    cases hu1
    obtain ⟨t, e1, e2⟩ := hk _ (List.getElem_mem hi)
    refine ⟨_, List.getElem_mem hi, List.getElem?_eq_getElem hi, hu2, ?_⟩
    have rr := hu2
    rw [e1] at rr
    cases rr
    exact isP_of I e2
  let f : Nat → P2 := fun i => k ((ys[i]?).getD .non)
  have fi : ∀ (i : Nat) (y : V), ys[i]? = some y → f i = k y := fun i y h => by
    show k ((ys[i]?).getD .non) = k y
    rw [h]
    rfl
  refine call1_min (wpAny_pyIter_list hl ?_)
  refine ⟨s.heap.objs.size, _, _, _, _, _, fun i j => ltP (f i) (f j), rfl, Walks.list (A := X.A.in1) (I.ok.hd hc) s.heap.objs.size a (Nat.ne_of_lt hlt) its.toArray, ⟨⟨_, Heap.get?_push_size _ rfl, rfl, rfl⟩, hl.push _⟩, fun b hb => ?_, fun b o e => Heap.get?_push_of_some _ e, fun b hb => ?_, ?_, ?_, ?_⟩
  · show b < (s.heap.push _).objs.size
    rw [Heap.size_push]
    rcases List.mem_cons.mp hb with e | e
    · rw [e]
      exact Nat.lt_succ_self _
    · rw [List.mem_singleton.mp e]
      exact Nat.lt_succ_of_lt hlt
  · rw [List.mem_singleton.mp hb]
    exact Heap.get?_none_of_le (Nat.le_refl _)
  · show 0 < its.toArray.size
    simp
    omega
  · intro i j vi vj st Q' E' ho hi hj hq
    have hu' : X.A.in1.units < cLine := by
      show X.A.units + 1 < cLine
      omega
    obtain ⟨y, _, h1, _, h2⟩ := item i vi hi
    obtain ⟨z, _, h3, _, h4⟩ := item j vj hj
    refine rc_ltP hu' (h2.keep ho.tups) (h4.keep ho.tups) X.prog X.w E' Q' ?_
    rw [← fi i y h1, ← fi j z h3]
    exact hq
  · intro v h' tk hP hk'
    obtain ⟨y, hy, h1, h2, _⟩ := item _ v hP
    refine ⟨y, H, I.kept (t' := tk) hk', h2, q y hy fun z hz => ?_⟩
    obtain ⟨j, hj, rfl⟩ := List.mem_iff_getElem.mp hz
    have m := argBest_min f (its.toArray.size - 1) j (by simp; omega)
    rw [fi j _ (List.getElem?_eq_getElem hj), fi _ y h1] at m
    exact m
/-- min(t), max(t) of a pair of ints -/
theorem call_minT (hc : X.calm = true) : CallR X (.builtin "min") (rExtT false) := by
  rintro pins s σ H vs us Q I r ⟨a, i, j, rfl, ha, q⟩
  obtain ⟨u1, rfl, r1⟩ := vals1 r
  cases r1
  obtain ⟨_, t, u, e1, tp⟩ := isP_of (p := (i, j)) I ha
  cases e1
  have hlt : a < s.heap.objs.size := by
    obtain ⟨_, e, _⟩ := tp
    exact Heap.lt_size e
  refine call1_min (wpAny_pyIter_tuple tp ?_)
  refine ⟨s.heap.objs.size, _, _, _, _, _, fun m n => decide ((if m = 0 then i else j) < (if n = 0 then i else j)), rfl, Walks.tuple (A := X.A.in1) (I.ok.hd hc) s.heap.objs.size a (Nat.ne_of_lt hlt) _, ⟨⟨_, Heap.get?_push_size _ rfl, rfl, rfl⟩, tp.push _⟩, fun b hb => ?_, fun b o e => Heap.get?_push_of_some _ e, fun b hb => ?_, (show 0 < 2 by decide), ?_, ?_⟩
  · show b < (s.heap.push _).objs.size
    rw [Heap.size_push]
    rcases List.mem_cons.mp hb with e | e
    · rw [e]
      exact Nat.lt_succ_self _
    · rw [List.mem_singleton.mp e]
      exact Nat.lt_succ_of_lt hlt
  · rw [List.mem_singleton.mp hb]
    exact Heap.get?_none_of_le (Nat.le_refl _)
  · intro m n vi vj st Q' E' ho hi hj hq
    rcases two_at hi with ⟨rfl, rfl⟩ | ⟨rfl, rfl⟩ <;> rcases two_at hj with ⟨rfl, rfl⟩ | ⟨rfl, rfl⟩ <;> exact Ob.RcOp.lt_int _ _ _ _ X.prog X.w E' Q' (by simpa using hq)
  · intro v h' tk hP hk'
    refine ⟨_, H, I.kept (t' := tk) hk', ?_, q⟩
    show ∃ t, v = Value.int (if false = true then mx i j else mn i j) t
    rw [if_neg (by decide)]
    unfold mn
    by_cases hl : j < i
    · rw [if_pos hl]
      rcases two_at hP with ⟨z, rfl⟩ | ⟨z, rfl⟩
      · simp [argBest, hl] at z
      · exact ⟨_, rfl⟩
    · rw [if_neg hl]
      rcases two_at hP with ⟨z, rfl⟩ | ⟨z, rfl⟩
      · exact ⟨_, rfl⟩
      · simp [argBest, hl] at z
theorem call_maxT (hc : X.calm = true) : CallR X (.builtin "max") (rExtT true) := by
  rintro pins s σ H vs us Q I r ⟨a, i, j, rfl, ha, q⟩
  obtain ⟨u1, rfl, r1⟩ := vals1 r
  cases r1
  obtain ⟨_, t, u, e1, tp⟩ := isP_of (p := (i, j)) I ha
  cases e1
  have hlt : a < s.heap.objs.size := by
    obtain ⟨_, e, _⟩ := tp
    exact Heap.lt_size e
  refine call1_max (wpAny_pyIter_tuple tp ?_)
  refine ⟨s.heap.objs.size, _, _, _, _, _, fun m n => decide ((if n = 0 then i else j) < (if m = 0 then i else j)), rfl, Walks.tuple (A := X.A.in1) (I.ok.hd hc) s.heap.objs.size a (Nat.ne_of_lt hlt) _, ⟨⟨_, Heap.get?_push_size _ rfl, rfl, rfl⟩, tp.push _⟩, fun b hb => ?_, fun b o e => Heap.get?_push_of_some _ e, fun b hb => ?_, (show 0 < 2 by decide), ?_, ?_⟩
  · show b < (s.heap.push _).objs.size
    rw [Heap.size_push]
    rcases List.mem_cons.mp hb with e | e
    · rw [e]
      exact Nat.lt_succ_self _
    · rw [List.mem_singleton.mp e]
      exact Nat.lt_succ_of_lt hlt
  · rw [List.mem_singleton.mp hb]
    exact Heap.get?_none_of_le (Nat.le_refl _)
  · intro m n vi vj st Q' E' ho hi hj hq
    rcases two_at hi with ⟨rfl, rfl⟩ | ⟨rfl, rfl⟩ <;> rcases two_at hj with ⟨rfl, rfl⟩ | ⟨rfl, rfl⟩ <;> exact Ob.RcOp.gt_int _ _ _ _ X.prog X.w E' Q' (by simpa using hq)
  · intro v h' tk hP hk'
    refine ⟨_, H, I.kept (t' := tk) hk', ?_, q⟩
    show ∃ t, v = Value.int (if true = true then mx i j else mn i j) t
    rw [if_pos rfl]
    unfold mx
    by_cases hl : j > i
    · rw [if_pos hl]
      rcases two_at hP with ⟨z, rfl⟩ | ⟨z, rfl⟩
      · simp [argBest, show i < j from hl] at z
      · exact ⟨_, rfl⟩
    · rw [if_neg hl]
      rcases two_at hP with ⟨z, rfl⟩ | ⟨z, rfl⟩
      · exact ⟨_, rfl⟩
      · simp [argBest, show ¬ i < j from hl] at z
end
theorem rc_minT {i j : Int} : RcD (rExtT false) [.tuple [.int i, .int j]] (.int (mn i j)) := fun G H vs s h Q k => by
  obtain ⟨v, rfl, h1⟩ := h.oneE
  obtain ⟨a, rfl, ea⟩ := Da.pairE (p := (i, j)) h1
  exact ⟨a, i, j, rfl, s _ _ ea, k _ G H (.refl s) (.int _)⟩
theorem rc_maxT {i j : Int} : RcD (rExtT true) [.tuple [.int i, .int j]] (.int (mx i j)) := fun G H vs s h Q k => by
  obtain ⟨v, rfl, h1⟩ := h.oneE
  obtain ⟨a, rfl, ea⟩ := Da.pairE (p := (i, j)) h1
  exact ⟨a, i, j, rfl, s _ _ ea, k _ G H (.refl s) (.int _)⟩
theorem rc_minLP {l : List P2} {m : P2} (hm : m ∈ l) (hl : ∀ y ∈ l, ltP y m = false) : RcD rMinLP [.list (l.map eP)] (eP m) := fun G H vs s h Q k => by
  obtain ⟨v, rfl, h1⟩ := h.oneE
  obtain ⟨a, ws, rfl, ha, hd⟩ := h1.lstE
  have hk : ∀ v ∈ ws, Da G v (eP (kP G v)) := fun v hv => by
    obtain ⟨d, hd1, hd2⟩ := hd.mem hv
    obtain ⟨p, _, rfl⟩ := List.mem_map.mp hd1
    rw [(kP_is hd2).1]
    exact hd2
  have hmap : ws.map (kP G) = l := map_of (fun v a h => (kP_is h).1) hd
  refine ⟨a, ws, kP G, rfl, s _ _ ha, fun x hx => ?_, fun z => ?_, fun y hy hmin => ?_⟩
  · obtain ⟨t, e1, e2⟩ := (kP_is (hk x hx)).2
    exact ⟨t, e1, s _ _ e2⟩
  · subst z
    rw [← hmap] at hm
    cases hm
  · have e1 : kP G y = m := by
      refine ltP_tot (hl _ ?_) ?_
      · rw [← hmap]
        exact List.mem_map.mpr ⟨y, hy, rfl⟩
      · rw [← hmap] at hm
        obtain ⟨z, hz, rfl⟩ := List.mem_map.mp hm
        exact hmin z hz
    refine k y G H (.refl s) ?_
    rw [← e1]
    exact hk y hy
end K29
namespace K29
open PySem PySem.Spec PyProof.Rows L2

/-! ### sorted of pairs of pairs -/
theorem swoS {α : Type} (k : α → Sg) : SrtO.Swo fun v u => ltS (k v) (k u) := ⟨fun x y h => ltS_asym h, fun x y z h1 h2 => ltS_le h1 h2⟩
section
variable {prog : Program} {w : World} {A : Around} {s : Shared}
theorem segFirsts {h : Heap} : ∀ {vs : List Value}, (∀ v ∈ vs, ∃ g, IsS h v g) → ∃ fs : List Value, PySem.W.KatTups h vs fs ∧ fs.length = vs.length ∧ ∀ f ∈ fs, ∃ p, IsP h f p
  | [], _ => ⟨[], PySem.W.KatTups.nil, rfl, fun _ hm => nomatch hm⟩
  | v :: vs, hp => by
    obtain ⟨fs, h1, h2, h3⟩ := segFirsts (vs := vs) fun v' hm => hp v' (List.mem_cons_of_mem _ hm)
    obtain ⟨g, a, x, y, rfl, ⟨o, ho, hc, n, hd⟩, px, _⟩ := hp v List.mem_cons_self
    refine ⟨x :: fs, PySem.W.KatTups.cons ho hc hd rfl h1, by rw [List.length_cons, List.length_cons, h2], fun f hm => ?_⟩
    rcases List.mem_cons.mp hm with e | hm
    · rw [e]
      exact ⟨_, px⟩
    · exact h3 f hm
theorem segCmp {vs : List Value} {k : Value → Sg} (hu : A.units < cLine) (hp : ∀ v ∈ vs, IsS s.heap v (k v)) : SrtO.Cmp prog w A s (tuples' false) (fun p => p.1 ∈ vs) (SrtO.lt2 fun v u => ltS (k v) (k u)) := by
  intro p q hm hm'
  have h1 := hp _ hm
  have h2 := hp _ hm'
  show wpAny (model prog w) A (keyLt' (tuples' false) p.1 q.1) (fun r s' => s' = s ∧ r = ltS (k p.1) (k q.1)) (fun _ _ => False) s
  generalize k p.1 = g at h1 ⊢
  generalize k q.1 = g' at h2 ⊢
  obtain ⟨a, x, y, e, ⟨o, ho, hc, n, hd⟩, px, py⟩ := h1
  obtain ⟨a', x', y', e', ⟨o', ho', hc', n', hd'⟩, px', py'⟩ := h2
  rw [e, e']
  refine PySem.W.kat_lt ho hd ho' hd' ?_
  show PySem.W.KatLex prog w A false (decide (2 < 2)) _ [(x, x'), (y, y')] 0 s
  refine PySem.W.kat_cons (eq_P hu px px' prog w _ _ ?_)
  refine PySem.W.kat_go (fun e1 => ?_) (fun e1 => ?_)
  · have ex : g.1 = g'.1 := of_decide_eq_true e1
    refine PySem.W.kat_yes (PySem.W.kat_cons (eq_P hu py py' prog w _ _ ?_))
    refine PySem.W.kat_go (fun e2 => ?_) (fun e2 => ?_)
    · have ey : g.2 = g'.2 := of_decide_eq_true e2
      have e3 : ltS g g' = false := by
        rw [show g = g' from Prod.ext ex ey]
        exact ltS_irr _
      exact PySem.W.kat_yes (PySem.W.kat_nil ⟨rfl, e3.symm⟩)
    · have e3 : ltS g g' = ltP g.2 g'.2 := if_pos ex
      refine PySem.W.kat_no (PySem.W.kat_one _ _ (rc_ltP hu py py' prog w _ _ ?_))
      exact (show s = s ∧ ltP g.2 g'.2 = ltS g g' from ⟨rfl, e3.symm⟩)
  · have ex : ¬ g.1 = g'.1 := of_decide_eq_false e1
    have e3 : ltS g g' = ltP g.1 g'.1 := if_neg ex
    refine PySem.W.kat_no (PySem.W.kat_one _ _ (rc_ltP hu px px' prog w _ _ ?_))
    exact (show s = s ∧ ltP g.1 g'.1 = ltS g g' from ⟨rfl, e3.symm⟩)
theorem segSortable {a : Addr} {vs : List Value} {k : Value → Sg} (hu : A.units < cLine) (h0 : 0 < vs.length) (hp : ∀ v ∈ vs, IsS s.heap v (k v)) (ha : ∀ o, s.heap.get? a = some o → o.cls ≠ .type "tuple") : SrtO.SortableO prog w A s a vs fun v u => ltS (k v) (k u) := by
  intro h' keep
  have ko : TupsOld s.heap h' := fun b o e c => keep b o (fun z => ha o (z ▸ e) c) e
  have hp' : ∀ v ∈ vs, IsS h' v (k v) := fun v hm => (hp v hm).keep ko
  obtain ⟨fs, h1, h2, h3⟩ := segFirsts fun v hm => ⟨_, hp' v hm⟩
  refine ⟨tuples' false, fun Q E hq => ?_, segCmp (s := { s with heap := h' }) hu hp'⟩
  refine PySem.W.kat_kind (T := .type "tuple") h1 (by omega) (fun f hm => ?_) (by rfl) ?_
  · obtain ⟨p, b, t, u, rfl, ⟨o, ho, hc, _⟩⟩ := h3 f hm
    have z : PySem.W.Looks (model prog w) h' (typeOf (.ref b)) o.cls := (PySem.W.Looks.ld ho).andThen .now
    rw [hc] at z
    exact z
  · have e : (Value.type "tuple" != Value.type "tuple") = false := by first | rfl | decide
    rw [e]
    exact hq
end
def SegAt (H : Hp) (x : V) (g : Sg) : Prop := ∃ t b c, x = V.ref t ∧ H t = some (.tup [.ref b, .ref c]) ∧ H b = some (.tup [.int g.1.1, .int g.1.2]) ∧ H c = some (.tup [.int g.2.1, .int g.2.2])
def rSortSeg (K : PySem.W.Frag) : List V → Hp → VK → Prop := fun vs H Q => ∃ (a : Addr) (xs : List V) (k : V → Sg), vs = [V.ref a] ∧ SqL K H a xs ∧ (∀ x ∈ xs, SegAt H x (k x)) ∧
  ∀ ys p, SrtO.Srtd (fun x y => ltS (k x) (k y)) ys → ys.Perm xs → H p = none → Q (.ref p) (upd H p (.lst ys))
section
variable {X : Cx}
theorem call_sortSeg (hu : X.A.units + 65 < cLine) : CallR X (.builtin "sorted") (rSortSeg X.K) := by
  rintro pins s σ H vs us Q I r ⟨a, xs, k, rfl, hs, hx, q⟩
  obtain ⟨its, rv, hl, hz⟩ := I.list hs
  obtain ⟨u, rfl, ru⟩ := vals1 r
  obtain rfl : u = Value.ref a := ru
  obtain ⟨e1, e2⟩ := refs_back rv fun x m => by
    obtain ⟨t, _, _, e, _⟩ := hx x m
    exact ⟨t, e⟩
  have seg : ∀ v ∈ its, IsS s.heap v (k (backV v)) := fun v hv => by
    obtain ⟨t, rfl⟩ := e2 v hv
    have hm : V.ref t ∈ xs := by
      rw [e1]
      exact List.mem_map.mpr ⟨_, hv, rfl⟩
    obtain ⟨t', b, c, e, h1, h2, h3⟩ := hx _ hm
    cases e
    exact isS_of I h1 h2 h3
  refine SrtO.sorted_ord (swoS fun u => k (backV u)) hl.isList (by rw [← rv.length]; exact hz) (fun h2 h₁ b hb kk => ?_) fun out hsd hst => ?_
  · refine segSortable (s := { s with heap := h₁ }) (by show X.A.units + 1 + 1 < cLine; omega) (by omega) (fun v hm => (seg v hm).keep fun c o e _ => (kk c o e).2) fun o e => ?_
    have e' : some o = some (seqObj "list" its.toArray 0) := e.symm.trans hb
    cases e'
    exact fun c => absurd (Value.type.inj c) (by decide)
  · have h3 : ∀ u ∈ out, ∃ a, u = Value.ref a := fun u hu => e2 u (hst.perm.mem_iff.mp hu)
    have hb : (out.map backV).Perm xs := by
      rw [e1]
      exact hst.perm.map _
    obtain ⟨n, hn⟩ := sortedAll_at s.heap its out.toArray
    refine ⟨.ref (s.heap.objs.size + 1), upd H _ (.lst (out.map backV)), I.laid (t' := s.toks) (fun b o e => sortedAll_old e) (Nat.le_succ _) ⟨?_, out, n, vals_back h3, hn⟩, rfl, q _ _ (SrtO.srtd_map (lt := fun x y => ltS (k x) (k y)) (f := backV) hsd) hb (I.hok.fresh (Nat.le_succ _))⟩
    rw [hb.length_eq]
    exact hz
end
def kS (G : Hp) (v : V) : Sg := match v with
  | .ref a => (match G a with
    | some (.tup [x, y]) => (kP G x, kP G y)
    | _ => ((0, 0), (0, 0)))
  | _ => ((0, 0), (0, 0))
theorem kS_is {G : Hp} {v : V} {g : Sg} (h : Da G v (eS g)) : kS G v = g ∧ SegAt G v g := by
  obtain ⟨a, ws, rfl, ha, hd⟩ := h.tupE
  obtain ⟨x, y, rfl, h1, h2⟩ := hd.twoE
  have q1 := (kP_is h1).1
  have q2 := (kP_is h2).1
  obtain ⟨b, rfl, eb⟩ := h1.pairE
  obtain ⟨c, rfl, ec⟩ := h2.pairE
  refine ⟨?_, a, b, c, rfl, ha, eb, ec⟩
  show (match G a with
    | some (.tup [x, y]) => (kP G x, kP G y)
    | _ => ((0, 0), (0, 0))) = g
  rw [ha]
  show (kP G (.ref b), kP G (.ref c)) = g
  rw [q1, q2]
theorem rc_sortS {K : PySem.W.Frag} {l : List Sg} : RcD (rSortSeg K) [.list (l.map eS)] (.list ((srtS l).map eS)) := fun G H vs s h Q q => by
  obtain ⟨v, rfl, h1⟩ := h.oneE
  obtain ⟨a, ws, rfl, ha, hd⟩ := h1.lstE
  have hk : ∀ v ∈ ws, Da G v (eS (kS G v)) := fun v hv => by
    obtain ⟨d, hd1, hd2⟩ := hd.mem hv
    obtain ⟨p, _, rfl⟩ := List.mem_map.mp hd1
    rw [(kS_is hd2).1]
    exact hd2
  have hm : ws.map (kS G) = l := map_of (fun v a h => (kS_is h).1) hd
  refine ⟨a, ws, kS G, rfl, .of (s _ _ ha), fun x hx => ?_, fun ys n h1 h2 hn => ?_⟩
  · obtain ⟨t, b, c, e1, e2, e3, e4⟩ := (kS_is (hk x hx)).2
    exact ⟨t, b, c, e1, s _ _ e2, s _ _ e3, s _ _ e4⟩
  · have g := Grow.new (o := .lst ys) s hn
    refine q _ _ _ g (.lst upd_same ?_)
    have e1 : ys.map (kS G) = srtS l := by
      rw [← hm]
      exact srtS_uniq (SrtO.srtd_map (lt := ltS) (f := kS G) h1) (h2.map _)
    rw [← e1]
    exact daAll_of fun v hv => (hk v (h2.mem_iff.mp hv)).same g.g
end K29
namespace K29
open PySem PySem.Spec PyProof.Rows L2

/-! ### zip of a tuple and a list -/
def ItzM (K : PySem.W.Frag) (a b : Addr) : It :=
  ⟨fun i H => ∃ (xs ys : List V) (x y : V), SqT K H a xs ∧ SqL K H b ys ∧ xs[i]? = some x ∧ ys[i]? = some y,
    fun i H v H' => ∃ T x y, v = .ref T ∧ H T = none ∧ H' = upd H T (.tup [x, y]) ∧ (∀ xs, SqT K H a xs → xs[i]? = some x) ∧ ∀ ys, SqL K H b ys → ys[i]? = some y,
    fun i H => ∃ xs ys : List V, SqT K H a xs ∧ SqL K H b ys ∧ i = xs.length ∧ xs.length = ys.length⟩
/-- the five cells of a zip -/
def zCells (N : Nat) : List Addr := [N + 4, N + 2, N + 3, N, N + 1]
def ZipM (N a b : Nat) (i : Nat) (h : Heap) : Prop := IsZip h (N + 4) (N + 2) (N + 3) .none ∧ IsTupOf2 h (N + 2) (.ref N) (.ref (N + 1)) ∧ (∃ x y, IsTupOf2 h (N + 3) x y) ∧ h.IsTupleIter N a i ∧ h.IsListIter (N + 1) b i
theorem zCells_of {N c : Nat} (h : c ∈ zCells N) : N ≤ c ∧ c ≤ N + 4 := by
  unfold zCells at h
  simp only [List.mem_cons, List.not_mem_nil, or_false] at h
  rcases h with z | z | z | z | z <;> subst z <;> omega
theorem ZipM.frame {N a b i : Nat} {h h' : Heap} (z : ZipM N a b i h) (k : ∀ c ∈ zCells N, ∀ o, h.get? c = some o → h'.get? c = some o) : ZipM N a b i h' := by
  obtain ⟨z1, z2, ⟨x, y, z3⟩, z4, z5⟩ := z
  exact ⟨k _ (by simp [zCells]) _ z1, k _ (by simp [zCells]) _ z2, ⟨x, y, k _ (by simp [zCells]) _ z3⟩, z4.at fun o e => k _ (by simp [zCells]) o e, z5.at fun o e => k _ (by simp [zCells]) o e⟩
theorem zWr {N c : Nat} (h : c ∉ zCells N) : c ∉ [N + 4, N + 3, N, N + 1] := fun q => h (by
  unfold zCells
  simp only [List.mem_cons, List.not_mem_nil, or_false] at q ⊢
  rcases q with z | z | z | z <;> subst z <;> simp)
theorem turn_zipM {P : Program} {w : World} {K : PySem.W.Frag} {elts : List Expr} {kk : Nat} {tpos : Pos} {a b N : Nat} (ha : a < N) (hb : b < N) : Turn P w K (.Tuple elts kk tpos) (ItzM K a b) (zCells N) (N + 4) (ZipM N a b) where
  mem := by simp [zCells]
  obj := fun i h st c hc => by
    obtain ⟨z1, z2, ⟨x, y, z3⟩, ⟨o1, e1, _, d1⟩, ⟨o2, e2, _, d2⟩⟩ := st
    unfold zCells at hc
    simp only [List.mem_cons, List.not_mem_nil, or_false] at hc
    rcases hc with q | q | q | q | q <;> subst q
    · exact ⟨_, z1, fun v q => nomatch q⟩
    · exact ⟨_, z2, fun v q => nomatch q⟩
    · exact ⟨_, z3, fun v q => nomatch q⟩
    · exact ⟨o1, e1, fun v q => by rw [d1] at q; cases q⟩
    · exact ⟨o2, e2, fun v q => by rw [d2] at q; cases q⟩
  keep := fun i h h' st k => st.frame k
  item := by
    rintro X rfl rfl rfl hc i pins s σ H E I hf ⟨z1, z2, z3, z4, z5⟩ ⟨xs, ys, x, y, hqx, hqy, hx, hy⟩
    obtain ⟨its, rv, p, _⟩ := I.tuple hqx
    obtain ⟨its2, rv2, p2, _⟩ := I.list hqy
    have hix := (List.getElem?_eq_some_iff.mp hx).1
    have hiy := (List.getElem?_eq_some_iff.mp hy).1
    have l1 := rv.length
    have l2 := rv2.length
    have apart := zip_sep2 (N := N) (fp1 := [a]) (fp2 := [b]) (fun c hc => by rw [List.mem_singleton.mp hc]; exact ha) (fun c hc => by rw [List.mem_singleton.mp hc]; exact hb)
    have D1 := Draws.tuple (prog := X.prog) (w := X.w) (A := X.A.in1) (I.ok.hd hc) N a (Nat.ne_of_lt ha) its.toArray
    have D2 := Draws.list (prog := X.prog) (w := X.w) (A := X.A.in1) (I.ok.hd hc) (N + 1) b (Nat.ne_of_lt (Nat.lt_succ_of_lt hb)) its2.toArray
    have Z := GoesN.zip2 (elts := elts) (x1 := kk) (pos := tpos) apart D1 D2
    refine Z.goes i s _ E (by simp; omega) ⟨z1, z2, z3, ⟨z4, p⟩, ⟨z5, p2.isList⟩⟩ fun v h' tk hY st' hk htk => ?_
    obtain ⟨T, u, u2, rfl, hnew, hu, hu2, hT⟩ := hY
    obtain ⟨y1, y2, y3, ⟨y4, _⟩, ⟨y5, _⟩⟩ := st'
    obtain ⟨w1, hw1, rw1⟩ := rv.get hx
    obtain ⟨w2, hw2, rw2⟩ := rv2.get hy
    have e1 : u = w1 := by
      have : its[i]? = some u := by simpa using hu
      rw [hw1] at this
      exact (Option.some.inj this).symm
    have e2 : u2 = w2 := by
      have : its2[i]? = some u2 := by simpa using hu2
      rw [hw2] at this
      exact (Option.some.inj this).symm
    subst e1 e2
    obtain ⟨oT, hoT, hcT, nT, hdT⟩ := hT
    have new : ObjOk X.prog X.w (upd H T (.tup [x, y])) h' T (.tup [x, y]) := ⟨by show 2 ≤ sizeLine; decide, [u, u2], .cons rw1 (.cons rw2 .nil), ⟨oT, hoT, hcT, nT, hdT⟩⟩
    refine ⟨.ref T, upd H T (.tup [x, y]), I.turnedNew (t' := tk) (ch := zCells N) (fun c o hb q => hk c o (zWr hb) q) hf hnew new, rfl, ⟨T, x, y, rfl, I.hok.fresh hnew, rfl, fun l hl => by rw [I.tuple_inj hl hqx]; exact hx, fun l hl => by rw [I.list_inj hl hqy]; exact hy⟩, ⟨y1, y2, y3, y4, y5⟩, fun c hcm => ?_⟩
    have hlt : c < s.heap.objs.size := Nat.lt_of_le_of_lt (zCells_of hcm).2 (Heap.lt_size z1)
    rw [upd_ne (Nat.ne_of_lt (Nat.lt_of_lt_of_le hlt hnew))]
    exact (hf c hcm).1
  done := by
    rintro X rfl rfl rfl hc i pins s σ H E I hf ⟨z1, z2, z3, z4, z5⟩ ⟨xs, ys, hqx, hqy, rfl, hl⟩
    obtain ⟨its, rv, p, _⟩ := I.tuple hqx
    obtain ⟨its2, rv2, p2, _⟩ := I.list hqy
    have l1 := rv.length
    have l2 := rv2.length
    have apart := zip_sep2 (N := N) (fp1 := [a]) (fp2 := [b]) (fun c hc => by rw [List.mem_singleton.mp hc]; exact ha) (fun c hc => by rw [List.mem_singleton.mp hc]; exact hb)
    have D1 := Draws.tuple (prog := X.prog) (w := X.w) (A := X.A.in1) (I.ok.hd hc) N a (Nat.ne_of_lt ha) its.toArray
    have D2 := Draws.list (prog := X.prog) (w := X.w) (A := X.A.in1) (I.ok.hd hc) (N + 1) b (Nat.ne_of_lt (Nat.lt_succ_of_lt hb)) its2.toArray
    have Z := GoesN.zip2 (elts := elts) (x1 := kk) (pos := tpos) apart D1 D2
    have en : min its.toArray.size its2.toArray.size = xs.length := by simp; omega
    have hst : IsZip s.heap (N + 4) (N + 2) (N + 3) .none ∧ IsTupOf2 s.heap (N + 2) (.ref N) (.ref (N + 1)) ∧ (∃ x y, IsTupOf2 s.heap (N + 3) x y) ∧ (s.heap.IsTupleIter N a xs.length ∧ s.heap.IsTuple a its.toArray) ∧ (s.heap.IsListIter (N + 1) b xs.length ∧ s.heap.IsList b its2.toArray) := ⟨z1, z2, z3, ⟨z4, p⟩, ⟨z5, p2.isList⟩⟩
    rw [← en] at hst
    exact Z.stops s _ E hst fun h' tk hk htk => I.turnedL (t' := tk) (ch := zCells N) (fun c o hb q => hk c o (zWr hb) q) hf
  self := fun A i s Q E st h => wpAny_pyIter_zip st.1 h
def iZipM (K : PySem.W.Frag) (ta : TA) : TI := fun σ H R => ta σ H fun vs H1 => ∃ a b xs ys, vs = [.ref a, .ref b] ∧ SqT K H1 a xs ∧ SqL K H1 b ys ∧ R (ItzM K a b) H1
theorem pi_zipM {X : Cx} {e e2 : Expr} {ta : TA} {p pos tpos : Pos} {elts : List Expr} {kk : Nat} (hg : Gl X "zip") (hm : X.mg "zip" = none) (ha : PA X [e, e2] ta)
    (hs : starEach [e, e2] X.env = (false, eval e X.env) :: starEach [e2] X.env := by rfl) (hpl : (backTo pos (starEach [e2] X.env)).any (·.1) = false := by rfl) : PI X (.Tuple elts kk tpos) (.Call (.Name "zip" p) [e, e2] [] pos) (iZipM X.K ta) := by
  refine ⟨fun pins s σ H R I h => Call_ (ld_blt I hg hm PyProof.Rows.boot_zip (PyProof.Rows.callWith_type1 (thn (ha.run pos pins s σ H _ I h) ?_) hs hpl))⟩
  rintro us s1 ⟨vs, H1, I1, r1, a, b, xs, ys, rfl, hqx, hqy, q⟩
  obtain ⟨u1, u2, rfl, r1, r2⟩ := vals2 r1
  cases r1
  cases r2
  obtain ⟨its, rv, p1, _⟩ := I1.tuple hqx
  obtain ⟨its2, rv2, p2, _⟩ := I1.list hqy
  have lta : a < s1.heap.objs.size := by
    obtain ⟨_, e, _⟩ := p1
    exact Heap.lt_size e
  refine zip_begins2 (begins_tuple a its.toArray) (begins_list b its2.toArray) p1 p2.isList fun h' hz hTI hTO h1 h2 hsz hk => wpAny_pyIter_zip hz ?_
  have I2 : L2.Inv X pins σ H1 { s1 with heap := h' } := I1.kept (t' := s1.toks) hk
  refine ⟨s1.heap.objs.size + 4, zCells s1.heap.objs.size, ZipM s1.heap.objs.size a b, ItzM X.K a b, H1, rfl, I2, turn_zipM lta p2.lt, ⟨hz, hTI, ⟨_, _, hTO⟩, ⟨_, h1, rfl, rfl⟩, ⟨_, h2, rfl, rfl⟩⟩, fun c hcm => ?_, q⟩
  have hle := (zCells_of hcm).1
  exact I1.fpOk hle (I1.hok.fresh hle)

/-- (x, y), (x', y'), .. -/
def zipD (l m : List PyData) : List PyData := (l.zip m).map fun p => .tuple [p.1, p.2]
theorem wd_zipM {K : PySem.W.Frag} {a b : Addr} {vs ws : List V} {G : Hp} {l m : List PyData} (h1 : G a = some (.tup vs)) (d1 : DaAll G vs l) (h2 : G b = some (.lst ws)) (d2 : DaAll G ws m) (hl : l.length = m.length) : WalkD (ItzM K a b) G (zipD l m) := by
  have e1 := d1.length
  have e2 := d2.length
  have en : (zipD l m).length = vs.length := by
    unfold zipD
    rw [List.length_map, List.length_zip]
    omega
  refine ⟨fun H => SqT K H a vs ∧ SqL K H b ws, YPair (fun i => vs[i]?) (fun i => ws[i]?), ⟨fun i H hi q => ?_, fun H q => ?_, fun i H x H' hi q y => ?_⟩, fun H' s => ⟨SqT.of (s _ _ h1), SqL.of (s _ _ h2)⟩, fun i Gc H x H' s1 s2 hi y => ?_⟩
  · rw [en] at hi
    have hi2 : i < ws.length := by omega
    exact ⟨vs, ws, _, _, q.1, q.2, List.getElem?_eq_getElem hi, List.getElem?_eq_getElem hi2⟩
  · exact ⟨vs, ws, q.1, q.2, en, by omega⟩
  · obtain ⟨T, x1, x2, a1, a2, a3, a4, a5⟩ := y
    exact ⟨T, x1, x2, a1, a2, a3, a4 vs q.1, a5 ws q.2⟩
  · obtain ⟨T, x1, x2, rfl, nT, rfl, q1, q2⟩ := y
    obtain ⟨da, p1, p2⟩ := d1.at q1
    obtain ⟨db, p3, p4⟩ := d2.at q2
    have gr := Grow.new (o := .tup [x1, x2]) s2 nT
    refine ⟨.tuple [da, db], _, ?_, gr, .tup upd_same (.cons ((p2.same s1).same gr.g) (.one ((p4.same s1).same gr.g)))⟩
    unfold zipD
    rw [List.getElem?_map, (List.getElem?_zip_eq_some (z := (da, db))).mpr ⟨p1, p3⟩]
    rfl
theorem it_zipM {K : PySem.W.Frag} {ds : DE} {tl : TA} {l m : List PyData} (h : EvA tl ds [.tuple l, .list m]) (hl : l.length = m.length) : ItD (iZipM K tl) ds (zipD l m) := fun G H σ s e R q => h G H σ s e _ fun vs G1 H1 g1 d1 => by
  obtain ⟨v, w, rfl, da, db⟩ := d1.twoE
  obtain ⟨a, vs, rfl, ha, hda⟩ := da.tupE
  obtain ⟨b, ws, rfl, hb, hdb⟩ := db.lstE
  exact ⟨a, b, vs, ws, rfl, .of (g1.s _ _ ha), .of (g1.s _ _ hb), q _ G1 H1 g1 (wd_zipM ha hda hb hdb hl)⟩
end K29
namespace K29
open PySem PySem.Spec PyProof.Rows L2

/-! ### the text -/
def topS (i : Nat) : Stmt := PySem.Challenge.pw_trueatlas_k29_whole_each_half_edge_once.main.body.getD i (.Pass ⟨0, 0, 0, 0⟩)
/-- a def of the top as it stands behind it -/
structure DefAt (K : PySem.W.Frag) (mg : Str → Option Value) (x : Str) (st : Stmt) (ps : List Str) : Prop where
  ex : ∃ (f : Addr) (fd : FuncData), Fun K x x st f fd ∧ mg x = some (.ref f) ∧ Binds K fd ps []
/-- the built-in names that the program uses are not bound by it; its three numbers -/
structure Blt (mg : Str → Option Value) : Prop where
  len_ : mg "len" = none
  min_ : mg "min" = none
  max_ : mg "max" = none
  abs_ : mg "abs" = none
  all_ : mg "all" = none
  any_ : mg "any" = none
  sum_ : mg "sum" = none
  sorted_ : mg "sorted" = none
  isinstance_ : mg "isinstance" = none
  int_ : mg "int" = none
  bool_ : mg "bool" = none
  str_ : mg "str" = none
  tuple_ : mg "tuple" = none
  list_ : mg "list" = none
  range_ : mg "range" = none
  zip_ : mg "zip" = none
  enumerate_ : mg "enumerate" = none
structure Glb (mg : Str → Option Value) : Prop where
  g_FARTHEST : ∃ t, mg "FARTHEST" = some (.int 1000 t)
  g_MOST_POINTS : ∃ t, mg "MOST_POINTS" = some (.int 60 t)
  g_MOST_EDGES : ∃ t, mg "MOST_EDGES" = some (.int 120 t)
theorem pe_gi {X : Cx} {x : Str} {i : Int} {pos : Pos} (hg : Gl X x) (hm : ∃ t, X.mg x = some (.int i t)) (hd : (x == ("__debug__" : Str)) = false := by decide) : PE X (.Name x pos) (tC (.int i)) := by
  obtain ⟨t, h⟩ := hm
  exact pe_glob hg h ⟨t, rfl⟩ hd
section
variable {P : Program} {w : World} {K : PySem.W.Frag} {mg : Str → Option Value} {base : Heap}
/-- a def of data -/
theorem cal_at {x : Str} {st : Stmt} {N ps : List Str} {k : Nat} {sp : List PyData → PyData → Prop} (D : DefAt K mg x st ps) (S : FnScope N ps (defScope st)) (hlen : ∀ dl d, sp dl d → dl.length = ps.length)
    (hbody : ∀ (f : Addr) (cdv : Value) (A : Around) (outer : List PySem.Env) (s : Shared) (H : Hp) (E : XK), Room k (A.deeper (envOfC x (defScope st) s.heap.objs.size f cdv)) →
      ∃ t, PSs (cxOf CX0 P w K mg base N x (defScope st) f cdv A outer s H E).nox (defBody st) t ∧ ∀ dl d, sp dl d → StD t (startD N dl) (fun _ => d = .none) (fun r => r = d)) : Cal P w K mg base (k + 1) x (SpD sp) := by
  obtain ⟨f, fd, F, hm, b⟩ := D.ex
  exact cal_pure F hm b S hlen fun cdv A outer s H E hr => hbody f cdv A outer s H E hr
/-- a def by its promise -/
theorem cal_by {x : Str} {st : Stmt} {N ps : List Str} {k : Nat} {sp : Sp} (D : DefAt K mg x st ps) (S : FnScope N ps (defScope st)) (hlen : ∀ vs H Q E, sp vs H Q E → vs.length = ps.length)
    (hbody : ∀ (f : Addr) (cdv : Value) (A : Around) (outer : List PySem.Env) (s : Shared) (H : Hp) (vs : List V) (Q : VK) (E : XK), Room k (A.deeper (envOfC x (defScope st) s.heap.objs.size f cdv)) → sp vs H Q E →
      ∃ t, PSs (cxOf CX0 P w K mg base N x (defScope st) f cdv A outer s H E).nox (defBody st) t ∧ t { nx := fun _ H' => Q .non H', rt := Q } (start N vs) H) : Cal P w K mg base (k + 1) x sp := by
  obtain ⟨f, fd, F, hm, b⟩ := D.ex
  exact ⟨f, fd, ps, [], F.ok S hlen fun cdv A outer s H vs Q E hr h => hbody f cdv A outer s H vs Q E hr h, hm, F.kp, b, .nil⟩
end
/-! ### the layer's rules with the written part K said (a comprehension's block has a context of its own) -/
section
variable {X : Cx} {K : PySem.W.Frag}
theorem kix_tup (e : X.K = K := by rfl) : IxR X (rIxT K) := by
  subst e
  exact ix_tup
theorem kix_list (e : X.K = K := by rfl) : IxR X (rIxL K) := by
  subst e
  exact ix_list
theorem ksl_list (e : X.K = K := by rfl) : SlR X (rSlL K) := by
  subst e
  exact sl_list
theorem kop_inD (hu : X.A.units + 65 < cLine) (e : X.K = K := by rfl) : OpR X (compareOp .In) (rInD K) := by
  subst e
  exact op_inD hu
theorem kop_notInD (hu : X.A.units + 65 < cLine) (e : X.K = K := by rfl) : OpR X (compareOp .NotIn) (rNotInD K) := by
  subst e
  exact op_notInD hu
theorem kop_inT (hu : X.A.units + 65 < cLine) (e : X.K = K := by rfl) : OpR X (compareOp .In) (rInT K) := by
  subst e
  exact op_inT hu
theorem kop_notInT (hu : X.A.units + 65 < cLine) (e : X.K = K := by rfl) : OpR X (compareOp .NotIn) (rNotInT K) := by
  subst e
  exact op_notInT hu
theorem kop_ltT (hu : X.A.units < cLine) (e : X.K = K := by rfl) : OpR X (compareOp .Lt) (rLtT K) := by
  subst e
  exact op_ltT hu
theorem kop_leT (hu : X.A.units < cLine) (e : X.K = K := by rfl) : OpR X (compareOp .LtE) (rLeT K) := by
  subst e
  exact op_leT hu
theorem kop_eqD (hu : X.A.units + 64 < cLine) (e : X.K = K := by rfl) : OpR X (compareOp .Eq) (rEqD K) := by
  subst e
  exact op_eqD hu
theorem kop_neD (hu : X.A.units + 64 < cLine) (e : X.K = K := by rfl) : OpR X (compareOp .NotEq) (rNeD K) := by
  subst e
  exact op_neD hu
abbrev rLenS (K : PySem.W.Frag) : List V → Hp → VK → Prop := fun ys H Q => ∃ p zs, ys = [.ref p] ∧ (SqL K H p zs ∨ SqT K H p zs) ∧ Q (.int zs.length) H
abbrev rBoolL (K : PySem.W.Frag) : List V → Hp → VK → Prop := fun vs H Q => ∃ (a : Addr) (zs : List V), vs = [.ref a] ∧ SqL K H a zs ∧ Q (.bl (!zs.isEmpty)) H
abbrev rTupS (K : PySem.W.Frag) : List V → Hp → VK → Prop := fun vs H Q => ∃ p ys, vs = [.ref p] ∧ ((SqL K H p ys ∧ ∀ l, H l = none → Q (.ref l) (upd H l (.tup ys))) ∨ (SqT K H p ys ∧ Q (.ref p) H))
abbrev rLstS (K : PySem.W.Frag) : List V → Hp → VK → Prop := fun vs H Q => ∃ p ys, vs = [.ref p] ∧ (SqL K H p ys ∨ SqT K H p ys) ∧ ∀ l, H l = none → Q (.ref l) (upd H l (.lst ys))
theorem kcall_len (e : X.K = K := by rfl) : CallR X (.builtin "len") (rLenS K) := by
  subst e
  exact call_len_seq
theorem kcall_boolL (e : X.K = K := by rfl) : CallR X (.type "bool") (rBoolL K) := by
  subst e
  exact call_boolL
theorem kcall_tup (e : X.K = K := by rfl) : CallR X (.type "tuple") (rTupS K) := by
  subst e
  exact call_tuple_of
theorem kcall_lst (e : X.K = K := by rfl) : CallR X (.type "list") (rLstS K) := by
  subst e
  exact call_list_of
theorem kcall_isi (e : X.K = K := by rfl) : CallR X (.builtin "isinstance") (rIsi K) := by
  subst e
  exact call_isi
theorem kcr_all (hc : X.calm = true) (e : X.K = K := by rfl) : CallR X (.builtin "all") (rAll K) := by
  subst e
  exact cr_all hc
theorem kcr_any (hc : X.calm = true) (e : X.K = K := by rfl) : CallR X (.builtin "any") (rAny K) := by
  subst e
  exact cr_any hc
theorem kcr_sum (hc : X.calm = true) (e : X.K = K := by rfl) : CallR X (.builtin "sum") (rSum K) := by
  subst e
  exact cr_sum hc
theorem kcall_sortP (e : X.K = K := by rfl) : CallR X (.builtin "sorted") (rSortedPO K) := by
  subst e
  exact cr_sortedPO
theorem kcall_sortSeg (hu : X.A.units + 65 < cLine) (e : X.K = K := by rfl) : CallR X (.builtin "sorted") (rSortSeg K) := by
  subst e
  exact call_sortSeg hu
theorem kmt_index (e : X.K = K := by rfl) : MtR X "list.index" (rIndex K) := by
  subst e
  exact mt_index
theorem kmt_indexD (hu : X.A.units + 65 < cLine) (e : X.K = K := by rfl) : MtR X "list.index" (rIndexD K) := by
  subst e
  exact mt_indexD hu
theorem kpi_list {tg l : Expr} {tl : TE} (hl : PE X l tl) (e : X.K = K := by rfl) : PI X tg l (iList K tl) := by
  subst e
  exact pi_list hl
theorem kpi_tup {tg l : Expr} {tl : TE} (hl : PE X l tl) (e : X.K = K := by rfl) : PI X tg l (iTup K tl) := by
  subst e
  exact pi_tup hl
theorem kpi_enum {a : Expr} {ta : TA} {p pos tpos : Pos} {elts : List Expr} {kk : Nat} (hg : Gl X "enumerate") (hm : X.mg "enumerate" = none) (ha : PA X [a] ta) (hs : starEach [a] X.env = [(false, eval a X.env)] := by rfl) (e : X.K = K := by rfl) :
    PI X (.Tuple elts kk tpos) (.Call (.Name "enumerate" p) [a] [] pos) (iEnum K ta) := by
  subst e
  exact pi_enum hg hm ha hs
theorem kpi_zip {a b : Expr} {ta : TA} {p pos tpos : Pos} {elts : List Expr} {kk : Nat} (hg : Gl X "zip") (hm : X.mg "zip" = none) (ha : PA X [a, b] ta)
    (hs : starEach [a, b] X.env = (false, eval a X.env) :: starEach [b] X.env := by rfl) (hpl : (backTo pos (starEach [b] X.env)).any (·.1) = false := by rfl) (e : X.K = K := by rfl) : PI X (.Tuple elts kk tpos) (.Call (.Name "zip" p) [a, b] [] pos) (iZipM K ta) := by
  subst e
  exact pi_zipM hg hm ha hs hpl
theorem kpe_or {a b : Expr} {rest : List Expr} {ta tb : TE} {pos : Pos} (ha : PE X a ta) (hb : PE X (.BoolOp .Or (b :: rest) pos) tb) (e : X.K = K := by rfl) : PE X (.BoolOp .Or (a :: b :: rest) pos) (tOrT K ta tb) := by
  subst e
  exact pe_orT ha hb
theorem kpt_truth {a : Expr} {ta : TE} (ha : PE X a ta) (he : ∀ whole, isTrue a X.env whole = (do let v ← whole; standAt a.pos; holding [v] (truthy v))) (e : X.K = K := by rfl) :
    PT X a (fun σ H Q => ta σ H fun x H' => ∃ k, TruV K x H' k ∧ Q k H') := by
  subst e
  exact pt_truth ha he
theorem kpe_bm {o e0 : Expr} {es : List Expr} {name : Str} {T id : String} {r : V → List V → Hp → VK → Prop} {to : TE} {t : TA} {apos cpos : Pos} (pa : PlainAttrs T) (slot : Slot T name id) (hty : typeOf (.builtin id) = pure (.type "method_descriptor")) (hm : MtR X id r) (ho : PE X o to) (ha : PA X (e0 :: es) t)
    (hbase : attributeBase o name X.env (eval o X.env) = eval o X.env := by rfl)
    (hfew : ((backTo cpos (starEach (e0 :: es) X.env)).all (fun x => !x.1) && (backToKw cpos (keywordEach [] X.env)).all (fun x => x.1.isSome) && decide ((e0 :: es).length + ([] : List Keyword).length + (if ([] : List Keyword).isEmpty then 0 else 1) < 30)) = true := by rfl)
    (hline : (apos.endLine == cpos.line) = true := by rfl) (hs : starEach (e0 :: es) X.env = (false, eval e0 X.env) :: starEach es X.env := by rfl) (hplain : (backTo cpos (starEach es X.env)).any (·.1) = false := by rfl) (e : X.K = K := by rfl) :
    PE X (.Call (.Attribute o name apos) (e0 :: es) [] cpos) (tBM K T r to t) := by
  subst e
  exact pe_bm pa slot hty hm ho ha hbase hfew hline hs hplain
end
end K29
namespace K29
open PySem PySem.Spec PyProof.Rows L2

local macro_rules | `(tactic| walk_at "kev") => `(tactic| first
  | exact ev_cint
  | exact ev_cbl
  | exact ev_cnon
  | exact ev_var rfl
  | apply ev_fst
  | apply ev_snd
  | apply ev_op (hr := ro_sub)
  | apply ev_op (hr := ro_add)
  | apply ev_op (hr := ro_lt)
  | apply ev_op (hr := ro_gt)
  | apply ev_op (hr := ro_le)
  | apply ev_op (hr := ro_ge)
  | apply ev_op (hr := ro_eq)
  | apply ev_op (hr := ro_ne)
  | apply ev_neg
  | apply ev_chain (h1 := ro_le) (h2 := ro_le)
  | (refine ev_and ?_ (fun _ => ?_))
  | (refine ev_or ?_ (fun _ => ?_))
  | apply ev_not
  | apply ev_pair
  | apply ev_call
  | exact ea_nil
  | apply ea_cons
  | apply ev_cb (hr := rc_min2)
  | apply ev_cb (hr := rc_max2)
  | apply ev_cb (hr := rc_lenL)
  | apply ev_cb (hr := rc_lenT)
  | apply ev_cb (hr := rc_intB)
  | apply ev_cb (hr := rc_intI)
  | apply eb_test
  | apply eb_B
  | apply eb_not
  | (apply ev_op (hr := ro_mul ?_)))

section
variable {P : Program} {w : World} {K : PySem.W.Frag} {mg : Str → Option Value} {base : Heap}

abbrev s_turn : Stmt := topS 9
theorem sc_turn : FnScope ["a", "b", "c"] ["a", "b", "c"] (defScope s_turn) := ⟨rfl, rfl, rfl, by decide +kernel, rfl, by decide +kernel, by decide +kernel⟩
def spTurn (dl : List PyData) (d : PyData) : Prop := ∃ a b c : P2, dl = [eP a, eP b, eP c] ∧ InR a ∧ InR b ∧ InR c ∧ d = .int (tur a b c)
theorem cal_turn (D : DefAt K mg "turn" s_turn ["a", "b", "c"]) : Cal P w K mg base 1 "turn" (SpD spTurn) := by
  refine cal_at D sc_turn (fun dl d ⟨a, b, c, e, _⟩ => by rw [e]; rfl) fun f cdv A outer s H E hr => ⟨_, (pss_one (ps_ret (pe_op op_sub (pe_op op_mul (pe_op op_sub (pe_ix (kix_tup (K := K)) (pv 1) pe_int (fun _ _ => rfl)) (pe_ix (kix_tup (K := K)) (pv 0) pe_int (fun _ _ => rfl))) (pe_op op_sub (pe_ix (kix_tup (K := K)) (pv 2) pe_int (fun _ _ => rfl)) (pe_ix (kix_tup (K := K)) (pv 0) pe_int (fun _ _ => rfl)))) (pe_op op_mul (pe_op op_sub (pe_ix (kix_tup (K := K)) (pv 1) pe_int (fun _ _ => rfl)) (pe_ix (kix_tup (K := K)) (pv 0) pe_int (fun _ _ => rfl))) (pe_op op_sub (pe_ix (kix_tup (K := K)) (pv 2) pe_int (fun _ _ => rfl)) (pe_ix (kix_tup (K := K)) (pv 0) pe_int (fun _ _ => rfl))))))), ?_⟩
  rintro dl d ⟨a, b, c, rfl, ha, hb, hc, rfl⟩
  obtain ⟨a1, a2, a3, a4⟩ := ha
  obtain ⟨b1, b2, b3, b4⟩ := hb
  refine st_ret ?_ rfl
  unfold tur
  repeat' walk_at "kev"
  all_goals exact .inl (by omega)

abbrev s_lies_on : Stmt := topS 10
theorem sc_lies_on : FnScope ["point", "a", "b"] ["point", "a", "b"] (defScope s_lies_on) := ⟨rfl, rfl, rfl, by decide +kernel, rfl, by decide +kernel, by decide +kernel⟩
def spLies (dl : List PyData) (d : PyData) : Prop := ∃ p a b : P2, dl = [eP p, eP a, eP b] ∧ InR p ∧ InR a ∧ InR b ∧ d = .bool (onSeg p a b)
theorem cal_lies_on (D : DefAt K mg "lies_on" s_lies_on ["point", "a", "b"]) (B : Blt mg) (c_turn : Cal P w K mg base 1 "turn" (SpD spTurn)) : Cal P w K mg base 2 "lies_on" (SpD spLies) := by
  refine cal_at D sc_lies_on (fun dl d ⟨a, b, c, e, _⟩ => by rw [e]; rfl) fun f cdv A outer s H E hr => ⟨_, (pss_cons (ps_if (pt_cmpR op_ne (C8.pe_c c_turn hr (by decide) (by rfl) (pa_cons (pv 1) (pa_cons (pv 2) (pa_cons (pv 0) pa_nil)))) pe_int (nomark _)) (pss_one (ps_ret pe_bl)) pss_nil)
      (pss_one (ps_ret (pe_and (pe_chain op_le op_le (pe_callB (call_min2 rfl) (by rfl) B.min_ (by decide +kernel) (pa_cons (pe_ix (kix_tup (K := K)) (pv 1) pe_int (fun _ _ => rfl)) (pa_cons (pe_ix (kix_tup (K := K)) (pv 2) pe_int (fun _ _ => rfl)) pa_nil))) (pe_ix (kix_tup (K := K)) (pv 0) pe_int (fun _ _ => rfl)) (pe_callB (call_max2 rfl) (by rfl) B.max_ (by decide +kernel) (pa_cons (pe_ix (kix_tup (K := K)) (pv 1) pe_int (fun _ _ => rfl)) (pa_cons (pe_ix (kix_tup (K := K)) (pv 2) pe_int (fun _ _ => rfl)) pa_nil)))) (pe_one (pe_chain op_le op_le (pe_callB (call_min2 rfl) (by rfl) B.min_ (by decide +kernel) (pa_cons (pe_ix (kix_tup (K := K)) (pv 1) pe_int (fun _ _ => rfl)) (pa_cons (pe_ix (kix_tup (K := K)) (pv 2) pe_int (fun _ _ => rfl)) pa_nil))) (pe_ix (kix_tup (K := K)) (pv 0) pe_int (fun _ _ => rfl)) (pe_callB (call_max2 rfl) (by rfl) B.max_ (by decide +kernel) (pa_cons (pe_ix (kix_tup (K := K)) (pv 1) pe_int (fun _ _ => rfl)) (pa_cons (pe_ix (kix_tup (K := K)) (pv 2) pe_int (fun _ _ => rfl)) pa_nil))))))))), ?_⟩
  rintro dl d ⟨p, a, b, rfl, hp, ha, hb, rfl⟩
  have t1 : EvB (tTest (tOp rNe (tCall (SpD spTurn) [] C8.E0 (tCons (tVar 1) (tCons (tVar 2) (tCons (tVar 0) tNil)))) (tC (.int 0)))) (startD ["point", "a", "b"] [eP p, eP a, eP b]) (!decide (tur a b p = 0)) := by
    refine eb_test (ev_op (ev_call (ea_cons (ev_var rfl) (ea_cons (ev_var rfl) (ea_cons (ev_var rfl) ea_nil))) ⟨a, b, p, rfl, ha, hb, hp, rfl⟩) ev_cint ro_ne)
  unfold onSeg
  by_cases h : tur a b p = 0
  · rw [decide_eq_true h] at t1 ⊢
    refine st_then (st_ifF t1 (st_next rfl)) (st_ret ?_ rfl)
    unfold onB
    rw [Bool.true_and]
    repeat' walk_at "kev"
  · rw [decide_eq_false h] at t1 ⊢
    exact st_seq (M := fun _ => False) (st_ifT t1 (st_ret ev_cbl rfl)) fun _ z => z.elim
end
end K29
namespace K29
open PySem PySem.Spec PyProof.Rows L2

local macro_rules | `(tactic| walk_at "kev") => `(tactic| first
  | exact ev_cint
  | exact ev_cbl
  | exact ev_cnon
  | exact ev_var rfl
  | apply ev_fst
  | apply ev_snd
  | apply ev_op (hr := ro_sub)
  | apply ev_op (hr := ro_add)
  | apply ev_op (hr := ro_lt)
  | apply ev_op (hr := ro_gt)
  | apply ev_op (hr := ro_le)
  | apply ev_op (hr := ro_ge)
  | apply ev_op (hr := ro_eq)
  | apply ev_op (hr := ro_ne)
  | apply ev_neg
  | apply ev_chain (h1 := ro_le) (h2 := ro_le)
  | (refine ev_and ?_ (fun _ => ?_))
  | (refine ev_or ?_ (fun _ => ?_))
  | apply ev_not
  | apply ev_pair
  | apply ev_call
  | exact ea_nil
  | apply ea_cons
  | apply ev_cb (hr := rc_min2)
  | apply ev_cb (hr := rc_max2)
  | apply ev_cb (hr := rc_lenL)
  | apply ev_cb (hr := rc_lenT)
  | apply ev_cb (hr := rc_intB)
  | apply ev_cb (hr := rc_intI)
  | apply eb_test
  | apply eb_B
  | apply eb_not
  | (apply ev_op (hr := ro_mul ?_)))

section
variable {P : Program} {w : World} {K : PySem.W.Frag} {mg : Str → Option Value} {base : Heap}

abbrev s_opposite : Stmt := topS 11
theorem sc_opposite : FnScope ["first", "second"] ["first", "second"] (defScope s_opposite) := ⟨rfl, rfl, rfl, by decide +kernel, rfl, by decide +kernel, by decide +kernel⟩
def spOpp (dl : List PyData) (d : PyData) : Prop := ∃ f s : Int, dl = [.int f, .int s] ∧ d = .bool (opp f s)
theorem cal_opposite (D : DefAt K mg "opposite" s_opposite ["first", "second"]) : Cal P w K mg base 1 "opposite" (SpD spOpp) := by
  refine cal_at D sc_opposite (fun dl d ⟨a, b, e, _⟩ => by rw [e]; rfl) fun f cdv A outer s H E hr => ⟨_, (pss_one (ps_ret (pe_or (pe_and (pe_cmpR op_gt (pv 0) pe_int (nomark _)) (pe_one (pe_cmpR op_lt (pv 1) pe_int (nomark _)))) (pe_one (pe_and (pe_cmpR op_lt (pv 0) pe_int (nomark _)) (pe_one (pe_cmpR op_gt (pv 1) pe_int (nomark _)))))))), ?_⟩
  rintro dl d ⟨x, y, rfl, rfl⟩
  refine st_ret ?_ rfl
  unfold opp
  repeat' walk_at "kev"

abbrev s_cross : Stmt := topS 12
theorem sc_cross : FnScope ["a", "b", "c", "d"] ["a", "b", "c", "d"] (defScope s_cross) := ⟨rfl, rfl, rfl, by decide +kernel, rfl, by decide +kernel, by decide +kernel⟩
def spCross (dl : List PyData) (d : PyData) : Prop := ∃ a b c e : P2, dl = [eP a, eP b, eP c, eP e] ∧ (InR a ∧ InR b ∧ InR c ∧ InR e) ∧ d = .bool (crs a b c e)
theorem cal_cross (D : DefAt K mg "cross" s_cross ["a", "b", "c", "d"]) (c_turn : Cal P w K mg base 1 "turn" (SpD spTurn)) (c_opposite : Cal P w K mg base 1 "opposite" (SpD spOpp)) : Cal P w K mg base 2 "cross" (SpD spCross) := by
  refine cal_at D sc_cross (fun dl d ⟨a, b, c, e, h, _⟩ => by rw [h]; rfl) fun f cdv A outer s H E hr => ⟨_, (pss_one (ps_ret (pe_and (C8.pe_c c_opposite hr (by decide) (by rfl) (pa_cons (C8.pe_c c_turn hr (by decide) (by rfl) (pa_cons (pv 0) (pa_cons (pv 1) (pa_cons (pv 2) pa_nil)))) (pa_cons (C8.pe_c c_turn hr (by decide) (by rfl) (pa_cons (pv 0) (pa_cons (pv 1) (pa_cons (pv 3) pa_nil)))) pa_nil))) (pe_one (C8.pe_c c_opposite hr (by decide) (by rfl) (pa_cons (C8.pe_c c_turn hr (by decide) (by rfl) (pa_cons (pv 2) (pa_cons (pv 3) (pa_cons (pv 0) pa_nil)))) (pa_cons (C8.pe_c c_turn hr (by decide) (by rfl) (pa_cons (pv 2) (pa_cons (pv 3) (pa_cons (pv 1) pa_nil)))) pa_nil))))))), ?_⟩
  rintro dl d ⟨a, b, c, e, rfl, ⟨ha, hb, hc, he⟩, rfl⟩
  refine st_ret ?_ rfl
  unfold crs
  refine ev_and (ev_call (ea_cons (ev_call (ea_cons (ev_var rfl) (ea_cons (ev_var rfl) (ea_cons (ev_var rfl) ea_nil))) ⟨a, b, c, rfl, ha, hb, hc, rfl⟩) (ea_cons (ev_call (ea_cons (ev_var rfl) (ea_cons (ev_var rfl) (ea_cons (ev_var rfl) ea_nil))) ⟨a, b, e, rfl, ha, hb, he, rfl⟩) ea_nil)) ⟨_, _, rfl, rfl⟩) fun _ => ?_
  exact ev_call (ea_cons (ev_call (ea_cons (ev_var rfl) (ea_cons (ev_var rfl) (ea_cons (ev_var rfl) ea_nil))) ⟨c, e, a, rfl, hc, he, ha, rfl⟩) (ea_cons (ev_call (ea_cons (ev_var rfl) (ea_cons (ev_var rfl) (ea_cons (ev_var rfl) ea_nil))) ⟨c, e, b, rfl, hc, he, hb, rfl⟩) ea_nil)) ⟨_, _, rfl, rfl⟩

abbrev s_meet_wrongly : Stmt := topS 13
theorem sc_meet_wrongly : FnScope ["first", "second", "a", "b", "c", "d", "inner", "outer", "point"] ["first", "second"] (defScope s_meet_wrongly) := ⟨rfl, rfl, rfl, by decide +kernel, rfl, by decide +kernel, by decide +kernel⟩
def spMeet (dl : List PyData) (d : PyData) : Prop := ∃ s t : Sg, dl = [eS s, eS t] ∧ (InRS s ∧ InRS t) ∧ sepB s t = true ∧ d = .bool false
theorem filt_none {s : Sg} {p q : P2} (h1 : away s p = true) (h2 : away s q = true) : [p, q].filter (fun x => !decide (x = s.1 ∨ x = s.2) && onSeg x s.1 s.2) = [] := by
  unfold away at h1 h2
  rw [Bool.not_eq_true'] at h1 h2
  rw [List.filter_cons, if_neg (by rw [h1]; decide), List.filter_cons, if_neg (by rw [h2]; decide)]
  rfl
theorem cal_meet (D : DefAt K mg "meet_wrongly" s_meet_wrongly ["first", "second"]) (B : Blt mg) (c_cross : Cal P w K mg base 2 "cross" (SpD spCross)) (c_lies_on : Cal P w K mg base 2 "lies_on" (SpD spLies)) : Cal P w K mg base 3 "meet_wrongly" (SpD spMeet) := by
  refine cal_at D sc_meet_wrongly (fun dl d ⟨a, b, h, _⟩ => by rw [h]; rfl) fun f cdv A outer s H E hr => ⟨_, (pss_cons (ps_asg (pv 0) (pg_tup rfl (pgs_cons (pg_name (i := 2) sc_meet_wrongly.nd rfl (by first | exact Or.inl rfl | exact Or.inr rfl)) (pgs_cons (pg_name (i := 3) sc_meet_wrongly.nd rfl (by first | exact Or.inl rfl | exact Or.inr rfl)) pgs_nil))))
      (pss_cons (ps_asg (pv 1) (pg_tup rfl (pgs_cons (pg_name (i := 4) sc_meet_wrongly.nd rfl (by first | exact Or.inl rfl | exact Or.inr rfl)) (pgs_cons (pg_name (i := 5) sc_meet_wrongly.nd rfl (by first | exact Or.inl rfl | exact Or.inr rfl)) pgs_nil))))
      (pss_cons (ps_if (pt_val (C8.pe_c c_cross hr (by decide) (by rfl) (pa_cons (pv 2) (pa_cons (pv 3) (pa_cons (pv 4) (pa_cons (pv 5) pa_nil)))))) (pss_one (ps_ret pe_bl)) pss_nil)
      (pss_cons (ps_setLc (i := 6) (own := [("point", 8)]) (g := (gName 8)) rfl sc_meet_wrongly.nd rfl rfl (sw_true rfl rfl rfl (by decide +kernel)) (kpi_tup (K := K) (pe_tup (pa_cons (pv 4) (pa_cons (pv 5) pa_nil)))) (blkOk_by (own := [("point", 8)]) (N := ["first", "second", "a", "b", "c", "d", "inner", "outer", "point"]) (sc := defScope s_meet_wrongly) (by decide +kernel)) (fun _ _ _ _ _ => (pg_name (i := 8) sc_meet_wrongly.nd rfl (by first | exact Or.inl rfl | exact Or.inr rfl))) (fun _ _ _ _ _ => pts_one (PW.pt (pw_and (pt_cmpR (kop_notInT (K := K) (u65 hr)) (pv 8) (pv 0) (by with_unfolding_all rfl)) (pw_and1 (pt_val (C8.pe_c c_lies_on hr (by decide) (by rfl) (pa_cons (pv 8) (pa_cons (pv 2) (pa_cons (pv 3) pa_nil))))))))) (fun _ _ _ _ _ => (pv 8)))
      (pss_cons (ps_setLc (i := 7) (own := [("point", 8)]) (g := (gName 8)) rfl sc_meet_wrongly.nd rfl rfl (sw_true rfl rfl rfl (by decide +kernel)) (kpi_tup (K := K) (pe_tup (pa_cons (pv 2) (pa_cons (pv 3) pa_nil)))) (blkOk_by (own := [("point", 8)]) (N := ["first", "second", "a", "b", "c", "d", "inner", "outer", "point"]) (sc := defScope s_meet_wrongly) (by decide +kernel)) (fun _ _ _ _ _ => (pg_name (i := 8) sc_meet_wrongly.nd rfl (by first | exact Or.inl rfl | exact Or.inr rfl))) (fun _ _ _ _ _ => pts_one (PW.pt (pw_and (pt_cmpR (kop_notInT (K := K) (u65 hr)) (pv 8) (pv 1) (by with_unfolding_all rfl)) (pw_and1 (pt_val (C8.pe_c c_lies_on hr (by decide) (by rfl) (pa_cons (pv 8) (pa_cons (pv 4) (pa_cons (pv 5) pa_nil))))))))) (fun _ _ _ _ _ => (pv 8)))
      (pss_one (ps_ret (pe_callTy (kcall_boolL (K := K)) (by rfl) B.bool_ (by decide +kernel) (pa_cons (kpe_or (K := K) (pv 6) (pe_one (pv 7))) pa_nil))))))))), ?_⟩
  rintro dl d ⟨g, t, rfl, ⟨⟨ga, gb⟩, ⟨ta, tb⟩⟩, hs, rfl⟩
  rw [sepB_iff] at hs
  obtain ⟨h1, ⟨h2, h3⟩, ⟨h4, h5⟩⟩ := hs
  refine st_then (st_tgt (ev_var rfl) (tg_pair tg_name tg_name) rfl) (st_then (st_tgt (ev_var rfl) (tg_pair tg_name tg_name) rfl) ?_)
  refine st_then (st_ifF (eb_B (ev_is (ev_call (ea_cons (ev_var rfl) (ea_cons (ev_var rfl) (ea_cons (ev_var rfl) (ea_cons (ev_var rfl) ea_nil)))) ⟨g.1, g.2, t.1, t.2, rfl, ⟨ga, gb, ta, tb⟩, rfl⟩) (by rw [h1]))) (st_next rfl)) ?_
  have f1 : ∀ p ∈ [t.1, t.2], InR p := fun p hp => by
    rcases List.mem_cons.mp hp with e | e
    · rw [e]; exact ta
    · rw [List.mem_singleton.mp e]; exact tb
  have f2 : ∀ p ∈ [g.1, g.2], InR p := fun p hp => by
    rcases List.mem_cons.mp hp with e | e
    · rw [e]; exact ga
    · rw [List.mem_singleton.mp e]; exact gb
  refine st_then (st_asg (d := .list []) (ev_is (ev_lc [t.1, t.2] eP (fun x => !decide (x = g.1 ∨ x = g.2) && onSeg x g.1 g.2) eP (it_tup (ev_pair (ev_var rfl) (ev_var rfl))) (by simp) fun p hp => ⟨[8], _, tg_name, by simp, eb_and (eb_test (ev_op (ev_var rfl) (ev_var rfl) ro_niPS)) fun _ => eb_B (ev_call (ea_cons (ev_var rfl) (ea_cons (ev_var rfl) (ea_cons (ev_var rfl) ea_nil))) ⟨p, g.1, g.2, rfl, f1 p hp, ga, gb, rfl⟩), fun _ => ev_var rfl⟩) (by rw [filt_none h2 h3]; rfl)) rfl) ?_
  refine st_then (st_asg (d := .list []) (ev_is (ev_lc [g.1, g.2] eP (fun x => !decide (x = t.1 ∨ x = t.2) && onSeg x t.1 t.2) eP (it_tup (ev_pair (ev_var rfl) (ev_var rfl))) (by simp) fun p hp => ⟨[8], _, tg_name, by simp, eb_and (eb_test (ev_op (ev_var rfl) (ev_var rfl) ro_niPS)) fun _ => eb_B (ev_call (ea_cons (ev_var rfl) (ea_cons (ev_var rfl) (ea_cons (ev_var rfl) ea_nil))) ⟨p, t.1, t.2, rfl, f2 p hp, ta, tb, rfl⟩), fun _ => ev_var rfl⟩) (by rw [filt_none h4 h5]; rfl)) rfl) ?_
  exact st_ret (ev_cb (ea_cons (ev_orT (ev_var rfl) (ev_var rfl)) ea_nil) rc_boolL) rfl
end
end K29
namespace K29
open PySem PySem.Spec PyProof.Rows L2

local macro_rules | `(tactic| walk_at "kev") => `(tactic| first
  | exact ev_cint
  | exact ev_cbl
  | exact ev_cnon
  | exact ev_var rfl
  | apply ev_fst
  | apply ev_snd
  | apply ev_op (hr := ro_sub)
  | apply ev_op (hr := ro_add)
  | apply ev_op (hr := ro_lt)
  | apply ev_op (hr := ro_gt)
  | apply ev_op (hr := ro_le)
  | apply ev_op (hr := ro_ge)
  | apply ev_op (hr := ro_eq)
  | apply ev_op (hr := ro_ne)
  | apply ev_neg
  | apply ev_chain (h1 := ro_le) (h2 := ro_le)
  | (refine ev_and ?_ (fun _ => ?_))
  | (refine ev_or ?_ (fun _ => ?_))
  | apply ev_not
  | apply ev_pair
  | apply ev_call
  | exact ea_nil
  | apply ea_cons
  | apply ev_cb (hr := rc_min2)
  | apply ev_cb (hr := rc_max2)
  | apply ev_cb (hr := rc_lenL)
  | apply ev_cb (hr := rc_lenT)
  | apply ev_cb (hr := rc_intB)
  | apply ev_cb (hr := rc_intI)
  | apply eb_test
  | apply eb_B
  | apply eb_not
  | (apply ev_op (hr := ro_mul ?_)))

section
variable {P : Program} {w : World} {K : PySem.W.Frag} {mg : Str → Option Value} {base : Heap}

abbrev s_is_whole : Stmt := topS 7
theorem sc_is_whole : FnScope ["value", "low", "high"] ["value", "low", "high"] (defScope s_is_whole) := ⟨rfl, rfl, rfl, by decide +kernel, rfl, by decide +kernel, by decide +kernel⟩
def spWhole (dl : List PyData) (d : PyData) : Prop := ∃ v lo hi : Int, dl = [.int v, .int lo, .int hi] ∧ lo ≤ v ∧ v ≤ hi ∧ d = .bool true
theorem cal_is_whole (D : DefAt K mg "is_whole" s_is_whole ["value", "low", "high"]) (B : Blt mg) : Cal P w K mg base 1 "is_whole" (SpD spWhole) := by
  refine cal_at D sc_is_whole (fun dl d ⟨a, b, c, h, _⟩ => by rw [h]; rfl) fun f cdv A outer s H E hr => ⟨_, (pss_one (ps_ret (pe_and (pe_callB (kcall_isi (K := K)) (by rfl) B.isinstance_ (by decide +kernel) (pa_cons (pv 0) (pa_cons (pe_bltn (v := .ty "int") (by rfl) B.int_ (by decide +kernel) rfl) pa_nil))) (pe_and (pe_not (pe_callB (kcall_isi (K := K)) (by rfl) B.isinstance_ (by decide +kernel) (pa_cons (pv 0) (pa_cons (pe_bltn (v := .ty "bool") (by rfl) B.bool_ (by decide +kernel) rfl) pa_nil)))) (pe_one (pe_chain op_le op_le (pv 1) (pv 0) (pv 2))))))), ?_⟩
  rintro dl d ⟨v, lo, hi, rfl, h1, h2, rfl⟩
  refine st_ret (ev_is (ev_and (ev_isi (ev_var rfl) (.int v) (b := true) (by decide +kernel)) fun _ => ev_and (ev_not (ev_isi (ev_var rfl) (.int v) (b := false) (by decide +kernel))) fun _ => ev_chain (ev_var rfl) (ev_var rfl) (ev_var rfl) ro_le ro_le) ?_) rfl
  rw [decide_eq_true h1, decide_eq_true h2]
  rfl

abbrev s_is_place : Stmt := topS 8
theorem sc_is_place : FnScope ["value", "x"] ["value"] (defScope s_is_place) := ⟨rfl, rfl, rfl, by decide +kernel, rfl, by decide +kernel, by decide +kernel⟩
def spPlace (dl : List PyData) (d : PyData) : Prop := ∃ p : P2, dl = [eP p] ∧ InR p ∧ d = .bool true
theorem all_yes {α : Type} (l : List α) : l.all (fun _ => true) = true := by simp
theorem cal_is_place (D : DefAt K mg "is_place" s_is_place ["value"]) (B : Blt mg) (T : Glb mg) (c_is_whole : Cal P w K mg base 1 "is_whole" (SpD spWhole)) : Cal P w K mg base 2 "is_place" (SpD spPlace) := by
  refine cal_at D sc_is_place (fun dl d ⟨a, h, _⟩ => by rw [h]; rfl) fun f cdv A outer s H E hr => ⟨_, (pss_one (ps_ret (pe_and (pe_callB (kcall_isi (K := K)) (by rfl) B.isinstance_ (by decide +kernel) (pa_cons (pv 0) (pa_cons (pe_bltn (v := .ty "tuple") (by rfl) B.tuple_ (by decide +kernel) rfl) pa_nil))) (pe_and (pe_cmpR op_eq (pe_callB (kcall_len (K := K)) (by rfl) B.len_ (by decide +kernel) (pa_cons (pv 0) pa_nil)) pe_int (nomark _)) (pe_one (pe_callB (kcr_all (K := K) rfl) (by rfl) B.all_ (by decide +kernel) (pa_cons (pe_lc (own := [("x", 1)]) (g := (gName 1)) (tt := tYes) rfl sc_is_place.nd (kpi_tup (K := K) (pv 0)) (blkOk_by (own := [("x", 1)]) (N := ["value", "x"]) (sc := defScope s_is_place) (by decide +kernel)) (fun _ _ _ _ _ => (pg_name (i := 1) sc_is_place.nd rfl (by first | exact Or.inl rfl | exact Or.inr rfl))) (fun _ _ _ _ _ => pts_nil) (fun _ _ _ _ _ => (C8.pe_c c_is_whole hr (by decide) (by rfl) (pa_cons (pv 1) (pa_cons (pe_un un_neg (pe_gi (by rfl) T.g_FARTHEST)) (pa_cons (pe_gi (by rfl) T.g_FARTHEST) pa_nil)))))) pa_nil))))))), ?_⟩
  rintro dl d ⟨p, rfl, ⟨h1, h2, h3, h4⟩, rfl⟩
  refine st_ret (ev_is (ev_and (ev_isi (ev_var rfl) (.tup _) (b := true) (by decide +kernel)) fun _ => ev_and (ev_op (ev_cb (ea_cons (ev_var rfl) ea_nil) rc_lenT) ev_cint ro_eq) fun _ => ev_allM (l := [p.1, p.2]) (f := fun _ => true) (ev_lcA [p.1, p.2] eI _ (it_tup (ev_var rfl)) (by simp) fun x hx => ⟨[1], _, tg_name, by simp, ev_call (ea_cons (ev_var rfl) (ea_cons (ev_neg ev_cint) (ea_cons ev_cint ea_nil))) ⟨x, -1000, 1000, rfl, ?_, ?_, rfl⟩⟩)) ?_) rfl
  · rcases List.mem_cons.mp hx with e | e
    · rw [e]; exact h1
    · rw [List.mem_singleton.mp e]; exact h3
  · rcases List.mem_cons.mp hx with e | e
    · rw [e]; exact h2
    · rw [List.mem_singleton.mp e]; exact h4
  · rfl

abbrev s_is_edge : Stmt := topS 15
theorem sc_is_edge : FnScope ["value", "many", "part"] ["value", "many"] (defScope s_is_edge) := ⟨rfl, rfl, rfl, by decide +kernel, rfl, by decide +kernel, by decide +kernel⟩
def spEdge (dl : List PyData) (d : PyData) : Prop := ∃ (e : P2) (n : Int), dl = [eP e, .int n] ∧ 0 ≤ e.1 ∧ e.1 < e.2 ∧ e.2 < n ∧ d = .bool true
theorem cal_is_edge (D : DefAt K mg "is_edge" s_is_edge ["value", "many"]) (B : Blt mg) (c_is_whole : Cal P w K mg base 1 "is_whole" (SpD spWhole)) : Cal P w K mg base 2 "is_edge" (SpD spEdge) := by
  refine cal_at D sc_is_edge (fun dl d ⟨a, b, h, _⟩ => by rw [h]; rfl) fun f cdv A outer s H E hr => ⟨_, (pss_cons (ps_if (PW.pt (pw_or (pt_not (pt_val (pe_callB (kcall_isi (K := K)) (by rfl) B.isinstance_ (by decide +kernel) (pa_cons (pv 0) (pa_cons (pe_bltn (v := .ty "tuple") (by rfl) B.tuple_ (by decide +kernel) rfl) pa_nil))))) (pw_or (pt_cmpR op_ne (pe_callB (kcall_len (K := K)) (by rfl) B.len_ (by decide +kernel) (pa_cons (pv 0) pa_nil)) pe_int (nomark _)) (pw_or1 (pt_not (pt_val (pe_callB (kcr_all (K := K) rfl) (by rfl) B.all_ (by decide +kernel) (pa_cons (pe_lc (own := [("part", 2)]) (g := (gName 2)) (tt := tYes) rfl sc_is_edge.nd (kpi_tup (K := K) (pv 0)) (blkOk_by (own := [("part", 2)]) (N := ["value", "many", "part"]) (sc := defScope s_is_edge) (by decide +kernel)) (fun _ _ _ _ _ => (pg_name (i := 2) sc_is_edge.nd rfl (by first | exact Or.inl rfl | exact Or.inr rfl))) (fun _ _ _ _ _ => pts_nil) (fun _ _ _ _ _ => (C8.pe_c c_is_whole hr (by decide) (by rfl) (pa_cons (pv 2) (pa_cons pe_int (pa_cons (pe_op op_sub (pv 1) pe_int) pa_nil)))))) pa_nil)))))))) (pss_one (ps_ret pe_bl)) pss_nil)
      (pss_one (ps_ret (pe_cmpR op_lt (pe_ix (kix_tup (K := K)) (pv 0) pe_int (fun _ _ => rfl)) (pe_ix (kix_tup (K := K)) (pv 0) pe_int (fun _ _ => rfl)) (nomark _))))), ?_⟩
  rintro dl d ⟨p, n, rfl, h1, h2, h3, rfl⟩
  refine st_then (st_ifF (eb_is (eb_or (eb_not (eb_B (ev_isi (ev_var rfl) (.tup _) (b := true) (by decide +kernel)))) fun _ => eb_or (eb_test (ev_op (ev_cb (ea_cons (ev_var rfl) ea_nil) rc_lenT) ev_cint ro_ne)) fun _ =>
    eb_not (eb_B (ev_allM (l := [p.1, p.2]) (f := fun _ => true) (ev_lcA [p.1, p.2] eI _ (it_tup (ev_var rfl)) (by simp) fun x hx => ⟨[2], _, tg_name, by simp, ev_call (ea_cons (ev_var rfl) (ea_cons ev_cint (ea_cons (ev_op (ev_var rfl) ev_cint ro_sub) ea_nil))) ⟨x, 0, n - 1, rfl, ?_, ?_, rfl⟩⟩)))) rfl) (st_next rfl)) (st_ret (ev_is (ev_op (ev_fst (ev_var rfl)) (ev_snd (ev_var rfl)) ro_lt) ?_) rfl)
  · rcases List.mem_cons.mp hx with e | e
    · rw [e]; exact h1
    · rw [List.mem_singleton.mp e]; omega
  · rcases List.mem_cons.mp hx with e | e
    · rw [e]; omega
    · rw [List.mem_singleton.mp e]; omega
  · rw [decide_eq_true h2]

abbrev s_is_ascending : Stmt := topS 16
theorem sc_is_ascending : FnScope ["items", "at"] ["items"] (defScope s_is_ascending) := ⟨rfl, rfl, rfl, by decide +kernel, rfl, by decide +kernel, by decide +kernel⟩
def spAsc (dl : List PyData) (d : PyData) : Prop := ∃ l : List P2, dl = [.tuple (l.map eP)] ∧ l.length ≤ 1000 ∧ Asc l ∧ d = .bool true
theorem rangeD_map (n : Nat) : rangeD 0 n = (List.range n).map fun k : Nat => eI (k : Int) := by
  unfold rangeD
  refine List.map_congr_left fun k _ => ?_
  show PyData.int (0 + (k : Int)) = PyData.int (k : Int)
  rw [Int.zero_add]
theorem atG_map {α : Type} {l : List α} {e : α → PyData} {k : Nat} {x : α} (h : l[k]? = some x) : atG (l.map e) (k : Int) = some (e x) := atG_nat (by rw [List.getElem?_map, h]; rfl)
theorem cal_is_ascending (D : DefAt K mg "is_ascending" s_is_ascending ["items"]) (B : Blt mg) : Cal P w K mg base 1 "is_ascending" (SpD spAsc) := by
  refine cal_at D sc_is_ascending (fun dl d ⟨a, h, _⟩ => by rw [h]; rfl) fun f cdv A outer s H E hr => ⟨_, (pss_one (ps_ret (pe_callB (kcr_all (K := K) rfl) (by rfl) B.all_ (by decide +kernel) (pa_cons (pe_lc (own := [("at", 1)]) (g := (gName 1)) (tt := tYes) rfl sc_is_ascending.nd (pi_range1 (by rfl) B.range_ (pa_cons (pe_op op_sub (pe_callB (kcall_len (K := K)) (by rfl) B.len_ (by decide +kernel) (pa_cons (pv 0) pa_nil)) pe_int) pa_nil)) (blkOk_by (own := [("at", 1)]) (N := ["items", "at"]) (sc := defScope s_is_ascending) (by decide +kernel)) (fun _ _ _ _ _ => (pg_name (i := 1) sc_is_ascending.nd rfl (by first | exact Or.inl rfl | exact Or.inr rfl))) (fun _ _ _ _ _ => pts_nil) (fun _ _ _ _ _ => (pe_cmpR (kop_ltT (K := K) hr.units0) (pe_ix (kix_tup (K := K)) (pv 0) (pv 1) (fun _ _ => rfl)) (pe_ix (kix_tup (K := K)) (pv 0) (pe_op op_add (pv 1) pe_int) (fun _ _ => rfl)) (nomark _)))) pa_nil)))), ?_⟩
  rintro dl d ⟨l, rfl, hl, ha, rfl⟩
  have it : ItD (iRng1 (tCons (tOp (rI0 fun i j => .int (i - j)) (tCB (rLenS K) (tCons (tVar 0) tNil)) (tC (.int 1))) tNil)) (startD ["items", "at"] [.tuple (l.map eP)]) ((List.range (l.length - 1)).map fun k : Nat => eI (k : Int)) := by
    rw [← rangeD_map]
    cases l with
    | nil =>
      refine fun G H σ s e R q => ?_
      obtain ⟨v, h1, h2⟩ := e.get (i := 0) (d := .tuple []) rfl
      obtain ⟨a, vs, rfl, ha, hd⟩ := h2.tupE
      rw [hd.nilE] at ha
      refine ⟨_, h1, a, [], rfl, .inr (.of (s _ _ ha)), 0, 1, rfl, rfl, -1, rfl, by decide, by decide, q _ G H (.refl s) wd_range⟩
    | cons x r =>
      refine it_range (n := (x :: r).length - 1) (ea_cons (ev_is (ev_op (ev_cb (ea_cons (ev_var rfl) ea_nil) rc_lenT) ev_cint ro_sub) ?_) ea_nil) (by omega)
      rw [List.length_map]
      show PyData.int (((r.length + 1 : Nat) : Int) - 1) = PyData.int ((r.length + 1 - 1 : Nat) : Int)
      congr 1
      omega
  refine st_ret (ev_is (ev_allM (l := List.range (l.length - 1)) (f := fun _ => true) (ev_lcA (List.range (l.length - 1)) (fun k : Nat => eI (k : Int)) _ it (by rw [List.length_range]; omega) fun k hk => ⟨[1], _, tg_name, by simp, ?_⟩)) (congrArg PyData.bool (all_yes _))) rfl
  have hk1 : k < l.length := by have := List.mem_range.mp hk; omega
  have hk2 : k + 1 < l.length := by have := List.mem_range.mp hk; omega
  have e1 := List.getElem?_eq_getElem hk1
  have e2 := List.getElem?_eq_getElem hk2
  refine ev_is (ev_op (ev_op (ev_var rfl) (ev_var rfl) (ro_ixT (atG_map e1))) (ev_op (ev_var rfl) (ev_op (ev_var rfl) ev_cint ro_add) (ro_ixT (atG_map (k := k + 1) e2))) ro_ltP) ?_
  rw [ha.get (Nat.lt_succ_self k) e1 e2]
end
end K29
namespace K29
open PySem PySem.Spec PyProof.Rows L2

local macro_rules | `(tactic| walk_at "kev") => `(tactic| first
  | exact ev_cint
  | exact ev_cbl
  | exact ev_cnon
  | exact ev_var rfl
  | apply ev_fst
  | apply ev_snd
  | apply ev_op (hr := ro_sub)
  | apply ev_op (hr := ro_add)
  | apply ev_op (hr := ro_lt)
  | apply ev_op (hr := ro_gt)
  | apply ev_op (hr := ro_le)
  | apply ev_op (hr := ro_ge)
  | apply ev_op (hr := ro_eq)
  | apply ev_op (hr := ro_ne)
  | apply ev_neg
  | apply ev_chain (h1 := ro_le) (h2 := ro_le)
  | (refine ev_and ?_ (fun _ => ?_))
  | (refine ev_or ?_ (fun _ => ?_))
  | apply ev_not
  | apply ev_pair
  | apply ev_call
  | exact ea_nil
  | apply ea_cons
  | apply ev_cb (hr := rc_min2)
  | apply ev_cb (hr := rc_max2)
  | apply ev_cb (hr := rc_lenL)
  | apply ev_cb (hr := rc_lenT)
  | apply ev_cb (hr := rc_intB)
  | apply ev_cb (hr := rc_intI)
  | apply eb_test
  | apply eb_B
  | apply eb_not
  | (apply ev_op (hr := ro_mul ?_)))

theorem cutG_to {α : Type} (xs : List α) (k : Nat) : cutG xs none (some (k : Int)) = xs.take k := by
  unfold cutG
  rw [HT.sIx_none, HT.sIx_nat, List.drop_zero, Nat.sub_zero]
  by_cases h : k ≤ xs.length
  · rw [Nat.min_eq_left h]
  · rw [Nat.min_eq_right (by omega), List.take_length, List.take_of_length_le (by omega)]
theorem cutG_from {α : Type} (xs : List α) (k : Nat) : cutG xs (some (k : Int)) none = xs.drop k := by
  unfold cutG
  rw [HT.sIx_none, HT.sIx_nat]
  by_cases h : k ≤ xs.length
  · rw [Nat.min_eq_left h]
    exact List.take_of_length_le (by rw [List.length_drop]; omega)
  · rw [Nat.min_eq_right (by omega), Nat.sub_self, List.take_zero, List.drop_of_length_le (by omega)]
theorem any_no {α : Type} (l : List α) : l.any (fun _ => false) = false := by simp
section
variable {P : Program} {w : World} {K : PySem.W.Frag} {mg : Str → Option Value} {base : Heap}

abbrev s_are_clean : Stmt := topS 14
theorem sc_are_clean : FnScope ["segments", "at", "first", "second"] ["segments"] (defScope s_are_clean) := ⟨rfl, rfl, rfl, by decide +kernel, rfl, by decide +kernel, by decide +kernel⟩
def spClean (dl : List PyData) (d : PyData) : Prop := ∃ l : List Sg, dl = [.list (l.map eS)] ∧ l.length ≤ 1000 ∧ (∀ s ∈ l, InRS s) ∧ (∀ (i j : Nat) (s t : Sg), l[i]? = some s → l[j]? = some t → j < i → sepB s t = true) ∧ d = .bool true
theorem cal_are_clean (D : DefAt K mg "are_clean" s_are_clean ["segments"]) (B : Blt mg) (c_meet_wrongly : Cal P w K mg base 3 "meet_wrongly" (SpD spMeet)) : Cal P w K mg base 4 "are_clean" (SpD spClean) := by
  refine cal_at D sc_are_clean (fun dl d ⟨a, h, _⟩ => by rw [h]; rfl) fun f cdv A outer s H E hr => ⟨_, (pss_cons (ps_for PassesOwn.never rfl (kpi_enum (K := K) (by rfl) B.enumerate_ (pa_cons (pv 0) pa_nil)) (pg_tup rfl (pgs_cons (pg_name (i := 1) sc_are_clean.nd rfl (by first | exact Or.inl rfl | exact Or.inr rfl)) (pgs_cons (pg_name (i := 2) sc_are_clean.nd rfl (by first | exact Or.inl rfl | exact Or.inr rfl)) pgs_nil))) (pss_one (ps_if (pt_val (pe_callB (kcr_any (K := K) rfl) (by rfl) B.any_ (by decide +kernel) (pa_cons (pe_lc (own := [("second", 3)]) (g := (gName 3)) (tt := tYes) rfl sc_are_clean.nd (kpi_list (K := K) (pe_slice (ksl_list (K := K)) (pv 0) po_none (po_some (pv 1)))) (blkOk_by (own := [("second", 3)]) (N := ["segments", "at", "first", "second"]) (sc := defScope s_are_clean) (by decide +kernel)) (fun _ _ _ _ _ => (pg_name (i := 3) sc_are_clean.nd rfl (by first | exact Or.inl rfl | exact Or.inr rfl))) (fun _ _ _ _ _ => pts_nil) (fun _ _ _ _ _ => (C8.pe_c c_meet_wrongly hr (by decide) (by rfl) (pa_cons (pv 2) (pa_cons (pv 3) pa_nil))))) pa_nil))) (pss_one (ps_ret pe_bl)) pss_nil)))
      (pss_one (ps_ret pe_bl))), ?_⟩
  rintro dl d ⟨l, rfl, hl, hin, hsep, rfl⟩
  refine st_seq (M := fun ds => ∃ x y z, ds = [some (.list (l.map eS)), x, y, z]) ?_ fun ds' ⟨x, y, z, e⟩ => st_ret ev_cbl rfl
  refine st_for (it_enum (ea_cons (ev_var rfl) ea_nil)) (fun _ ds => ∃ x y z, ds = [some (.list (l.map eS)), x, y, z]) ⟨_, _, _, rfl⟩ ?_ fun ds' h => h
  rintro i d ds' hd ⟨x, y, z, rfl⟩
  have hi : i < l.length := by
    have := (List.getElem?_eq_some_iff.mp hd).1
    rw [enumD_len, List.length_map] at this
    exact this
  have e1 : (l.map eS)[i]? = some (eS l[i]) := by
    rw [List.getElem?_map, List.getElem?_eq_getElem hi]
    rfl
  rw [enumD_get e1] at hd
  cases hd
  refine ⟨_, _, tg_pair tg_name tg_name, st_ifF (eb_B (ev_is (ev_anyM (l := l.take i) (f := fun _ => false) (ev_lcA (l.take i) eS _ (it_list (ev_is (ev_slL (ev_var rfl) eo_no (eo_some (ev_var rfl))) ?_)) ?_ fun t ht => ⟨[3], _, tg_name, by simp, ev_call (ea_cons (ev_var rfl) (ea_cons (ev_var rfl) ea_nil)) ⟨l[i], t, rfl, ⟨hin _ (List.getElem_mem hi), hin t (List.mem_of_mem_take ht)⟩, ?_, rfl⟩⟩)) (congrArg PyData.bool (any_no _)))) (st_next ⟨_, _, _, rfl⟩)⟩
  · rw [cutG_to, List.map_take]
  · rw [List.length_take]
    omega
  · obtain ⟨j, hj, e2⟩ := List.mem_iff_getElem.mp ht
    rw [List.length_take] at hj
    rw [List.getElem_take] at e2
    have hj2 : j < l.length := by omega
    exact hsep i j _ t (List.getElem?_eq_getElem hi) (by rw [← e2]; exact List.getElem?_eq_getElem hj2) (by omega)

abbrev s_check_plane : Stmt := topS 18
theorem sc_check_plane : FnScope ["plane"] ["plane"] (defScope s_check_plane) := ⟨rfl, rfl, rfl, by decide +kernel, rfl, by decide +kernel, by decide +kernel⟩
abbrev ePl (pts eds : List P2) : PyData := .tuple [.tuple (pts.map eP), .tuple (eds.map eP)]
def spIsPlane (dl : List PyData) (d : PyData) : Prop := ∃ pts eds : List P2, dl = [ePl pts eds] ∧ GoodPl pts eds ∧ d = .bool true
def spCheck (dl : List PyData) (d : PyData) : Prop := ∃ pts eds : List P2, dl = [ePl pts eds] ∧ GoodPl pts eds ∧ d = .none
theorem cal_check_plane (D : DefAt K mg "check_plane" s_check_plane ["plane"]) (c_is_plane : Cal P w K mg base 5 "is_plane" (SpD spIsPlane)) : Cal P w K mg base 6 "check_plane" (SpD spCheck) := by
  refine cal_at D sc_check_plane (fun dl d ⟨a, b, h, _⟩ => by rw [h]; rfl) fun f cdv A outer s H E hr => ⟨_, (pss_one (ps_if (pt_not (pt_val (C8.pe_c c_is_plane hr (by decide) (by rfl) (pa_cons (pv 0) pa_nil)))) (pss_one ps_never) pss_nil)), ?_⟩
  rintro dl d ⟨pts, eds, rfl, g, rfl⟩
  exact st_ifF (eb_is (eb_not (eb_B (ev_call (ea_cons (ev_var rfl) ea_nil) ⟨pts, eds, rfl, g, rfl⟩))) rfl) (st_next rfl)
end
end K29
namespace K29
open PySem PySem.Spec PyProof.Rows L2

local macro_rules | `(tactic| walk_at "kev") => `(tactic| first
  | exact ev_cint
  | exact ev_cbl
  | exact ev_cnon
  | exact ev_var rfl
  | apply ev_fst
  | apply ev_snd
  | apply ev_op (hr := ro_sub)
  | apply ev_op (hr := ro_add)
  | apply ev_op (hr := ro_lt)
  | apply ev_op (hr := ro_gt)
  | apply ev_op (hr := ro_le)
  | apply ev_op (hr := ro_ge)
  | apply ev_op (hr := ro_eq)
  | apply ev_op (hr := ro_ne)
  | apply ev_neg
  | apply ev_chain (h1 := ro_le) (h2 := ro_le)
  | (refine ev_and ?_ (fun _ => ?_))
  | (refine ev_or ?_ (fun _ => ?_))
  | apply ev_not
  | apply ev_pair
  | apply ev_call
  | exact ea_nil
  | apply ea_cons
  | apply ev_cb (hr := rc_min2)
  | apply ev_cb (hr := rc_max2)
  | apply ev_cb (hr := rc_lenL)
  | apply ev_cb (hr := rc_lenT)
  | apply ev_cb (hr := rc_intB)
  | apply ev_cb (hr := rc_intI)
  | apply eb_test
  | apply eb_B
  | apply eb_not
  | (apply ev_op (hr := ro_mul ?_)))

theorem atG_pt {pts : List P2} {i : Int} (h0 : 0 ≤ i) (h1 : i < (pts.length : Int)) : atG (pts.map eP) i = some (eP (ptAt pts i)) := by
  have h := atG_map (e := eP) (ptAt_get h0 h1)
  rwa [Int.toNat_of_nonneg h0] at h
theorem any_away {s : Sg} {l : List P2} (h : ∀ p ∈ l, away s p = true) : l.any (fun p => !decide (p = s.1 ∨ p = s.2) && onSeg p s.1 s.2) = false := by
  rw [List.any_eq_false]
  intro p hp q
  have := h p hp
  unfold away at this
  rw [q] at this
  cases this
section
variable {P : Program} {w : World} {K : PySem.W.Frag} {mg : Str → Option Value} {base : Heap}

abbrev s_is_plane : Stmt := topS 17
theorem sc_is_plane : FnScope ["value", "points", "edges", "segments", "segment", "i", "j", "point", "part", "edge"] ["value"] (defScope s_is_plane) := ⟨rfl, rfl, rfl, by decide +kernel, rfl, by decide +kernel, by decide +kernel⟩
theorem cal_is_plane (D : DefAt K mg "is_plane" s_is_plane ["value"]) (B : Blt mg) (T : Glb mg) (c_is_place : Cal P w K mg base 2 "is_place" (SpD spPlace)) (c_is_edge : Cal P w K mg base 2 "is_edge" (SpD spEdge)) (c_is_ascending : Cal P w K mg base 1 "is_ascending" (SpD spAsc))
    (c_lies_on : Cal P w K mg base 2 "lies_on" (SpD spLies)) (c_are_clean : Cal P w K mg base 4 "are_clean" (SpD spClean)) : Cal P w K mg base 5 "is_plane" (SpD spIsPlane) := by
  refine cal_at D sc_is_plane (fun dl d ⟨a, b, h, _⟩ => by rw [h]; rfl) fun f cdv A outer s H E hr => ⟨_, (pss_cons (ps_if (PW.pt (pw_or (pt_not (pt_val (pe_callB (kcall_isi (K := K)) (by rfl) B.isinstance_ (by decide +kernel) (pa_cons (pv 0) (pa_cons (pe_bltn (v := .ty "tuple") (by rfl) B.tuple_ (by decide +kernel) rfl) pa_nil))))) (pw_or (pt_cmpR op_ne (pe_callB (kcall_len (K := K)) (by rfl) B.len_ (by decide +kernel) (pa_cons (pv 0) pa_nil)) pe_int (nomark _)) (pw_or1 (pt_not (pt_val (pe_callB (kcr_all (K := K) rfl) (by rfl) B.all_ (by decide +kernel) (pa_cons (pe_lc (own := [("part", 8)]) (g := (gName 8)) (tt := tYes) rfl sc_is_plane.nd (kpi_tup (K := K) (pv 0)) (blkOk_by (own := [("part", 8)]) (N := ["value", "points", "edges", "segments", "segment", "i", "j", "point", "part", "edge"]) (sc := defScope s_is_plane) (by decide +kernel)) (fun _ _ _ _ _ => (pg_name (i := 8) sc_is_plane.nd rfl (by first | exact Or.inl rfl | exact Or.inr rfl))) (fun _ _ _ _ _ => pts_nil) (fun _ _ _ _ _ => (pe_callB (kcall_isi (K := K)) (by rfl) B.isinstance_ (by decide +kernel) (pa_cons (pv 8) (pa_cons (pe_bltn (v := .ty "tuple") (by rfl) B.tuple_ (by decide +kernel) rfl) pa_nil))))) pa_nil)))))))) (pss_one (ps_ret pe_bl)) pss_nil)
      (pss_cons (ps_asg (pv 0) (pg_tup rfl (pgs_cons (pg_name (i := 1) sc_is_plane.nd rfl (by first | exact Or.inl rfl | exact Or.inr rfl)) (pgs_cons (pg_name (i := 2) sc_is_plane.nd rfl (by first | exact Or.inl rfl | exact Or.inr rfl)) pgs_nil))))
      (pss_cons (ps_if (PW.pt (pw_or (pt_not (pt_chain op_le op_le pe_int (pe_callB (kcall_len (K := K)) (by rfl) B.len_ (by decide +kernel) (pa_cons (pv 1) pa_nil)) (pe_gi (by rfl) T.g_MOST_POINTS))) (pw_or1 (pt_cmpR op_gt (pe_callB (kcall_len (K := K)) (by rfl) B.len_ (by decide +kernel) (pa_cons (pv 2) pa_nil)) (pe_gi (by rfl) T.g_MOST_EDGES) (nomark _))))) (pss_one (ps_ret pe_bl)) pss_nil)
      (pss_cons (ps_if (PW.pt (pw_or (pt_not (pt_val (pe_callB (kcr_all (K := K) rfl) (by rfl) B.all_ (by decide +kernel) (pa_cons (pe_lc (own := [("point", 7)]) (g := (gName 7)) (tt := tYes) rfl sc_is_plane.nd (kpi_tup (K := K) (pv 1)) (blkOk_by (own := [("point", 7)]) (N := ["value", "points", "edges", "segments", "segment", "i", "j", "point", "part", "edge"]) (sc := defScope s_is_plane) (by decide +kernel)) (fun _ _ _ _ _ => (pg_name (i := 7) sc_is_plane.nd rfl (by first | exact Or.inl rfl | exact Or.inr rfl))) (fun _ _ _ _ _ => pts_nil) (fun _ _ _ _ _ => (C8.pe_c c_is_place hr (by decide) (by rfl) (pa_cons (pv 7) pa_nil)))) pa_nil)))) (pw_or1 (pt_not (pt_val (pe_callB (kcr_all (K := K) rfl) (by rfl) B.all_ (by decide +kernel) (pa_cons (pe_lc (own := [("edge", 9)]) (g := (gName 9)) (tt := tYes) rfl sc_is_plane.nd (kpi_tup (K := K) (pv 2)) (blkOk_by (own := [("edge", 9)]) (N := ["value", "points", "edges", "segments", "segment", "i", "j", "point", "part", "edge"]) (sc := defScope s_is_plane) (by decide +kernel)) (fun _ _ _ _ _ => (pg_name (i := 9) sc_is_plane.nd rfl (by first | exact Or.inl rfl | exact Or.inr rfl))) (fun _ _ _ _ _ => pts_nil) (fun _ _ _ _ _ => (C8.pe_c c_is_edge hr (by decide) (by rfl) (pa_cons (pv 9) (pa_cons (pe_callB (kcall_len (K := K)) (by rfl) B.len_ (by decide +kernel) (pa_cons (pv 1) pa_nil)) pa_nil))))) pa_nil))))))) (pss_one (ps_ret pe_bl)) pss_nil)
      (pss_cons (ps_if (PW.pt (pw_or (pt_not (pt_val (C8.pe_c c_is_ascending hr (by decide) (by rfl) (pa_cons (pv 1) pa_nil)))) (pw_or1 (pt_not (pt_val (C8.pe_c c_is_ascending hr (by decide) (by rfl) (pa_cons (pv 2) pa_nil))))))) (pss_one (ps_ret pe_bl)) pss_nil)
      (pss_cons (ps_setLc (i := 3) (own := [("i", 5), ("j", 6)]) (g := (gTup K 2 (gCons (gName 5) (gCons (gName 6) gNil)))) (tt := tYes) rfl sc_is_plane.nd rfl rfl (sw_true rfl rfl rfl (by decide +kernel)) (kpi_tup (K := K) (pv 2)) (blkOk_by (own := [("i", 5), ("j", 6)]) (N := ["value", "points", "edges", "segments", "segment", "i", "j", "point", "part", "edge"]) (sc := defScope s_is_plane) (by decide +kernel)) (fun _ _ _ _ _ => (pg_tup rfl (pgs_cons (pg_name (i := 5) sc_is_plane.nd rfl (by first | exact Or.inl rfl | exact Or.inr rfl)) (pgs_cons (pg_name (i := 6) sc_is_plane.nd rfl (by first | exact Or.inl rfl | exact Or.inr rfl)) pgs_nil)))) (fun _ _ _ _ _ => pts_nil) (fun _ _ _ _ _ => (pe_tup (pa_cons (pe_ix (kix_tup (K := K)) (pv 1) (pv 5) (fun _ _ => rfl)) (pa_cons (pe_ix (kix_tup (K := K)) (pv 1) (pv 6) (fun _ _ => rfl)) pa_nil)))))
      (pss_cons (ps_for PassesOwn.never rfl (kpi_list (K := K) (pv 3)) (pg_name (i := 4) sc_is_plane.nd rfl (by first | exact Or.inl rfl | exact Or.inr rfl)) (pss_one (ps_if (pt_val (pe_callB (kcr_any (K := K) rfl) (by rfl) B.any_ (by decide +kernel) (pa_cons (pe_lc (own := [("point", 7)]) (g := (gName 7)) (tt := tYes) rfl sc_is_plane.nd (kpi_tup (K := K) (pv 1)) (blkOk_by (own := [("point", 7)]) (N := ["value", "points", "edges", "segments", "segment", "i", "j", "point", "part", "edge"]) (sc := defScope s_is_plane) (by decide +kernel)) (fun _ _ _ _ _ => (pg_name (i := 7) sc_is_plane.nd rfl (by first | exact Or.inl rfl | exact Or.inr rfl))) (fun _ _ _ _ _ => pts_nil) (fun _ _ _ _ _ => (pe_and (pe_cmpR (kop_notInT (K := K) (u65 hr)) (pv 7) (pv 4) (by with_unfolding_all rfl)) (pe_one (C8.pe_c c_lies_on hr (by decide) (by rfl) (pa_cons (pv 7) (pa_cons (pe_ix (kix_tup (K := K)) (pv 4) pe_int (fun _ _ => rfl)) (pa_cons (pe_ix (kix_tup (K := K)) (pv 4) pe_int (fun _ _ => rfl)) pa_nil)))))))) pa_nil))) (pss_one (ps_ret pe_bl)) pss_nil)))
      (pss_one (ps_ret (C8.pe_c c_are_clean hr (by decide) (by rfl) (pa_cons (pv 3) pa_nil))))))))))), ?_⟩
  rintro dl d ⟨pts, eds, rfl, g, rfl⟩
  have lp := g.len
  have le := g.elen
  have l1 := g.pos
  have hpl : pts.length ≤ 100000 := by omega
  have hel : eds.length ≤ 100000 := by omega
  refine st_then (st_ifF (eb_is (eb_or (eb_not (eb_B (ev_isi (ev_var rfl) (.tup _) (b := true) (by decide +kernel)))) fun _ => eb_or (eb_test (ev_op (ev_cb (ea_cons (ev_var rfl) ea_nil) rc_lenT) ev_cint ro_ne)) fun _ =>
    eb_not (eb_B (ev_allM (l := [pts, eds]) (f := fun _ => true) (ev_lcA [pts, eds] (fun l => .tuple (l.map eP)) _ (it_tup (ev_var rfl)) (by simp) fun x hx => ⟨[8], _, tg_name, by simp, ev_isi (ev_var rfl) (.tup _) (b := true) (by decide +kernel)⟩)))) rfl) (st_next rfl)) ?_
  refine st_then (st_tgt (ev_var rfl) (tg_pair tg_name tg_name) rfl) ?_
  refine st_then (st_ifF (eb_is (eb_or (eb_not (eb_test (ev_chain ev_cint (ev_cb (ea_cons (ev_var rfl) ea_nil) rc_lenT) ev_cint ro_le ro_le))) fun _ => eb_test (ev_op (ev_cb (ea_cons (ev_var rfl) ea_nil) rc_lenT) ev_cint ro_gt)) ?_) (st_next rfl)) ?_
  · rw [List.length_map, List.length_map, decide_eq_true (by omega), decide_eq_true (by omega), decide_eq_false (by omega)]
    rfl
  refine st_then (st_ifF (eb_is (eb_or (eb_not (eb_B (ev_allM (l := pts) (f := fun _ => true) (ev_lcA pts eP _ (it_tup (ev_var rfl)) hpl fun p hp => ⟨[7], _, tg_name, by simp, ev_call (ea_cons (ev_var rfl) ea_nil) ⟨p, rfl, g.inr p hp, rfl⟩⟩)))) fun _ =>
    eb_not (eb_B (ev_allM (l := eds) (f := fun _ => true) (ev_lcA eds eP _ (it_tup (ev_var rfl)) hel fun e he => ⟨[9], _, tg_name, by simp, ev_call (ea_cons (ev_var rfl) (ea_cons (ev_cb (ea_cons (ev_var rfl) ea_nil) rc_lenT) ea_nil)) ⟨e, _, rfl, (g.edge e he).1, (g.edge e he).2.1, by rw [List.length_map]; exact (g.edge e he).2.2, rfl⟩⟩)))) (by rw [all_yes, all_yes]; rfl)) (st_next rfl)) ?_
  refine st_then (st_ifF (eb_is (eb_or (eb_not (eb_B (ev_call (ea_cons (ev_var rfl) ea_nil) ⟨pts, rfl, by omega, g.asc, rfl⟩))) fun _ => eb_not (eb_B (ev_call (ea_cons (ev_var rfl) ea_nil) ⟨eds, rfl, by omega, g.easc, rfl⟩))) rfl) (st_next rfl)) ?_
  refine st_then (st_asg (ev_lcA eds eP (fun e => eS (segOf pts e)) (it_tup (ev_var rfl)) hel fun e he => ⟨[5, 6], _, tg_pair tg_name tg_name, by simp, ?_⟩) rfl) ?_
  · obtain ⟨e0, e1, e2⟩ := g.edge e he
    exact ev_pair (ev_op (ev_var rfl) (ev_var rfl) (ro_ixT (atG_pt e0 (by omega)))) (ev_op (ev_var rfl) (ev_var rfl) (ro_ixT (atG_pt (by omega) e2)))
  let SL : PyData := .list (eds.map fun e => eS (segOf pts e))
  refine st_seq (M := fun ds => ∃ x, ds = [some (ePl pts eds), some (.tuple (pts.map eP)), some (.tuple (eds.map eP)), some SL, x, none, none, none, none, none]) ?_ ?_
  · refine st_for (it_list (ev_var rfl)) (fun _ ds => ∃ x, ds = [some (ePl pts eds), some (.tuple (pts.map eP)), some (.tuple (eds.map eP)), some SL, x, none, none, none, none, none]) ⟨_, rfl⟩ ?_ fun ds' h => h
    rintro i d ds' hd ⟨x, rfl⟩
    obtain ⟨e, he, rfl⟩ := List.mem_map.mp (List.mem_of_getElem? hd)
    have ends := g.ends he
    refine ⟨_, _, tg_name, st_ifF (eb_B (ev_is (ev_anyM (l := pts) (f := fun p => !decide (p = (segOf pts e).1 ∨ p = (segOf pts e).2) && onSeg p (segOf pts e).1 (segOf pts e).2) (ev_lcA pts eP _ (it_tup (ev_var rfl)) hpl fun p hp => ⟨[7], _, tg_name, by simp,
      ev_and (ev_op (ev_var rfl) (ev_var rfl) ro_niPS) fun _ => ev_call (ea_cons (ev_var rfl) (ea_cons (ev_fst (ev_var rfl)) (ea_cons (ev_snd (ev_var rfl)) ea_nil))) ⟨p, _, _, rfl, g.inr p hp, ends.1, ends.2, rfl⟩⟩)) (congrArg PyData.bool (any_away (g.away e he))))) (st_next ⟨_, rfl⟩)⟩
  · rintro ds' ⟨x, rfl⟩
    refine st_ret (ev_call (ea_cons (ev_var rfl) ea_nil) ⟨eds.map (segOf pts), by rw [List.map_map]; rfl, by rw [List.length_map]; omega, ?_, ?_, rfl⟩) rfl
    · intro t ht
      obtain ⟨e, he, rfl⟩ := List.mem_map.mp ht
      exact g.ends he
    · intro i j t u hi hj hji
      rw [List.getElem?_map, Option.map_eq_some_iff] at hi hj
      obtain ⟨e, he, rfl⟩ := hi
      obtain ⟨f, hf, rfl⟩ := hj
      refine g.sep e (List.mem_of_getElem? he) f (List.mem_of_getElem? hf) fun z => ?_
      have := g.easc.get hji hf he
      rw [z, ltP_irr] at this
      cases this
end
end K29
/-! K29: readings that change objects of their own: a slot may hold an object that is no data yet (a list that grows, a dict of pairs). -/
namespace K29
open PySem PySem.Spec PyProof.Rows L2

inductive Own where
  | lst (l : List PyData)
  | dct (ks : List P2)
def keyP (p : P2) : List L2.Key := [Sum.inl p.1, Sum.inl p.2]
def Own.ok (G H : Hp) (p : Addr) : Own → Prop
  | .lst l => ∃ vs, H p = some (.lst vs) ∧ DaAll G vs l
  | .dct ks => ∃ kvs : List (List L2.Key × V), H p = some (.dT kvs) ∧ kvs.map (·.1) = ks.map keyP
abbrev OE := List (Nat × Addr × Own)
/-- since (G0, H0): what is in C0 may have changed, nothing else -/
structure GrowO (C0 : List Addr) (G0 H0 G H : Hp) : Prop where
  g : Same G0 G
  s : Same G H
  h : ∀ b o, b ∉ C0 → H0 b = some o → H b = some o
  k : ∀ b o, H0 b = some o → ∃ u, H b = some u
  n : ∀ a o, G a = some o → G0 a = some o ∨ H0 a = none
structure HasA (C0 : List Addr) (H0 G H : Hp) (σ : L2.St) (os : OE) : Prop where
  is : ∀ i p o, (i, p, o) ∈ os → σ[i]? = some (some (.ref p)) ∧ G p = none ∧ Own.ok G H p o ∧ ((i = 0 ∧ p ∈ C0) ∨ H0 p = none)
  ne : ∀ i p o j q u, (i, p, o) ∈ os → (j, q, u) ∈ os → i ≠ j → p ≠ q
section
variable {C0 : List Addr} {G0 H0 G H G' H' : Hp} {σ σ' : L2.St} {os : OE} {p : Addr} {o : Own}
theorem GrowO.refl (s : Same G H) : GrowO C0 G H G H := ⟨Same.refl _, s, fun _ _ _ e => e, fun _ o e => ⟨o, e⟩, fun _ _ e => .inl e⟩
theorem GrowO.then (a : GrowO C0 G0 H0 G H) (b : Grow G H G' H') : GrowO C0 G0 H0 G' H' := ⟨a.g.trans b.g, b.s, fun x o n e => b.h _ _ (a.h x o n e), fun x o e => by
    obtain ⟨u, h⟩ := a.k x o e
    exact ⟨u, b.h _ _ h⟩, fun x o e => by
    rcases b.n x o e with q | q
    · exact a.n x o q
    · refine .inr ?_
      cases z : H0 x with
      | none => rfl
      | some w =>
        obtain ⟨u, h⟩ := a.k x w z
        rw [q] at h
        cases h⟩
theorem GrowO.fresh (a : GrowO C0 G0 H0 G H) (h : H p = none) : H0 p = none := by
  cases z : H0 p with
  | none => rfl
  | some w =>
    obtain ⟨u, q⟩ := a.k p w z
    rw [h] at q
    cases q
theorem GrowO.grow (a : GrowO [] G0 H0 G H) : Grow G0 H0 G H := ⟨a.g, a.s, fun b o e => a.h b o (by simp) e, a.n⟩
/-- an object that is not in G changes -/
theorem GrowO.put {ho : HO} (a : GrowO C0 G0 H0 G H) (h1 : G p = none) (h2 : p ∈ C0 ∨ H0 p = none) : GrowO C0 G0 H0 G (upd H p ho) := ⟨a.g, same_put a.s h1, fun b o n e => by
    have nb : b ≠ p := fun z => by
      subst z
      rcases h2 with q | q
      · exact n q
      · rw [e] at q
        cases q
    rw [upd_ne nb]
    exact a.h b o n e, fun b o e => by
    by_cases hb : b = p
    · subst hb
      exact ⟨_, upd_same⟩
    · rw [upd_ne hb]
      exact a.k b o e, a.n⟩
/-- an object of one's own becomes data -/
theorem GrowO.free {ho : HO} (a : GrowO C0 G0 H0 G H) (h1 : G p = none) (h2 : H0 p = none) (h3 : H p = some ho) : GrowO C0 G0 H0 (upd G p ho) H := ⟨a.g.trans (same_new h1), same_add a.s h3, a.h, a.k, fun x o e => by
    by_cases hx : x = p
    · subst hx
      exact .inr h2
    · rw [upd_ne hx] at e
      exact a.n x o e⟩
theorem Own.ok.grow (g : Same G G') (h : Same H H') : Own.ok G H p o → Own.ok G' H' p o := by
  cases o with
  | lst l => exact fun ⟨vs, e, d⟩ => ⟨vs, h _ _ e, d.same g⟩
  | dct ks => exact fun ⟨kvs, e, d⟩ => ⟨kvs, h _ _ e, d⟩
theorem Own.ok.has : Own.ok G H p o → ∃ u, H p = some u := by
  cases o with
  | lst l => exact fun ⟨vs, e, d⟩ => ⟨_, e⟩
  | dct ks => exact fun ⟨kvs, e, d⟩ => ⟨_, e⟩
theorem HasA.grow (a : HasA C0 H0 G H σ os) (b : Grow G H G' H') : HasA C0 H0 G' H' σ os := ⟨fun i p o m => by
    obtain ⟨h1, h2, h3, h4⟩ := a.is i p o m
    obtain ⟨u, h5⟩ := h3.has
    exact ⟨h1, b.out h2 h5, h3.grow b.g b.h, h4⟩, a.ne⟩
theorem HasA.slots (a : HasA C0 H0 G H σ os) (h : ∀ q ∈ os, σ'[q.1]? = σ[q.1]?) : HasA C0 H0 G H σ' os := ⟨fun i p o m => by
    obtain ⟨h1, r⟩ := a.is i p o m
    exact ⟨(h _ m).trans h1, r⟩, a.ne⟩
theorem HasA.nil : HasA C0 H0 G H σ [] := ⟨fun _ _ _ m => (nomatch m), fun _ _ _ _ _ _ m => (nomatch m)⟩
def setO (os : OE) (i : Nat) (o : Own) : OE := os.map fun q => if q.1 = i then (q.1, q.2.1, o) else q
def outO (os : OE) (i : Nat) : OE := os.filter fun q => decide (q.1 ≠ i)
theorem mem_setO {i j : Nat} {q : Addr} {u : Own} (h : (j, q, u) ∈ setO os i o) : (j = i ∧ u = o ∧ ∃ w, (i, q, w) ∈ os) ∨ (j ≠ i ∧ (j, q, u) ∈ os) := by
  obtain ⟨⟨a, b, c⟩, m, e⟩ := List.mem_map.mp h
  by_cases ha : a = i
  · rw [if_pos ha] at e
    cases e
    exact .inl ⟨ha, rfl, c, ha ▸ m⟩
  · rw [if_neg ha] at e
    cases e
    exact .inr ⟨ha, m⟩
theorem HasA.put {i : Nat} {ho : HO} {o' : Own} (a : HasA C0 H0 G H σ os) (m : (i, p, o) ∈ os) (h : Own.ok G (upd H p ho) p o') : HasA C0 H0 G (upd H p ho) σ (setO os i o') := by
  obtain ⟨h1, h2, h3, h4⟩ := a.is i p o m
  have same : ∀ q w, (i, q, w) ∈ os → q = p := fun q w mq => by
    have := (a.is i q w mq).1
    rw [h1] at this
    cases this
    rfl
  refine ⟨fun j q u mq => ?_, fun j q u k r w m1 m2 hne => ?_⟩
  · rcases mem_setO mq with ⟨rfl, rfl, w, mw⟩ | ⟨hj, mq⟩
    · obtain rfl := same q w mw
      exact ⟨h1, h2, h, h4⟩
    · obtain ⟨g1, g2, g3, g4⟩ := a.is j q u mq
      have hq : q ≠ p := a.ne j q u i p o mq m hj
      refine ⟨g1, g2, ?_, g4⟩
      cases u with
      | lst l =>
        obtain ⟨vs, e, d⟩ := g3
        exact ⟨vs, by rw [upd_ne hq]; exact e, d⟩
      | dct ks =>
        obtain ⟨kvs, e, d⟩ := g3
        exact ⟨kvs, by rw [upd_ne hq]; exact e, d⟩
  · rcases mem_setO m1 with ⟨rfl, rfl, w1, mw1⟩ | ⟨hj, mq⟩
    · rcases mem_setO m2 with ⟨rfl, rfl, w2, mw2⟩ | ⟨hk, mq2⟩
      · exact absurd rfl hne
      · exact a.ne _ _ _ _ _ _ mw1 mq2 hne
    · rcases mem_setO m2 with ⟨rfl, rfl, w2, mw2⟩ | ⟨hk, mq2⟩
      · exact a.ne _ _ _ _ _ _ mq mw2 hne
      · exact a.ne _ _ _ _ _ _ mq mq2 hne
theorem HasA.add {i : Nat} (a : HasA C0 H0 G H σ os) (hp : H p = none → False) (hn : ∀ q ∈ os, q.2.1 ≠ p) (h1 : σ[i]? = some (some (.ref p))) (h2 : G p = none) (h3 : Own.ok G H p o) (h4 : (i = 0 ∧ p ∈ C0) ∨ H0 p = none) : HasA C0 H0 G H σ ((i, p, o) :: os) := by
  refine ⟨fun j q u m => ?_, fun j q u k r w m1 m2 hne => ?_⟩
  · rcases List.mem_cons.mp m with e | m
    · cases e
      exact ⟨h1, h2, h3, h4⟩
    · exact a.is j q u m
  · rcases List.mem_cons.mp m1 with e1 | m1 <;> rcases List.mem_cons.mp m2 with e2 | m2
    · cases e1
      cases e2
      exact absurd rfl hne
    · cases e1
      exact fun z => hn _ m2 z.symm
    · cases e2
      exact hn _ m1
    · exact a.ne _ _ _ _ _ _ m1 m2 hne
theorem HasA.sub {os' : OE} (a : HasA C0 H0 G H σ os) (h : ∀ q ∈ os', q ∈ os) : HasA C0 H0 G H σ os' := ⟨fun i p o m => a.is i p o (h _ m), fun i p o j q u m1 m2 => a.ne i p o j q u (h _ m1) (h _ m2)⟩
theorem wipe_get : ∀ {vs : List Nat} {σ : L2.St} {i : Nat}, i ∉ vs → (wipe σ vs)[i]? = σ[i]?
  | [], _, _, _ => rfl
  | v :: vs, σ, i, h => by
    show ((wipe σ vs).set v none)[i]? = σ[i]?
    rw [List.getElem?_set_ne (fun z => h (by rw [z]; exact List.mem_cons_self)), wipe_get fun z => h (List.mem_cons_of_mem _ z)]
end

/-! ### expressions -/
def EvV (te : TE) (ds : DE) (os : OE) (d : PyData) : Prop := ∀ (C0 : List Addr) (H0 G H : Hp) (σ : L2.St), Same G H → Env G σ ds → HasA C0 H0 G H σ os → ∀ Q : VK, (∀ v G' H', Grow G H G' H' → Da G' v d → Q v H') → te σ H Q
def BvV (tt : TT) (ds : DE) (os : OE) (b : Bool) : Prop := ∀ (C0 : List Addr) (H0 G H : Hp) (σ : L2.St), Same G H → Env G σ ds → HasA C0 H0 G H σ os → ∀ Q : Bool → Hp → Prop, (∀ G' H', Grow G H G' H' → Q b H') → tt σ H Q
section
variable {K : PySem.W.Frag} {ds : DE} {os : OE} {d : PyData} {te : TE} {tt tu : TT} {b : Bool}
theorem vv (h : EvD te ds d) : EvV te ds os d := fun C0 H0 G H σ s e _ Q q => h G H σ s e Q q
theorem bv (h : EvB tt ds b) : BvV tt ds os b := fun C0 H0 G H σ s e _ Q q => h G H σ s e Q q
/-- seen as data while a plain value is reckoned from it -/
theorem view_env {G H : Hp} {σ : L2.St} {C0 : List Addr} {H0 : Hp} {i : Nat} {p : Addr} {l : List PyData} (s : Same G H) (e : Env G σ ds) (a : HasA C0 H0 G H σ os) (m : (i, p, Own.lst l) ∈ os) :
    ∃ vs, H p = some (.lst vs) ∧ Same (upd G p (.lst vs)) H ∧ Env (upd G p (.lst vs)) σ (ds.set i (some (.list l))) ∧ Same G (upd G p (.lst vs)) := by
  obtain ⟨h1, h2, ⟨vs, h3, h4⟩, _⟩ := a.is i p _ m
  have sn : Same G (upd G p (.lst vs)) := same_new h2
  refine ⟨vs, h3, same_add s h3, ?_, sn⟩
  have e2 := (e.same sn).set (v := .ref p) (d := .list l) (.lst upd_same (h4.same sn)) i
  have e3 : σ.set i (some (.ref p)) = σ := by
    refine List.ext_getElem? fun j => ?_
    by_cases hj : i = j
    · subst hj
      rw [h1]
      exact List.getElem?_set_self (List.getElem?_eq_some_iff.mp h1).1
    · rw [List.getElem?_set_ne hj]
  rwa [e3] at e2
theorem vv_int {i : Nat} {p : Addr} {l : List PyData} {n : Int} (m : (i, p, Own.lst l) ∈ os) (h : EvD te (ds.set i (some (.list l))) (.int n)) : EvV te ds os (.int n) := fun C0 H0 G H σ s e a Q q => by
  obtain ⟨vs, h1, h2, h3, h4⟩ := view_env s e a m
  exact h _ H σ h2 h3 Q fun v G' H' g dv => by
    rw [dv.intE]
    exact q _ G H' ⟨Same.refl _, s.trans g.h, g.h, fun _ _ z => .inl z⟩ (.int n)
theorem bv_view {i : Nat} {p : Addr} {l : List PyData} (m : (i, p, Own.lst l) ∈ os) (h : EvB tt (ds.set i (some (.list l))) b) : BvV tt ds os b := fun C0 H0 G H σ s e a Q q => by
  obtain ⟨vs, h1, h2, h3, h4⟩ := view_env s e a m
  exact h _ H σ h2 h3 Q fun G' H' g => q G H' ⟨Same.refl _, s.trans g.h, g.h, fun _ _ z => .inl z⟩
theorem bv_and {k l : Bool} (h1 : BvV tt ds os k) (h2 : k = true → BvV tu ds os l) : BvV (tAnd tt tu) ds os (k && l) := fun C0 H0 G H σ s e a Q q => h1 C0 H0 G H σ s e a _ fun G1 H1 g1 => by
  cases k with
  | true =>
    show tu σ H1 Q
    exact h2 rfl C0 H0 G1 H1 σ g1.s (e.same g1.g) (a.grow g1) _ fun G2 H2 g2 => by simpa using q G2 H2 (g1.trans g2)
  | false =>
    show Q false H1
    exact q G1 H1 g1
theorem bv_not {k : Bool} (h : BvV tt ds os k) : BvV (tNot tt) ds os (!k) := fun C0 H0 G H σ s e a Q q => h C0 H0 G H σ s e a _ fun G1 H1 g1 => q G1 H1 g1
end

/-! ### statements -/
def StO (t : TS) (ds : DE) (os : OE) (N : DE → OE → Prop) (R : PyData → OE → Prop) : Prop := ∀ (C0 : List Addr) (G0 H0 : Hp) (D : Ends) (G H : Hp) (σ : L2.St), GrowO C0 G0 H0 G H → Env G σ ds → HasA C0 H0 G H σ os →
  (∀ ds' os' σ' G' H', N ds' os' → Same G G' → GrowO C0 G0 H0 G' H' → Env G' σ' ds' → HasA C0 H0 G' H' σ' os' → D.nx σ' H') →
  (∀ d os' σ' v G' H', R d os' → GrowO C0 G0 H0 G' H' → HasA C0 H0 G' H' σ' os' → Da G' v d → D.rt v H') → t D σ H
section
variable {K : PySem.W.Frag} {ds ds2 : DE} {os os2 : OE} {d : PyData} {te : TE} {tt : TT} {g : TG} {t u : TS} {N M : DE → OE → Prop} {R : PyData → OE → Prop} {pl : List Nat}
theorem so_next (h : N ds os) : StO tNext ds os N R := fun C0 G0 H0 D G H σ b e a qn qr => qn ds os σ G H h (Same.refl _) b e a
theorem so_seq (h1 : StO t ds os M R) (h2 : ∀ ds' os', M ds' os' → StO u ds' os' N R) : StO (tSeq t u) ds os N R := fun C0 G0 H0 D G H σ b e a qn qr =>
  h1 C0 G0 H0 { D with nx := u D } G H σ b e a (fun ds' os' σ' G' H' hm s1 b1 e1 a1 => h2 ds' os' hm C0 G0 H0 D G' H' σ' b1 e1 a1 (fun ds2 os2 σ2 G2 H2 hn s2 b2 e2 a2 => qn ds2 os2 σ2 G2 H2 hn (s1.trans s2) b2 e2 a2) qr) qr
theorem so_then (h1 : StO t ds os (fun x y => x = ds2 ∧ y = os2) R) (h2 : StO u ds2 os2 N R) : StO (tSeq t u) ds os N R := so_seq h1 fun ds' os' ⟨e1, e2⟩ => by
  rw [e1, e2]
  exact h2
theorem tg_keep {σ σ' : L2.St} (w : ∀ vs, (∀ i ∈ pl, i ∈ vs) → wipe σ' vs = wipe σ vs) {i : Nat} (h : i ∉ pl) : σ'[i]? = σ[i]? := by
  have := w pl fun _ q => q
  rw [← wipe_get h, this, wipe_get h]
theorem so_tgt (he : EvV te ds os d) (hg : TgD g pl d ds ds2) (hs : ∀ q ∈ os, q.1 ∉ pl) (h : N ds2 os) : StO (tAsg te g) ds os N R := fun C0 G0 H0 D G H σ b e a qn qr =>
  he C0 H0 G H σ b.s e a _ fun v G1 H1 g1 d1 => hg G1 H1 σ v g1.s d1 (e.same g1.g) _ fun σ' e' w => qn ds2 os σ' G1 H1 h g1.g (b.then g1) e' ((a.grow g1).slots fun q m => tg_keep w (hs q m))
theorem so_asg {i : Nat} (he : EvV te ds os d) (hs : ∀ q ∈ os, q.1 ≠ i) (h : N (ds.set i (some d)) os) : StO (tAsg te (gName i)) ds os N R := so_tgt he tg_name (fun q m z => hs q m (by simpa using z)) h
theorem so_ret (he : EvV te ds os d) (h : R d os) : StO (tRet te) ds os N R := fun C0 G0 H0 D G H σ b e a qn qr => he C0 H0 G H σ b.s e a _ fun v G1 H1 g1 d1 => qr d os σ v G1 H1 h (b.then g1) (a.grow g1) d1
theorem so_if {k : Bool} (hc : BvV tt ds os k) (h1 : k = true → StO t ds os N R) (h2 : k = false → StO u ds os N R) : StO (tIfS tt t u) ds os N R := fun C0 G0 H0 D G H σ b e a qn qr =>
  hc C0 H0 G H σ b.s e a _ fun G1 H1 g1 => by
    cases k with
    | true =>
      show t D σ H1
      exact h1 rfl C0 G0 H0 D G1 H1 σ (b.then g1) (e.same g1.g) (a.grow g1) (fun ds' os' σ' G' H' hn s => qn ds' os' σ' G' H' hn (g1.g.trans s)) qr
    | false =>
      show u D σ H1
      exact h2 rfl C0 G0 H0 D G1 H1 σ (b.then g1) (e.same g1.g) (a.grow g1) (fun ds' os' σ' G' H' hn s => qn ds' os' σ' G' H' hn (g1.g.trans s)) qr
theorem so_aug {i : Nat} {f : Int → Int → Int} {x y : Int} (hx : ds[i]? = some (some (.int x))) (he : EvV te ds os (.int y)) (hs : ∀ q ∈ os, q.1 ≠ i) (h : N (ds.set i (some (.int (f x y)))) os) : StO (tAug i te (ipI f)) ds os N R := fun C0 G0 H0 D G H σ b e a qn qr => by
  obtain ⟨v, e1, d1⟩ := e.get hx
  refine ⟨v, e1, he C0 H0 G H σ b.s e a _ fun w G1 H1 g1 d2 => ⟨x, y, d1.intE, d2.intE, qn _ os _ G1 H1 h g1.g (b.then g1) ((e.same g1.g).set (.int _) i) ((a.grow g1).slots fun q m => ?_)⟩⟩
  exact List.getElem?_set_ne (fun z => hs q m z.symm)
/-- a pure statement whose stores are told: none of them at a slot of one's own -/
theorem so_for {wi : TI} {l : List PyData} (hi : ItD wi ds l) (I : Nat → DE → OE → Prop) (h0 : I 0 ds os)
    (hs : ∀ i d ds' os', l[i]? = some d → I i ds' os' → ∃ pl ds2, TgD g pl d ds' ds2 ∧ (∀ q ∈ os', q.1 ∉ pl) ∧ StO t ds2 os' (I (i + 1)) R) (hd : ∀ ds' os', I l.length ds' os' → N ds' os') : StO (tFor wi g t) ds os N R := fun C0 G0 H0 D G H σ b e a qn qr =>
  hi G H σ b.s e _ fun J G1 H1 g1 ⟨Gp, Y, w, k1, k2⟩ => by
    refine for_it w (fun i σ' H' => ∃ ds' os' G', I i ds' os' ∧ Same G1 G' ∧ GrowO C0 G0 H0 G' H' ∧ Env G' σ' ds' ∧ HasA C0 H0 G' H' σ' os') ⟨ds, os, G1, h0, Same.refl _, b.then g1, e.same g1.g, a.grow g1⟩ (fun i σ' H' _ ⟨ds', os', G', _, s2, b2, _⟩ => k1 H' (s2.trans b2.s)) ?_
      fun σ' H' ⟨ds', os', G', a1, s2, b2, e2, a2⟩ => qn ds' os' σ' G' H' (hd _ _ a1) (g1.g.trans s2) b2 e2 a2
    rintro i x σ' H' H2 hil ⟨ds', os', G', a1, s2, b2, e2, a2⟩ y
    obtain ⟨d, G3, b1, g3, d3⟩ := k2 i G' H' x H2 s2 b2.s hil y
    obtain ⟨pl, ds2, c1, c2, c3⟩ := hs i d ds' os' b1 a1
    refine c1 G3 H2 σ' x g3.s d3 (e2.same g3.g) _ fun σ2 e3 w3 => ?_
    exact c3 C0 G0 H0 _ G3 H2 σ2 (b2.then g3) e3 ((a2.grow g3).slots fun q m => tg_keep w3 (c2 q m)) (fun ds4 os4 σ4 G4 H4 hn s4 b4 e4 a4 => ⟨ds4, os4, G4, hn, (s2.trans g3.g).trans s4, b4, e4, a4⟩) qr
/-- while, by a state that is told and a number that falls -/
theorem so_while (I : Nat → DE → OE → Prop) {m0 : Nat} (h0 : I m0 ds os)
    (hs : ∀ m ds' os', I m ds' os' → ∃ k, BvV tt ds' os' k ∧ (k = true → StO t ds' os' (fun ds2 os2 => ∃ m', m' < m ∧ I m' ds2 os2) R) ∧ (k = false → N ds' os')) : StO (tWhile tt t) ds os N R := fun C0 G0 H0 D G H σ b e a qn qr => by
  refine ⟨fun m σ' H' => ∃ ds' os' G', I m ds' os' ∧ Same G G' ∧ GrowO C0 G0 H0 G' H' ∧ Env G' σ' ds' ∧ HasA C0 H0 G' H' σ' os', ⟨m0, ds, os, G, h0, Same.refl _, b, e, a⟩, ?_⟩
  rintro m σ' H' ⟨ds', os', G', a1, s2, b2, e2, a2⟩
  obtain ⟨k, hk, h1, h2⟩ := hs m ds' os' a1
  refine hk C0 H0 G' H' σ' b2.s e2 a2 _ fun G3 H3 g3 => ?_
  cases k with
  | true =>
    rw [if_pos rfl]
    refine ⟨fun σ4 H4 => ∃ m', m' < m ∧ ∃ ds' os' G', I m' ds' os' ∧ Same G G' ∧ GrowO C0 G0 H0 G' H4 ∧ Env G' σ4 ds' ∧ HasA C0 H0 G' H4 σ4 os', fun _ _ z => z, ?_⟩
    exact h1 rfl C0 G0 H0 _ G3 H3 σ' (b2.then g3) (e2.same g3.g) (a2.grow g3) (fun ds4 os4 σ4 G4 H4 ⟨m', hm, hI⟩ s4 b4 e4 a4 => ⟨m', hm, ds4, os4, G4, hI, (s2.trans g3.g).trans s4, b4, e4, a4⟩) qr
  | false =>
    rw [if_neg (by decide)]
    exact qn ds' os' σ' G3 H3 (h2 rfl) (s2.trans g3.g) (b2.then g3) (e2.same g3.g) (a2.grow g3)
/-- x = [] : a list of one's own -/
theorem unset_env {G : Hp} {v : V} : ∀ {σ : L2.St} {ds : DE} (i : Nat), Env G σ ds → Env G (σ.set i (some v)) (ds.set i none)
  | _, _, _, .nil => .nil
  | _, _, 0, .no t => .no t
  | _, _, 0, .da _ t => .no t
  | _, _, i + 1, .no t => .no (unset_env i t)
  | _, _, i + 1, .da q t => .da q (unset_env i t)
theorem so_newL {i : Nat} (hi : i < ds.length) (hs : ∀ q ∈ os, q.1 ≠ i) (h : ∀ p, N (ds.set i none) ((i, p, .lst []) :: os)) : StO (tAsg (tLst tNil) (gName i)) ds os N R := fun C0 G0 H0 D G H σ b e a qn qr => ⟨Nat.zero_le _, fun p hp => by
  have gp := b.s.free hp
  have hl : i < σ.length := by
    have : σ.length = ds.length := by
      clear qn qr a hs h hi
      induction e with
      | nil => rfl
      | no _ ih => rw [List.length_cons, List.length_cons, ih]
      | da _ _ ih => rw [List.length_cons, List.length_cons, ih]
    omega
  have f0 := b.fresh hp
  have a2 : HasA C0 H0 G (upd H p (.lst [])) (σ.set i (some (.ref p))) os := by
    refine ⟨fun j q u m => ?_, a.ne⟩
    obtain ⟨h1, h2, h3, h4⟩ := a.is j q u m
    exact ⟨(List.getElem?_set_ne (fun z => hs _ m z.symm)).trans h1, h2, h3.grow (Same.refl _) (same_new hp), h4⟩
  refine qn _ _ _ G _ (h p) (Same.refl _) (b.put gp (.inr f0)) (unset_env i e) (a2.add (fun z => by rw [upd_same] at z; cases z) (fun q m z => ?_) (List.getElem?_set_self hl) gp ⟨[], upd_same, .nil⟩ (.inr f0))
  obtain ⟨_, _, h3, _⟩ := a.is q.1 q.2.1 q.2.2 m
  obtain ⟨u, hu⟩ := h3.has
  rw [z, hp] at hu
  cases hu⟩
/-- x = {} -/
theorem so_newD {i : Nat} (hi : i < ds.length) (hs : ∀ q ∈ os, q.1 ≠ i) (h : ∀ p, N (ds.set i none) ((i, p, .dct []) :: os)) : StO (tAsg tDNewT (gName i)) ds os N R := fun C0 G0 H0 D G H σ b e a qn qr => fun p hp => by
  have gp := b.s.free hp
  have hl : i < σ.length := by
    have : σ.length = ds.length := by
      clear qn qr a hs h hi
      induction e with
      | nil => rfl
      | no _ ih => rw [List.length_cons, List.length_cons, ih]
      | da _ _ ih => rw [List.length_cons, List.length_cons, ih]
    omega
  have f0 := b.fresh hp
  have a2 : HasA C0 H0 G (upd H p (.dT [])) (σ.set i (some (.ref p))) os := by
    refine ⟨fun j q u m => ?_, a.ne⟩
    obtain ⟨h1, h2, h3, h4⟩ := a.is j q u m
    exact ⟨(List.getElem?_set_ne (fun z => hs _ m z.symm)).trans h1, h2, h3.grow (Same.refl _) (same_new hp), h4⟩
  refine qn _ _ _ G _ (h p) (Same.refl _) (b.put gp (.inr f0)) (unset_env i e) (a2.add (fun z => by rw [upd_same] at z; cases z) (fun q m z => ?_) (List.getElem?_set_self hl) gp ⟨[], upd_same, rfl⟩ (.inr f0))
  obtain ⟨_, _, h3, _⟩ := a.is q.1 q.2.1 q.2.2 m
  obtain ⟨u, hu⟩ := h3.has
  rw [z, hp] at hu
  cases hu
/-- xs.append(e) -/
theorem so_app {i : Nat} {p : Addr} {l : List PyData} (m : (i, p, Own.lst l) ∈ os) (he : EvV te ds os d) (hl : l.length ≤ 100000) (h : N ds (setO os i (.lst (l ++ [d])))) : StO (tDrop (tBM K "list" rAppend (tVar i) (tCons te tNil))) ds os N R := fun C0 G0 H0 D G H σ b e a qn qr => by
  obtain ⟨h1, h2, ⟨vs, h3, h4⟩, h5⟩ := a.is i p _ m
  refine ⟨.ref p, h1, .inl ⟨rfl, vs, .of h3⟩, he C0 H0 G H σ b.s e a _ fun v G1 H1 g1 d1 => ⟨p, vs, v, rfl, rfl, g1.h _ _ h3, ?_, ?_⟩⟩
  · rw [h4.length]
    exact Nat.lt_of_le_of_lt hl (by decide)
  · have o1 := g1.out h2 h3
    exact qn ds _ σ G1 _ h g1.g ((b.then g1).put o1 (h5.imp And.right id)) (e.same g1.g) ((a.grow g1).put m ⟨_, upd_same, (h4.same g1.g).app (.one d1)⟩)
/-- xs.insert(k, e) -/
theorem so_ins {i k : Nat} {p : Addr} {l : List PyData} {tk : TE} (m : (i, p, Own.lst l) ∈ os) (hk : EvV tk ds os (.int k)) (he : EvV te ds os d) (hl : l.length ≤ 100000) (hk2 : k ≤ l.length) (h : N ds (setO os i (.lst (l.take k ++ [d] ++ l.drop k)))) :
    StO (tDrop (tBM K "list" (fun x vs H Q => ∃ (l : Addr) (xs : List V) (i : Int) (y : V), x = .ref l ∧ vs = [.int i, y] ∧ H l = some (.lst xs) ∧ xs.length < sizeLine ∧ 0 ≤ i ∧ i < 2 ^ 63 ∧ Q .non (upd H l (.lst (xs.take i.toNat ++ [y] ++ xs.drop i.toNat)))) (tVar i) (tCons tk (tCons te tNil)))) ds os N R := fun C0 G0 H0 D G H σ b e a qn qr => by
  obtain ⟨h1, h2, ⟨vs, h3, h4⟩, h5⟩ := a.is i p _ m
  refine ⟨.ref p, h1, .inl ⟨rfl, vs, .of h3⟩, hk C0 H0 G H σ b.s e a _ fun x G1 H1 g1 d1 => he C0 H0 G1 H1 σ g1.s (e.same g1.g) (a.grow g1) _ fun v G2 H2 g2 d2 => ⟨p, vs, (k : Int), v, rfl, by rw [d1.intE], (g1.trans g2).h _ _ h3, ?_, Int.natCast_nonneg _, ?_, ?_⟩⟩
  · rw [h4.length]
    exact Nat.lt_of_le_of_lt hl (by decide)
  · have : (k : Int) ≤ 100000 := by omega
    omega
  · have g := g1.trans g2
    have o1 := g.out h2 h3
    have h4' := h4.same g.g
    exact qn ds _ σ G2 _ h g.g ((b.then g).put o1 (h5.imp And.right id)) (e.same g.g) ((a.grow g).put m ⟨_, upd_same, ((h4'.take k).app (.one d2)).app (h4'.drop k)⟩)
/-- an own list is data from here on -/
theorem so_free {i : Nat} {p : Addr} {l : List PyData} (m : (i, p, Own.lst l) ∈ os) (hi : i ≠ 0) (h : StO t (ds.set i (some (.list l))) (outO os i) N R) : StO t ds os N R := fun C0 G0 H0 D G H σ b e a qn qr => by
  obtain ⟨h1, h2, ⟨vs, h3, h4⟩, h5⟩ := a.is i p _ m
  have f0 : H0 p = none := h5.resolve_left fun z => hi z.1
  obtain ⟨vs', h3', s2, e2, s3⟩ := view_env b.s e a m
  rw [h3] at h3'
  cases h3'
  have a2 : HasA C0 H0 (upd G p (.lst vs)) H σ (outO os i) := by
    refine ⟨fun j q u mq => ?_, fun j q u k r w m1 m2 => a.ne j q u k r w (List.mem_filter.mp m1).1 (List.mem_filter.mp m2).1⟩
    obtain ⟨mo, hd⟩ := List.mem_filter.mp mq
    have hj : j ≠ i := of_decide_eq_true hd
    obtain ⟨g1, g2, g3, g4⟩ := a.is j q u mo
    have hq : q ≠ p := a.ne _ _ _ _ _ _ mo m hj
    exact ⟨g1, by rw [upd_ne hq]; exact g2, g3.grow s3 (Same.refl _), g4⟩
  exact h C0 G0 H0 D _ H σ (b.free h2 f0 h3) e2 a2 (fun ds' os' σ' G' H' hn s => qn ds' os' σ' G' H' hn (s3.trans s)) qr
theorem so_weak {N' : DE → OE → Prop} {R' : PyData → OE → Prop} (h : StO t ds os N R) (hn : ∀ x y, N x y → N' x y) (hr : ∀ x y, R x y → R' x y) : StO t ds os N' R' := fun C0 G0 H0 D G H σ b e a qn qr =>
  h C0 G0 H0 D G H σ b e a (fun ds' os' σ' G' H' q => qn ds' os' σ' G' H' (hn _ _ q)) fun d os' σ' v G' H' q => qr d os' σ' v G' H' (hr _ _ q)
/-- all of it is a reading of data -/
theorem so_all {NN : DE → Prop} (h : StO t ds [] (fun x _ => NN x) (fun d _ => R d [])) : StD t ds NN (fun d => R d []) := fun D G H σ s e qn qr =>
  h [] G H D G H σ (.refl s) e .nil (fun ds' os' σ' G' H' hn _ b' e' _ => qn ds' σ' G' H' hn b'.grow e') fun d os' σ' v G' H' hr b' _ dv => qr d v G' H' hr b'.grow dv
end
end K29
namespace K29
open PySem PySem.Spec PyProof.Rows L2

local macro_rules | `(tactic| walk_at "kev") => `(tactic| first
  | exact ev_cint
  | exact ev_cbl
  | exact ev_cnon
  | exact ev_var rfl
  | apply ev_fst
  | apply ev_snd
  | apply ev_op (hr := ro_sub)
  | apply ev_op (hr := ro_add)
  | apply ev_op (hr := ro_lt)
  | apply ev_op (hr := ro_gt)
  | apply ev_op (hr := ro_le)
  | apply ev_op (hr := ro_ge)
  | apply ev_op (hr := ro_eq)
  | apply ev_op (hr := ro_ne)
  | apply ev_neg
  | apply ev_chain (h1 := ro_le) (h2 := ro_le)
  | (refine ev_and ?_ (fun _ => ?_))
  | (refine ev_or ?_ (fun _ => ?_))
  | apply ev_not
  | apply ev_pair
  | apply ev_call
  | exact ea_nil
  | apply ea_cons
  | apply ev_cb (hr := rc_min2)
  | apply ev_cb (hr := rc_max2)
  | apply ev_cb (hr := rc_lenL)
  | apply ev_cb (hr := rc_lenT)
  | apply ev_cb (hr := rc_intB)
  | apply ev_cb (hr := rc_intI)
  | apply eb_test
  | apply eb_B
  | apply eb_not
  | (apply ev_op (hr := ro_mul ?_)))

section
variable {P : Program} {w : World} {K : PySem.W.Frag} {mg : Str → Option Value} {base : Heap}

theorem bv_andF {ds : DE} {os : OE} {tt tu : TT} (h1 : BvV tt ds os false) : BvV (tAnd tt tu) ds os false := fun C0 H0 G H σ s e a Q q => h1 C0 H0 G H σ s e a _ fun G1 H1 g1 => by
  show Q false H1
  exact q G1 H1 g1
abbrev s_is_before : Stmt := topS 19
theorem sc_is_before : FnScope ["first", "second", "lower", "x", "y"] ["first", "second"] (defScope s_is_before) := ⟨rfl, rfl, rfl, by decide +kernel, rfl, by decide +kernel, by decide +kernel⟩
def In2 (p : P2) : Prop := -2000 ≤ p.1 ∧ p.1 ≤ 2000 ∧ -2000 ≤ p.2 ∧ p.2 ≤ 2000
def spBefore (dl : List PyData) (d : PyData) : Prop := ∃ f s : P2, dl = [eP f, eP s] ∧ In2 f ∧ In2 s ∧ d = .bool (bef f s)
theorem cal_is_before (D : DefAt K mg "is_before" s_is_before ["first", "second"]) (B : Blt mg) : Cal P w K mg base 1 "is_before" (SpD spBefore) := by
  refine cal_at D sc_is_before (fun dl d ⟨a, b, h, _⟩ => by rw [h]; rfl) fun f cdv A outer s H E hr => ⟨_, (pss_cons (ps_setLc (i := 2) (own := [("x", 3), ("y", 4)]) (g := (gTup K 2 (gCons (gName 3) (gCons (gName 4) gNil)))) (tt := tYes) rfl sc_is_before.nd rfl rfl (sw_true rfl rfl rfl (by decide +kernel)) (kpi_tup (K := K) (pe_tup (pa_cons (pv 0) (pa_cons (pv 1) pa_nil)))) (blkOk_by (own := [("x", 3), ("y", 4)]) (N := ["first", "second", "lower", "x", "y"]) (sc := defScope s_is_before) (by decide +kernel)) (fun _ _ _ _ _ => (pg_tup rfl (pgs_cons (pg_name (i := 3) sc_is_before.nd rfl (by first | exact Or.inl rfl | exact Or.inr rfl)) (pgs_cons (pg_name (i := 4) sc_is_before.nd rfl (by first | exact Or.inl rfl | exact Or.inr rfl)) pgs_nil)))) (fun _ _ _ _ _ => pts_nil) (fun _ _ _ _ _ => (pe_callTy call_int1 (by rfl) B.int_ (by decide +kernel) (pa_cons (pe_or (pe_cmpR op_lt (pv 4) pe_int (nomark _)) (pe_one (pe_and (pe_cmpR op_eq (pv 4) pe_int (nomark _)) (pe_one (pe_cmpR op_lt (pv 3) pe_int (nomark _)))))) pa_nil))))
      (pss_cons (ps_if (pt_cmpR op_ne (pe_ix (kix_list (K := K)) (pv 2) pe_int (fun _ _ => rfl)) (pe_ix (kix_list (K := K)) (pv 2) pe_int (fun _ _ => rfl)) (nomark _)) (pss_one (ps_ret (pe_cmpR op_lt (pe_ix (kix_list (K := K)) (pv 2) pe_int (fun _ _ => rfl)) (pe_ix (kix_list (K := K)) (pv 2) pe_int (fun _ _ => rfl)) (nomark _)))) pss_nil)
      (pss_one (ps_ret (pe_cmpR op_gt (pe_op op_sub (pe_op op_mul (pe_ix (kix_tup (K := K)) (pv 0) pe_int (fun _ _ => rfl)) (pe_ix (kix_tup (K := K)) (pv 1) pe_int (fun _ _ => rfl))) (pe_op op_mul (pe_ix (kix_tup (K := K)) (pv 0) pe_int (fun _ _ => rfl)) (pe_ix (kix_tup (K := K)) (pv 1) pe_int (fun _ _ => rfl)))) pe_int (nomark _)))))), ?_⟩
  rintro dl d ⟨p, q, rfl, ⟨p1, p2, p3, p4⟩, ⟨q1, q2, q3, q4⟩, rfl⟩
  refine st_then (st_asg (ev_lcA [p, q] eP (fun x => .int (low x)) (it_tup (ev_pair (ev_var rfl) (ev_var rfl))) (by simp) fun x hx => ⟨[3, 4], _, tg_pair tg_name tg_name, by simp, ?_⟩) rfl) ?_
  · exact ev_cb (ea_cons (ev_or (ev_op (ev_var rfl) ev_cint ro_lt) fun _ => ev_and (ev_op (ev_var rfl) ev_cint ro_eq) fun _ => ev_op (ev_var rfl) ev_cint ro_lt) ea_nil) rc_intB
  have l0 : atG [PyData.int (low p), .int (low q)] 0 = some (.int (low p)) := rfl
  have l1 : atG [PyData.int (low p), .int (low q)] 1 = some (.int (low q)) := rfl
  have t : EvB (tTest (tOp rNe (tOp (rIxL K) (tVar 2) (tC (.int 0))) (tOp (rIxL K) (tVar 2) (tC (.int 1))))) [some (eP p), some (eP q), some (.list [.int (low p), .int (low q)]), none, none] (!decide (low p = low q)) :=
    eb_test (ev_op (ev_op (ev_var rfl) ev_cint (ro_ixL l0)) (ev_op (ev_var rfl) ev_cint (ro_ixL l1)) ro_ne)
  unfold bef
  by_cases h : low p = low q
  · rw [if_pos h]
    rw [decide_eq_true h] at t
    refine st_then (st_ifF t (st_next rfl)) (st_ret ?_ rfl)
    repeat' walk_at "kev"
    all_goals exact .inl (by omega)
  · rw [if_neg h]
    rw [decide_eq_false h] at t
    exact st_seq (M := fun _ => False) (st_ifT t (st_ret (ev_op (ev_op (ev_var rfl) ev_cint (ro_ixL l0)) (ev_op (ev_var rfl) ev_cint (ro_ixL l1)) ro_lt) rfl)) fun _ z => z.elim

abbrev s_put_around : Stmt := topS 20
theorem sc_put_around : FnScope ["centre", "listed", "found", "index", "point", "way", "at", "_"] ["centre", "listed"] (defScope s_put_around) := ⟨rfl, rfl, rfl, by decide +kernel, rfl, by decide +kernel, by decide +kernel⟩
abbrev eJ (q : JP) : PyData := .tuple [.int q.1, eP q.2]
def spPut (dl : List PyData) (d : PyData) : Prop := ∃ (c : P2) (l : List JP), dl = [eP c, .list (l.map eJ)] ∧ InR c ∧ l.length ≤ 1000 ∧ (∀ q ∈ l, InR q.2) ∧ d = .list ((putAround c l).map eI)
theorem mem_tw {p : JP → Bool} : ∀ {l : List JP} {x : JP}, x ∈ l.takeWhile p → p x = true
  | y :: l, x, h => by
    rw [List.takeWhile_cons] at h
    by_cases hy : p y = true
    · rw [if_pos hy] at h
      rcases List.mem_cons.mp h with rfl | h
      · exact hy
      · exact mem_tw h
    · rw [if_neg hy] at h
      exact nomatch h
theorem insAt_at {found : List JP} {way : P2} {k : Nat} (hk : k < insAt found way) : ∃ q, found[k]? = some q ∧ bef q.2 way = true := by
  unfold insAt at hk
  have hp := List.takeWhile_prefix (l := found) (fun q => bef q.2 way)
  have e : (found.takeWhile fun q => bef q.2 way)[k]? = some (found.takeWhile fun q => bef q.2 way)[k] := List.getElem?_eq_getElem hk
  refine ⟨_, ?_, mem_tw (p := fun q : JP => bef q.2 way) (List.getElem_mem hk)⟩
  obtain ⟨t, ht⟩ := hp
  have e2 := congrArg (fun z : List JP => z[k]?) ht
  simp only [List.getElem?_append_left hk] at e2
  exact e2.symm.trans e
theorem insAt_end {found : List JP} {way : P2} (hk : insAt found way < found.length) : ∃ q, found[insAt found way]? = some q ∧ bef q.2 way = false := by
  refine ⟨found[insAt found way], List.getElem?_eq_getElem hk, ?_⟩
  cases e : bef found[insAt found way].2 way with
  | false => rfl
  | true =>
    exfalso
    unfold insAt at hk e
    induction found with
    | nil => exact absurd hk (Nat.not_lt_zero _)
    | cons x r ih =>
      by_cases hx : bef x.2 way = true
      · have e1 : (x :: r).takeWhile (fun q => bef q.2 way) = x :: r.takeWhile (fun q => bef q.2 way) := by rw [List.takeWhile_cons, if_pos hx]
        simp only [e1, List.length_cons, List.getElem_cons_succ] at hk e
        exact ih (by omega) e
      · have e1 : (x :: r).takeWhile (fun q => bef q.2 way) = [] := by rw [List.takeWhile_cons, if_neg hx]
        simp only [e1, List.length_nil, List.getElem_cons_zero] at e
        exact hx e
theorem putAll_in {c : P2} (hc : InR c) : ∀ (l found : List JP), (∀ q ∈ l, InR q.2) → (∀ q ∈ found, In2 q.2) → ∀ q ∈ l.foldl (putStep c) found, In2 q.2
  | [], found, _, h2 => h2
  | x :: l, found, h1, h2 => by
    rw [List.foldl_cons]
    refine putAll_in hc l _ (fun q hq => h1 q (List.mem_cons_of_mem _ hq)) fun q hq => ?_
    have hx := h1 x List.mem_cons_self
    obtain ⟨a1, a2, a3, a4⟩ := hx
    obtain ⟨c1, c2, c3, c4⟩ := hc
    unfold putStep at hq
    rcases List.mem_append.mp hq with hq | hq
    · rcases List.mem_append.mp hq with hq | hq
      · exact h2 q (List.mem_of_mem_take hq)
      · rw [List.mem_singleton.mp hq]
        show -2000 ≤ x.2.1 - c.1 ∧ x.2.1 - c.1 ≤ 2000 ∧ -2000 ≤ x.2.2 - c.2 ∧ x.2.2 - c.2 ≤ 2000
        omega
    · exact h2 q (List.mem_of_mem_drop hq)
theorem putAll_len {c : P2} : ∀ (l found : List JP), (l.foldl (putStep c) found).length = l.length + found.length
  | [], found => by simp
  | x :: l, found => by
    rw [List.foldl_cons, putAll_len l, putStep_len, List.length_cons]
    omega
theorem way_in {c p : P2} (hc : InR c) (hp : InR p) : In2 (wayTo c p) := by
  obtain ⟨a1, a2, a3, a4⟩ := hp
  obtain ⟨c1, c2, c3, c4⟩ := hc
  show -2000 ≤ p.1 - c.1 ∧ p.1 - c.1 ≤ 2000 ∧ -2000 ≤ p.2 - c.2 ∧ p.2 - c.2 ≤ 2000
  omega
theorem cal_put_around (D : DefAt K mg "put_around" s_put_around ["centre", "listed"]) (B : Blt mg) (c_is_before : Cal P w K mg base 1 "is_before" (SpD spBefore)) : Cal P w K mg base 2 "put_around" (SpD spPut) := by
  refine cal_at D sc_put_around (fun dl d ⟨a, b, h, _⟩ => by rw [h]; rfl) fun f cdv A outer s H E hr => ⟨_, (pss_cons (ps_set (i := 2) sc_put_around.nd rfl (by first | exact Or.inl rfl | exact Or.inr rfl) (pe_lst pa_nil))
      (pss_cons (ps_for PassesOwn.never rfl (kpi_list (K := K) (pv 1)) (pg_tup rfl (pgs_cons (pg_name (i := 3) sc_put_around.nd rfl (by first | exact Or.inl rfl | exact Or.inr rfl)) (pgs_cons (pg_name (i := 4) sc_put_around.nd rfl (by first | exact Or.inl rfl | exact Or.inr rfl)) pgs_nil))) (pss_cons (ps_set (i := 5) sc_put_around.nd rfl (by first | exact Or.inl rfl | exact Or.inr rfl) (pe_tup (pa_cons (pe_op op_sub (pe_ix (kix_tup (K := K)) (pv 4) pe_int (fun _ _ => rfl)) (pe_ix (kix_tup (K := K)) (pv 0) pe_int (fun _ _ => rfl))) (pa_cons (pe_op op_sub (pe_ix (kix_tup (K := K)) (pv 4) pe_int (fun _ _ => rfl)) (pe_ix (kix_tup (K := K)) (pv 0) pe_int (fun _ _ => rfl))) pa_nil))))
      (pss_cons (ps_set (i := 6) sc_put_around.nd rfl (by first | exact Or.inl rfl | exact Or.inr rfl) pe_int)
      (pss_cons (ps_while PassesOwn.never (PW.pt (pw_and (pt_cmpR op_lt (pv 6) (pe_callB (kcall_len (K := K)) (by rfl) B.len_ (by decide +kernel) (pa_cons (pv 2) pa_nil)) (nomark _)) (pw_and1 (pt_val (C8.pe_c c_is_before hr (by decide) (by rfl) (pa_cons (pe_ix (kix_tup (K := K)) (pe_ix (kix_list (K := K)) (pv 2) (pv 6) (fun _ _ => rfl)) pe_int (fun _ _ => rfl)) (pa_cons (pv 5) pa_nil))))))) (pss_one (ps_aug (i := 6) sc_put_around.nd rfl (by first | exact Or.inl rfl | exact Or.inr rfl) pe_int ip_add)))
      (pss_one (ps_expr (kpe_bm (K := K) PySem.F.plainAttrs_list PySem.F.slot_list_insert PySem.F.type_list_insert mt_insert (pv 2) (pa_cons (pv 6) (pa_cons (pe_tup (pa_cons (pv 3) (pa_cons (pv 5) pa_nil))) pa_nil)))))))))
      (pss_one (ps_ret (pe_lc (own := [("index", 3), ("_", 7)]) (g := (gTup K 2 (gCons (gName 3) (gCons (gName 7) gNil)))) (tt := tYes) rfl sc_put_around.nd (kpi_list (K := K) (pv 2)) (blkOk_by (own := [("index", 3), ("_", 7)]) (N := ["centre", "listed", "found", "index", "point", "way", "at", "_"]) (sc := defScope s_put_around) (by decide +kernel)) (fun _ _ _ _ _ => (pg_tup rfl (pgs_cons (pg_name (i := 3) sc_put_around.nd rfl (by first | exact Or.inl rfl | exact Or.inr rfl)) (pgs_cons (pg_name (i := 7) sc_put_around.nd rfl (by first | exact Or.inl rfl | exact Or.inr rfl)) pgs_nil)))) (fun _ _ _ _ _ => pts_nil) (fun _ _ _ _ _ => (pv 3))))))), ?_⟩
  rintro dl d ⟨c, l, rfl, hc, hl, hin, rfl⟩
  refine so_all (NN := fun _ => _) (R := fun r _ => r = _) ?_
  -- slots: centre 0, listed 1, found 2, index 3, point 4, way 5, at 6, _ 7
  let J : Nat → DE → OE → Prop := fun i ds os => ∃ p x3 x4 x5 x6, ds = [some (eP c), some (.list (l.map eJ)), none, x3, x4, x5, x6, none] ∧ os = [(2, p, .lst ((putAll c (l.take i)).map eJ))]
  refine so_seq (M := J 0) (so_newL (by simp [startD]) (by simp) fun p => ⟨p, none, none, none, none, rfl, rfl⟩) fun ds0 os0 h0 => ?_
  refine so_seq (M := J l.length) ?_ ?_
  · refine so_for (l := l.map eJ) (it_list (ev_var ?_)) J h0 ?_ ?_
    · obtain ⟨p, x3, x4, x5, x6, rfl, rfl⟩ := h0
      exact rfl
    · rintro i d ds' os' hd ⟨p, x3, x4, x5, x6, rfl, rfl⟩
      rw [List.getElem?_map, Option.map_eq_some_iff] at hd
      obtain ⟨q, hq, rfl⟩ := hd
      have hqi := hin q (List.mem_of_getElem? hq)
      obtain ⟨a1, a2, a3, a4⟩ := hqi
      obtain ⟨c1, c2, c3, c4⟩ := hc
      refine ⟨_, _, tg_pair tg_name tg_name, by simp, ?_⟩
      refine so_seq (M := fun ds os => ds = [some (eP c), some (.list (l.map eJ)), none, some (.int q.1), some (eP q.2), some (eP (wayTo c q.2)), x6, none] ∧ os = [(2, p, .lst ((putAll c (l.take i)).map eJ))]) (so_asg (vv (ev_pair (ev_op (ev_fst (ev_var rfl)) (ev_fst (ev_var rfl)) ro_sub) (ev_op (ev_snd (ev_var rfl)) (ev_snd (ev_var rfl)) ro_sub))) (by simp) ⟨rfl, rfl⟩) ?_
      rintro ds os ⟨rfl, rfl⟩
      refine so_seq (M := fun ds os => ds = [some (eP c), some (.list (l.map eJ)), none, some (.int q.1), some (eP q.2), some (eP (wayTo c q.2)), some (.int 0), none] ∧ os = [(2, p, .lst ((putAll c (l.take i)).map eJ))]) (so_asg (vv ev_cint) (by simp) ⟨rfl, rfl⟩) ?_
      rintro ds os ⟨rfl, rfl⟩
      have fin : ∀ z ∈ putAll c (l.take i), In2 z.2 := putAll_in ⟨c1, c2, c3, c4⟩ _ [] (fun z hz => hin z (List.mem_of_mem_take hz)) fun _ z => nomatch z
      have flen : (putAll c (l.take i)).length ≤ 1000 := by
        unfold putAll
        rw [putAll_len, List.length_take, List.length_nil]
        omega
      have hle := insAt_le (putAll c (l.take i)) (wayTo c q.2)
      let W : Nat → DE → OE → Prop := fun m ds os => ∃ k : Nat, k ≤ insAt (putAll c (l.take i)) (wayTo c q.2) ∧ m = insAt (putAll c (l.take i)) (wayTo c q.2) - k ∧ ds = [some (eP c), some (.list (l.map eJ)), none, some (.int q.1), some (eP q.2), some (eP (wayTo c q.2)), some (.int (k : Nat)), none] ∧ os = [(2, p, .lst ((putAll c (l.take i)).map eJ))]
      refine so_seq (M := W 0) (so_while W ⟨0, Nat.zero_le _, rfl, rfl, rfl⟩ ?_) ?_
      · rintro m ds os ⟨k, hk, rfl, rfl, rfl⟩
        have tl : BvV _ [some (eP c), some (.list (l.map eJ)), none, some (.int q.1), some (eP q.2), some (eP (wayTo c q.2)), some (.int (k : Nat)), none] [(2, p, Own.lst ((putAll c (l.take i)).map eJ))] (decide ((k : Int) < (((putAll c (l.take i)).map eJ).length : Nat))) := bv_view (i := 2) List.mem_cons_self (eb_test (ev_op (ev_var (i := 6) rfl) (ev_cb (ea_cons (ev_var (i := 2) rfl) ea_nil) (rc_lenL (K := K))) ro_lt))
        have tb : ∀ z, (putAll c (l.take i))[k]? = some z → BvV _ [some (eP c), some (.list (l.map eJ)), none, some (.int q.1), some (eP q.2), some (eP (wayTo c q.2)), some (.int (k : Nat)), none] [(2, p, Own.lst ((putAll c (l.take i)).map eJ))] (bef z.2 (wayTo c q.2)) := fun z hz => bv_view (i := 2) List.mem_cons_self (eb_B (ev_call (E := C8.E0) (sp := spBefore) (ea_cons (ev_snd (K := K) (ev_op (ev_var (i := 2) rfl) (ev_var (i := 6) rfl) (ro_ixL (K := K) (atG_map (e := eJ) hz)))) (ea_cons (ev_var (i := 5) rfl) ea_nil)) ⟨z.2, wayTo c q.2, rfl, fin z (List.mem_of_getElem? hz), way_in ⟨c1, c2, c3, c4⟩ ⟨a1, a2, a3, a4⟩, rfl⟩))
        rw [List.length_map] at tl
        by_cases hk2 : k < insAt (putAll c (l.take i)) (wayTo c q.2)
        · obtain ⟨z, hz, hb⟩ := insAt_at hk2
          refine ⟨true, ?_, fun _ => so_aug (i := 6) (x := (k : Nat)) (y := 1) rfl (vv ev_cint) (by simp) ⟨_, ?_, k + 1, hk2, rfl, rfl, rfl⟩, fun z => nomatch z⟩
          · have t := bv_and tl fun _ => tb z hz
            rw [hb, decide_eq_true (by omega)] at t
            exact t
          · omega
        · have e : k = insAt (putAll c (l.take i)) (wayTo c q.2) := by omega
          subst e
          refine ⟨false, ?_, (fun z => nomatch z), fun _ => ⟨_, Nat.le_refl _, by omega, rfl, rfl⟩⟩
          by_cases hk3 : insAt (putAll c (l.take i)) (wayTo c q.2) < (putAll c (l.take i)).length
          · obtain ⟨z, hz, hb⟩ := insAt_end hk3
            have t := bv_and tl fun _ => tb z hz
            rw [hb, decide_eq_true (by omega)] at t
            exact t
          · rw [decide_eq_false (by omega)] at tl
            exact bv_andF tl
      · rintro ds os ⟨k, hk, hm, rfl, rfl⟩
        have e : k = insAt (putAll c (l.take i)) (wayTo c q.2) := by omega
        subst e
        refine so_ins (i := 2) List.mem_cons_self (vv (ev_var rfl)) (vv (ev_pair (ev_var rfl) (ev_var rfl))) (by rw [List.length_map]; omega) (by rw [List.length_map]; exact hle) ⟨p, _, _, _, _, rfl, ?_⟩
        have eT : l.take (i + 1) = l.take i ++ [q] := by rw [List.take_add_one, hq]; rfl
        have eP2 : putAll c (l.take (i + 1)) = putStep c (putAll c (l.take i)) q := by
          unfold putAll
          rw [eT, List.foldl_append]
          rfl
        rw [eP2]
        unfold putStep
        rw [List.map_append, List.map_append, List.map_take, List.map_drop]
        rfl
    · intro ds' os' h
      rwa [List.length_map] at h
  · rintro ds' os' ⟨p, x3, x4, x5, x6, rfl, rfl⟩
    rw [List.take_length]
    have flen : (putAll c l).length ≤ 1000 := by
      unfold putAll
      rw [putAll_len, List.length_nil]
      omega
    refine so_free (i := 2) List.mem_cons_self (by decide) ?_
    refine so_ret (vv (ev_is (ev_lcA (putAll c l) eJ (fun q => .int q.1) (it_list (ev_var rfl)) (by omega) fun q hq => ⟨[3, 7], _, tg_pair tg_name tg_name, by simp, ev_var rfl⟩) ?_)) rfl
    unfold putAround
    rw [List.map_map]
    rfl
end
end K29
/-! K29: a list whose items are lists of one's own. -/
namespace K29
open PySem PySem.Spec PyProof.Rows L2
structure LL (G0 H0 G H : Hp) (p : Addr) (as : List Addr) (ls : List (List PyData)) : Prop where
  gr : GrowO [] G0 H0 G H
  hp : H p = some (.lst (as.map V.ref))
  gp : G p = none
  fp : H0 p = none
  nd : as.Nodup
  np : p ∉ as
  len : as.length = ls.length
  at_ : ∀ (k : Nat) (a : Addr) (l : List PyData), as[k]? = some a → ls[k]? = some l → G a = none ∧ H0 a = none ∧ ∃ vs, H a = some (.lst vs) ∧ DaAll G vs l
section
variable {G0 H0 G H G' H' : Hp} {p : Addr} {as : List Addr} {ls : List (List PyData)} {σ : L2.St} {ds : DE} {K : PySem.W.Frag}
theorem LL.then (a : LL G0 H0 G H p as ls) (b : Grow G H G' H') : LL G0 H0 G' H' p as ls :=
  ⟨a.gr.then b, b.h _ _ a.hp, b.out a.gp a.hp, a.fp, a.nd, a.np, a.len, fun k x l h1 h2 => by
    obtain ⟨g1, g2, vs, g3, g4⟩ := a.at_ k x l h1 h2
    exact ⟨b.out g1 g3, g2, vs, b.h _ _ g3, g4.same b.g⟩⟩
theorem ll_new {wi : TI} {g : TG} {l : List PyData} {vs : List Nat} (hi : ItD wi ds l) (hl : l.length ≤ 100000) (hg : ∀ d ∈ l, ∃ pl ds2, TgD g pl d (wipeD ds vs) ds2 ∧ (∀ i ∈ pl, i ∈ vs)) (s : Same G H) (e : Env G σ ds) {Q : VK}
    (q : ∀ p as G' H', Same G G' → LL G H G' H' p as (List.replicate l.length []) → Q (.ref p) H') : tLc wi g tYes (tLst tNil) vs σ H Q :=
  hi G H σ s e _ fun J G1 H1 g1 ⟨Gp, Y, w, k1, k2⟩ Dl nD => by
    refine lc_it w (fun i H' => ∃ G' as, Same G1 G' ∧ LL G H G' H' Dl as (List.replicate i [])) ⟨G1, [], Same.refl _, ?_⟩ (fun i H' _ ⟨G', as, a1, a2⟩ => k1 H' (a1.trans a2.gr.s)) ?_ ?_
    · have gr := (GrowO.refl (C0 := []) s).then g1
      exact ⟨gr.put (g1.s.free nD) (.inr (g1.h.free nD)), upd_same, g1.s.free nD, g1.h.free nD, List.nodup_nil, by simp, rfl, fun k a l h1 _ => by simp at h1⟩
    · rintro i x H' H2 hil ⟨G', as, a1, a2⟩ y
      obtain ⟨d, G3, b1, g3, d3⟩ := k2 i G' H' x H2 a1 a2.gr.s hil y
      obtain ⟨pl, ds2, c1, c2⟩ := hg d (List.mem_of_getElem? b1)
      refine c1 G3 H2 (wipe σ vs) x g3.s d3 ((e.same (g1.g.trans (a1.trans g3.g))).wipe vs) _ fun σ2 e3 w3 => ⟨?_, ?_⟩
      · rw [w3 vs c2, wipe_wipe]
      · refine ⟨Nat.zero_le _, fun a ha => ?_⟩
        have b := a2.then g3
        have na : a ≠ Dl := fun z => by
          rw [z, b.hp] at ha
          cases ha
        have old : ∀ c ∈ as, ∃ u, H2 c = some u := fun c hc => by
          obtain ⟨k, hk⟩ := List.mem_iff_getElem?.mp hc
          have hk2 : k < as.length := (List.getElem?_eq_some_iff.mp hk).1
          have hl2 : (List.replicate i ([] : List PyData))[k]? = some ((List.replicate i ([] : List PyData))[k]'(by rw [← b.len]; exact hk2)) := List.getElem?_eq_getElem _
          obtain ⟨_, _, vs, h, _⟩ := b.at_ k c _ hk hl2
          exact ⟨_, h⟩
        have nas : a ∉ as := fun z => by
          obtain ⟨u, hu⟩ := old a z
          rw [ha] at hu
          cases hu
        have fa := b.gr.fresh ha
        have ga := b.gr.s.free ha
        have hlen : as.length ≤ 100000 := by
          have := b.len
          rw [List.length_replicate] at this
          omega
        refine ⟨as.map V.ref, by rw [upd_ne (Ne.symm na)]; exact b.hp, by rw [List.length_map]; exact Nat.lt_of_le_of_lt hlen (by decide), G3, as ++ [a], a1.trans g3.g, ?_⟩
        refine ⟨(b.gr.put ga (.inr fa)).put b.gp (.inr b.fp), by rw [upd_same, List.map_append]; rfl, b.gp, b.fp, ?_, ?_, ?_, fun k c l h1 h2 => ?_⟩
        · rw [List.nodup_append]
          exact ⟨b.nd, by simp, fun u hu v hv => by rw [List.mem_singleton.mp hv]; exact fun z => nas (z ▸ hu)⟩
        · intro z
          rcases List.mem_append.mp z with z | z
          · exact b.np z
          · exact na (List.mem_singleton.mp z).symm
        · rw [List.length_append, b.len, List.length_replicate, List.length_replicate]
          rfl
        · have hl0 : l = [] := (List.mem_replicate.mp (List.mem_of_getElem? h2)).2
          subst hl0
          by_cases hk : k < as.length
          · rw [List.getElem?_append_left hk] at h1
            have hk2 : k < (List.replicate i ([] : List PyData)).length := by rw [← b.len]; exact hk
            have h3 : (List.replicate i ([] : List PyData))[k]? = some [] := by
              rw [List.getElem?_eq_getElem hk2, List.getElem_replicate]
            obtain ⟨q1, q2, vs, q3, q4⟩ := b.at_ k c [] h1 h3
            have n1 : c ≠ a := fun z => nas (z ▸ List.mem_of_getElem? h1)
            have n2 : c ≠ Dl := fun z => b.np (z ▸ List.mem_of_getElem? h1)
            exact ⟨q1, q2, vs, by rw [upd_ne n2, upd_ne n1]; exact q3, q4⟩
          · have h4 : k < (as ++ [a]).length := (List.getElem?_eq_some_iff.mp h1).1
            rw [List.length_append] at h4
            have hk1 : k = as.length := by
              have : [a].length = 1 := rfl
              omega
            subst hk1
            rw [List.getElem?_append_right (Nat.le_refl _), Nat.sub_self] at h1
            cases h1
            exact ⟨ga, fa, [], by rw [upd_ne na, upd_same], .nil⟩
    · rintro H' ⟨G', as, a1, a2⟩
      exact q Dl as G' H' (g1.g.trans a1) a2
theorem ll_app {i : Nat} {te ti : TE} {d : PyData} {k : Nat} {l : List PyData} {D : Ends} (e1 : EvD ti ds (.int k)) (e2 : EvD te ds d) (h : LL G0 H0 G H p as ls) (en : Env G σ ds) (hs : σ[i]? = some (some (.ref p))) (hl : ls[k]? = some l) (hlen : l.length ≤ 100000)
    (q : ∀ G' H', Same G G' → LL G0 H0 G' H' p as (ls.set k (l ++ [d])) → D.nx σ H') : tDrop (tBM K "list" rAppend (tOp (rIxL K) (tVar i) ti) (tCons te tNil)) D σ H := by
  refine ⟨.ref p, hs, e1 G H σ h.gr.s en _ fun v G1 H1 g1 d1 => ?_⟩
  have h1 := h.then g1
  have hk : k < as.length := by
    rw [h.len]
    exact (List.getElem?_eq_some_iff.mp hl).1
  have ha : as[k]? = some as[k] := List.getElem?_eq_getElem hk
  obtain ⟨g2, g3, vs, g4, g5⟩ := h1.at_ k _ l ha hl
  have hat : L2.atI (as.map V.ref) (k : Int) = some (.ref as[k]) := atI_nat (by rw [List.getElem?_map, ha]; rfl)
  refine ⟨p, as.map V.ref, (k : Int), .ref as[k], rfl, d1.intE, .of h1.hp, hat, .inl ⟨rfl, vs, .of g4⟩, ?_⟩
  refine e2 G1 H1 σ g1.s (en.same g1.g) _ fun v2 G2 H2 gr2 d2 => ?_
  have b := h1.then gr2
  obtain ⟨q2, q3, ws, q4, q5⟩ := b.at_ k _ l ha hl
  have ev : ws = vs := by
    have := gr2.h _ _ g4
    rw [q4] at this
    cases this
    rfl
  subst ev
  refine ⟨as[k], ws, v2, rfl, rfl, q4, by rw [q5.length]; exact Nat.lt_of_le_of_lt hlen (by decide), ?_⟩
  have mem : as[k] ∈ as := List.getElem_mem hk
  have np : p ≠ as[k] := fun z => b.np (z ▸ mem)
  refine q G2 _ (g1.g.trans gr2.g) ⟨b.gr.put q2 (.inr q3), by rw [upd_ne np]; exact b.hp, b.gp, b.fp, b.nd, b.np, by rw [List.length_set]; exact b.len, fun j c m h3 h4 => ?_⟩
  by_cases hj : j = k
  · subst hj
    rw [ha] at h3
    cases h3
    rw [List.getElem?_set_self (by rw [← b.len]; exact hk)] at h4
    cases h4
    exact ⟨q2, q3, _, upd_same, q5.app (.one d2)⟩
  · rw [List.getElem?_set_ne (fun z => hj z.symm)] at h4
    obtain ⟨r1, r2, us, r3, r4⟩ := b.at_ j c m h3 h4
    have nc : c ≠ as[k] := fun z => by
      exact hj ((List.getElem?_inj (List.getElem?_eq_some_iff.mp h3).1 b.nd).mp (by rw [h3, ha, z]))
    exact ⟨r1, r2, us, by rw [upd_ne nc]; exact r3, r4⟩
theorem daAll_lists {G : Hp} : ∀ {as : List Addr} {ls : List (List PyData)}, as.length = ls.length → (∀ (k : Nat) (a : Addr) (l : List PyData), as[k]? = some a → ls[k]? = some l → Da G (.ref a) (.list l)) → DaAll G (as.map V.ref) (ls.map PyData.list)
  | [], [], _, _ => .nil
  | [], _ :: _, h, _ => nomatch h
  | _ :: _, [], h, _ => nomatch h
  | a :: as, l :: ls, h, q => .cons (q 0 a l rfl rfl) (daAll_lists (Nat.succ.inj h) fun k b m h1 h2 => q (k + 1) b m h1 h2)
theorem LL.free {i : Nat} (h : LL G0 H0 G H p as ls) (en : Env G σ ds) (hs : σ[i]? = some (some (.ref p))) : ∃ G', Same G G' ∧ Grow G0 H0 G' H ∧ Env G' σ (ds.set i (some (.list (ls.map .list)))) := by
  have ls_at : ∀ (k : Nat) (a : Addr), as[k]? = some a → ∃ l, ls[k]? = some l := fun k a hk => by
    have hk2 : k < as.length := (List.getElem?_eq_some_iff.mp hk).1
    exact ⟨ls[k]'(by rw [← h.len]; exact hk2), List.getElem?_eq_getElem _⟩
  have gas : ∀ a ∈ as, G a = none ∧ H0 a = none := fun a ha => by
    obtain ⟨k, hk⟩ := List.mem_iff_getElem?.mp ha
    obtain ⟨l, hl⟩ := ls_at k a hk
    obtain ⟨q1, q2, _⟩ := h.at_ k a l hk hl
    exact ⟨q1, q2⟩
  have gall : ∀ a ∈ p :: as, G a = none ∧ H0 a = none := fun a ha => by
    rcases List.mem_cons.mp ha with rfl | ha
    · exact ⟨h.gp, h.fp⟩
    · exact gas a ha
  let G' : Hp := fun a => if a ∈ p :: as then H a else G a
  have in1 : ∀ a, a ∈ p :: as → G' a = H a := fun a ha => if_pos ha
  have out1 : ∀ a, a ∉ p :: as → G' a = G a := fun a ha => if_neg ha
  have s1 : Same G G' := fun b o e => by
    rw [out1 b fun z => by rw [(gall b z).1] at e; cases e]
    exact e
  have s2 : Same G' H := fun b o e => by
    by_cases hb : b ∈ p :: as
    · rw [in1 b hb] at e
      exact e
    · rw [out1 b hb] at e
      exact h.gr.s b o e
  refine ⟨G', s1, ⟨h.gr.g.trans s1, s2, fun b o e => h.gr.h b o (by simp) e, fun a o e => ?_⟩, ?_⟩
  · by_cases ha : a ∈ p :: as
    · exact .inr (gall a ha).2
    · rw [out1 a ha] at e
      exact h.gr.n a o e
  · have dl : DaAll G' (as.map V.ref) (ls.map PyData.list) := daAll_lists h.len fun k a l h1 h2 => by
      obtain ⟨_, _, vs, q3, q4⟩ := h.at_ k a l h1 h2
      exact .lst (by rw [in1 a (List.mem_cons_of_mem _ (List.mem_of_getElem? h1))]; exact q3) (q4.same s1)
    have e2 := (en.same s1).set (v := .ref p) (d := .list (ls.map .list)) (.lst (by rw [in1 p List.mem_cons_self]; exact h.hp) dl) i
    have e3 : σ.set i (some (.ref p)) = σ := by
      refine List.ext_getElem? fun j => ?_
      by_cases hj : i = j
      · subst hj
        rw [hs]
        exact List.getElem?_set_self (List.getElem?_eq_some_iff.mp hs).1
      · rw [List.getElem?_set_ne hj]
    rwa [e3] at e2
end
end K29
/-! K29: the lists of the neighbours of each point. -/
namespace K29
def listAt (ls : List (List JP)) (i : Int) : List JP := ls.getD i.toNat []
def addAt (ls : List (List JP)) (i : Int) (q : JP) : List (List JP) := ls.set i.toNat (listAt ls i ++ [q])
def addE (pts : List P2) (ls : List (List JP)) (e : P2) : List (List JP) := addAt (addAt ls e.1 (e.2, ptAt pts e.2)) e.2 (e.1, ptAt pts e.1)
def listsOf (pts eds : List P2) : List (List JP) := eds.foldl (addE pts) (List.replicate pts.length [])
def ordersOf (pts eds : List P2) : List (List Int) := (pts.zip (listsOf pts eds)).map fun z => putAround z.1 z.2
theorem addAt_len {ls : List (List JP)} {i : Int} {q : JP} : (addAt ls i q).length = ls.length := List.length_set
theorem addE_len {pts : List P2} {ls : List (List JP)} {e : P2} : (addE pts ls e).length = ls.length := by
  unfold addE
  rw [addAt_len, addAt_len]
theorem fold_len {pts : List P2} : ∀ (eds : List P2) (ls : List (List JP)), (eds.foldl (addE pts) ls).length = ls.length
  | [], _ => rfl
  | e :: eds, ls => by rw [List.foldl_cons, fold_len eds, addE_len]
theorem listsOf_len {pts eds : List P2} : (listsOf pts eds).length = pts.length := by
  unfold listsOf
  rw [fold_len, List.length_replicate]
theorem listAt_get {ls : List (List JP)} {i : Int} (h : i.toNat < ls.length) : ls[i.toNat]? = some (listAt ls i) := by
  unfold listAt
  rw [List.getD_eq_getElem?_getD, List.getElem?_eq_getElem h]
  rfl
theorem addAt_at {ls : List (List JP)} {i j : Int} {q : JP} (h : i.toNat < ls.length) (hi : 0 ≤ i) (hj : 0 ≤ j) : listAt (addAt ls i q) j = if i = j then listAt ls i ++ [q] else listAt ls j := by
  unfold listAt addAt
  rw [List.getD_eq_getElem?_getD]
  by_cases e : i = j
  · subst e
    rw [List.getElem?_set_self h, if_pos rfl]
    rfl
  · rw [List.getElem?_set_ne (by omega), if_neg e, List.getD_eq_getElem?_getD]
/-- what one edge gives the point v -/
def itemE (pts : List P2) (v : Int) (e : P2) : List JP := (if e.1 = v then [(e.2, ptAt pts e.2)] else []) ++ (if e.2 = v then [(e.1, ptAt pts e.1)] else [])
theorem addE_at {pts : List P2} {ls : List (List JP)} {e : P2} {v : Int} (h0 : 0 ≤ e.1) (h1 : e.1 < e.2) (h2 : e.2 < (ls.length : Int)) (hv : 0 ≤ v) : listAt (addE pts ls e) v = listAt ls v ++ itemE pts v e := by
  unfold addE itemE
  rw [addAt_at (by rw [addAt_len]; omega) (by omega) hv, addAt_at (by omega) h0 hv, addAt_at (by omega) h0 (by omega)]
  by_cases a : e.1 = v
  · have b : ¬ e.2 = v := by omega
    subst a
    rw [if_neg b, if_pos rfl, if_pos rfl, if_neg b, List.append_nil]
  · by_cases b : e.2 = v
    · subst b
      rw [if_pos rfl, if_neg a, if_neg a, if_pos rfl, List.nil_append]
    · rw [if_neg b, if_neg a, if_neg a, if_neg b]
      simp
theorem fold_at {pts : List P2} {v : Int} (hv : 0 ≤ v) : ∀ (eds : List P2) (ls : List (List JP)), (∀ e ∈ eds, 0 ≤ e.1 ∧ e.1 < e.2 ∧ e.2 < (ls.length : Int)) → listAt (eds.foldl (addE pts) ls) v = listAt ls v ++ eds.flatMap (itemE pts v)
  | [], ls, _ => by simp
  | e :: eds, ls, h => by
    obtain ⟨h0, h1, h2⟩ := h e List.mem_cons_self
    rw [List.foldl_cons, fold_at hv eds _ fun f hf => by rw [addE_len]; exact h f (List.mem_cons_of_mem _ hf), addE_at h0 h1 h2 hv, List.flatMap_cons, List.append_assoc]
theorem listsOf_at {pts eds : List P2} (g : ∀ e ∈ eds, 0 ≤ e.1 ∧ e.1 < e.2 ∧ e.2 < (pts.length : Int)) {v : Int} (hv : 0 ≤ v) : listAt (listsOf pts eds) v = eds.flatMap (itemE pts v) := by
  unfold listsOf
  rw [fold_at hv eds _ fun e he => by rw [List.length_replicate]; exact g e he]
  have : listAt (List.replicate pts.length []) v = [] := by
    unfold listAt
    rw [List.getD_eq_getElem?_getD, List.getElem?_replicate]
    by_cases h : v.toNat < pts.length
    · rw [if_pos h]; rfl
    · rw [if_neg h]; rfl
  rw [this, List.nil_append]
theorem itemE_len {pts : List P2} {v : Int} {e : P2} : (itemE pts v e).length ≤ 2 := by
  unfold itemE
  by_cases a : e.1 = v <;> by_cases b : e.2 = v <;> simp [a, b]
theorem items_len {pts : List P2} {v : Int} : ∀ eds : List P2, (eds.flatMap (itemE pts v)).length ≤ 2 * eds.length
  | [] => by simp
  | e :: eds => by
    rw [List.flatMap_cons, List.length_append, List.length_cons]
    have := items_len (pts := pts) (v := v) eds
    have := itemE_len (pts := pts) (v := v) (e := e)
    omega
theorem item_mem {pts : List P2} {v : Int} {e : P2} {q : JP} (h : q ∈ itemE pts v e) : q.2 = ptAt pts q.1 ∧ ((e.1 = v ∧ e.2 = q.1) ∨ (e.2 = v ∧ e.1 = q.1)) := by
  unfold itemE at h
  rcases List.mem_append.mp h with h | h
  · by_cases a : e.1 = v
    · rw [if_pos a] at h
      rw [List.mem_singleton.mp h]
      exact ⟨rfl, .inl ⟨a, rfl⟩⟩
    · rw [if_neg a] at h
      exact nomatch h
  · by_cases a : e.2 = v
    · rw [if_pos a] at h
      rw [List.mem_singleton.mp h]
      exact ⟨rfl, .inr ⟨a, rfl⟩⟩
    · rw [if_neg a] at h
      exact nomatch h
theorem items_inr {pts eds : List P2} (g : GoodPl pts eds) {v : Int} {q : JP} (h : q ∈ eds.flatMap (itemE pts v)) : InR q.2 := by
  obtain ⟨e, he, hq⟩ := List.mem_flatMap.mp h
  obtain ⟨h1, h2⟩ := item_mem hq
  obtain ⟨a, b, c⟩ := g.edge e he
  rw [h1]
  rcases h2 with ⟨_, h2⟩ | ⟨_, h2⟩
  · exact g.inr _ (ptAt_mem (by omega) (by omega))
  · exact g.inr _ (ptAt_mem (by omega) (by omega))
/-- the first k edges -/
theorem listsOf_step {pts eds : List P2} {k : Nat} {e : P2} (h : eds[k]? = some e) : listsOf pts (eds.take (k + 1)) = addE pts (listsOf pts (eds.take k)) e := by
  unfold listsOf
  rw [List.take_add_one, h, List.foldl_append]
  rfl
end K29
namespace K29
open PySem PySem.Spec PyProof.Rows L2

local macro_rules | `(tactic| walk_at "kev") => `(tactic| first
  | exact ev_cint
  | exact ev_cbl
  | exact ev_cnon
  | exact ev_var rfl
  | apply ev_fst
  | apply ev_snd
  | apply ev_op (hr := ro_sub)
  | apply ev_op (hr := ro_add)
  | apply ev_op (hr := ro_lt)
  | apply ev_op (hr := ro_gt)
  | apply ev_op (hr := ro_le)
  | apply ev_op (hr := ro_ge)
  | apply ev_op (hr := ro_eq)
  | apply ev_op (hr := ro_ne)
  | apply ev_neg
  | apply ev_chain (h1 := ro_le) (h2 := ro_le)
  | (refine ev_and ?_ (fun _ => ?_))
  | (refine ev_or ?_ (fun _ => ?_))
  | apply ev_not
  | apply ev_pair
  | apply ev_call
  | exact ea_nil
  | apply ea_cons
  | apply ev_cb (hr := rc_min2)
  | apply ev_cb (hr := rc_max2)
  | apply ev_cb (hr := rc_lenL)
  | apply ev_cb (hr := rc_lenT)
  | apply ev_cb (hr := rc_intB)
  | apply ev_cb (hr := rc_intI)
  | apply eb_test
  | apply eb_B
  | apply eb_not
  | (apply ev_op (hr := ro_mul ?_)))

section
variable {P : Program} {w : World} {K : PySem.W.Frag} {mg : Str → Option Value} {base : Heap}

abbrev s_around : Stmt := topS 21
theorem sc_around : FnScope ["plane", "points", "edges", "listed", "i", "j", "_", "centre", "items"] ["plane"] (defScope s_around) := ⟨rfl, rfl, rfl, by decide +kernel, rfl, by decide +kernel, by decide +kernel⟩
theorem seq_asg {te : TE} {g : TG} {u : TS} {D : Ends} {σ : L2.St} {H : Hp} (h : te σ H fun x H1 => g x σ H1 (u D)) : tSeq (tAsg te g) u D σ H := h
theorem seq_for {wi : TI} {g : TG} {t u : TS} {D : Ends} {σ : L2.St} {H : Hp} (h : tFor wi g t { D with nx := u D } σ H) : tSeq (tFor wi g t) u D σ H := h
theorem it_is {wi : TI} {ds : DE} {l m : List PyData} (h : ItD wi ds l) (e : l = m) : ItD wi ds m := by
  rw [← e]
  exact h
theorem zipD_map {α β : Type} {f : α → PyData} {g : β → PyData} (l : List α) (m : List β) : zipD (l.map f) (m.map g) = (l.zip m).map fun z => .tuple [f z.1, g z.2] := by
  unfold zipD
  rw [List.zip_map, List.map_map]
  rfl
abbrev eO (o : List Int) : PyData := .list (o.map eI)
def spAround (dl : List PyData) (d : PyData) : Prop := ∃ pts eds : List P2, dl = [ePl pts eds] ∧ GoodPl pts eds ∧ d = .list ((ordersOf pts eds).map eO)
abbrev mJ (ls : List (List JP)) : List (List PyData) := ls.map fun l => l.map eJ
theorem mJ_add {ls : List (List JP)} {i : Int} {q : JP} : (mJ ls).set i.toNat ((listAt ls i).map eJ ++ [eJ q]) = mJ (addAt ls i q) := by
  unfold mJ addAt
  rw [List.map_set, List.map_append]
  rfl
theorem mJ_at {ls : List (List JP)} {i : Int} (h : i.toNat < ls.length) : (mJ ls)[i.toNat]? = some ((listAt ls i).map eJ) := by
  rw [List.getElem?_map, listAt_get h]
  rfl
theorem cal_around (D : DefAt K mg "around" s_around ["plane"]) (B : Blt mg) (c_put_around : Cal P w K mg base 2 "put_around" (SpD spPut)) : Cal P w K mg base 3 "around" (SpD spAround) := by
  refine cal_at D sc_around (fun dl d ⟨a, b, h, _⟩ => by rw [h]; rfl) fun f cdv A outer s H E hr => ⟨_, (pss_cons (ps_asg (pv 0) (pg_tup rfl (pgs_cons (pg_name (i := 1) sc_around.nd rfl (by first | exact Or.inl rfl | exact Or.inr rfl)) (pgs_cons (pg_name (i := 2) sc_around.nd rfl (by first | exact Or.inl rfl | exact Or.inr rfl)) pgs_nil))))
      (pss_cons (ps_setLc (i := 3) (own := [("_", 6)]) (g := (gName 6)) (tt := tYes) rfl sc_around.nd rfl rfl (sw_true rfl rfl rfl (by decide +kernel)) (kpi_tup (K := K) (pv 1)) (blkOk_by (own := [("_", 6)]) (N := ["plane", "points", "edges", "listed", "i", "j", "_", "centre", "items"]) (sc := defScope s_around) (by decide +kernel)) (fun _ _ _ _ _ => (pg_name (i := 6) sc_around.nd rfl (by first | exact Or.inl rfl | exact Or.inr rfl))) (fun _ _ _ _ _ => pts_nil) (fun _ _ _ _ _ => (pe_lst pa_nil)))
      (pss_cons (ps_for PassesOwn.never rfl (kpi_tup (K := K) (pv 2)) (pg_tup rfl (pgs_cons (pg_name (i := 4) sc_around.nd rfl (by first | exact Or.inl rfl | exact Or.inr rfl)) (pgs_cons (pg_name (i := 5) sc_around.nd rfl (by first | exact Or.inl rfl | exact Or.inr rfl)) pgs_nil))) (pss_cons (ps_expr (kpe_bm (K := K) PySem.F.plainAttrs_list PySem.F.slot_list_append PySem.F.type_list_append mt_append (pe_ix (kix_list (K := K)) (pv 3) (pv 4) (fun _ _ => rfl)) (pa_cons (pe_tup (pa_cons (pv 5) (pa_cons (pe_ix (kix_tup (K := K)) (pv 1) (pv 5) (fun _ _ => rfl)) pa_nil))) pa_nil)))
      (pss_one (ps_expr (kpe_bm (K := K) PySem.F.plainAttrs_list PySem.F.slot_list_append PySem.F.type_list_append mt_append (pe_ix (kix_list (K := K)) (pv 3) (pv 5) (fun _ _ => rfl)) (pa_cons (pe_tup (pa_cons (pv 4) (pa_cons (pe_ix (kix_tup (K := K)) (pv 1) (pv 4) (fun _ _ => rfl)) pa_nil))) pa_nil))))))
      (pss_one (ps_ret (pe_lc (own := [("centre", 7), ("items", 8)]) (g := (gTup K 2 (gCons (gName 7) (gCons (gName 8) gNil)))) (tt := tYes) rfl sc_around.nd (kpi_zip (K := K) (by rfl) B.zip_ (pa_cons (pv 1) (pa_cons (pv 3) pa_nil))) (blkOk_by (own := [("centre", 7), ("items", 8)]) (N := ["plane", "points", "edges", "listed", "i", "j", "_", "centre", "items"]) (sc := defScope s_around) (by decide +kernel)) (fun _ _ _ _ _ => (pg_tup rfl (pgs_cons (pg_name (i := 7) sc_around.nd rfl (by first | exact Or.inl rfl | exact Or.inr rfl)) (pgs_cons (pg_name (i := 8) sc_around.nd rfl (by first | exact Or.inl rfl | exact Or.inr rfl)) pgs_nil)))) (fun _ _ _ _ _ => pts_nil) (fun _ _ _ _ _ => (C8.pe_c c_put_around hr (by decide) (by rfl) (pa_cons (pv 7) (pa_cons (pv 8) pa_nil)))))))))), ?_⟩
  rintro dl d ⟨pts, eds, rfl, gp, rfl⟩
  refine st_then (st_tgt (ev_var rfl) (tg_pair tg_name tg_name) rfl) ?_
  have edg := gp.edge
  have elen := gp.elen
  have plen := gp.len
  intro D0 G H0 σ sm en qn qr
  refine seq_asg (ll_new (ds := [some (ePl pts eds), some (.tuple (pts.map eP)), some (.tuple (eds.map eP)), none, none, none, none, none, none]) (l := pts.map eP) (it_tup (ev_var (i := 1) rfl)) (by rw [List.length_map]; omega) (fun d hd => ⟨[6], _, tg_name, fun i hi => hi⟩) sm en fun p as G1 H1 s1 L1 => ?_)
  rw [List.length_map] at L1
  have en1 : Env G1 (σ.set 3 (some (.ref p))) [some (ePl pts eds), some (.tuple (pts.map eP)), some (.tuple (eds.map eP)), none, none, none, none, none, none] := unset_env 3 (en.same s1)
  have hs1 : (σ.set 3 (some (.ref p)))[3]? = some (some (.ref p)) := List.getElem?_set_self (by
    have : ∀ {G : Hp} {σ : L2.St} {ds : DE}, Env G σ ds → σ.length = ds.length := fun e => by
      induction e with
      | nil => rfl
      | no _ ih => rw [List.length_cons, List.length_cons, ih]
      | da _ _ ih => rw [List.length_cons, List.length_cons, ih]
    rw [this en]
    exact (show 3 < 9 by decide))
  show tSeq (tFor _ _ _) _ D0 (σ.set 3 (some (.ref p))) H1
  generalize σ.set 3 (some (.ref p)) = τ at en1 hs1
  refine seq_for ?_
  refine it_tup (K := K) (l := eds.map eP) (ev_var (i := 2) rfl) G1 H1 τ L1.gr.s en1 _ fun J G2 H2 g2 ⟨Gp, Y, wk, k1, k2⟩ => ?_
  rw [List.length_map] at wk k2
  refine for_it wk (fun i σ' H' => ∃ G' x4 x5, Same G2 G' ∧ LL G H0 G' H' p as (mJ (listsOf pts (eds.take i))) ∧ Env G' σ' [some (ePl pts eds), some (.tuple (pts.map eP)), some (.tuple (eds.map eP)), none, x4, x5, none, none, none] ∧ σ'[3]? = some (some (.ref p)))
    ⟨G2, none, none, Same.refl _, by
      have e0 : mJ (listsOf pts (eds.take 0)) = List.replicate pts.length [] := by
        show mJ (List.replicate pts.length []) = _
        unfold mJ
        rw [List.map_replicate]
        rfl
      rw [e0]
      exact L1.then g2, en1.same g2.g, hs1⟩ (fun i σ' H' _ ⟨G', _, _, a1, a2, _⟩ => k1 H' (a1.trans a2.gr.s)) ?_ ?_
  · rintro i x σ' H' H3 hil ⟨G', x4, x5, a1, a2, a3, a4⟩ y
    obtain ⟨d, G3, b1, g3, d3⟩ := k2 i G' H' x H3 a1 a2.gr.s hil y
    obtain ⟨e, he⟩ : ∃ e, eds[i]? = some e := ⟨eds[i], List.getElem?_eq_getElem hil⟩
    have hd : d = eP e := by
      rw [List.getElem?_map, he] at b1
      exact (Option.some.inj b1).symm
    subst hd
    obtain ⟨h0, h1, h2⟩ := edg e (List.mem_of_getElem? he)
    have b2 := a2.then g3
    have hedt : ∀ v, 0 ≤ v → (listAt (listsOf pts (eds.take i)) v).length ≤ 100 := fun v hv => by
      rw [listsOf_at (fun e he => edg e (List.mem_of_mem_take he)) hv]
      have := items_len (pts := pts) (v := v) (eds.take i)
      rw [List.length_take] at this
      omega
    refine tg_pair tg_name tg_name G3 H3 σ' x g3.s d3 (a3.same g3.g) _ fun σ2 e3 w3 => ?_
    have hs2 : σ2[3]? = some (some (.ref p)) := (tg_keep w3 (by decide)).trans a4
    have n1 : ((e.1.toNat : Nat) : Int) = e.1 := Int.toNat_of_nonneg h0
    have n2 : ((e.2.toNat : Nat) : Int) = e.2 := Int.toNat_of_nonneg (by omega)
    have v4 : ∀ {te : TE} {ds : DE}, EvD te ds (.int e.1) → EvD te ds (.int (e.1.toNat : Nat)) := fun h => by rw [n1]; exact h
    have v5 : ∀ {te : TE} {ds : DE}, EvD te ds (.int e.2) → EvD te ds (.int (e.2.toNat : Nat)) := fun h => by rw [n2]; exact h
    have q1 : ∀ {v : Int}, 0 ≤ v → v < (pts.length : Int) → atG (pts.map eP) v = some (eP (ptAt pts v)) := fun {v} hv hv2 => by
      have := atG_map (e := eP) (ptAt_get hv hv2)
      rwa [Int.toNat_of_nonneg hv] at this
    refine ll_app (i := 3) (k := e.1.toNat) (d := eJ (e.2, ptAt pts e.2)) (v4 (ev_var rfl)) (ev_pair (ev_var rfl) (ev_op (ev_var rfl) (ev_var rfl) (ro_ixT (q1 (by omega) h2)))) b2 e3 hs2 (mJ_at (by rw [listsOf_len]; omega)) (by rw [List.length_map]; have := hedt e.1 h0; omega) fun G4 H4 s4 L4 => ?_
    rw [mJ_add] at L4
    refine ll_app (i := 3) (k := e.2.toNat) (d := eJ (e.1, ptAt pts e.1)) (v5 (ev_var rfl)) (ev_pair (ev_var rfl) (ev_op (ev_var rfl) (ev_var rfl) (ro_ixT (q1 h0 (by omega))))) L4 (e3.same s4) hs2 (mJ_at (by rw [addAt_len, listsOf_len]; omega)) ?_ fun G5 H5 s5 L5 => ?_
    · rw [List.length_map, addAt_at (by rw [listsOf_len]; omega) h0 (by omega), if_neg (by omega)]
      have := hedt e.2 (by omega)
      omega
    · rw [mJ_add] at L5
      refine ⟨G5, some (.int e.1), some (.int e.2), a1.trans (g3.g.trans (s4.trans s5)), ?_, (e3.same s4).same s5, hs2⟩
      rw [listsOf_step he]
      exact L5
  · rintro σ' H' ⟨G', x4, x5, a1, a2, a3, a4⟩
    rw [List.take_length] at a2
    obtain ⟨G6, s6, g6, e6⟩ := a2.free a3 a4
    have item : ∀ z ∈ pts.zip (listsOf pts eds), z.1 ∈ pts ∧ z.2.length ≤ 1000 ∧ ∀ q ∈ z.2, InR q.2 := fun z hz => by
      obtain ⟨m1, m2⟩ := List.of_mem_zip (a := z.1) (b := z.2) hz
      obtain ⟨k, hk⟩ := List.mem_iff_getElem?.mp m2
      have hk2 := (List.getElem?_eq_some_iff.mp hk).1
      have e1 : z.2 = listAt (listsOf pts eds) (k : Int) := by
        have := listAt_get (ls := listsOf pts eds) (i := (k : Int)) hk2
        rw [Int.toNat_natCast, hk] at this
        exact Option.some.inj this
      rw [listsOf_at edg (Int.natCast_nonneg k)] at e1
      rw [e1]
      have := items_len (pts := pts) (v := (k : Int)) eds
      exact ⟨m1, by omega, fun q hq => items_inr gp hq⟩
    have fin : StD (tRet (tLc (iZipM K (tCons (tVar 1) (tCons (tVar 3) tNil))) (gTup K 2 (gCons (gName 7) (gCons (gName 8) gNil))) tYes (tCall (SpD spPut) [] C8.E0 (tCons (tVar 7) (tCons (tVar 8) tNil))) [7, 8])) ([some (ePl pts eds), some (.tuple (pts.map eP)), some (.tuple (eds.map eP)), some (.list ((listsOf pts eds).map fun l => .list (l.map eJ))), x4, x5, none, none, none]) (fun _ => False) (fun r => r = .list ((ordersOf pts eds).map eO)) := by
      refine st_ret (ev_is (ev_lcA (pts.zip (listsOf pts eds)) (fun z => .tuple [eP z.1, .list (z.2.map eJ)]) (fun z => .list ((putAround z.1 z.2).map eI)) (it_is (it_zipM (ea_cons (ev_var rfl) (ea_cons (ev_var rfl) ea_nil)) (by rw [List.length_map, List.length_map, listsOf_len])) (zipD_map _ _)) (by rw [List.length_zip]; omega) fun z hz => ⟨[7, 8], _, tg_pair tg_name tg_name, by simp, ?_⟩) ?_) rfl
      · obtain ⟨i1, i2, i3⟩ := item z hz
        exact ev_call (ea_cons (ev_var rfl) (ea_cons (ev_var rfl) ea_nil)) ⟨z.1, z.2, rfl, gp.inr _ i1, i2, i3, rfl⟩
      · unfold ordersOf
        rw [List.map_map]
        rfl
    have e7 : (mJ (listsOf pts eds)).map PyData.list = (listsOf pts eds).map fun l => .list (l.map eJ) := by
      unfold mJ
      rw [List.map_map]
      rfl
    rw [e7] at e6
    exact fin D0 G6 H' σ' g6.s e6 (fun _ _ _ _ z => z.elim) fun d v G7 H7 hr g7 d7 => qr d v G7 H7 hr (g6.trans g7) d7
end
end K29
/-! K29: the next half-edge goes through all of them, none twice. -/
namespace K29
def ordAt (os : List (List Int)) (v : Int) : List Int := os.getD v.toNat []
def prvI (n k : Nat) : Nat := if k = 0 then n - 1 else k - 1
def prv (l : List Int) (x : Int) : Int := l.getD (prvI l.length (l.idxOf x)) 0
def nxt (os : List (List Int)) (h : P2) : P2 := (h.2, prv (ordAt os h.2) h.1)
def swp (h : P2) : P2 := (h.2, h.1)
def halvesOf (eds : List P2) : List P2 := srtP (eds ++ eds.map swp)
theorem prvI_lt {n k : Nat} (h : k < n) : prvI n k < n := by
  unfold prvI
  split <;> omega
theorem prvI_inj {n k j : Nat} (h : k < n) (h2 : j < n) (e : prvI n k = prvI n j) : k = j := by
  unfold prvI at e
  split at e <;> split at e <;> omega
theorem prv_get {l : List Int} {x : Int} (h : x ∈ l) : l[prvI l.length (l.idxOf x)]? = some (prv l x) := by
  have h1 := prvI_lt (List.idxOf_lt_length_of_mem h)
  unfold prv
  rw [List.getD_eq_getElem?_getD, List.getElem?_eq_getElem h1]
  rfl
theorem prv_mem {l : List Int} {x : Int} (h : x ∈ l) : prv l x ∈ l := List.mem_of_getElem? (prv_get h)
theorem prv_inj {l : List Int} {x y : Int} (nd : l.Nodup) (h : x ∈ l) (h2 : y ∈ l) (e : prv l x = prv l y) : x = y := by
  have a := prv_get h
  have b := prv_get h2
  rw [e, ← b] at a
  have c := (List.getElem?_inj (prvI_lt (List.idxOf_lt_length_of_mem h)) nd).mp a
  have d := prvI_inj (List.idxOf_lt_length_of_mem h) (List.idxOf_lt_length_of_mem h2) c
  have e1 : l[l.idxOf x]'(List.idxOf_lt_length_of_mem h) = x := List.getElem_idxOf _
  have e2 : l[l.idxOf y]'(List.idxOf_lt_length_of_mem h2) = y := List.getElem_idxOf _
  rw [← e1, ← e2]
  congr 1
def nbE (v : Int) (e : P2) : List Int := (if e.1 = v then [e.2] else []) ++ (if e.2 = v then [e.1] else [])
theorem item_fst {pts : List P2} {v : Int} {e : P2} : (itemE pts v e).map Prod.fst = nbE v e := by
  unfold itemE nbE
  by_cases a : e.1 = v <;> by_cases b : e.2 = v <;> simp [a, b]
theorem items_fst {pts : List P2} {v : Int} : ∀ eds : List P2, (eds.flatMap (itemE pts v)).map Prod.fst = eds.flatMap (nbE v)
  | [] => rfl
  | e :: eds => by rw [List.flatMap_cons, List.flatMap_cons, List.map_append, item_fst, items_fst eds]
theorem nbE_mem {v x : Int} {e : P2} : x ∈ nbE v e ↔ e = (v, x) ∨ e = (x, v) := by
  unfold nbE
  rw [List.mem_append]
  constructor
  · rintro (h | h)
    · by_cases a : e.1 = v
      · rw [if_pos a] at h
        exact .inl (ext2 a (List.mem_singleton.mp h).symm)
      · rw [if_neg a] at h
        exact nomatch h
    · by_cases a : e.2 = v
      · rw [if_pos a] at h
        exact .inr (ext2 (List.mem_singleton.mp h).symm a)
      · rw [if_neg a] at h
        exact nomatch h
  · rintro (rfl | rfl)
    · exact .inl (by simp)
    · exact .inr (by simp)
theorem nb_mem {v x : Int} {eds : List P2} : x ∈ eds.flatMap (nbE v) ↔ (v, x) ∈ eds ∨ (x, v) ∈ eds := by
  rw [List.mem_flatMap]
  constructor
  · rintro ⟨e, he, hx⟩
    rcases nbE_mem.mp hx with rfl | rfl
    · exact .inl he
    · exact .inr he
  · rintro (h | h)
    · exact ⟨_, h, nbE_mem.mpr (.inl rfl)⟩
    · exact ⟨_, h, nbE_mem.mpr (.inr rfl)⟩
theorem nbE_nodup {v : Int} {e : P2} (h : e.1 < e.2) : (nbE v e).Nodup := by
  unfold nbE
  by_cases a : e.1 = v
  · have b : ¬ e.2 = v := by omega
    rw [if_pos a, if_neg b]
    simp
  · rw [if_neg a]
    by_cases b : e.2 = v
    · rw [if_pos b]; simp
    · rw [if_neg b]; simp
theorem nb_nodup {v : Int} : ∀ {eds : List P2}, eds.Nodup → (∀ e ∈ eds, e.1 < e.2) → (eds.flatMap (nbE v)).Nodup
  | [], _, _ => List.nodup_nil
  | e :: eds, nd, h => by
    rw [List.flatMap_cons, List.nodup_append]
    obtain ⟨n1, n2⟩ := List.nodup_cons.mp nd
    have he := h e List.mem_cons_self
    refine ⟨nbE_nodup he, nb_nodup n2 fun f hf => h f (List.mem_cons_of_mem _ hf), fun x hx y hy z => ?_⟩
    subst z
    rcases nbE_mem.mp hx with rfl | rfl <;> rcases nb_mem.mp hy with k | k
    · exact n1 k
    · have := h _ (List.mem_cons_of_mem _ k)
      simp only at this he
      omega
    · have := h _ (List.mem_cons_of_mem _ k)
      simp only at this he
      omega
    · exact n1 k
section
variable {pts eds : List P2}
theorem orders_at (g : GoodPl pts eds) {v : Int} (h0 : 0 ≤ v) (h1 : v < (pts.length : Int)) : (ordersOf pts eds)[v.toNat]? = some (ordAt (ordersOf pts eds) v) ∧ (ordAt (ordersOf pts eds) v).Perm (eds.flatMap (nbE v)) := by
  have hl : v.toNat < (listsOf pts eds).length := by rw [listsOf_len]; omega
  have e : (ordersOf pts eds)[v.toNat]? = some (putAround (ptAt pts v) (listAt (listsOf pts eds) v)) := by
    unfold ordersOf
    rw [List.getElem?_map, (List.getElem?_zip_eq_some (z := (ptAt pts v, listAt (listsOf pts eds) v))).mpr ⟨ptAt_get h0 h1, listAt_get hl⟩]
    rfl
  have e2 : ordAt (ordersOf pts eds) v = putAround (ptAt pts v) (listAt (listsOf pts eds) v) := by
    unfold ordAt
    rw [List.getD_eq_getElem?_getD, e]
    rfl
  refine ⟨by rw [e, e2], ?_⟩
  rw [e2, listsOf_at g.edge h0]
  refine (putAround_perm _ _).trans ?_
  rw [items_fst]
theorem ord_mem (g : GoodPl pts eds) {v x : Int} (h0 : 0 ≤ v) (h1 : v < (pts.length : Int)) : x ∈ ordAt (ordersOf pts eds) v ↔ (v, x) ∈ eds ∨ (x, v) ∈ eds := (orders_at g h0 h1).2.mem_iff.trans nb_mem
theorem ord_nodup (g : GoodPl pts eds) {v : Int} (h0 : 0 ≤ v) (h1 : v < (pts.length : Int)) : (ordAt (ordersOf pts eds) v).Nodup := (orders_at g h0 h1).2.nodup_iff.mpr (nb_nodup g.easc.nodup fun e he => (g.edge e he).2.1)
theorem swp_swp (h : P2) : swp (swp h) = h := rfl
theorem mem_halves {h : P2} : h ∈ halvesOf eds ↔ h ∈ eds ∨ swp h ∈ eds := by
  unfold halvesOf
  rw [(srtP_perm _).mem_iff, List.mem_append, List.mem_map]
  constructor
  · rintro (h | ⟨e, he, rfl⟩)
    · exact .inl h
    · exact .inr he
  · rintro (h | h)
    · exact .inl h
    · exact .inr ⟨_, h, swp_swp _⟩
theorem half_swp {h : P2} (m : h ∈ halvesOf eds) : swp h ∈ halvesOf eds := by
  rcases mem_halves.mp m with h | h
  · exact mem_halves.mpr (.inr h)
  · exact mem_halves.mpr (.inl h)
theorem half_in (g : GoodPl pts eds) {h : P2} (m : h ∈ halvesOf eds) : 0 ≤ h.1 ∧ h.1 < (pts.length : Int) ∧ 0 ≤ h.2 ∧ h.2 < (pts.length : Int) ∧ h.1 ≠ h.2 := by
  rcases mem_halves.mp m with k | k
  · obtain ⟨a, b, c⟩ := g.edge _ k
    omega
  · obtain ⟨a, b, c⟩ := g.edge _ k
    simp only [swp] at a b c
    omega
theorem half_ord (g : GoodPl pts eds) {h : P2} (m : h ∈ halvesOf eds) : h.1 ∈ ordAt (ordersOf pts eds) h.2 := by
  obtain ⟨a, b, c, d, _⟩ := half_in g m
  refine (ord_mem g c d).mpr ?_
  rcases mem_halves.mp m with k | k
  · exact .inr k
  · exact .inl k
theorem nxt_mem (g : GoodPl pts eds) : ∀ h ∈ halvesOf eds, nxt (ordersOf pts eds) h ∈ halvesOf eds := fun h m => by
  obtain ⟨a, b, c, d, _⟩ := half_in g m
  have p := prv_mem (half_ord g m)
  rcases (ord_mem g c d).mp p with k | k
  · exact mem_halves.mpr (.inl k)
  · exact mem_halves.mpr (.inr k)
theorem nxt_inj (g : GoodPl pts eds) : ∀ x ∈ halvesOf eds, ∀ y ∈ halvesOf eds, nxt (ordersOf pts eds) x = nxt (ordersOf pts eds) y → x = y := fun x hx y hy e => by
  obtain ⟨a, b, c, d, _⟩ := half_in g hx
  have e1 : x.2 = y.2 := congrArg Prod.fst e
  have e2 : prv (ordAt (ordersOf pts eds) x.2) x.1 = prv (ordAt (ordersOf pts eds) y.2) y.1 := congrArg Prod.snd e
  rw [← e1] at e2
  have m2 := half_ord g hy
  rw [← e1] at m2
  exact ext2 (prv_inj (ord_nodup g c d) (half_ord g hx) m2 e2) e1
theorem halves_nodup (g : GoodPl pts eds) : (eds ++ eds.map swp).Nodup := by
  rw [List.nodup_append]
  refine ⟨g.easc.nodup, ?_, fun x hx y hy z => ?_⟩
  · exact List.Pairwise.map swp (fun a b n z => n (congrArg swp z)) g.easc.nodup
  · subst z
    obtain ⟨e, he, rfl⟩ := List.mem_map.mp hy
    have h1 := (g.edge _ hx).2.1
    have h2 := (g.edge _ he).2.1
    simp only [swp] at h1
    omega
theorem halves_asc (g : GoodPl pts eds) : Asc (halvesOf eds) := srtP_asc (halves_nodup g)
theorem halves_len : (halvesOf eds).length = 2 * eds.length := by
  unfold halvesOf
  rw [(srtP_perm _).length_eq, List.length_append, List.length_map]
  omega
end
end K29
/-! K29: segments that meet at ends alone. -/
namespace K29
structure GoodSg (l : List Sg) : Prop where
  inr : ∀ s ∈ l, InRS s ∧ ltP s.1 s.2 = true
  sep : l.Pairwise fun s t => sepB s t = true ∧ s ≠ t
instance (p : P2) : Decidable (InR p) := by unfold InR; infer_instance
def goodB (l : List Sg) : Bool := (l.all fun s => decide (InR s.1) && decide (InR s.2) && ltP s.1 s.2) && decide (l.Pairwise fun s t => sepB s t = true ∧ s ≠ t)
theorem goodB_is {l : List Sg} (h : goodB l = true) : GoodSg l := by
  unfold goodB at h
  rw [Bool.and_eq_true, List.all_eq_true] at h
  obtain ⟨h1, h2⟩ := h
  refine ⟨fun s hs => ?_, of_decide_eq_true h2⟩
  have := h1 s hs
  rw [Bool.and_eq_true, Bool.and_eq_true] at this
  exact ⟨⟨of_decide_eq_true this.1.1, of_decide_eq_true this.1.2⟩, this.2⟩
theorem GoodSg.add {l : List Sg} (g : GoodSg l) {s : Sg} (h1 : InRS s) (h2 : ltP s.1 s.2 = true) (h3 : s ∉ l) (h4 : ∀ t ∈ l, sepB s t = true) : GoodSg (l ++ [s]) := by
  refine ⟨fun t ht => ?_, ?_⟩
  · rcases List.mem_append.mp ht with ht | ht
    · exact g.inr t ht
    · rw [List.mem_singleton.mp ht]
      exact ⟨h1, h2⟩
  · rw [List.pairwise_append]
    refine ⟨g.sep, List.pairwise_singleton _ _, fun t ht u hu => ?_⟩
    rw [List.mem_singleton.mp hu]
    exact ⟨sepB_sym (h4 t ht), fun z => h3 (z ▸ ht)⟩
theorem GoodSg.two {l : List Sg} (g : GoodSg l) {s t : Sg} (hs : s ∈ l) (ht : t ∈ l) (hn : s ≠ t) : sepB s t = true := by
  have := g.sep
  have key : ∀ {l : List Sg}, (l.Pairwise fun s t => sepB s t = true ∧ s ≠ t) → s ∈ l → t ∈ l → sepB s t = true := by
    intro l hp hs ht
    induction l with
    | nil => exact nomatch hs
    | cons x r ih =>
      obtain ⟨p1, p2⟩ := List.pairwise_cons.mp hp
      rcases List.mem_cons.mp hs with e | hs
      · rcases List.mem_cons.mp ht with e2 | ht
        · exact absurd (e.trans e2.symm) hn
        · rw [e]
          exact (p1 t ht).1
      · rcases List.mem_cons.mp ht with e2 | ht
        · rw [e2]
          exact sepB_sym (p1 s hs).1
        · exact ih p2 hs ht
  exact key g.sep hs ht
theorem GoodSg.nodup {l : List Sg} (g : GoodSg l) : l.Nodup := g.sep.imp fun h => h.2
theorem GoodSg.perm {l m : List Sg} (g : GoodSg l) (p : m.Perm l) : GoodSg m := ⟨fun s hs => g.inr s (p.mem_iff.mp hs), p.symm.pairwise g.sep fun h => ⟨sepB_sym h.1, fun z => h.2 z.symm⟩⟩
end K29
/-! K29: a plane from segments that meet at ends alone. -/
namespace K29
theorem ixP_get {l : List P2} {p : P2} (h : p ∈ l) : l[l.idxOf p]? = some p := by
  rw [List.getElem?_eq_getElem (List.idxOf_lt_length_of_mem h), List.getElem_idxOf]
def ixE (pts : List P2) (s : Sg) : P2 := ((pts.idxOf s.1 : Nat), (pts.idxOf s.2 : Nat))
structure PtsOk (L : List Sg) (ps : List P2) : Prop where
  nd : ps.Nodup
  inr : ∀ p ∈ ps, InR p
  on : ∀ p ∈ ps, (∃ s ∈ L, p = s.1 ∨ p = s.2) ∨ ∀ s ∈ L, onSeg p s.1 s.2 = false
theorem PtsOk.add {L : List Sg} {ps : List P2} (g : PtsOk L ps) {p : P2} (h1 : p ∉ ps) (h2 : InR p) (h3 : (∃ s ∈ L, p = s.1 ∨ p = s.2) ∨ ∀ s ∈ L, onSeg p s.1 s.2 = false) : PtsOk L (ps ++ [p]) := by
  refine ⟨?_, fun q hq => ?_, fun q hq => ?_⟩
  · rw [List.nodup_append]
    exact ⟨g.nd, by simp, fun a ha b hb z => h1 (by rw [← List.mem_singleton.mp hb, ← z]; exact ha)⟩
  · rcases List.mem_append.mp hq with hq | hq
    · exact g.inr q hq
    · rw [List.mem_singleton.mp hq]; exact h2
  · rcases List.mem_append.mp hq with hq | hq
    · exact g.on q hq
    · rw [List.mem_singleton.mp hq]; exact h3
theorem ptAt_ix {pts : List P2} {p : P2} (h : p ∈ pts) : ptAt pts ((pts.idxOf p : Nat) : Int) = p := by
  unfold ptAt
  rw [List.getD_eq_getElem?_getD, Int.toNat_natCast, ixP_get h]
  rfl
theorem mkPlane {L : List Sg} {ps : List P2} (g : GoodSg L) (h0 : L ≠ []) (hl : L.length ≤ 24) (ok : PtsOk L ps) (cov : ∀ s ∈ L, s.1 ∈ ps ∧ s.2 ∈ ps) (hp : ps.length ≤ 60) : GoodPl (srtP ps) (srtP (L.map (ixE (srtP ps)))) := by
  have mem : ∀ {p}, p ∈ srtP ps ↔ p ∈ ps := fun {p} => (srtP_perm ps).mem_iff
  have asc := srtP_asc ok.nd
  have len : (srtP ps).length = ps.length := (srtP_perm ps).length_eq
  generalize srtP ps = pts at *
  have memE : ∀ {e}, e ∈ srtP (L.map (ixE pts)) ↔ ∃ s ∈ L, ixE pts s = e := fun {e} => (srtP_perm _).mem_iff.trans List.mem_map
  have seg : ∀ s ∈ L, segOf pts (ixE pts s) = s := fun s hs => by
    obtain ⟨c1, c2⟩ := cov s hs
    show (ptAt pts ((pts.idxOf s.1 : Nat) : Int), ptAt pts ((pts.idxOf s.2 : Nat) : Int)) = s
    rw [ptAt_ix (mem.mpr c1), ptAt_ix (mem.mpr c2)]
  have ed : ∀ s ∈ L, 0 ≤ (ixE pts s).1 ∧ (ixE pts s).1 < (ixE pts s).2 ∧ (ixE pts s).2 < (pts.length : Int) := fun s hs => by
    obtain ⟨c1, c2⟩ := cov s hs
    have m1 := mem.mpr c1
    have m2 := mem.mpr c2
    have l2 := List.idxOf_lt_length_of_mem m2
    have lt := (g.inr s hs).2
    have : pts.idxOf s.1 < pts.idxOf s.2 := by
      rcases Nat.lt_trichotomy (pts.idxOf s.1) (pts.idxOf s.2) with h | h | h
      · exact h
      · have e1 := ixP_get m1
        rw [h, ixP_get m2] at e1
        have := Option.some.inj e1
        rw [this, ltP_irr] at lt
        cases lt
      · have := asc.get h (ixP_get m2) (ixP_get m1)
        rw [ltP_asym this] at lt
        cases lt
    show (0 : Int) ≤ ((pts.idxOf s.1 : Nat) : Int) ∧ ((pts.idxOf s.1 : Nat) : Int) < ((pts.idxOf s.2 : Nat) : Int) ∧ ((pts.idxOf s.2 : Nat) : Int) < (pts.length : Int)
    omega
  have ndE : (L.map (ixE pts)).Nodup := by
    have key : ∀ {M : List Sg}, (∀ s ∈ M, s ∈ L) → M.Nodup → (M.map (ixE pts)).Nodup := by
      intro M
      induction M with
      | nil => intro _ _; exact List.nodup_nil
      | cons s M ih =>
        intro hM hn
        obtain ⟨n1, n2⟩ := List.nodup_cons.mp hn
        rw [List.map_cons, List.nodup_cons]
        refine ⟨fun z => ?_, ih (fun t ht => hM t (List.mem_cons_of_mem _ ht)) n2⟩
        obtain ⟨t, ht, e⟩ := List.mem_map.mp z
        have e2 := seg t (hM t (List.mem_cons_of_mem _ ht))
        rw [e, seg s (hM s List.mem_cons_self)] at e2
        exact n1 (e2 ▸ ht)
    exact key (fun s hs => hs) g.nodup
  refine ⟨?_, by omega, ?_, fun p h => ok.inr p (mem.mp h), asc, srtP_asc ndE, fun e he => ?_, fun e he p hpp => ?_, fun e he f hf hne => ?_⟩
  · cases L with
    | nil => exact absurd rfl h0
    | cons s L =>
      have := List.length_pos_of_mem (mem.mpr (cov s List.mem_cons_self).1)
      omega
  · rw [(srtP_perm _).length_eq, List.length_map]
    omega
  · obtain ⟨s, hs, rfl⟩ := memE.mp he
    exact ed s hs
  · obtain ⟨s, hs, rfl⟩ := memE.mp he
    rw [seg s hs]
    rcases ok.on p (mem.mp hpp) with ⟨t, ht, h⟩ | h
    · by_cases hst : s = t
      · subst hst
        unfold away
        rw [decide_eq_true h]
        rfl
      · obtain ⟨_, ⟨a1, a2⟩, _⟩ := sepB_iff.mp (g.two hs ht hst)
        rcases h with rfl | rfl
        · exact a1
        · exact a2
    · unfold away
      rw [h s hs, Bool.and_false]
      rfl
  · obtain ⟨s, hs, rfl⟩ := memE.mp he
    obtain ⟨t, ht, rfl⟩ := memE.mp hf
    rw [seg s hs, seg t ht]
    exact g.two hs ht fun z => hne (by rw [z])
end K29
/-! K29: what the law asks of the cycles. -/
namespace K29
def XH (pts : List P2) (h : P2) : Int := (ptAt pts h.1).1 * (ptAt pts h.2).2 - (ptAt pts h.1).2 * (ptAt pts h.2).1
def lawPairs (ns : List Int) : List P2 := (List.range ns.length).map fun k => (ns.getD (prvI ns.length k) 0, ns.getD k 0)
theorem prvI_next {n k : Nat} (h : k < n) : (prvI n k + 1) % n = k := by
  unfold prvI
  by_cases e : k = 0
  · subst e
    rw [if_pos rfl, Nat.sub_add_cancel (by omega), Nat.mod_self]
  · rw [if_neg e, Nat.sub_add_cancel (by omega), Nat.mod_eq_of_lt h]
theorem getD_fst {c : List P2} {k : Nat} {x : P2} (h : c[k]? = some x) : (c.map Prod.fst).getD k 0 = x.1 := by
  rw [List.getD_eq_getElem?_getD, List.getElem?_map, h]
  rfl
theorem sumI_perm {l m : List Int} (p : l.Perm m) : l.sum = m.sum := by
  induction p with
  | nil => rfl
  | cons x _ ih => rw [List.sum_cons, List.sum_cons, ih]
  | swap x y l =>
    rw [List.sum_cons, List.sum_cons, List.sum_cons, List.sum_cons]
    omega
  | trans _ _ ih1 ih2 => exact ih1.trans ih2
section
variable {nx : P2 → P2} {c : List P2}
theorem lawPairs_len : (lawPairs (c.map Prod.fst)).length = c.length := by
  unfold lawPairs
  rw [List.length_map, List.length_range, List.length_map]
theorem lawPairs_at (hn : ∀ h, (nx h).1 = h.2) (r : Ring nx c) {k : Nat} (hk : k < c.length) : (lawPairs (c.map Prod.fst))[k]? = c[prvI c.length k]? := by
  have hj := prvI_lt hk
  have e1 : c[prvI c.length k]? = some c[prvI c.length k] := List.getElem?_eq_getElem hj
  have e2 := r.2 _ _ e1
  rw [prvI_next hk] at e2
  unfold lawPairs
  rw [List.length_map, List.getElem?_map, List.getElem?_range hk, e1, Option.map_some, getD_fst e1, getD_fst e2, hn]
theorem rot (hn : ∀ h, (nx h).1 = h.2) (r : Ring nx c) : (lawPairs (c.map Prod.fst)).drop 1 ++ (lawPairs (c.map Prod.fst)).take 1 = c := by
  have h0 : 0 < c.length := List.length_pos_iff.mpr r.1
  have hl : (lawPairs (c.map Prod.fst)).length = c.length := lawPairs_len
  refine List.ext_getElem? fun i => ?_
  by_cases hi : i < c.length - 1
  · rw [List.getElem?_append_left (by rw [List.length_drop, hl]; exact hi), List.getElem?_drop, Nat.add_comm, lawPairs_at hn r (by omega)]
    congr 1
  · rw [List.getElem?_append_right (by rw [List.length_drop, hl]; omega), List.length_drop, hl]
    by_cases hi2 : i = c.length - 1
    · subst hi2
      rw [Nat.sub_self, List.getElem?_take_of_lt (by decide), lawPairs_at hn r h0]
      congr 1
    · have e1 : ((lawPairs (c.map Prod.fst)).take 1)[i - (c.length - 1)]? = none := List.getElem?_eq_none (by rw [List.length_take, hl]; omega)
      have e2 : c[i]? = none := List.getElem?_eq_none (by omega)
      rw [e1, e2]
theorem lawPairs_perm (hn : ∀ h, (nx h).1 = h.2) (r : Ring nx c) : (lawPairs (c.map Prod.fst)).Perm c := by
  have h := rot hn r
  have p : ((lawPairs (c.map Prod.fst)).drop 1 ++ (lawPairs (c.map Prod.fst)).take 1).Perm (lawPairs (c.map Prod.fst)) := by
    have := List.perm_append_comm (l₁ := (lawPairs (c.map Prod.fst)).drop 1) (l₂ := (lawPairs (c.map Prod.fst)).take 1)
    rwa [List.take_append_drop] at this
  rw [h] at p
  exact p.symm
end
theorem flat_sum (f : P2 → Int) : ∀ cs : List (List P2), (cs.map fun c => (c.map f).sum).sum = (cs.flatten.map f).sum
  | [] => rfl
  | c :: cs => by rw [List.map_cons, List.sum_cons, flat_sum f cs, List.flatten_cons, List.map_append, List.sum_append]
theorem XH_swp (pts : List P2) (h : P2) : XH pts (swp h) = - XH pts h := by
  unfold XH swp
  simp only
  rw [Int.mul_comm (ptAt pts h.2).1, Int.mul_comm (ptAt pts h.2).2]
  omega
theorem all_zero (pts : List P2) : ∀ eds : List P2, ((eds ++ eds.map swp).map (XH pts)).sum = 0 := fun eds => by
  rw [List.map_append, List.sum_append, List.map_map]
  induction eds with
  | nil => rfl
  | cons e eds ih =>
    rw [List.map_cons, List.map_cons, List.sum_cons, List.sum_cons, show (XH pts ∘ swp) e = - XH pts e from XH_swp pts e]
    omega
theorem halves_zero (pts eds : List P2) : ((halvesOf eds).map (XH pts)).sum = 0 := by
  have : ((halvesOf eds).map (XH pts)).Perm ((eds ++ eds.map swp).map (XH pts)) := (srtP_perm _).map _
  rw [sumI_perm this, all_zero]
def headOf (c : List P2) : P2 := c.head?.getD (0, 0)
def lastAt (C : List (List P2)) (i : Nat) : P2 := match i with
  | 0 => (-1, -1)
  | i + 1 => headOf (C.getD i [])
theorem heads_map : ∀ {C : List (List P2)}, (∀ c ∈ C, c ≠ []) → C.filterMap List.head? = C.map headOf
  | [], _ => rfl
  | c :: C, h => by
    have ih := heads_map (C := C) fun d hd => h d (List.mem_cons_of_mem _ hd)
    cases c with
    | nil => exact absurd rfl (h [] List.mem_cons_self)
    | cons x r => rw [List.filterMap_cons, List.map_cons, ih]; rfl
theorem last_lt {C : List (List P2)} (hne : ∀ c ∈ C, c ≠ []) (asc : (C.filterMap List.head?).Pairwise fun a b => ltP a b = true) (hpos : ∀ c ∈ C, 0 ≤ (headOf c).1) {i : Nat} {c : List P2} (hc : C[i]? = some c) : ltP (lastAt C i) (headOf c) = true := by
  cases i with
  | zero =>
    have := hpos c (List.mem_of_getElem? hc)
    exact ltP_iff.mpr (.inl (show (-1 : Int) < (headOf c).1 by omega))
  | succ i =>
    rw [heads_map hne] at asc
    have hi := (List.getElem?_eq_some_iff.mp hc).1
    have e1 : C[i]? = some C[i] := List.getElem?_eq_getElem (by omega)
    have e2 : C.getD i [] = C[i] := by
      rw [List.getD_eq_getElem?_getD, e1]
      rfl
    show ltP (headOf (C.getD i [])) (headOf c) = true
    rw [e2]
    exact Asc.get asc (Nat.lt_succ_self i) (by rw [List.getElem?_map, e1]; rfl) (by rw [List.getElem?_map, hc]; rfl)
theorem flat_take {C : List (List P2)} {i : Nat} {c : List P2} (h : C[i]? = some c) : (C.take (i + 1)).flatten = (C.take i).flatten ++ c := by
  rw [List.take_add_one, h, List.flatten_append]
  simp
end K29
/-! K29: dicts of one's own, from pairs; list.index. -/
namespace K29
open PySem PySem.Spec PyProof.Rows L2
theorem idxOf_first : ∀ {l : List Int} {m : Nat} {x : Int}, l[m]? = some x → l.idxOf x ≤ m
  | [], _, _, h => by simp at h
  | y :: l, 0, x, h => by
    simp at h
    subst h
    simp
  | y :: l, m + 1, x, h => by
    rw [List.idxOf_cons]
    have := idxOf_first (l := l) (m := m) (x := x) (by simpa using h)
    cases y == x with
    | true => exact Nat.zero_le _
    | false =>
      show l.idxOf x + 1 ≤ m + 1
      omega
theorem keyP_inj {p q : P2} (h : keyP p = keyP q) : p = q := by
  unfold keyP at h
  injection h with h1 h2
  injection h2 with h3 _
  exact ext2 (Sum.inl.inj h1) (Sum.inl.inj h3)
theorem dct_has {q : P2} : ∀ {kvs : List (List L2.Key × V)} {ks : List P2}, kvs.map (·.1) = ks.map keyP → (valV kvs (keyP q)).isSome = decide (q ∈ ks) := fun {kvs ks} h => by
  rw [← valV_any]
  induction kvs generalizing ks with
  | nil =>
    cases ks with
    | nil => rfl
    | cons k ks => cases h
  | cons kv kvs ih =>
    cases ks with
    | nil => cases h
    | cons k ks =>
      rw [List.map_cons, List.map_cons] at h
      injection h with h1 h2
      rw [List.any_cons, ih h2, h1]
      by_cases e : k = q
      · subst e
        simp
      · have e2 : ¬ keyP k = keyP q := fun z => e (keyP_inj z)
        have e3 : ¬ q = k := fun z => e z.symm
        rw [decide_eq_false e2, Bool.false_or]
        by_cases m : q ∈ ks
        · rw [decide_eq_true m, decide_eq_true (List.mem_cons_of_mem _ m)]
        · rw [decide_eq_false m, decide_eq_false fun z => (List.mem_cons.mp z).elim e3 m]
section
variable {K : PySem.W.Frag} {ds ds2 : DE} {os os2 : OE} {d : PyData} {te : TE} {tt : TT} {g : TG} {t u : TS} {N M : DE → OE → Prop} {R : PyData → OE → Prop} {pl : List Nat}
theorem bv_dnotin {i : Nat} {p : Addr} {ks : List P2} {q : P2} (m : (i, p, Own.dct ks) ∈ os) (he : EvV te ds os (eP q)) : BvV (tB (tDNotIn te (tVar i))) ds os (!decide (q ∈ ks)) := fun C0 H0 G H σ s e a Q k =>
  he C0 H0 G H σ s e a _ fun v G1 H1 g1 d1 => by
    have a1 := a.grow g1
    obtain ⟨h1, h2, ⟨kvs, h3, h4⟩, h5⟩ := a1.is i p _ m
    obtain ⟨_, t, rfl, ht⟩ := kP_is d1
    refine ⟨.ref p, h1, p, valV kvs (keyP q), rfl, .t h3 (g1.s _ _ ht), ?_⟩
    rw [dct_has h4]
    exact ⟨_, rfl, k G1 H1 g1⟩
theorem so_dput {i : Nat} {p : Addr} {ks : List P2} {q : P2} (m : (i, p, Own.dct ks) ∈ os) (he : EvV te ds os (eP q)) (hq : q ∉ ks) (hl : ks.length ≤ 100000) (h : N ds (setO os i (.dct (ks ++ [q])))) :
    StO (sDPut (tVar i) te (tC (.bl true))) ds os N R := fun C0 G0 H0 D G H σ b e a qn qr => by
  obtain ⟨h1, _⟩ := a.is i p _ m
  refine ⟨.ref p, h1, he C0 H0 G H σ b.s e a _ fun v G1 H1 g1 d1 => ?_⟩
  have a1 := a.grow g1
  obtain ⟨h1, h2, ⟨kvs, h3, h4⟩, h5⟩ := a1.is i p _ m
  obtain ⟨_, t, rfl, ht⟩ := kP_is d1
  have hn : valV kvs (keyP q) = none := by
    have := dct_has (q := q) h4
    rw [decide_eq_false hq] at this
    cases e : valV kvs (keyP q) with
    | none => rfl
    | some w =>
      rw [e] at this
      cases this
  have hlen : kvs.length = ks.length := by
    have := congrArg List.length h4
    rwa [List.length_map, List.length_map] at this
  refine ⟨p, _, rfl, .t (k := keyP q) h3 (g1.s _ _ ht) (by rw [hlen]; exact Nat.lt_of_le_of_lt hl (by decide)), ?_⟩
  rw [putK_new _ hn]
  exact qn ds _ σ G1 _ h g1.g ((b.then g1).put h2 (h5.imp And.right id)) (e.same g1.g) (a1.put m ⟨_, upd_same, by rw [List.map_append, List.map_append, h4]; rfl⟩)
/-- l.index(x), ints -/
theorem ev_index {ta tx : TE} {l : List Int} {x : Int} (ha : EvD ta ds (.list (l.map eI))) (hx : EvD tx ds (.int x)) (hm : x ∈ l) : EvD (tBM K "list" (rIndex K) ta (tCons tx tNil)) ds (.int (l.idxOf x : Nat)) := fun G H σ s e Q q =>
  ha G H σ s e _ fun v G1 H1 g1 d1 => by
    obtain ⟨a, vs, rfl, h1, h2⟩ := d1.lstE
    refine ⟨.inl ⟨rfl, vs, .of (g1.s _ _ h1)⟩, hx G1 H1 σ g1.s (e.same g1.g) _ fun w G2 H2 g2 d2 => ?_⟩
    obtain rfl := d2.intE
    obtain rfl := h2.ints
    have hi := List.idxOf_lt_length_of_mem hm
    refine ⟨a, l.map V.int, .int x, l.idxOf x, .int x, rfl, rfl, .of ((g1.trans g2).s _ _ (g2.g _ _ h1)), rfl, ?_, ?_, ?_, ?_, q _ G2 H2 (g1.trans g2) (.int _)⟩
    · rw [List.all_map]
      exact List.all_eq_true.mpr fun _ _ => rfl
    · rw [List.getElem?_map, List.getElem?_eq_getElem hi, List.getElem_idxOf hi]
      rfl
    · simp [eqV]
    · intro m z hm2 hz
      rw [List.getElem?_map, Option.map_eq_some_iff] at hz
      obtain ⟨y, hy, rfl⟩ := hz
      have hne : y ≠ x := fun z => by
        subst z
        have := idxOf_first hy
        omega
      simp [eqV, hne]
end
end K29
namespace K29
open PySem PySem.Spec PyProof.Rows L2

local macro_rules | `(tactic| walk_at "kev") => `(tactic| first
  | exact ev_cint
  | exact ev_cbl
  | exact ev_cnon
  | exact ev_var rfl
  | apply ev_fst
  | apply ev_snd
  | apply ev_op (hr := ro_sub)
  | apply ev_op (hr := ro_add)
  | apply ev_op (hr := ro_lt)
  | apply ev_op (hr := ro_gt)
  | apply ev_op (hr := ro_le)
  | apply ev_op (hr := ro_ge)
  | apply ev_op (hr := ro_eq)
  | apply ev_op (hr := ro_ne)
  | apply ev_neg
  | apply ev_chain (h1 := ro_le) (h2 := ro_le)
  | (refine ev_and ?_ (fun _ => ?_))
  | (refine ev_or ?_ (fun _ => ?_))
  | apply ev_not
  | apply ev_pair
  | apply ev_call
  | exact ea_nil
  | apply ea_cons
  | apply ev_cb (hr := rc_min2)
  | apply ev_cb (hr := rc_max2)
  | apply ev_cb (hr := rc_lenL)
  | apply ev_cb (hr := rc_lenT)
  | apply ev_cb (hr := rc_intB)
  | apply ev_cb (hr := rc_intI)
  | apply eb_test
  | apply eb_B
  | apply eb_not
  | (apply ev_op (hr := ro_mul ?_)))

section
variable {P : Program} {w : World} {K : PySem.W.Frag} {mg : Str → Option Value} {base : Heap}

abbrev s_next_in : Stmt := topS 22
theorem sc_next_in : FnScope ["orders", "half", "order"] ["orders", "half"] (defScope s_next_in) := ⟨rfl, rfl, rfl, by decide +kernel, rfl, by decide +kernel, by decide +kernel⟩
def spNext (dl : List PyData) (d : PyData) : Prop := ∃ (os : List (List Int)) (h : P2), dl = [.list (os.map eO), eP h] ∧ 0 ≤ h.2 ∧ os[h.2.toNat]? = some (ordAt os h.2) ∧ h.1 ∈ ordAt os h.2 ∧ d = eP (nxt os h)
theorem ix_back {xs : List PyData} {k : Nat} (h : k < xs.length) : atG xs ((k : Int) - 1) = xs[prvI xs.length k]? := by
  unfold atG ixN prvI
  by_cases e : k = 0
  · subst e
    rw [if_neg (by omega), if_pos (by omega), if_pos rfl]
    show xs[(((0 : Nat) : Int) - 1 + (xs.length : Int)).toNat]? = _
    congr 1
    omega
  · rw [if_pos (by omega), if_pos (by omega), if_neg e]
    show xs[((k : Int) - 1).toNat]? = _
    congr 1
    omega
theorem atG_prv {l : List Int} {x : Int} (h : x ∈ l) : atG (l.map eI) ((l.idxOf x : Nat) - 1 : Int) = some (eI (prv l x)) := by
  rw [ix_back (by rw [List.length_map]; exact List.idxOf_lt_length_of_mem h), List.length_map, List.getElem?_map, prv_get h]
  rfl
theorem cal_next_in (D : DefAt K mg "next_in" s_next_in ["orders", "half"]) (B : Blt mg) : Cal P w K mg base 1 "next_in" (SpD spNext) := by
  refine cal_at D sc_next_in (fun dl d ⟨a, b, h, _⟩ => by rw [h]; rfl) fun f cdv A outer s H E hr => ⟨_, (pss_cons (ps_set (i := 2) sc_next_in.nd rfl (by first | exact Or.inl rfl | exact Or.inr rfl) (pe_ix (kix_list (K := K)) (pv 0) (pe_ix (kix_tup (K := K)) (pv 1) pe_int (fun _ _ => rfl)) (fun _ _ => rfl)))
      (pss_one (ps_ret (pe_tup (pa_cons (pe_ix (kix_tup (K := K)) (pv 1) pe_int (fun _ _ => rfl)) (pa_cons (pe_ix (kix_list (K := K)) (pv 2) (pe_op op_sub (kpe_bm (K := K) PySem.F.plainAttrs_list PySem.F.slot_list_index PySem.F.type_list_index (kmt_index (K := K)) (pv 2) (pa_cons (pe_ix (kix_tup (K := K)) (pv 1) pe_int (fun _ _ => rfl)) pa_nil)) pe_int) (fun _ _ => rfl)) pa_nil)))))), ?_⟩
  rintro dl d ⟨os, h, rfl, h0, h1, h2, rfl⟩
  have at1 : atG (os.map eO) h.2 = some (eO (ordAt os h.2)) := by
    have := atG_map (e := eO) h1
    rwa [Int.toNat_of_nonneg h0] at this
  exact st_then (st_asg (ev_op (ev_var rfl) (ev_snd (ev_var rfl)) (ro_ixL at1)) rfl) (st_ret (ev_pair (ev_snd (ev_var rfl)) (ev_op (ev_var rfl) (ev_op (ev_index (ev_var rfl) (ev_fst (ev_var rfl)) h2) ev_cint ro_sub) (ro_ixL (atG_prv h2)))) rfl)

abbrev s_is_half : Stmt := topS 23
theorem sc_is_half : FnScope ["plane", "half", "part"] ["plane", "half"] (defScope s_is_half) := ⟨rfl, rfl, rfl, by decide +kernel, rfl, by decide +kernel, by decide +kernel⟩
def spIsHalf (dl : List PyData) (d : PyData) : Prop := ∃ (pts eds : List P2) (h : P2), dl = [ePl pts eds, eP h] ∧ GoodPl pts eds ∧ h ∈ halvesOf eds ∧ d = .bool true
def spChHalf (dl : List PyData) (d : PyData) : Prop := ∃ (pts eds : List P2) (h : P2), dl = [ePl pts eds, eP h] ∧ GoodPl pts eds ∧ h ∈ halvesOf eds ∧ d = .none
theorem half_mn {pts eds : List P2} (g : GoodPl pts eds) {h : P2} (m : h ∈ halvesOf eds) : (mn h.1 h.2, mx h.1 h.2) ∈ eds := by
  rcases mem_halves.mp m with k | k
  · have := (g.edge _ k).2.1
    have e : (mn h.1 h.2, mx h.1 h.2) = h := ext2 (by unfold mn; split <;> omega) (by unfold mx; split <;> omega)
    rw [e]
    exact k
  · have := (g.edge _ k).2.1
    simp only [swp] at this
    have e : (mn h.1 h.2, mx h.1 h.2) = swp h := ext2 (by simp only [swp]; unfold mn; split <;> omega) (by simp only [swp]; unfold mx; split <;> omega)
    rw [e]
    exact k
theorem cal_is_half (D : DefAt K mg "is_half" s_is_half ["plane", "half"]) (B : Blt mg) (c_is_whole : Cal P w K mg base 1 "is_whole" (SpD spWhole)) : Cal P w K mg base 2 "is_half" (SpD spIsHalf) := by
  refine cal_at D sc_is_half (fun dl d ⟨a, b, c, h, _⟩ => by rw [h]; rfl) fun f cdv A outer s H E hr => ⟨_, (pss_cons (ps_if (PW.pt (pw_or (pt_not (pt_val (pe_callB (kcall_isi (K := K)) (by rfl) B.isinstance_ (by decide +kernel) (pa_cons (pv 1) (pa_cons (pe_bltn (v := .ty "tuple") (by rfl) B.tuple_ (by decide +kernel) rfl) pa_nil))))) (pw_or1 (pt_cmpR op_ne (pe_callB (kcall_len (K := K)) (by rfl) B.len_ (by decide +kernel) (pa_cons (pv 1) pa_nil)) pe_int (nomark _))))) (pss_one (ps_ret pe_bl)) pss_nil)
      (pss_cons (ps_if (pt_not (pt_val (pe_callB (kcr_all (K := K) rfl) (by rfl) B.all_ (by decide +kernel) (pa_cons (pe_lc (own := [("part", 2)]) (g := (gName 2)) (tt := tYes) rfl sc_is_half.nd (kpi_tup (K := K) (pv 1)) (blkOk_by (own := [("part", 2)]) (N := ["plane", "half", "part"]) (sc := defScope s_is_half) (by decide +kernel)) (fun _ _ _ _ _ => (pg_name (i := 2) sc_is_half.nd rfl (by first | exact Or.inl rfl | exact Or.inr rfl))) (fun _ _ _ _ _ => pts_nil) (fun _ _ _ _ _ => (C8.pe_c c_is_whole hr (by decide) (by rfl) (pa_cons (pv 2) (pa_cons pe_int (pa_cons (pe_op op_sub (pe_callB (kcall_len (K := K)) (by rfl) B.len_ (by decide +kernel) (pa_cons (pe_ix (kix_tup (K := K)) (pv 0) pe_int (fun _ _ => rfl)) pa_nil)) pe_int) pa_nil)))))) pa_nil)))) (pss_one (ps_ret pe_bl)) pss_nil)
      (pss_one (ps_ret (pe_cmpR (kop_inT (K := K) (u65 hr)) (pe_tup (pa_cons (pe_callB (call_minT rfl) (by rfl) B.min_ (by decide +kernel) (pa_cons (pv 1) pa_nil)) (pa_cons (pe_callB (call_maxT rfl) (by rfl) B.max_ (by decide +kernel) (pa_cons (pv 1) pa_nil)) pa_nil))) (pe_ix (kix_tup (K := K)) (pv 0) pe_int (fun _ _ => rfl)) (by with_unfolding_all rfl)))))), ?_⟩
  rintro dl d ⟨pts, eds, h, rfl, g, m, rfl⟩
  obtain ⟨a1, a2, a3, a4, _⟩ := half_in g m
  refine st_then (st_ifF (eb_is (eb_or (eb_not (eb_B (ev_isi (ev_var rfl) (.tup _) (b := true) (by decide +kernel)))) fun _ => eb_test (ev_op (ev_cb (ea_cons (ev_var rfl) ea_nil) rc_lenT) ev_cint ro_ne)) rfl) (st_next rfl)) ?_
  refine st_then (st_ifF (eb_is (eb_not (eb_B (ev_allM (l := [h.1, h.2]) (f := fun _ => true) (ev_lcA [h.1, h.2] eI _ (it_tup (ev_var rfl)) (by simp) fun x hx => ⟨[2], _, tg_name, by simp, ev_call (ea_cons (ev_var rfl) (ea_cons ev_cint (ea_cons (ev_op (ev_cb (ea_cons (ev_fst (ev_var rfl)) ea_nil) rc_lenT) ev_cint ro_sub) ea_nil))) ⟨x, 0, _, rfl, ?_, ?_, rfl⟩⟩)))) rfl) (st_next rfl)) ?_
  · rcases List.mem_cons.mp hx with e | e
    · rw [e]; omega
    · rw [List.mem_singleton.mp e]; omega
  · rw [List.length_map]
    rcases List.mem_cons.mp hx with e | e
    · rw [e]; omega
    · rw [List.mem_singleton.mp e]; omega
  · refine st_ret (ev_is (ev_op (ev_pair (ev_cb (ea_cons (ev_var rfl) ea_nil) rc_minT) (ev_cb (ea_cons (ev_var rfl) ea_nil) rc_maxT)) (ev_snd (ev_var rfl)) (ro_inPT (p := (mn h.1 h.2, mx h.1 h.2)) (l := eds))) ?_) rfl
    rw [decide_eq_true (half_mn g m)]

abbrev s_check_half : Stmt := topS 24
theorem sc_check_half : FnScope ["plane", "half"] ["plane", "half"] (defScope s_check_half) := ⟨rfl, rfl, rfl, by decide +kernel, rfl, by decide +kernel, by decide +kernel⟩
theorem cal_check_half (D : DefAt K mg "check_half" s_check_half ["plane", "half"]) (B : Blt mg) (c_is_half : Cal P w K mg base 2 "is_half" (SpD spIsHalf)) : Cal P w K mg base 3 "check_half" (SpD spChHalf) := by
  refine cal_at D sc_check_half (fun dl d ⟨a, b, c, h, _⟩ => by rw [h]; rfl) fun f cdv A outer s H E hr => ⟨_, (pss_one (ps_if (pt_not (pt_val (C8.pe_c c_is_half hr (by decide) (by rfl) (pa_cons (pv 0) (pa_cons (pv 1) pa_nil))))) (pss_one ps_never) pss_nil)), ?_⟩
  rintro dl d ⟨pts, eds, h, rfl, g, m, rfl⟩
  exact st_ifF (eb_is (eb_not (eb_B (ev_call (ea_cons (ev_var rfl) (ea_cons (ev_var rfl) ea_nil)) ⟨pts, eds, h, rfl, g, m, rfl⟩))) rfl) (st_next rfl)

abbrev s_next_half : Stmt := topS 25
theorem sc_next_half : FnScope ["plane", "half"] ["plane", "half"] (defScope s_next_half) := ⟨rfl, rfl, rfl, by decide +kernel, rfl, by decide +kernel, by decide +kernel⟩
def spNextHalf (dl : List PyData) (d : PyData) : Prop := ∃ (pts eds : List P2) (h : P2), dl = [ePl pts eds, eP h] ∧ GoodPl pts eds ∧ h ∈ halvesOf eds ∧ d = eP (nxt (ordersOf pts eds) h)
theorem cal_next_half (D : DefAt K mg "next_half" s_next_half ["plane", "half"]) (B : Blt mg) (c_check_plane : Cal P w K mg base 6 "check_plane" (SpD spCheck)) (c_check_half : Cal P w K mg base 3 "check_half" (SpD spChHalf))
    (c_next_in : Cal P w K mg base 1 "next_in" (SpD spNext)) (c_around : Cal P w K mg base 3 "around" (SpD spAround)) : Cal P w K mg base 7 "next_half" (SpD spNextHalf) := by
  refine cal_at D sc_next_half (fun dl d ⟨a, b, c, h, _⟩ => by rw [h]; rfl) fun f cdv A outer s H E hr => ⟨_, (pss_cons (ps_expr (C8.pe_c c_check_plane hr (by decide) (by rfl) (pa_cons (pv 0) pa_nil)))
      (pss_cons (ps_expr (C8.pe_c c_check_half hr (by decide) (by rfl) (pa_cons (pv 0) (pa_cons (pv 1) pa_nil))))
      (pss_one (ps_ret (C8.pe_c c_next_in hr (by decide) (by rfl) (pa_cons (C8.pe_c c_around hr (by decide) (by rfl) (pa_cons (pv 0) pa_nil)) (pa_cons (pv 1) pa_nil))))))), ?_⟩
  rintro dl d ⟨pts, eds, h, rfl, g, m, rfl⟩
  obtain ⟨a1, a2, a3, a4, _⟩ := half_in g m
  refine st_then (st_drop (ev_call (ea_cons (ev_var rfl) ea_nil) ⟨pts, eds, rfl, g, rfl⟩) rfl) ?_
  refine st_then (st_drop (ev_call (ea_cons (ev_var rfl) (ea_cons (ev_var rfl) ea_nil)) ⟨pts, eds, h, rfl, g, m, rfl⟩) rfl) ?_
  exact st_ret (ev_call (ea_cons (ev_call (ea_cons (ev_var rfl) ea_nil) ⟨pts, eds, rfl, g, rfl⟩) (ea_cons (ev_var rfl) ea_nil)) ⟨ordersOf pts eds, h, rfl, a3, (orders_at g a3 a4).1, half_ord g m, rfl⟩) rfl
end
end K29
namespace K29
open PySem PySem.Spec PyProof.Rows L2

local macro_rules | `(tactic| walk_at "kev") => `(tactic| first
  | exact ev_cint
  | exact ev_cbl
  | exact ev_cnon
  | exact ev_var rfl
  | apply ev_fst
  | apply ev_snd
  | apply ev_op (hr := ro_sub)
  | apply ev_op (hr := ro_add)
  | apply ev_op (hr := ro_lt)
  | apply ev_op (hr := ro_gt)
  | apply ev_op (hr := ro_le)
  | apply ev_op (hr := ro_ge)
  | apply ev_op (hr := ro_eq)
  | apply ev_op (hr := ro_ne)
  | apply ev_neg
  | apply ev_chain (h1 := ro_le) (h2 := ro_le)
  | (refine ev_and ?_ (fun _ => ?_))
  | (refine ev_or ?_ (fun _ => ?_))
  | apply ev_not
  | apply ev_pair
  | apply ev_call
  | exact ea_nil
  | apply ea_cons
  | apply ev_cb (hr := rc_min2)
  | apply ev_cb (hr := rc_max2)
  | apply ev_cb (hr := rc_lenL)
  | apply ev_cb (hr := rc_lenT)
  | apply ev_cb (hr := rc_intB)
  | apply ev_cb (hr := rc_intI)
  | apply eb_test
  | apply eb_B
  | apply eb_not
  | (apply ev_op (hr := ro_mul ?_)))

section
variable {P : Program} {w : World} {K : PySem.W.Frag} {mg : Str → Option Value} {base : Heap}

abbrev s_cycles_of : Stmt := topS 26
theorem sc_cycles_of : FnScope ["plane", "orders", "halves", "seen", "found", "half", "cycle", "here", "i", "j"] ["plane"] (defScope s_cycles_of) := ⟨rfl, rfl, rfl, by decide +kernel, rfl, by decide +kernel, by decide +kernel⟩
abbrev eC (c : List P2) : PyData := .tuple ((c.map Prod.fst).map eI)
def cyclesOf (pts eds : List P2) : List (List P2) := cycs (nxt (ordersOf pts eds)) ((halvesOf eds).length + 1) (halvesOf eds) []
def spCycles (dl : List PyData) (d : PyData) : Prop := ∃ pts eds : List P2, dl = [ePl pts eds] ∧ GoodPl pts eds ∧ d = .list ((cyclesOf pts eds).map eC)
theorem dec_in {p : Prop} [Decidable p] (h : (!decide p) = false) : p := by simpa using h
theorem so_call {te : TE} {ds : DE} {os : OE} {d : PyData} (h : EvD te ds d) : EvV te ds os d := vv h
theorem cal_cycles_of (D : DefAt K mg "cycles_of" s_cycles_of ["plane"]) (B : Blt mg) (c_next_in : Cal P w K mg base 1 "next_in" (SpD spNext)) (c_around : Cal P w K mg base 3 "around" (SpD spAround)) : Cal P w K mg base 4 "cycles_of" (SpD spCycles) := by
  refine cal_at D sc_cycles_of (fun dl d ⟨a, b, h, _⟩ => by rw [h]; rfl) fun f cdv A outer s H E hr => ⟨_, (pss_cons (ps_set (i := 1) sc_cycles_of.nd rfl (by first | exact Or.inl rfl | exact Or.inr rfl) (C8.pe_c c_around hr (by decide) (by rfl) (pa_cons (pv 0) pa_nil)))
      (pss_cons (ps_set (i := 2) sc_cycles_of.nd rfl (by first | exact Or.inl rfl | exact Or.inr rfl) (pe_callB (kcall_sortP (K := K)) (by rfl) B.sorted_ (by decide +kernel) (pa_cons (pe_op op_cat (pe_lc (own := [("i", 8), ("j", 9)]) (g := (gTup K 2 (gCons (gName 8) (gCons (gName 9) gNil)))) (tt := tYes) rfl sc_cycles_of.nd (kpi_tup (K := K) (pe_ix (kix_tup (K := K)) (pv 0) pe_int (fun _ _ => rfl))) (blkOk_by (own := [("i", 8), ("j", 9)]) (N := ["plane", "orders", "halves", "seen", "found", "half", "cycle", "here", "i", "j"]) (sc := defScope s_cycles_of) (by decide +kernel)) (fun _ _ _ _ _ => (pg_tup rfl (pgs_cons (pg_name (i := 8) sc_cycles_of.nd rfl (by first | exact Or.inl rfl | exact Or.inr rfl)) (pgs_cons (pg_name (i := 9) sc_cycles_of.nd rfl (by first | exact Or.inl rfl | exact Or.inr rfl)) pgs_nil)))) (fun _ _ _ _ _ => pts_nil) (fun _ _ _ _ _ => (pe_tup (pa_cons (pv 8) (pa_cons (pv 9) pa_nil))))) (pe_lc (own := [("i", 8), ("j", 9)]) (g := (gTup K 2 (gCons (gName 8) (gCons (gName 9) gNil)))) (tt := tYes) rfl sc_cycles_of.nd (kpi_tup (K := K) (pe_ix (kix_tup (K := K)) (pv 0) pe_int (fun _ _ => rfl))) (blkOk_by (own := [("i", 8), ("j", 9)]) (N := ["plane", "orders", "halves", "seen", "found", "half", "cycle", "here", "i", "j"]) (sc := defScope s_cycles_of) (by decide +kernel)) (fun _ _ _ _ _ => (pg_tup rfl (pgs_cons (pg_name (i := 8) sc_cycles_of.nd rfl (by first | exact Or.inl rfl | exact Or.inr rfl)) (pgs_cons (pg_name (i := 9) sc_cycles_of.nd rfl (by first | exact Or.inl rfl | exact Or.inr rfl)) pgs_nil)))) (fun _ _ _ _ _ => pts_nil) (fun _ _ _ _ _ => (pe_tup (pa_cons (pv 9) (pa_cons (pv 8) pa_nil)))))) pa_nil)))
      (pss_cons (ps_set (i := 3) sc_cycles_of.nd rfl (by first | exact Or.inl rfl | exact Or.inr rfl) pe_dnewT)
      (pss_cons (ps_set (i := 4) sc_cycles_of.nd rfl (by first | exact Or.inl rfl | exact Or.inr rfl) (pe_lst pa_nil))
      (pss_cons (ps_for PassesOwn.never rfl (kpi_list (K := K) (pv 2)) (pg_name (i := 5) sc_cycles_of.nd rfl (by first | exact Or.inl rfl | exact Or.inr rfl)) (pss_one (ps_if (pt_cmp (pc_dnotin (hu_of hr) (pv 5) (pv 3))) (pss_cons (ps_set (i := 6) sc_cycles_of.nd rfl (by first | exact Or.inl rfl | exact Or.inr rfl) (pe_lst pa_nil))
      (pss_cons (ps_set (i := 7) sc_cycles_of.nd rfl (by first | exact Or.inl rfl | exact Or.inr rfl) (pv 5))
      (pss_cons (ps_while PassesOwn.never (pt_cmp (pc_dnotin (hu_of hr) (pv 7) (pv 3))) (pss_cons (ps_dput (hu_of hr) (pv 3) (pv 7) pe_bl rfl)
      (pss_cons (ps_expr (kpe_bm (K := K) PySem.F.plainAttrs_list PySem.F.slot_list_append PySem.F.type_list_append mt_append (pv 6) (pa_cons (pe_ix (kix_tup (K := K)) (pv 7) pe_int (fun _ _ => rfl)) pa_nil)))
      (pss_one (ps_set (i := 7) sc_cycles_of.nd rfl (by first | exact Or.inl rfl | exact Or.inr rfl) (C8.pe_c c_next_in hr (by decide) (by rfl) (pa_cons (pv 1) (pa_cons (pv 7) pa_nil))))))))
      (pss_one (ps_expr (kpe_bm (K := K) PySem.F.plainAttrs_list PySem.F.slot_list_append PySem.F.type_list_append mt_append (pv 4) (pa_cons (pe_callTy (kcall_tup (K := K)) (by rfl) B.tuple_ (by decide +kernel) (pa_cons (pv 6) pa_nil)) pa_nil))))))) pss_nil)))
      (pss_one (ps_ret (pv 4)))))))), ?_⟩
  rintro dl d ⟨pts, eds, rfl, g, rfl⟩
  have elen := g.elen
  have hlen : (halvesOf eds).length ≤ 62 := by
    rw [halves_len]
    omega
  refine st_then (st_asg (ev_call (ea_cons (ev_var rfl) ea_nil) ⟨pts, eds, rfl, g, rfl⟩) rfl) ?_
  refine st_then (ds2 := [some (ePl pts eds), some (.list ((ordersOf pts eds).map eO)), some (.list ((halvesOf eds).map eP)), none, none, none, none, none, none, none]) (st_asg (ev_cb (ea_cons (ev_op
    (ev_lcA eds eP eP (it_tup (ev_snd (ev_var rfl))) (by omega) fun e he => ⟨[8, 9], _, tg_pair tg_name tg_name, by simp, ev_pair (ev_var rfl) (ev_var rfl)⟩)
    (ev_lcA eds eP (fun e => eP (swp e)) (it_tup (ev_snd (ev_var rfl))) (by omega) fun e he => ⟨[8, 9], _, tg_pair tg_name tg_name, by simp, ev_pair (ev_var rfl) (ev_var rfl)⟩)
    (ro_is (ro_cat (by rw [List.length_map, List.length_map]; omega)) (d' := .list ((eds ++ eds.map swp).map eP)) (by rw [List.map_append, List.map_map]; rfl))) ea_nil) rc_sortP) rfl) ?_
  have Hin := fun h m => @half_in pts eds g h m
  have Hord := fun h m => @half_ord pts eds g h m
  have Hat : ∀ h ∈ halvesOf eds, (ordersOf pts eds)[h.2.toNat]? = some (ordAt (ordersOf pts eds) h.2) := fun h m => (orders_at g (Hin h m).2.2.1 (Hin h m).2.2.2.1).1
  have Hnx := nxt_mem g
  have Hcy : cycs (nxt (ordersOf pts eds)) ((halvesOf eds).length + 1) (halvesOf eds) [] = cyclesOf pts eds := rfl
  generalize cyclesOf pts eds = C at Hcy ⊢
  generalize halvesOf eds = Hs at *
  generalize ordersOf pts eds = os at *
  refine so_all (NN := fun _ => _) (R := fun r _ => r = .list (C.map eC)) ?_
  refine so_seq (M := fun ds' os' => ∃ p3, ds' = [some (ePl pts eds), some (.list (os.map eO)), some (.list (Hs.map eP)), none, none, none, none, none, none, none] ∧ os' = [(3, p3, .dct [])]) (so_newD (by simp) (by simp) fun p => ⟨p, rfl, rfl⟩) ?_
  rintro ds0 os0 ⟨p3, rfl, rfl⟩
  refine so_seq (M := fun ds' os' => ∃ p4, ds' = [some (ePl pts eds), some (.list (os.map eO)), some (.list (Hs.map eP)), none, none, none, none, none, none, none] ∧ os' = [(4, p4, .lst []), (3, p3, .dct [])]) (so_newL (by simp) (by simp) fun p => ⟨p, rfl, rfl⟩) ?_
  rintro ds0 os0 ⟨p4, rfl, rfl⟩
  let J : Nat → DE → OE → Prop := fun i ds' os' => ∃ x5 x6 x7 ks fs, ds' = [some (ePl pts eds), some (.list (os.map eO)), some (.list (Hs.map eP)), none, none, x5, x6, x7, none, none] ∧ os' = [(4, p4, .lst (fs.map eC)), (3, p3, .dct ks)] ∧
    ks.Nodup ∧ (∀ x ∈ ks, x ∈ Hs) ∧ fs.length ≤ i ∧ fs ++ cycs (nxt os) (Hs.length + 1) (Hs.drop i) ks = C
  refine so_seq (M := J Hs.length) (so_for (l := Hs.map eP) (it_list (ev_var rfl)) J ⟨none, none, none, [], [], rfl, rfl, List.nodup_nil, (fun _ z => nomatch z), Nat.le_refl _, Hcy⟩ ?_ fun ds' os' h => by rwa [List.length_map] at h) ?_
  · rintro i d ds' os' hd ⟨x5, x6, x7, ks, fs, rfl, rfl, nd, sub, fl, hc⟩
    rw [List.getElem?_map, Option.map_eq_some_iff] at hd
    obtain ⟨h, hh, rfl⟩ := hd
    have hm := List.mem_of_getElem? hh
    obtain ⟨hi, hhi⟩ := List.getElem?_eq_some_iff.mp hh
    have hdrop : Hs.drop i = h :: Hs.drop (i + 1) := by rw [List.drop_eq_getElem_cons hi, hhi]
    have ksl : ks.length ≤ Hs.length := List.Nodup.length_le_of_subset nd sub
    refine ⟨_, _, tg_name, by simp, so_if (bv_dnotin (i := 3) (p := p3) (ks := ks) (by simp) (vv (ev_var rfl))) (fun ht => ?_) fun hf => ?_⟩
    · have hn : h ∉ ks := by simpa using ht
      rw [hdrop] at hc
      unfold cycs at hc
      rw [if_neg hn] at hc
      refine so_seq (M := fun ds' os' => ∃ p6, ds' = [some (ePl pts eds), some (.list (os.map eO)), some (.list (Hs.map eP)), none, none, some (eP h), none, x7, none, none] ∧ os' = [(6, p6, .lst []), (4, p4, .lst (fs.map eC)), (3, p3, .dct ks)]) (so_newL (by simp) (by simp) fun p => ⟨p, rfl, rfl⟩) ?_
      rintro ds0 os0 ⟨p6, rfl, rfl⟩
      refine so_then (ds2 := [some (ePl pts eds), some (.list (os.map eO)), some (.list (Hs.map eP)), none, none, some (eP h), none, some (eP h), none, none]) (os2 := [(6, p6, .lst []), (4, p4, .lst (fs.map eC)), (3, p3, .dct ks)]) (so_asg (vv (ev_var rfl)) (by simp) ⟨rfl, rfl⟩) ?_
      let cy := goOn (nxt os) (Hs.length + 1) ks h
      let W : Nat → DE → OE → Prop := fun n ds' os' => ∃ (here : P2) (cyc : List P2), Hs.length < n + (ks ++ cyc).length ∧ (ks ++ cyc).Nodup ∧ (∀ x ∈ ks ++ cyc, x ∈ Hs) ∧ here ∈ Hs ∧ cyc ++ goOn (nxt os) n (ks ++ cyc) here = cy ∧
        ds' = [some (ePl pts eds), some (.list (os.map eO)), some (.list (Hs.map eP)), none, none, some (eP h), none, some (eP here), none, none] ∧ os' = [(6, p6, .lst (cyc.map fun x => .int x.1)), (4, p4, .lst (fs.map eC)), (3, p3, .dct (ks ++ cyc))]
      refine so_seq (M := fun ds' os' => ∃ here, (ks ++ cy).Nodup ∧ (∀ x ∈ ks ++ cy, x ∈ Hs) ∧ ds' = [some (ePl pts eds), some (.list (os.map eO)), some (.list (Hs.map eP)), none, none, some (eP h), none, some (eP here), none, none] ∧ os' = [(6, p6, .lst (cy.map fun x => .int x.1)), (4, p4, .lst (fs.map eC)), (3, p3, .dct (ks ++ cy))])
        (so_while W (m0 := Hs.length + 1) ⟨h, [], by omega, by rwa [List.append_nil], by rwa [List.append_nil], hm, by rw [List.append_nil]; rfl, rfl, by rw [List.append_nil]; rfl⟩ ?_) ?_
      · rintro n ds' os' ⟨here, cyc, hF, nd2, sub2, hhere, hgo, rfl, rfl⟩
        have kl : (ks ++ cyc).length ≤ Hs.length := List.Nodup.length_le_of_subset nd2 sub2
        refine ⟨_, bv_dnotin (i := 3) (p := p3) (ks := ks ++ cyc) (by simp) (vv (ev_var rfl)), fun ht => ?_, fun hf => ?_⟩
        · have hn2 : here ∉ ks ++ cyc := by simpa using ht
          have nd3 : (ks ++ (cyc ++ [here])).Nodup := by
            rw [← List.append_assoc, List.nodup_append]
            exact ⟨nd2, by simp, fun a ha b hb z => hn2 (by rw [← List.mem_singleton.mp hb, ← z]; exact ha)⟩
          have sub3 : ∀ x ∈ ks ++ (cyc ++ [here]), x ∈ Hs := fun x hx => by
            rw [← List.append_assoc] at hx
            rcases List.mem_append.mp hx with hx | hx
            · exact sub2 x hx
            · rw [List.mem_singleton.mp hx]
              exact hhere
          have kl3 : (ks ++ (cyc ++ [here])).length ≤ Hs.length := List.Nodup.length_le_of_subset nd3 sub3
          have kl4 : (ks ++ (cyc ++ [here])).length = (ks ++ cyc).length + 1 := by simp [Nat.add_assoc]
          obtain ⟨n', rfl⟩ : ∃ n', n = n' + 1 := ⟨n - 1, by omega⟩
          have hgo2 : cyc ++ (here :: goOn (nxt os) n' (ks ++ (cyc ++ [here])) (nxt os here)) = cy := by
            rw [← List.append_assoc, ← hgo]
            conv => rhs; unfold goOn
            rw [if_neg hn2]
          refine so_then (ds2 := [some (ePl pts eds), some (.list (os.map eO)), some (.list (Hs.map eP)), none, none, some (eP h), none, some (eP here), none, none]) (os2 := [(6, p6, .lst (cyc.map fun x => .int x.1)), (4, p4, .lst (fs.map eC)), (3, p3, .dct ((ks ++ cyc) ++ [here]))])
            (so_dput (i := 3) (p := p3) (ks := ks ++ cyc) (q := here) (by simp) (vv (ev_var rfl)) hn2 (by omega) ⟨rfl, rfl⟩) ?_
          refine so_then (ds2 := [some (ePl pts eds), some (.list (os.map eO)), some (.list (Hs.map eP)), none, none, some (eP h), none, some (eP here), none, none]) (os2 := [(6, p6, .lst ((cyc.map fun x => PyData.int x.1) ++ [.int here.1])), (4, p4, .lst (fs.map eC)), (3, p3, .dct ((ks ++ cyc) ++ [here]))])
            (so_app (i := 6) (p := p6) (l := cyc.map fun x => .int x.1) (by simp) (vv (ev_fst (ev_var rfl))) (by rw [List.length_map]; rw [List.length_append] at kl; omega) ⟨rfl, rfl⟩) ?_
          refine so_asg (vv (ev_call (ea_cons (ev_var rfl) (ea_cons (ev_var rfl) ea_nil)) ⟨os, here, rfl, (Hin here hhere).2.2.1, Hat here hhere, Hord here hhere, rfl⟩)) (by simp) ?_
          refine ⟨n', Nat.lt_succ_self _, nxt os here, cyc ++ [here], by omega, nd3, sub3, Hnx here hhere, ?_, rfl, ?_⟩
          · rw [List.append_assoc]
            exact hgo2
          · rw [List.map_append, List.append_assoc]
            rfl
        · have hy : here ∈ ks ++ cyc := dec_in hf
          have hz : goOn (nxt os) n (ks ++ cyc) here = [] := by
            cases n with
            | zero => rfl
            | succ n => unfold goOn; rw [if_pos hy]
          rw [hz, List.append_nil] at hgo
          subst hgo
          exact ⟨here, nd2, sub2, rfl, rfl⟩
      · rintro ds' os' ⟨here, nd2, sub2, rfl, rfl⟩
        have kl : (ks ++ cy).length ≤ Hs.length := List.Nodup.length_le_of_subset nd2 sub2
        refine so_free (i := 6) (p := p6) (l := cy.map fun x => .int x.1) (by simp) (by decide) ?_
        refine so_app (i := 4) (p := p4) (l := fs.map eC) (d := eC cy) (by simp [outO]) (vv (ev_is (ev_cb (ea_cons (ev_var rfl) ea_nil) rc_tupL) ?_)) (by rw [List.length_map]; omega) ?_
        · show PyData.tuple (cy.map fun x => .int x.1) = .tuple ((cy.map Prod.fst).map eI)
          rw [List.map_map]
          rfl
        · refine ⟨_, _, _, ks ++ cy, fs ++ [cy], rfl, ?_, nd2, sub2, by rw [List.length_append]; exact Nat.succ_le_succ fl, ?_⟩
          · rw [List.map_append]
            rfl
          · rw [List.append_assoc]
            exact hc
    · have hy : h ∈ ks := by simpa using hf
      rw [hdrop] at hc
      unfold cycs at hc
      rw [if_pos hy] at hc
      exact so_next ⟨_, x6, x7, ks, fs, rfl, rfl, nd, sub, by omega, hc⟩
  · rintro ds' os' ⟨x5, x6, x7, ks, fs, rfl, rfl, nd, sub, fl, hc⟩
    rw [List.drop_length] at hc
    unfold cycs at hc
    rw [List.append_nil] at hc
    subst hc
    refine so_free (i := 4) (p := p4) (l := fs.map eC) (by simp) (by decide) ?_
    exact so_ret (vv (ev_var rfl)) rfl

abbrev s_cycle_list : Stmt := topS 27
theorem sc_cycle_list : FnScope ["plane"] ["plane"] (defScope s_cycle_list) := ⟨rfl, rfl, rfl, by decide +kernel, rfl, by decide +kernel, by decide +kernel⟩
theorem cal_cycle_list (D : DefAt K mg "cycle_list" s_cycle_list ["plane"]) (c_check_plane : Cal P w K mg base 6 "check_plane" (SpD spCheck)) (c_cycles_of : Cal P w K mg base 4 "cycles_of" (SpD spCycles)) : Cal P w K mg base 7 "cycle_list" (SpD spCycles) := by
  refine cal_at D sc_cycle_list (fun dl d ⟨a, b, h, _⟩ => by rw [h]; rfl) fun f cdv A outer s H E hr => ⟨_, (pss_cons (ps_expr (C8.pe_c c_check_plane hr (by decide) (by rfl) (pa_cons (pv 0) pa_nil)))
      (pss_one (ps_ret (C8.pe_c c_cycles_of hr (by decide) (by rfl) (pa_cons (pv 0) pa_nil))))), ?_⟩
  rintro dl d ⟨pts, eds, rfl, g, rfl⟩
  exact st_then (st_drop (ev_call (ea_cons (ev_var rfl) ea_nil) ⟨pts, eds, rfl, g, rfl⟩) rfl) (st_ret (ev_call (ea_cons (ev_var rfl) ea_nil) ⟨pts, eds, rfl, g, rfl⟩) rfl)
end
end K29
namespace K29
open PySem PySem.Spec PyProof.Rows L2

local macro_rules | `(tactic| walk_at "kev") => `(tactic| first
  | exact ev_cint
  | exact ev_cbl
  | exact ev_cnon
  | exact ev_var rfl
  | apply ev_fst
  | apply ev_snd
  | apply ev_op (hr := ro_sub)
  | apply ev_op (hr := ro_add)
  | apply ev_op (hr := ro_lt)
  | apply ev_op (hr := ro_gt)
  | apply ev_op (hr := ro_le)
  | apply ev_op (hr := ro_ge)
  | apply ev_op (hr := ro_eq)
  | apply ev_op (hr := ro_ne)
  | apply ev_neg
  | apply ev_chain (h1 := ro_le) (h2 := ro_le)
  | (refine ev_and ?_ (fun _ => ?_))
  | (refine ev_or ?_ (fun _ => ?_))
  | apply ev_not
  | apply ev_pair
  | apply ev_call
  | exact ea_nil
  | apply ea_cons
  | apply ev_cb (hr := rc_min2)
  | apply ev_cb (hr := rc_max2)
  | apply ev_cb (hr := rc_lenL)
  | apply ev_cb (hr := rc_lenT)
  | apply ev_cb (hr := rc_intB)
  | apply ev_cb (hr := rc_intI)
  | apply eb_test
  | apply eb_B
  | apply eb_not
  | (apply ev_op (hr := ro_mul ?_)))

section
variable {P : Program} {w : World} {K : PySem.W.Frag} {mg : Str → Option Value} {base : Heap}
def ringTerm (l : List P2) (k : Nat) : Int := (l.getD k (0, 0)).1 * (l.getD ((k + 1) % l.length) (0, 0)).2 - (l.getD k (0, 0)).2 * (l.getD ((k + 1) % l.length) (0, 0)).1
def ringTo (l : List P2) (i : Nat) : Int := ((List.range i).map (ringTerm l)).sum
def ringSize (l : List P2) : Int := ringTo l l.length
theorem ringTo_succ (l : List P2) (i : Nat) : ringTo l (i + 1) = ringTo l i + ringTerm l i := by
  unfold ringTo
  rw [List.range_succ, List.map_append, List.sum_append]
  simp
theorem getD_of {l : List P2} {k : Nat} {p : P2} (h : l[k]? = some p) : l.getD k (0, 0) = p := by
  rw [List.getD_eq_getElem?_getD, h]
  rfl
theorem ro_mod {i j : Int} (h : 0 < j) : RoD (rI (fun _ j => 0 < j) fun i j => .int (i % j)) (.int i) (.int j) (.int (i % j)) := ro_Ii (f := fun i j => i % j) h

abbrev s_size_of_ring : Stmt := topS 28
theorem sc_size_of_ring : FnScope ["points", "total", "at", "x", "y", "u", "v"] ["points"] (defScope s_size_of_ring) := ⟨rfl, rfl, rfl, by decide +kernel, rfl, by decide +kernel, by decide +kernel⟩
def spRing (dl : List PyData) (d : PyData) : Prop := ∃ l : List P2, dl = [.list (l.map eP)] ∧ l.length ≤ 1000 ∧ (∀ p ∈ l, InR p) ∧ d = .int (ringSize l)
theorem cal_size_of_ring (D : DefAt K mg "size_of_ring" s_size_of_ring ["points"]) (B : Blt mg) : Cal P w K mg base 1 "size_of_ring" (SpD spRing) := by
  refine cal_at D sc_size_of_ring (fun dl d ⟨a, h, _⟩ => by rw [h]; rfl) fun f cdv A outer s H E hr => ⟨_, (pss_cons (ps_set (i := 1) sc_size_of_ring.nd rfl (by first | exact Or.inl rfl | exact Or.inr rfl) pe_int)
      (pss_cons (ps_for PassesOwn.never rfl (kpi_enum (K := K) (by rfl) B.enumerate_ (pa_cons (pv 0) pa_nil)) (pg_tup rfl (pgs_cons (pg_name (i := 2) sc_size_of_ring.nd rfl (by first | exact Or.inl rfl | exact Or.inr rfl)) (pgs_cons (pg_tup rfl (pgs_cons (pg_name (i := 3) sc_size_of_ring.nd rfl (by first | exact Or.inl rfl | exact Or.inr rfl)) (pgs_cons (pg_name (i := 4) sc_size_of_ring.nd rfl (by first | exact Or.inl rfl | exact Or.inr rfl)) pgs_nil))) pgs_nil))) (pss_cons (ps_asg (pe_ix (kix_list (K := K)) (pv 0) (pe_op op_mod (pe_op op_add (pv 2) pe_int) (pe_callB (kcall_len (K := K)) (by rfl) B.len_ (by decide +kernel) (pa_cons (pv 0) pa_nil))) (fun _ _ => rfl)) (pg_tup rfl (pgs_cons (pg_name (i := 5) sc_size_of_ring.nd rfl (by first | exact Or.inl rfl | exact Or.inr rfl)) (pgs_cons (pg_name (i := 6) sc_size_of_ring.nd rfl (by first | exact Or.inl rfl | exact Or.inr rfl)) pgs_nil))))
      (pss_one (ps_aug (i := 1) sc_size_of_ring.nd rfl (by first | exact Or.inl rfl | exact Or.inr rfl) (pe_op op_sub (pe_op op_mul (pv 3) (pv 6)) (pe_op op_mul (pv 4) (pv 5))) ip_add))))
      (pss_one (ps_ret (pv 1))))), ?_⟩
  rintro dl d ⟨l, rfl, hl, hin, rfl⟩
  refine st_then (st_asg ev_cint rfl) ?_
  let I : Nat → DE → Prop := fun i ds => ∃ x2 x3 x4 x5 x6, ds = [some (.list (l.map eP)), some (.int (ringTo l i)), x2, x3, x4, x5, x6]
  refine st_seq (M := I l.length) (st_for (l := enumD (l.map eP)) (it_enum (ea_cons (ev_var rfl) ea_nil)) I ⟨none, none, none, none, none, rfl⟩ ?_ fun ds' h => by rwa [enumD_len, List.length_map] at h) ?_
  · rintro i d ds' hd ⟨x2, x3, x4, x5, x6, rfl⟩
    have hi : i < l.length := by
      have := (List.getElem?_eq_some_iff.mp hd).1
      rwa [enumD_len, List.length_map] at this
    have hp : l[i]? = some l[i] := List.getElem?_eq_getElem hi
    have hd2 := enumD_get (l := l.map eP) (i := i) (d := eP l[i]) (by rw [List.getElem?_map, hp]; rfl)
    rw [hd] at hd2
    cases hd2
    have hj : (i + 1) % l.length < l.length := Nat.mod_lt _ (by omega)
    have hq : l[(i + 1) % l.length]? = some l[(i + 1) % l.length] := List.getElem?_eq_getElem hj
    have ep : ringTerm l i = l[i].1 * l[(i + 1) % l.length].2 - l[i].2 * l[(i + 1) % l.length].1 := by
      unfold ringTerm
      rw [getD_of hp, getD_of hq]
    obtain ⟨p1, p2, p3, p4⟩ := hin _ (List.getElem_mem hi)
    generalize l[i] = p at *
    generalize hqq : l[(i + 1) % l.length] = q at *
    refine ⟨_, _, tg_pair tg_name (tg_pair tg_name tg_name), ?_⟩
    refine st_then (st_tgt (d := eP q) (ev_op (ev_var rfl) (ev_is (ev_op (ev_op (ev_var rfl) ev_cint ro_add) (ev_cb (ea_cons (ev_var rfl) ea_nil) rc_lenL) (ro_mod ?_)) (e := .int (((i + 1) % l.length : Nat) : Int)) ?_) (ro_ixL (atG_map hq))) (tg_pair tg_name tg_name) rfl) ?_
    · rw [List.length_map]
      omega
    · rw [List.length_map, Int.natCast_emod]
      rfl
    refine st_aug (i := 1) (a := ringTo l i) (b := p.1 * q.2 - p.2 * q.1) rfl (ev_op (ev_op (ev_var rfl) (ev_var rfl) (ro_mul (.inl ⟨by omega, by omega⟩))) (ev_op (ev_var rfl) (ev_var rfl) (ro_mul (.inl ⟨by omega, by omega⟩))) ro_sub) ?_
    refine ⟨some (.int (i : Nat)), some (.int p.1), some (.int p.2), some (.int q.1), some (.int q.2), ?_⟩
    rw [ringTo_succ, ep]
    rfl
  · rintro ds' ⟨x2, x3, x4, x5, x6, rfl⟩
    exact st_ret (ev_var rfl) rfl

theorem look_in {env : PySem.Env} : ∀ {names : List (Str × NameKind)} {x : Str}, names.lookup x = some .cell ∨ names.lookup x = some .free →
    (names.map fun (n, k) => if (k == NameKind.free && env.scope.kind == .function && env.kindOf n == some .cell) then (n, NameKind.cell) else (n, k)).lookup x = some .cell ∨
    (names.map fun (n, k) => if (k == NameKind.free && env.scope.kind == .function && env.kindOf n == some .cell) then (n, NameKind.cell) else (n, k)).lookup x = some .free
  | [], _, h => by simp at h
  | (n, k) :: r, x, h => by
    have ih := @look_in env r x
    show List.lookup x ((if (k == NameKind.free && env.scope.kind == .function && env.kindOf n == some .cell) = true then (n, NameKind.cell) else (n, k)) :: _) = _ ∨ List.lookup x ((if (k == NameKind.free && env.scope.kind == .function && env.kindOf n == some .cell) = true then (n, NameKind.cell) else (n, k)) :: _) = _
    by_cases hc : (k == NameKind.free && env.scope.kind == .function && env.kindOf n == some .cell) = true
    · rw [if_pos hc]
      cases hx : x == n with
      | true => simp [List.lookup_cons, hx]
      | false =>
        simp only [List.lookup_cons, hx] at h ⊢
        exact ih h
    · rw [if_neg hc]
      cases hx : x == n with
      | true => simpa only [List.lookup_cons, hx] using h
      | false =>
        simp only [List.lookup_cons, hx] at h ⊢
        exact ih h
theorem blkOk_in {N : List Str} {sc scope : Scope} {own : List (Str × Nat)} {env : PySem.Env} (h : BlkOk N sc scope own) : BlkOk N (relabel sc env) scope own := ⟨h.kind, h.uniq, h.ix, fun y hy e => look_in (h.free y hy e), h.own⟩
abbrev s_sizes_of : Stmt := topS 29
theorem sc_sizes_of : FnScope ["plane", "cycles", "cycle", "i"] ["plane", "cycles"] (defScope s_sizes_of) := ⟨rfl, rfl, rfl, by decide +kernel, rfl, by decide +kernel, by decide +kernel⟩
abbrev eCs (pts : List P2) (cs : List (List P2)) : List PyData := cs.map fun c => .int (ringSize (c.map fun h => ptAt pts h.1))
def spSizes (dl : List PyData) (d : PyData) : Prop := ∃ (pts eds : List P2) (cs : List (List P2)), dl = [ePl pts eds, .list (cs.map eC)] ∧ (∀ p ∈ pts, InR p) ∧ cs.length ≤ 1000 ∧ (∀ c ∈ cs, c.length ≤ 1000 ∧ ∀ h ∈ c, 0 ≤ h.1 ∧ h.1 < (pts.length : Int)) ∧ d = .list (eCs pts cs)
theorem cal_sizes_of (D : DefAt K mg "sizes_of" s_sizes_of ["plane", "cycles"]) (c_size_of_ring : Cal P w K mg base 1 "size_of_ring" (SpD spRing)) : Cal P w K mg base 2 "sizes_of" (SpD spSizes) := by
  refine cal_at D sc_sizes_of (fun dl d ⟨a, b, c, h, _⟩ => by rw [h]; rfl) fun f cdv A outer s H E hr => ⟨_, (pss_one (ps_ret (pe_lc (own := [("cycle", 2)]) (g := (gName 2)) (tt := tYes) rfl sc_sizes_of.nd (kpi_list (K := K) (pv 1)) (blkOk_by (own := [("cycle", 2)]) (N := ["plane", "cycles", "cycle", "i"]) (sc := defScope s_sizes_of) (by decide +kernel)) (fun _ _ _ _ _ => (pg_name (i := 2) sc_sizes_of.nd rfl (by first | exact Or.inl rfl | exact Or.inr rfl))) (fun _ _ _ _ _ => pts_nil) (fun _ _ _ _ _ => (C8.pe_c c_size_of_ring hr (by decide) (by rfl) (pa_cons (pe_lc (own := [("i", 3)]) (g := (gName 3)) (tt := tYes) rfl sc_sizes_of.nd (kpi_tup (K := K) (pv 2)) (blkOk_in (blkOk_by (own := [("i", 3)]) (N := ["plane", "cycles", "cycle", "i"]) (by decide +kernel))) (fun _ _ _ _ _ => (pg_name (i := 3) sc_sizes_of.nd rfl (by first | exact Or.inl rfl | exact Or.inr rfl))) (fun _ _ _ _ _ => pts_nil) (fun _ _ _ _ _ => (pe_ix (kix_tup (K := K)) (pe_ix (kix_tup (K := K)) (pv 0) pe_int (fun _ _ => rfl)) (pv 3) (fun _ _ => rfl)))) pa_nil)))))), ?_⟩
  rintro dl d ⟨pts, eds, cs, rfl, hin, hlen, hc, rfl⟩
  refine st_ret (ev_lcA cs eC (fun c => .int (ringSize (c.map fun h => ptAt pts h.1))) (it_list (ev_var rfl)) (by omega) fun c hcm => ⟨[2], _, tg_name, by simp, ?_⟩) rfl
  obtain ⟨h1, h2⟩ := hc c hcm
  refine ev_call (ea_cons (ev_is (ev_lcA (c.map Prod.fst) eI (fun i => eP (ptAt pts i)) (it_tup (ev_var rfl)) (by rw [List.length_map]; omega) fun i hi => ⟨[3], _, tg_name, by simp, ev_op (ev_fst (ev_var rfl)) (ev_var rfl) (ro_ixT (atG_pt ?_ ?_))⟩) (e := .list ((c.map fun h => ptAt pts h.1).map eP)) ?_) ea_nil) ⟨_, rfl, by rw [List.length_map]; exact h1, ?_, rfl⟩
  · obtain ⟨h, hm, rfl⟩ := List.mem_map.mp hi
    exact (h2 h hm).1
  · obtain ⟨h, hm, rfl⟩ := List.mem_map.mp hi
    exact (h2 h hm).2
  · rw [List.map_map, List.map_map]
    rfl
  · intro p hp
    obtain ⟨h, hm, rfl⟩ := List.mem_map.mp hp
    exact hin _ (ptAt_mem (h2 h hm).1 (h2 h hm).2)

abbrev s_cycle_sizes : Stmt := topS 30
theorem sc_cycle_sizes : FnScope ["plane"] ["plane"] (defScope s_cycle_sizes) := ⟨rfl, rfl, rfl, by decide +kernel, rfl, by decide +kernel, by decide +kernel⟩
def spCySizes (dl : List PyData) (d : PyData) : Prop := ∃ pts eds : List P2, dl = [ePl pts eds] ∧ GoodPl pts eds ∧ d = .list (eCs pts (cyclesOf pts eds))
theorem cyc_all {pts eds : List P2} (g : GoodPl pts eds) : (∀ c ∈ cyclesOf pts eds, Ring (nxt (ordersOf pts eds)) c ∧ (∀ x ∈ c, x ∈ halvesOf eds) ∧ ∃ h, c.head? = some h ∧ h ∈ halvesOf eds ∧ ∀ x ∈ c, x ≠ h → ltP h x = true) ∧ (cyclesOf pts eds).flatten.Perm (halvesOf eds) ∧ ((cyclesOf pts eds).filterMap List.head?).Pairwise fun a b => ltP a b = true :=
  cycs_all (nxt_mem g) (nxt_inj g) (Nat.lt_succ_self _) (halves_asc g)
theorem flat_len {cs : List (List P2)} (h : ∀ c ∈ cs, c ≠ []) : cs.length ≤ cs.flatten.length := by
  induction cs with
  | nil => simp
  | cons c cs ih =>
    rw [List.flatten_cons, List.length_append, List.length_cons]
    have h1 := ih fun d hd => h d (List.mem_cons_of_mem _ hd)
    have h2 := List.length_pos_iff.mpr (h c List.mem_cons_self)
    omega
theorem part_len {cs : List (List P2)} {c : List P2} (h : c ∈ cs) : c.length ≤ cs.flatten.length := (List.sublist_flatten_of_mem h).length_le
theorem cyc_len {pts eds : List P2} (g : GoodPl pts eds) : (cyclesOf pts eds).length ≤ 62 ∧ ∀ c ∈ cyclesOf pts eds, c.length ≤ 62 := by
  obtain ⟨h1, h2, _⟩ := cyc_all g
  have e := h2.length_eq
  rw [halves_len] at e
  have := g.elen
  refine ⟨?_, fun c hc => ?_⟩
  · have := flat_len fun c hc => (h1 c hc).1.1
    omega
  · have := part_len hc
    omega
theorem cal_cycle_sizes (D : DefAt K mg "cycle_sizes" s_cycle_sizes ["plane"]) (c_check_plane : Cal P w K mg base 6 "check_plane" (SpD spCheck)) (c_cycles_of : Cal P w K mg base 4 "cycles_of" (SpD spCycles)) (c_sizes_of : Cal P w K mg base 2 "sizes_of" (SpD spSizes)) : Cal P w K mg base 7 "cycle_sizes" (SpD spCySizes) := by
  refine cal_at D sc_cycle_sizes (fun dl d ⟨a, b, h, _⟩ => by rw [h]; rfl) fun f cdv A outer s H E hr => ⟨_, (pss_cons (ps_expr (C8.pe_c c_check_plane hr (by decide) (by rfl) (pa_cons (pv 0) pa_nil)))
      (pss_one (ps_ret (C8.pe_c c_sizes_of hr (by decide) (by rfl) (pa_cons (pv 0) (pa_cons (C8.pe_c c_cycles_of hr (by decide) (by rfl) (pa_cons (pv 0) pa_nil)) pa_nil)))))), ?_⟩
  rintro dl d ⟨pts, eds, rfl, g, rfl⟩
  have l := cyc_len g
  have h1 := (cyc_all g).1
  refine st_then (st_drop (ev_call (ea_cons (ev_var rfl) ea_nil) ⟨pts, eds, rfl, g, rfl⟩) rfl) (st_ret (ev_call (ea_cons (ev_var rfl) (ea_cons (ev_call (ea_cons (ev_var rfl) ea_nil) ⟨pts, eds, rfl, g, rfl⟩) ea_nil)) ⟨pts, eds, cyclesOf pts eds, rfl, g.inr, by omega, fun c hc => ⟨?_, fun h hh => ?_⟩, rfl⟩) rfl)
  · have := l.2 c hc
    omega
  · obtain ⟨a, b, _⟩ := half_in g ((h1 c hc).2.1 h hh)
    exact ⟨a, b⟩
end
end K29
/-! K29: a stream of numbers, a list of one's own that calls change. -/
namespace K29
open PySem PySem.Spec PyProof.Rows L2
structure Strm where
  s : List Int
  c : Int
  k : Nat
abbrev eSt (t : Strm) : List PyData := [.list (t.s.map eI), .int t.c, .int (t.k : Nat)]
def SpS (pre : List PyData → Prop) (post : List PyData → PyData → Prop) : Sp := fun vs H Q _ => ∃ (G : Hp) (p : Addr) (ws : List V) (dl : List PyData) (t : Strm), vs = .ref p :: ws ∧ Same G H ∧ G p = none ∧ Own.ok G H p (.lst (eSt t)) ∧ DaAll G ws dl ∧ pre dl ∧
  ∀ d t' v G' H', post dl d → GrowO [p] G H G' H' → G' p = none → Own.ok G' H' p (.lst (eSt t')) → Da G' v d → Q v H'
section
variable {C0 : List Addr} {G0 H0 G H G' H' : Hp} {σ σ' : L2.St} {os : OE} {p : Addr} {o : Own}
theorem GrowO.put' (a : GrowO C0 G0 H0 G H) (b : GrowO [p] G H G' H') (h : p ∈ C0 ∨ H0 p = none) : GrowO C0 G0 H0 G' H' :=
  ⟨a.g.trans b.g, b.s, fun x o n e => b.h x o (fun z => by
    rw [List.mem_singleton.mp z] at n e
    rcases h with h | h
    · exact n h
    · rw [e] at h
      cases h) (a.h x o n e), fun x o e => by
    obtain ⟨u, hu⟩ := a.k x o e
    exact b.k x u hu, fun x o e => by
    rcases b.n x o e with q | q
    · exact a.n x o q
    · exact .inr (a.fresh q)⟩
theorem GrowO.out (b : GrowO C0 G H G' H') {q : Addr} {u : HO} (h1 : G q = none) (h2 : H q = some u) : G' q = none := by
  cases e : G' q with
  | none => rfl
  | some x =>
    rcases b.n q x e with z | z
    · rw [h1] at z
      cases z
    · rw [h2] at z
      cases z
theorem Own.ok.stay (b : GrowO [p] G H G' H') {q : Addr} (hq : q ≠ p) : Own.ok G H q o → Own.ok G' H' q o := by
  cases o with
  | lst l => exact fun ⟨vs, e, d⟩ => ⟨vs, b.h _ _ (by simpa using hq) e, d.same b.g⟩
  | dct ks => exact fun ⟨kvs, e, d⟩ => ⟨kvs, b.h _ _ (by simpa using hq) e, d⟩
/-- a call has changed the object at p -/
theorem HasA.call {i : Nat} {o' : Own} (a : HasA C0 H0 G H σ os) (m : (i, p, o) ∈ os) (b : GrowO [p] G H G' H') (h1 : G' p = none) (h2 : Own.ok G' H' p o') : HasA C0 H0 G' H' σ (setO os i o') := by
  obtain ⟨g1, g2, g3, g4⟩ := a.is i p _ m
  have same : ∀ q w, (i, q, w) ∈ os → q = p := fun q w mq => by
    have := (a.is i q w mq).1
    rw [g1] at this
    cases this
    rfl
  refine ⟨fun j q u mq => ?_, fun j q u k r w m1 m2 hne => ?_⟩
  · rcases mem_setO mq with ⟨rfl, rfl, w, mw⟩ | ⟨hj, mq⟩
    · obtain rfl := same q w mw
      exact ⟨g1, h1, h2, g4⟩
    · obtain ⟨f1, f2, f3, f4⟩ := a.is j q u mq
      have hq : q ≠ p := a.ne j q u i p _ mq m hj
      obtain ⟨x, hx⟩ := f3.has
      exact ⟨f1, b.out f2 hx, f3.stay b hq, f4⟩
  · rcases mem_setO m1 with ⟨rfl, rfl, w1, mw1⟩ | ⟨hj, mq⟩
    · rcases mem_setO m2 with ⟨rfl, rfl, w2, mw2⟩ | ⟨hk, mq2⟩
      · exact absurd rfl hne
      · exact a.ne _ _ _ _ _ _ mw1 mq2 hne
    · rcases mem_setO m2 with ⟨rfl, rfl, w2, mw2⟩ | ⟨hk, mq2⟩
      · exact a.ne _ _ _ _ _ _ mq mw2 hne
      · exact a.ne _ _ _ _ _ _ mq mq2 hne
end
/-- an expression that may change objects of one's own -/
def EvS (te : TE) (ds : DE) (os : OE) (R : PyData → OE → Prop) : Prop := ∀ (C0 : List Addr) (G0 H0 G H : Hp) (σ : L2.St), GrowO C0 G0 H0 G H → Env G σ ds → HasA C0 H0 G H σ os →
  ∀ Q : VK, (∀ d os' v G' H', R d os' → Same G G' → GrowO C0 G0 H0 G' H' → HasA C0 H0 G' H' σ os' → Da G' v d → Q v H') → te σ H Q
section
variable {K : PySem.W.Frag} {ds ds2 : DE} {os os2 : OE} {a b d : PyData} {ta tb te : TE} {r : R2} {tt : TT} {g : TG} {t u : TS} {N M : DE → OE → Prop} {R Ra R' : PyData → OE → Prop} {pl : List Nat} {tl : TA}
theorem es_pure (h : EvD te ds d) (hr : R d os) : EvS te ds os R := fun C0 G0 H0 G H σ b e a Q q => h G H σ b.s e Q fun v G1 H1 g1 d1 => q d os v G1 H1 hr g1.g (b.then g1) (a.grow g1) d1
theorem es_weak (h : EvS te ds os R) (hr : ∀ d os', R d os' → R' d os') : EvS te ds os R' := fun C0 G0 H0 G H σ b e a Q q => h C0 G0 H0 G H σ b e a Q fun d os' v G' H' k => q d os' v G' H' (hr _ _ k)
theorem es_call {i : Nat} {p : Addr} {st : Strm} {pre : List PyData → Prop} {post : List PyData → PyData → Prop} {dl : List PyData} {E : XK} (m : (i, p, Own.lst (eSt st)) ∈ os) (h : EvA tl ds dl) (hp : pre dl)
    (hr : ∀ d t', post dl d → R d (setO os i (.lst (eSt t')))) : EvS (tCall (SpS pre post) [] E (tCons (tVar i) tl)) ds os R := fun C0 G0 H0 G H σ b e a Q q => by
  obtain ⟨h1, h2, h3, h4⟩ := a.is i p _ m
  refine ⟨.ref p, h1, h G H σ b.s e _ fun vs G1 H1 g1 d1 => ?_⟩
  have a1 := a.grow g1
  obtain ⟨_, k2, k3, _⟩ := a1.is i p _ m
  refine ⟨G1, p, vs, dl, st, by rw [List.append_nil], g1.s, k2, k3, d1, hp, fun d t' v G' H' hd gr n1 o1 dv => ?_⟩
  exact q d _ v G' H' (hr d t' hd) (g1.g.trans gr.g) ((b.then g1).put' gr (h4.imp And.right id)) (a1.call m gr n1 o1) dv
theorem es_op (ha : EvS ta ds os Ra) (hb : ∀ a os', Ra a os' → EvS tb ds os' fun b os'' => ∃ e, RoD r a b e ∧ R e os'') : EvS (tOp r ta tb) ds os R := fun C0 G0 H0 G H σ b e a Q q =>
  ha C0 G0 H0 G H σ b e a _ fun x os1 v G1 H1 hx s1 b1 a1 d1 => hb x os1 hx C0 G0 H0 G1 H1 σ b1 (e.same s1) a1 _ fun y os2 w G2 H2 ⟨z, hz, hr⟩ s2 b2 a2 d2 => hz G2 H2 v w b2.s (d1.same s2) d2 _ fun u G3 H3 g3 d3 =>
    q z os2 u G3 H3 hr ((s1.trans s2).trans g3.g) (b2.then g3) (a2.grow g3) d3
theorem es_pair (ha : EvS ta ds os Ra) (hb : ∀ a os', Ra a os' → EvS tb ds os' fun b os'' => R (.tuple [a, b]) os'') : EvS (tTup (tCons ta (tCons tb tNil))) ds os R := fun C0 G0 H0 G H σ b e a Q q =>
  ha C0 G0 H0 G H σ b e a _ fun x os1 v G1 H1 hx s1 b1 a1 d1 => hb x os1 hx C0 G0 H0 G1 H1 σ b1 (e.same s1) a1 _ fun y os2 w G2 H2 hr s2 b2 a2 d2 => ⟨(show 2 ≤ sizeLine by decide), fun p hp => by
    have g3 := Grow.new (o := .tup [v, w]) b2.s hp
    exact q _ os2 (.ref p) _ _ hr ((s1.trans s2).trans g3.g) (b2.then g3) (a2.grow g3) (.tup upd_same (.cons ((d1.same s2).same g3.g) (.one (d2.same g3.g))))⟩
theorem so_asgS {i : Nat} (he : EvS te ds os Ra) (hs : ∀ d os', Ra d os' → (∀ q ∈ os', q.1 ≠ i) ∧ N (ds.set i (some d)) os') : StO (tAsg te (gName i)) ds os N R := fun C0 G0 H0 D G H σ b e a qn qr =>
  he C0 G0 H0 G H σ b e a _ fun d os' v G1 H1 hr s1 b1 a1 d1 => qn _ os' _ G1 H1 (hs d os' hr).2 s1 b1 ((e.same s1).set d1 i) (a1.slots fun q m => List.getElem?_set_ne (fun z => (hs d os' hr).1 q m z.symm))
theorem so_retS (he : EvS te ds os Ra) (hs : ∀ d os', Ra d os' → R d os') : StO (tRet te) ds os N R := fun C0 G0 H0 D G H σ b e a qn qr =>
  he C0 G0 H0 G H σ b e a _ fun d os' v G1 H1 hr s1 b1 a1 d1 => qr d os' σ v G1 H1 (hs d os' hr) b1 a1 d1
/-- for .. in range(n), n told by a call -/
theorem so_forR {n : Nat → OE → Prop} (he : EvS te ds os fun d os' => ∃ m : Nat, d = .int (m : Nat) ∧ m ≤ 100000 ∧ n m os') (I : Nat → DE → OE → Prop) (h0 : ∀ m os', n m os' → I 0 ds os')
    (hs : ∀ (i : Nat) ds' os', (∃ m o, n m o ∧ i < m) → I i ds' os' → ∃ pl ds2, TgD g pl (.int (i : Nat)) ds' ds2 ∧ (∀ q ∈ os', q.1 ∉ pl) ∧ StO t ds2 os' (I (i + 1)) R) (hd : ∀ m ds' os', (∃ o, n m o) → I m ds' os' → N ds' os') : StO (tFor (iRng1 (tCons te tNil)) g t) ds os N R := fun C0 G0 H0 D G H σ b e a qn qr =>
  he C0 G0 H0 G H σ b e a _ fun d os1 v G1 H1 ⟨m, hdm, hm, hn⟩ s1 b1 a1 d1 => by
    subst hdm
    obtain rfl := d1.intE
    refine ⟨(m : Int), rfl, by omega, by omega, ?_⟩
    have e2 : ((m : Int) - 0).toNat = m := by omega
    have wd : WalkD (Itr 0 m) G1 (rangeD 0 m) := wd_range
    obtain ⟨Gp, Y, w, k1, k2⟩ := wd
    have hw : (rangeD 0 m).length = m := rangeD_len
    refine for_it w (fun i σ' H' => ∃ ds' os' G', I i ds' os' ∧ Same G1 G' ∧ GrowO C0 G0 H0 G' H' ∧ Env G' σ' ds' ∧ HasA C0 H0 G' H' σ' os') ⟨ds, os1, G1, h0 m os1 hn, Same.refl _, b1, e.same s1, a1⟩ (fun i σ' H' _ ⟨ds', os', G', _, s2, b2, _⟩ => k1 H' (s2.trans b2.s)) ?_
      fun σ' H' ⟨ds', os', G', a1, s2, b2, e2, a2⟩ => qn ds' os' σ' G' H' (hd m _ _ ⟨os1, hn⟩ (hw ▸ a1)) (s1.trans s2) b2 e2 a2
    rintro i x σ' H' H2 hil ⟨ds', os', G', a1, s2, b2, e2, a2⟩ y
    obtain ⟨d, G3, b1, g3, d3⟩ := k2 i G' H' x H2 s2 b2.s hil y
    rw [hw] at hil
    rw [rangeD_get hil, Int.zero_add] at b1
    obtain rfl := Option.some.inj b1
    obtain ⟨pl, ds2, c2, c3, c4⟩ := hs i ds' os' ⟨m, os1, hn, hil⟩ a1
    refine c2 G3 H2 σ' x g3.s d3 (e2.same g3.g) _ fun σ2 e3 w3 => ?_
    exact c4 C0 G0 H0 _ G3 H2 σ2 (b2.then g3) e3 ((a2.grow g3).slots fun q m => tg_keep w3 (c3 q m)) (fun ds4 os4 σ4 G4 H4 hn s4 b4 e4 a4 => ⟨ds4, os4, G4, hn, (s2.trans g3.g).trans s4, b4, e4, a4⟩) qr
/-- xs[k] = e -/
theorem so_store {i k : Nat} {p : Addr} {l : List PyData} (m : (i, p, Own.lst l) ∈ os) (he : EvV te ds os d) (hk : k < l.length) (h : N ds (setO os i (.lst (l.set k d)))) : StO (tAsg te (gSub (tVar i) (tC (.int (k : Nat))) rSetL)) ds os N R := fun C0 G0 H0 D G H σ b e a qn qr =>
  he C0 H0 G H σ b.s e a _ fun v G1 H1 g1 d1 => by
    have a1 := a.grow g1
    obtain ⟨h1, h2, ⟨vs, h3, h4⟩, h5⟩ := a1.is i p _ m
    have hl : k < vs.length := by rw [h4.length]; exact hk
    have hix : ixN vs.length (k : Int) = some k := by
      unfold ixN
      rw [if_pos (by omega), if_pos (by omega)]
      rfl
    refine ⟨.ref p, h1, p, vs, (k : Int), k, rfl, rfl, h3, hix, ?_⟩
    have hset : DaAll G1 (vs.set k v) (l.set k d) := by
      have : ∀ {vs : List V} {l : List PyData} (k : Nat), DaAll G1 vs l → DaAll G1 (vs.set k v) (l.set k d) := by
        intro vs l k h
        induction k generalizing vs l with
        | zero =>
          cases h with
          | nil => exact .nil
          | cons x y => exact .cons d1 y
        | succ k ih =>
          cases h with
          | nil => exact .nil
          | cons x y => exact .cons x (ih y)
      exact this k h4
    exact qn ds _ σ G1 _ h g1.g ((b.then g1).put h2 (h5.imp And.right id)) (e.same g1.g) (a1.put m ⟨_, upd_same, hset⟩)
/-- what is pure, with nothing of one's own left -/
theorem so_D {NN : DE → Prop} {RR : PyData → Prop} (h : StD t ds NN RR) (hn : ∀ x, NN x → N x []) (hr : ∀ d os', RR d → R d os') : StO t ds os N R := fun C0 G0 H0 D G H σ b e a qn qr =>
  h D G H σ b.s e (fun ds' σ' G' H' z g e' => qn ds' [] σ' G' H' (hn _ z) g.g (b.then g) e' .nil) fun d v G' H' z g dv => qr d [] σ v G' H' (hr d [] z) (b.then g) .nil dv
end
section
variable {P : Program} {w : World} {K : PySem.W.Frag} {mg : Str → Option Value} {base : Heap}
/-- a def that changes its first parameter's stream -/
theorem cal_S {x : Str} {st : Stmt} {N ps : List Str} {k : Nat} {pre : List PyData → Prop} {post : List PyData → PyData → Prop} (D : DefAt K mg x st ps) (S : FnScope N ps (defScope st)) (hlen : ∀ dl, pre dl → dl.length + 1 = ps.length)
    (hbody : ∀ (f : Addr) (cdv : Value) (A : Around) (outer : List PySem.Env) (s : Shared) (H : Hp) (E : XK), Room k (A.deeper (envOfC x (defScope st) s.heap.objs.size f cdv)) →
      ∃ t, PSs (cxOf CX0 P w K mg base N x (defScope st) f cdv A outer s H E).nox (defBody st) t ∧ ∀ (p : Addr) dl t0, pre dl → StO t (none :: (dl.map some ++ List.replicate (N.length - (dl.length + 1)) none)) [(0, p, .lst (eSt t0))] (fun _ _ => False) (fun d os' => post dl d ∧ ∃ t', (0, p, Own.lst (eSt t')) ∈ os')) : Cal P w K mg base (k + 1) x (SpS pre post) := by
  refine cal_by D S (fun vs H Q E h => ?_) fun f cdv A outer s H vs Q E hr h => ?_
  · obtain ⟨G, p, ws, dl, t, rfl, _, _, _, a, c, _⟩ := h
    rw [List.length_cons, a.length]
    exact hlen dl c
  · obtain ⟨G, p, ws, dl, t0, rfl, s1, n1, o1, a, c, q⟩ := h
    obtain ⟨t, ht, hs⟩ := hbody f cdv A outer s H E hr
    refine ⟨t, ht, ?_⟩
    have en : Env G (L2.start N (.ref p :: ws)) (none :: (dl.map some ++ List.replicate (N.length - (dl.length + 1)) none)) := by
      unfold L2.start
      rw [List.length_cons, a.length]
      exact .no (env_start (env_none G) a)
    refine hs p dl t0 c [p] G H _ G H _ (.refl s1) en ⟨fun i q o m => ?_, fun i q o j r u m1 m2 hne => ?_⟩ (fun _ _ _ _ _ z => z.elim) fun d os' σ' v G' H' ⟨hp, t', hm⟩ gr ha dv => ?_
    · cases List.mem_singleton.mp m
      exact ⟨rfl, n1, o1, .inl ⟨rfl, by simp⟩⟩
    · cases List.mem_singleton.mp m1
      cases List.mem_singleton.mp m2
      exact absurd rfl hne
    · obtain ⟨_, h2, h3, _⟩ := ha.is 0 p _ hm
      exact q d t' v G' H' hp gr h2 h3 dv
end
end K29
namespace K29
open PySem PySem.Spec PyProof.Rows L2

local macro_rules | `(tactic| walk_at "kev") => `(tactic| first
  | exact ev_cint
  | exact ev_cbl
  | exact ev_cnon
  | exact ev_var rfl
  | apply ev_fst
  | apply ev_snd
  | apply ev_op (hr := ro_sub)
  | apply ev_op (hr := ro_add)
  | apply ev_op (hr := ro_lt)
  | apply ev_op (hr := ro_gt)
  | apply ev_op (hr := ro_le)
  | apply ev_op (hr := ro_ge)
  | apply ev_op (hr := ro_eq)
  | apply ev_op (hr := ro_ne)
  | apply ev_neg
  | apply ev_chain (h1 := ro_le) (h2 := ro_le)
  | (refine ev_and ?_ (fun _ => ?_))
  | (refine ev_or ?_ (fun _ => ?_))
  | apply ev_not
  | apply ev_pair
  | apply ev_call
  | exact ea_nil
  | apply ea_cons
  | apply ev_cb (hr := rc_min2)
  | apply ev_cb (hr := rc_max2)
  | apply ev_cb (hr := rc_lenL)
  | apply ev_cb (hr := rc_lenT)
  | apply ev_cb (hr := rc_intB)
  | apply ev_cb (hr := rc_intI)
  | apply eb_test
  | apply eb_B
  | apply eb_not
  | (apply ev_op (hr := ro_mul ?_)))

section
variable {P : Program} {w : World} {K : PySem.W.Frag} {mg : Str → Option Value} {base : Heap}

abbrev s__law_next : Stmt := topS 33
theorem sc__law_next : FnScope ["_law_stream_here", "_law_many", "_law_k", "_law_cell", "_law_digit"] ["_law_stream_here", "_law_many"] (defScope s__law_next) := ⟨rfl, rfl, rfl, by decide +kernel, rfl, by decide +kernel, by decide +kernel⟩
def preNext (dl : List PyData) : Prop := ∃ many : Int, dl = [.int many] ∧ 0 < many ∧ many < 1000
def postNext (dl : List PyData) (d : PyData) : Prop := ∃ many r : Int, dl = [.int many] ∧ 0 ≤ r ∧ r < many ∧ d = .int r
theorem ro_fdiv {i j : Int} (h : CDivN i j) : RoD (rI CDivN fun i j => .int (i.fdiv j)) (.int i) (.int j) (.int (i.fdiv j)) := ro_Ii (f := fun i j => i.fdiv j) h
theorem ro_pow {i j : Int} (h : CPow i j) : RoD (rI CPow fun i j => .int (i ^ j.toNat)) (.int i) (.int j) (.int (i ^ j.toNat)) := ro_Ii (f := fun i j => i ^ j.toNat) h
theorem cal__law_next (D : DefAt K mg "_law_next" s__law_next ["_law_stream_here", "_law_many"]) (B : Blt mg) : Cal P w K mg base 1 "_law_next" (SpS preNext postNext) := by
  refine cal_S D sc__law_next (fun dl ⟨a, h, _⟩ => by rw [h]; rfl) fun f cdv A outer s H E hr => ⟨_, (pss_cons (ps_if (pt_cmpR op_eq (pe_ix (kix_list (K := K)) (pv 0) pe_int (fun _ _ => rfl)) pe_int (nomark _)) (pss_cons (ps_set (i := 2) sc__law_next.nd rfl (by first | exact Or.inl rfl | exact Or.inr rfl) (pe_ix (kix_list (K := K)) (pv 0) pe_int (fun _ _ => rfl)))
      (pss_cons (ps_set (i := 3) sc__law_next.nd rfl (by first | exact Or.inl rfl | exact Or.inr rfl) (pe_op op_add pe_int (pv 2)))
      (pss_cons (ps_if (pt_cmpR op_lt (pv 2) (pe_callB (kcall_len (K := K)) (by rfl) B.len_ (by decide +kernel) (pa_cons (pe_ix (kix_list (K := K)) (pv 0) pe_int (fun _ _ => rfl)) pa_nil)) (nomark _)) (pss_one (ps_set (i := 3) sc__law_next.nd rfl (by first | exact Or.inl rfl | exact Or.inr rfl) (pe_callB call_abs (by rfl) B.abs_ (by decide +kernel) (pa_cons (pe_ix (kix_list (K := K)) (pe_ix (kix_list (K := K)) (pv 0) pe_int (fun _ _ => rfl)) (pv 2) (fun _ _ => rfl)) pa_nil)))) pss_nil)
      (pss_cons (ps_if (pt_cmpR op_lt (pv 3) (pe_op op_pow pe_int pe_int) (nomark _)) (pss_cons (ps_set (i := 3) sc__law_next.nd rfl (by first | exact Or.inl rfl | exact Or.inr rfl) (pe_op op_mod (pe_callTy call_int1 (by rfl) B.int_ (by decide +kernel) (pa_cons (pe_op op_add (pe_op op_add (pe_op op_mul (pv 3) pe_int) (pe_op op_mul (pv 2) pe_int)) pe_int) pa_nil)) pe_int))
      (pss_one (ps_set (i := 3) sc__law_next.nd rfl (by first | exact Or.inl rfl | exact Or.inr rfl) (pe_op op_add (pe_op op_mul (pe_op op_mod (pe_callTy call_int1 (by rfl) B.int_ (by decide +kernel) (pa_cons (pe_op op_add (pe_op op_mul (pv 3) pe_int) pe_int) pa_nil)) pe_int) pe_int) (pv 3))))) pss_nil)
      (pss_cons (ps_asg (pv 3) (pg_sub (pv 0) pe_int set_list))
      (pss_one (ps_asg (pe_op op_add (pv 2) pe_int) (pg_sub (pv 0) pe_int set_list)))))))) pss_nil)
      (pss_cons (ps_set (i := 4) sc__law_next.nd rfl (by first | exact Or.inl rfl | exact Or.inr rfl) (pe_op op_mod (pe_callTy call_int1 (by rfl) B.int_ (by decide +kernel) (pa_cons (pe_ix (kix_list (K := K)) (pv 0) pe_int (fun _ _ => rfl)) pa_nil)) (pv 1)))
      (pss_cons (ps_asg (pe_op op_fdivN (pe_ix (kix_list (K := K)) (pv 0) pe_int (fun _ _ => rfl)) (pv 1)) (pg_sub (pv 0) pe_int set_list))
      (pss_one (ps_ret (pv 4)))))), ?_⟩
  rintro p dl t0 ⟨many, rfl, hm0, hm1⟩
  refine so_seq (M := fun ds os => ∃ x2 x3 t, ds = [none, some (.int many), x2, x3, none] ∧ os = [(0, p, .lst (eSt t))]) (so_if (k := decide (t0.c = 0)) (bv_view (i := 0) List.mem_cons_self (eb_test (ev_op (ev_op (ev_var rfl) ev_cint (ro_ixL rfl)) ev_cint ro_eq))) (fun _ => ?_) fun _ => so_next ⟨none, none, t0, rfl, rfl⟩) ?_
  · refine so_then (ds2 := [none, some (.int many), some (.int (t0.k : Nat)), none, none]) (os2 := [(0, p, .lst (eSt t0))]) (so_asg (vv_int (i := 0) List.mem_cons_self (ev_op (ev_var rfl) ev_cint (ro_ixL rfl))) (by simp) ⟨rfl, rfl⟩) ?_
    refine so_then (ds2 := [none, some (.int many), some (.int (t0.k : Nat)), some (.int (7 + (t0.k : Nat))), none]) (os2 := [(0, p, .lst (eSt t0))]) (so_asg (vv (ev_op ev_cint (ev_var rfl) ro_add)) (by simp) ⟨rfl, rfl⟩) ?_
    refine so_seq (M := fun ds os => ∃ c : Int, ds = [none, some (.int many), some (.int (t0.k : Nat)), some (.int c), none] ∧ os = [(0, p, .lst (eSt t0))]) (so_if (k := decide ((t0.k : Int) < ((t0.s.map eI).length : Nat))) (bv_view (i := 0) List.mem_cons_self (eb_test (ev_op (ev_var rfl) (ev_cb (ea_cons (ev_op (ev_var rfl) ev_cint (ro_ixL rfl)) ea_nil) rc_lenL) ro_lt))) (fun hk => ?_) fun _ => so_next ⟨_, rfl, rfl⟩) ?_
    · have hk2 : t0.k < t0.s.length := by
        have := of_decide_eq_true hk
        rw [List.length_map] at this
        omega
      exact so_asg (vv_int (i := 0) List.mem_cons_self (ev_cb (ea_cons (ev_op (ev_op (ev_var rfl) ev_cint (ro_ixL rfl)) (ev_var rfl) (ro_ixL (atG_map (e := eI) (List.getElem?_eq_getElem hk2)))) ea_nil) rc_abs)) (by simp) ⟨_, rfl, rfl⟩
    · rintro ds os ⟨c, rfl, rfl⟩
      refine so_seq (M := fun ds os => ∃ c : Int, ds = [none, some (.int many), some (.int (t0.k : Nat)), some (.int c), none] ∧ os = [(0, p, .lst (eSt t0))]) (so_if (k := decide (c < 10 ^ (18 : Int).toNat)) (bv (eb_test (ev_op (ev_var rfl) (ev_op ev_cint ev_cint (ro_pow ⟨by decide, by decide, by decide⟩)) ro_lt))) (fun _ => ?_) fun _ => so_next ⟨_, rfl, rfl⟩) ?_
      · refine so_seq (M := fun ds os => ∃ c : Int, ds = [none, some (.int many), some (.int (t0.k : Nat)), some (.int c), none] ∧ os = [(0, p, .lst (eSt t0))]) (so_asg (vv (ev_op (ev_cb (ea_cons (ev_op (ev_op (ev_op (ev_var rfl) ev_cint (ro_mul (.inr ⟨by decide, by decide⟩))) (ev_op (ev_var rfl) ev_cint (ro_mul (.inr ⟨by decide, by decide⟩))) ro_add) ev_cint ro_add) ea_nil) rc_intI) ev_cint (ro_mod (by decide)))) (by simp) ⟨_, rfl, rfl⟩) ?_
        rintro ds os ⟨c, rfl, rfl⟩
        exact so_asg (vv (ev_op (ev_op (ev_op (ev_cb (ea_cons (ev_op (ev_op (ev_var rfl) ev_cint (ro_mul (.inr ⟨by decide, by decide⟩))) ev_cint ro_add) ea_nil) rc_intI) ev_cint (ro_mod (by decide))) ev_cint (ro_mul (.inr ⟨by decide, by decide⟩))) (ev_var rfl) ro_add)) (by simp) ⟨_, rfl, rfl⟩
      · rintro ds os ⟨c, rfl, rfl⟩
        refine so_then (ds2 := [none, some (.int many), some (.int (t0.k : Nat)), some (.int c), none]) (os2 := [(0, p, .lst (eSt ⟨t0.s, c, t0.k⟩))]) (so_store (i := 0) (k := 1) List.mem_cons_self (vv (ev_var rfl)) (by simp) ⟨rfl, rfl⟩) ?_
        exact so_store (i := 0) (k := 2) List.mem_cons_self (vv (ev_op (ev_var rfl) ev_cint ro_add)) (by simp) ⟨_, _, ⟨t0.s, c, t0.k + 1⟩, rfl, rfl⟩
  · rintro ds os ⟨x2, x3, t, rfl, rfl⟩
    refine so_then (ds2 := [none, some (.int many), x2, x3, some (.int (t.c % many))]) (os2 := [(0, p, .lst (eSt t))]) (so_asg (vv_int (i := 0) List.mem_cons_self (ev_op (ev_cb (ea_cons (ev_op (ev_var rfl) ev_cint (ro_ixL rfl)) ea_nil) rc_intI) (ev_var rfl) (ro_mod hm0))) (by simp) ⟨rfl, rfl⟩) ?_
    refine so_then (ds2 := [none, some (.int many), x2, x3, some (.int (t.c % many))]) (os2 := [(0, p, .lst (eSt ⟨t.s, t.c.fdiv many, t.k⟩))]) (so_store (i := 0) (k := 1) List.mem_cons_self (vv_int (i := 0) List.mem_cons_self (ev_op (ev_op (ev_var rfl) ev_cint (ro_ixL rfl)) (ev_var rfl) (ro_fdiv ⟨by omega, by omega⟩))) (by simp) ⟨rfl, rfl⟩) ?_
    exact so_ret (vv (ev_var rfl)) ⟨⟨many, _, rfl, Int.emod_nonneg _ (by omega), Int.emod_lt_of_pos _ hm0, rfl⟩, ⟨t.s, t.c.fdiv many, t.k⟩, by simp⟩

abbrev s__law_place : Stmt := topS 39
theorem sc__law_place : FnScope ["_law_stream_here", "_law_wide"] ["_law_stream_here", "_law_wide"] (defScope s__law_place) := ⟨rfl, rfl, rfl, by decide +kernel, rfl, by decide +kernel, by decide +kernel⟩
def prePlace (dl : List PyData) : Prop := dl = [.int 5]
def postPlace (dl : List PyData) (d : PyData) : Prop := ∃ x y : Int, 0 ≤ x ∧ x < 5 ∧ 0 ≤ y ∧ y < 5 ∧ d = eP (x * 2 - 3, y * 2 - 4)
theorem cal__law_place (D : DefAt K mg "_law_place" s__law_place ["_law_stream_here", "_law_wide"]) (c__law_next : Cal P w K mg base 1 "_law_next" (SpS preNext postNext)) : Cal P w K mg base 2 "_law_place" (SpS prePlace postPlace) := by
  refine cal_S D sc__law_place (fun dl h => by rw [h]; rfl) fun f cdv A outer s H E hr => ⟨_, (pss_one (ps_ret (pe_tup (pa_cons (pe_op op_sub (pe_op op_mul (C8.pe_c c__law_next hr (by decide) (by rfl) (pa_cons (pv 0) (pa_cons (pv 1) pa_nil))) pe_int) pe_int) (pa_cons (pe_op op_sub (pe_op op_mul (C8.pe_c c__law_next hr (by decide) (by rfl) (pa_cons (pv 0) (pa_cons (pv 1) pa_nil))) pe_int) pe_int) pa_nil))))), ?_⟩
  rintro p dl t0 rfl
  refine so_retS (Ra := fun d os => postPlace [.int 5] d ∧ ∃ t', (0, p, Own.lst (eSt t')) ∈ os) (es_pair (Ra := fun a os => ∃ x t, 0 ≤ x ∧ x < 5 ∧ a = .int (x * 2 - 3) ∧ os = [(0, p, .lst (eSt t))]) ?_ ?_) fun d os' h => h
  · refine es_op (Ra := fun a os => ∃ x t, 0 ≤ x ∧ x < 5 ∧ a = .int (x * 2) ∧ os = [(0, p, .lst (eSt t))]) (es_op (Ra := fun a os => ∃ x t, 0 ≤ x ∧ x < 5 ∧ a = .int x ∧ os = [(0, p, .lst (eSt t))]) (es_call (i := 0) (st := t0) List.mem_cons_self (ea_cons (ev_var rfl) ea_nil) ⟨5, rfl, by decide, by decide⟩ ?_) ?_) ?_
    · rintro d t' ⟨many, r, e, h1, h2, rfl⟩
      cases e
      exact ⟨r, t', h1, h2, rfl, rfl⟩
    · rintro a os' ⟨x, t, h1, h2, rfl, rfl⟩
      exact es_pure ev_cint ⟨_, ro_mul (.inr ⟨by decide, by decide⟩), x, t, h1, h2, rfl, rfl⟩
    · rintro a os' ⟨x, t, h1, h2, rfl, rfl⟩
      exact es_pure ev_cint ⟨_, ro_sub, x, t, h1, h2, rfl, rfl⟩
  · rintro a os' ⟨x, t, h1, h2, rfl, rfl⟩
    refine es_op (Ra := fun a os => ∃ y t, 0 ≤ y ∧ y < 5 ∧ a = .int (y * 2) ∧ os = [(0, p, .lst (eSt t))]) (es_op (Ra := fun a os => ∃ y t, 0 ≤ y ∧ y < 5 ∧ a = .int y ∧ os = [(0, p, .lst (eSt t))]) (es_call (i := 0) (st := t) List.mem_cons_self (ea_cons (ev_var rfl) ea_nil) ⟨5, rfl, by decide, by decide⟩ ?_) ?_) ?_
    · rintro d t' ⟨many, r, e, h1, h2, rfl⟩
      cases e
      exact ⟨r, t', h1, h2, rfl, rfl⟩
    · rintro a os' ⟨y, t, g1, g2, rfl, rfl⟩
      exact es_pure ev_cint ⟨_, ro_mul (.inr ⟨by decide, by decide⟩), y, t, g1, g2, rfl, rfl⟩
    · rintro a os' ⟨y, t, g1, g2, rfl, rfl⟩
      exact es_pure ev_cint ⟨_, ro_sub, ⟨x, y, h1, h2, g1, g2, rfl⟩, t, by simp⟩

abbrev s__law_turn : Stmt := topS 36
theorem sc__law_turn : FnScope ["_law_a", "_law_b", "_law_c"] ["_law_a", "_law_b", "_law_c"] (defScope s__law_turn) := ⟨rfl, rfl, rfl, by decide +kernel, rfl, by decide +kernel, by decide +kernel⟩
theorem cal__law_turn (D : DefAt K mg "_law_turn" s__law_turn ["_law_a", "_law_b", "_law_c"]) : Cal P w K mg base 1 "_law_turn" (SpD spTurn) := by
  refine cal_at D sc__law_turn (fun dl d ⟨a, b, c, e, _⟩ => by rw [e]; rfl) fun f cdv A outer s H E hr => ⟨_, (pss_one (ps_ret (pe_op op_sub (pe_op op_mul (pe_op op_sub (pe_ix (kix_tup (K := K)) (pv 1) pe_int (fun _ _ => rfl)) (pe_ix (kix_tup (K := K)) (pv 0) pe_int (fun _ _ => rfl))) (pe_op op_sub (pe_ix (kix_tup (K := K)) (pv 2) pe_int (fun _ _ => rfl)) (pe_ix (kix_tup (K := K)) (pv 0) pe_int (fun _ _ => rfl)))) (pe_op op_mul (pe_op op_sub (pe_ix (kix_tup (K := K)) (pv 1) pe_int (fun _ _ => rfl)) (pe_ix (kix_tup (K := K)) (pv 0) pe_int (fun _ _ => rfl))) (pe_op op_sub (pe_ix (kix_tup (K := K)) (pv 2) pe_int (fun _ _ => rfl)) (pe_ix (kix_tup (K := K)) (pv 0) pe_int (fun _ _ => rfl))))))), ?_⟩
  rintro dl d ⟨a, b, c, rfl, ha, hb, hc, rfl⟩
  obtain ⟨a1, a2, a3, a4⟩ := ha
  obtain ⟨b1, b2, b3, b4⟩ := hb
  refine st_ret ?_ rfl
  unfold tur
  repeat' walk_at "kev"
  all_goals exact .inl (by omega)

abbrev s__law_on : Stmt := topS 37
theorem sc__law_on : FnScope ["_law_point", "_law_a", "_law_b"] ["_law_point", "_law_a", "_law_b"] (defScope s__law_on) := ⟨rfl, rfl, rfl, by decide +kernel, rfl, by decide +kernel, by decide +kernel⟩
theorem cal__law_on (D : DefAt K mg "_law_on" s__law_on ["_law_point", "_law_a", "_law_b"]) (B : Blt mg) (c__law_turn : Cal P w K mg base 1 "_law_turn" (SpD spTurn)) : Cal P w K mg base 2 "_law_on" (SpD spLies) := by
  refine cal_at D sc__law_on (fun dl d ⟨a, b, c, e, _⟩ => by rw [e]; rfl) fun f cdv A outer s H E hr => ⟨_, (pss_cons (ps_if (pt_cmpR op_ne (C8.pe_c c__law_turn hr (by decide) (by rfl) (pa_cons (pv 1) (pa_cons (pv 2) (pa_cons (pv 0) pa_nil)))) pe_int (nomark _)) (pss_one (ps_ret pe_bl)) pss_nil)
      (pss_cons (ps_if (pt_not (pt_chain op_le op_le (pe_callB (call_min2 rfl) (by rfl) B.min_ (by decide +kernel) (pa_cons (pe_ix (kix_tup (K := K)) (pv 1) pe_int (fun _ _ => rfl)) (pa_cons (pe_ix (kix_tup (K := K)) (pv 2) pe_int (fun _ _ => rfl)) pa_nil))) (pe_ix (kix_tup (K := K)) (pv 0) pe_int (fun _ _ => rfl)) (pe_callB (call_max2 rfl) (by rfl) B.max_ (by decide +kernel) (pa_cons (pe_ix (kix_tup (K := K)) (pv 1) pe_int (fun _ _ => rfl)) (pa_cons (pe_ix (kix_tup (K := K)) (pv 2) pe_int (fun _ _ => rfl)) pa_nil))))) (pss_one (ps_ret pe_bl)) pss_nil)
      (pss_one (ps_ret (pe_chain op_le op_le (pe_callB (call_min2 rfl) (by rfl) B.min_ (by decide +kernel) (pa_cons (pe_ix (kix_tup (K := K)) (pv 1) pe_int (fun _ _ => rfl)) (pa_cons (pe_ix (kix_tup (K := K)) (pv 2) pe_int (fun _ _ => rfl)) pa_nil))) (pe_ix (kix_tup (K := K)) (pv 0) pe_int (fun _ _ => rfl)) (pe_callB (call_max2 rfl) (by rfl) B.max_ (by decide +kernel) (pa_cons (pe_ix (kix_tup (K := K)) (pv 1) pe_int (fun _ _ => rfl)) (pa_cons (pe_ix (kix_tup (K := K)) (pv 2) pe_int (fun _ _ => rfl)) pa_nil)))))))), ?_⟩
  rintro dl d ⟨p, a, b, rfl, hp, ha, hb, rfl⟩
  refine st_seq (M := fun ds => ds = startD ["_law_point", "_law_a", "_law_b"] [eP p, eP a, eP b] ∧ tur a b p = 0) (st_if (eb_test (ev_op (ev_call (ea_cons (ev_var rfl) (ea_cons (ev_var rfl) (ea_cons (ev_var rfl) ea_nil))) ⟨a, b, p, rfl, ha, hb, hp, rfl⟩) ev_cint ro_ne)) (fun h => st_ret ev_cbl ?_) fun h => st_next ⟨rfl, dec_in h⟩) ?_
  · unfold onSeg
    have : ¬ tur a b p = 0 := by simpa using h
    rw [decide_eq_false this]
    rfl
  rintro ds ⟨rfl, ht⟩
  refine st_seq (M := fun ds => ds = startD ["_law_point", "_law_a", "_law_b"] [eP p, eP a, eP b] ∧ (decide (mn a.1 b.1 ≤ p.1) && decide (p.1 ≤ mx a.1 b.1)) = true) (st_if (b := !(decide (mn a.1 b.1 ≤ p.1) && decide (p.1 ≤ mx a.1 b.1))) (eb_not (eb_test ?_)) (fun h => st_ret ev_cbl ?_) fun h => st_next ⟨rfl, by simpa using h⟩) ?_
  · repeat' walk_at "kev"
  · unfold onSeg onB
    have : (decide (mn a.1 b.1 ≤ p.1) && decide (p.1 ≤ mx a.1 b.1)) = false := nt.mp h
    rw [this, Bool.false_and, Bool.and_false]
  rintro ds ⟨rfl, h2⟩
  refine st_ret ?_ rfl
  unfold onSeg onB
  rw [h2, decide_eq_true ht, Bool.true_and, Bool.true_and]
  repeat' walk_at "kev"

abbrev s__law_apart : Stmt := topS 38
theorem sc__law_apart : FnScope ["_law_first", "_law_second", "_law_a", "_law_b", "_law_c", "_law_d", "_law_sides", "_law_point"] ["_law_first", "_law_second"] (defScope s__law_apart) := ⟨rfl, rfl, rfl, by decide +kernel, rfl, by decide +kernel, by decide +kernel⟩
def spApart (dl : List PyData) (d : PyData) : Prop := ∃ s t : Sg, dl = [eS s, eS t] ∧ InRS s ∧ InRS t ∧ d = .bool (sepB s t)
theorem mul_bd {x y : Int} (h1 : -2000 ≤ x) (h2 : x ≤ 2000) (h3 : -2000 ≤ y) (h4 : y ≤ 2000) : -4000000 ≤ x * y ∧ x * y ≤ 4000000 := by
  have h := Int.natAbs_mul x y
  have : x.natAbs * y.natAbs ≤ 2000 * 2000 := Nat.mul_le_mul (by omega) (by omega)
  omega
theorem tur_bd {a b c : P2} (ha : InR a) (hb : InR b) (hc : InR c) : -8000000 ≤ tur a b c ∧ tur a b c ≤ 8000000 := by
  obtain ⟨a1, a2, a3, a4⟩ := ha
  obtain ⟨b1, b2, b3, b4⟩ := hb
  obtain ⟨c1, c2, c3, c4⟩ := hc
  have h1 := mul_bd (x := b.1 - a.1) (y := c.2 - a.2) (by omega) (by omega) (by omega) (by omega)
  have h2 := mul_bd (x := b.2 - a.2) (y := c.1 - a.1) (by omega) (by omega) (by omega) (by omega)
  unfold tur
  omega
theorem cal__law_apart (D : DefAt K mg "_law_apart" s__law_apart ["_law_first", "_law_second"]) (c__law_turn : Cal P w K mg base 1 "_law_turn" (SpD spTurn)) (c__law_on : Cal P w K mg base 2 "_law_on" (SpD spLies)) : Cal P w K mg base 3 "_law_apart" (SpD spApart) := by
  refine cal_at D sc__law_apart (fun dl d ⟨a, b, e, _⟩ => by rw [e]; rfl) fun f cdv A outer s H E hr => ⟨_, (pss_cons (ps_asg (pv 0) (pg_tup rfl (pgs_cons (pg_name (i := 2) sc__law_apart.nd rfl (by first | exact Or.inl rfl | exact Or.inr rfl)) (pgs_cons (pg_name (i := 3) sc__law_apart.nd rfl (by first | exact Or.inl rfl | exact Or.inr rfl)) pgs_nil))))
      (pss_cons (ps_asg (pv 1) (pg_tup rfl (pgs_cons (pg_name (i := 4) sc__law_apart.nd rfl (by first | exact Or.inl rfl | exact Or.inr rfl)) (pgs_cons (pg_name (i := 5) sc__law_apart.nd rfl (by first | exact Or.inl rfl | exact Or.inr rfl)) pgs_nil))))
      (pss_cons (ps_set (i := 6) sc__law_apart.nd rfl (by first | exact Or.inl rfl | exact Or.inr rfl) (pe_lst (pa_cons (C8.pe_c c__law_turn hr (by decide) (by rfl) (pa_cons (pv 2) (pa_cons (pv 3) (pa_cons (pv 4) pa_nil)))) (pa_cons (C8.pe_c c__law_turn hr (by decide) (by rfl) (pa_cons (pv 2) (pa_cons (pv 3) (pa_cons (pv 5) pa_nil)))) (pa_cons (C8.pe_c c__law_turn hr (by decide) (by rfl) (pa_cons (pv 4) (pa_cons (pv 5) (pa_cons (pv 2) pa_nil)))) (pa_cons (C8.pe_c c__law_turn hr (by decide) (by rfl) (pa_cons (pv 4) (pa_cons (pv 5) (pa_cons (pv 3) pa_nil)))) pa_nil))))))
      (pss_cons (ps_if (PW.pt (pw_and (pt_cmpR op_lt (pe_op op_mul (pe_ix (kix_list (K := K)) (pv 6) pe_int (fun _ _ => rfl)) (pe_ix (kix_list (K := K)) (pv 6) pe_int (fun _ _ => rfl))) pe_int (nomark _)) (pw_and1 (pt_cmpR op_lt (pe_op op_mul (pe_ix (kix_list (K := K)) (pv 6) pe_int (fun _ _ => rfl)) (pe_ix (kix_list (K := K)) (pv 6) pe_int (fun _ _ => rfl))) pe_int (nomark _))))) (pss_one (ps_ret pe_bl)) pss_nil)
      (pss_cons (ps_for PassesOwn.never rfl (kpi_list (K := K) (pe_lst (pa_cons (pv 4) (pa_cons (pv 5) pa_nil)))) (pg_name (i := 7) sc__law_apart.nd rfl (by first | exact Or.inl rfl | exact Or.inr rfl)) (pss_one (ps_if (PW.pt (pw_and (pt_cmpR (kop_notInT (K := K) (u65 hr)) (pv 7) (pv 0) (by with_unfolding_all rfl)) (pw_and1 (pt_val (C8.pe_c c__law_on hr (by decide) (by rfl) (pa_cons (pv 7) (pa_cons (pv 2) (pa_cons (pv 3) pa_nil)))))))) (pss_one (ps_ret pe_bl)) pss_nil)))
      (pss_cons (ps_for PassesOwn.never rfl (kpi_list (K := K) (pe_lst (pa_cons (pv 2) (pa_cons (pv 3) pa_nil)))) (pg_name (i := 7) sc__law_apart.nd rfl (by first | exact Or.inl rfl | exact Or.inr rfl)) (pss_one (ps_if (PW.pt (pw_and (pt_cmpR (kop_notInT (K := K) (u65 hr)) (pv 7) (pv 1) (by with_unfolding_all rfl)) (pw_and1 (pt_val (C8.pe_c c__law_on hr (by decide) (by rfl) (pa_cons (pv 7) (pa_cons (pv 4) (pa_cons (pv 5) pa_nil)))))))) (pss_one (ps_ret pe_bl)) pss_nil)))
      (pss_one (ps_ret pe_bl)))))))), ?_⟩
  rintro dl d ⟨⟨a, b⟩, ⟨c, e⟩, rfl, ⟨ha, hb⟩, ⟨hc, he⟩, rfl⟩
  simp only at ha hb hc he
  refine st_then (st_tgt (ev_var rfl) (tg_pair tg_name tg_name) rfl) ?_
  refine st_then (st_tgt (ev_var rfl) (tg_pair tg_name tg_name) rfl) ?_
  let SL : PyData := .list [.int (tur a b c), .int (tur a b e), .int (tur c e a), .int (tur c e b)]
  let DS : Option PyData → DE := fun x => [some (eS (a, b)), some (eS (c, e)), some (eP a), some (eP b), some (eP c), some (eP e), some SL, x]
  refine st_then (ds2 := DS none) (st_asg (ev_lst (ea_cons (ev_call (ea_cons (ev_var rfl) (ea_cons (ev_var rfl) (ea_cons (ev_var rfl) ea_nil))) ⟨a, b, c, rfl, ha, hb, hc, rfl⟩) (ea_cons (ev_call (ea_cons (ev_var rfl) (ea_cons (ev_var rfl) (ea_cons (ev_var rfl) ea_nil))) ⟨a, b, e, rfl, ha, hb, he, rfl⟩)
    (ea_cons (ev_call (ea_cons (ev_var rfl) (ea_cons (ev_var rfl) (ea_cons (ev_var rfl) ea_nil))) ⟨c, e, a, rfl, hc, he, ha, rfl⟩) (ea_cons (ev_call (ea_cons (ev_var rfl) (ea_cons (ev_var rfl) (ea_cons (ev_var rfl) ea_nil))) ⟨c, e, b, rfl, hc, he, hb, rfl⟩) ea_nil)))) (by simp)) rfl) ?_
  have t1 := tur_bd ha hb hc
  have t2 := tur_bd hc he ha
  refine st_seq (M := fun ds => ds = DS none ∧ crs a b c e = false) (st_if (b := crs a b c e) (eb_is (eb_and (eb_test (ev_op (ev_op (ev_op (ev_var (d := SL) rfl) ev_cint (ro_ixL (d := .int (tur a b c)) rfl)) (ev_op (ev_var (d := SL) rfl) ev_cint (ro_ixL (d := .int (tur a b e)) rfl)) (ro_mul (.inl ⟨by omega, by omega⟩))) ev_cint ro_lt)) fun _ =>
    eb_test (ev_op (ev_op (ev_op (ev_var (d := SL) rfl) ev_cint (ro_ixL (d := .int (tur c e a)) rfl)) (ev_op (ev_var (d := SL) rfl) ev_cint (ro_ixL (d := .int (tur c e b)) rfl)) (ro_mul (.inl ⟨by omega, by omega⟩))) ev_cint ro_lt)) (by unfold crs; rw [opp_mul, opp_mul])) (fun h => st_ret ev_cbl ?_) fun h => st_next ⟨rfl, h⟩) ?_
  · unfold sepB
    rw [h]
    rfl
  rintro ds ⟨rfl, hcr⟩
  refine st_seq (M := fun ds => ∃ x, ds = DS x ∧ away (a, b) c = true ∧ away (a, b) e = true) (st_for (l := [eP c, eP e]) (it_list (ev_lst (ea_cons (ev_var rfl) (ea_cons (ev_var rfl) ea_nil)) (by simp))) (fun i ds => ∃ x, ds = DS x ∧ ∀ k q, k < i → [c, e][k]? = some q → away (a, b) q = true) ⟨none, rfl, fun _ _ z => absurd z (Nat.not_lt_zero _)⟩ ?_ ?_) ?_
  · rintro i d ds' hd ⟨x, rfl, hx⟩
    obtain ⟨q, hq, rfl⟩ : ∃ q, [c, e][i]? = some q ∧ eP q = d := by
      rw [show [eP c, eP e] = [c, e].map eP from rfl, List.getElem?_map, Option.map_eq_some_iff] at hd
      exact hd
    have hqr : InR q := by
      rcases List.mem_cons.mp (List.mem_of_getElem? hq) with z | z
      · rw [z]; exact hc
      · rw [List.mem_singleton.mp z]; exact he
    refine ⟨_, _, tg_name, st_if (b := !away (a, b) q) (eb_is (eb_and (eb_test (ev_op (ev_var rfl) (ev_var (d := eS (a, b)) rfl) ro_niPS)) fun _ => eb_B (ev_call (ea_cons (ev_var rfl) (ea_cons (ev_var rfl) (ea_cons (ev_var rfl) ea_nil))) ⟨q, a, b, rfl, hqr, ha, hb, rfl⟩)) (by unfold away; rw [Bool.not_not])) (fun h => st_ret ev_cbl ?_) fun h => st_next ⟨_, rfl, fun k r hk hr => ?_⟩⟩
    · have hn : away (a, b) q = false := by simpa using h
      cases hS : sepB (a, b) (c, e) with
      | false => rfl
      | true =>
        obtain ⟨_, ⟨z1, z2⟩, _⟩ := sepB_iff.mp hS
        rcases List.mem_cons.mp (List.mem_of_getElem? hq) with z | z
        · rw [z] at hn
          exact absurd (z1.symm.trans hn) (by decide)
        · rw [List.mem_singleton.mp z] at hn
          exact absurd (z2.symm.trans hn) (by decide)
    · by_cases hki : k < i
      · exact hx k r hki hr
      · have : k = i := by omega
        subst this
        rw [hq] at hr
        cases hr
        simpa using h
  · rintro ds' ⟨x, rfl, hx⟩
    exact ⟨x, rfl, hx 0 c (show 0 < 2 by decide) rfl, hx 1 e (show 1 < 2 by decide) rfl⟩
  rintro ds ⟨x, rfl, w1, w2⟩
  refine st_seq (M := fun ds => ∃ x, ds = DS x ∧ away (c, e) a = true ∧ away (c, e) b = true) (st_for (l := [eP a, eP b]) (it_list (ev_lst (ea_cons (ev_var rfl) (ea_cons (ev_var rfl) ea_nil)) (by simp))) (fun i ds => ∃ x, ds = DS x ∧ ∀ k q, k < i → [a, b][k]? = some q → away (c, e) q = true) ⟨x, rfl, fun _ _ z => absurd z (Nat.not_lt_zero _)⟩ ?_ ?_) ?_
  · rintro i d ds' hd ⟨x, rfl, hx⟩
    obtain ⟨q, hq, rfl⟩ : ∃ q, [a, b][i]? = some q ∧ eP q = d := by
      rw [show [eP a, eP b] = [a, b].map eP from rfl, List.getElem?_map, Option.map_eq_some_iff] at hd
      exact hd
    have hqr : InR q := by
      rcases List.mem_cons.mp (List.mem_of_getElem? hq) with z | z
      · rw [z]; exact ha
      · rw [List.mem_singleton.mp z]; exact hb
    refine ⟨_, _, tg_name, st_if (b := !away (c, e) q) (eb_is (eb_and (eb_test (ev_op (ev_var rfl) (ev_var (d := eS (c, e)) rfl) ro_niPS)) fun _ => eb_B (ev_call (ea_cons (ev_var rfl) (ea_cons (ev_var rfl) (ea_cons (ev_var rfl) ea_nil))) ⟨q, c, e, rfl, hqr, hc, he, rfl⟩)) (by unfold away; rw [Bool.not_not])) (fun h => st_ret ev_cbl ?_) fun h => st_next ⟨_, rfl, fun k r hk hr => ?_⟩⟩
    · have hn : away (c, e) q = false := by simpa using h
      cases hS : sepB (a, b) (c, e) with
      | false => rfl
      | true =>
        obtain ⟨_, _, ⟨z1, z2⟩⟩ := sepB_iff.mp hS
        rcases List.mem_cons.mp (List.mem_of_getElem? hq) with z | z
        · rw [z] at hn
          exact absurd (z1.symm.trans hn) (by decide)
        · rw [List.mem_singleton.mp z] at hn
          exact absurd (z2.symm.trans hn) (by decide)
    · by_cases hki : k < i
      · exact hx k r hki hr
      · have : k = i := by omega
        subst this
        rw [hq] at hr
        cases hr
        simpa using h
  · rintro ds' ⟨x, rfl, hx⟩
    exact ⟨x, rfl, hx 0 a (show 0 < 2 by decide) rfl, hx 1 b (show 1 < 2 by decide) rfl⟩
  rintro ds ⟨x, rfl, w3, w4⟩
  refine st_ret ev_cbl ?_
  rw [sepB_iff.mpr ⟨hcr, ⟨w1, w2⟩, ⟨w3, w4⟩⟩]
end
end K29
namespace K29
open PySem PySem.Spec PyProof.Rows L2

local macro_rules | `(tactic| walk_at "kev") => `(tactic| first
  | exact ev_cint
  | exact ev_cbl
  | exact ev_cnon
  | exact ev_var rfl
  | apply ev_fst
  | apply ev_snd
  | apply ev_op (hr := ro_sub)
  | apply ev_op (hr := ro_add)
  | apply ev_op (hr := ro_lt)
  | apply ev_op (hr := ro_gt)
  | apply ev_op (hr := ro_le)
  | apply ev_op (hr := ro_ge)
  | apply ev_op (hr := ro_eq)
  | apply ev_op (hr := ro_ne)
  | apply ev_neg
  | apply ev_chain (h1 := ro_le) (h2 := ro_le)
  | (refine ev_and ?_ (fun _ => ?_))
  | (refine ev_or ?_ (fun _ => ?_))
  | apply ev_not
  | apply ev_pair
  | apply ev_call
  | exact ea_nil
  | apply ea_cons
  | apply ev_cb (hr := rc_min2)
  | apply ev_cb (hr := rc_max2)
  | apply ev_cb (hr := rc_lenL)
  | apply ev_cb (hr := rc_lenT)
  | apply ev_cb (hr := rc_intB)
  | apply ev_cb (hr := rc_intI)
  | apply eb_test
  | apply eb_B
  | apply eb_not
  | (apply ev_op (hr := ro_mul ?_)))

section
variable {P : Program} {w : World} {K : PySem.W.Frag} {mg : Str → Option Value} {base : Heap}

abbrev s__law_is_integer : Stmt := topS 34
theorem sc__law_is_integer : FnScope ["_law_actual"] ["_law_actual"] (defScope s__law_is_integer) := ⟨rfl, rfl, rfl, by decide +kernel, rfl, by decide +kernel, by decide +kernel⟩
def spIsInt (dl : List PyData) (d : PyData) : Prop := ∃ x : Int, dl = [.int x] ∧ d = .bool true
theorem cal__law_is_integer (D : DefAt K mg "_law_is_integer" s__law_is_integer ["_law_actual"]) (B : Blt mg) : Cal P w K mg base 1 "_law_is_integer" (SpD spIsInt) := by
  refine cal_at D sc__law_is_integer (fun dl d ⟨a, h, _⟩ => by rw [h]; rfl) fun f cdv A outer s H E hr => ⟨_, (pss_one (ps_ret (pe_and (pe_callB (kcall_isi (K := K)) (by rfl) B.isinstance_ (by decide +kernel) (pa_cons (pv 0) (pa_cons (pe_bltn (v := .ty "int") (by rfl) B.int_ (by decide +kernel) rfl) pa_nil))) (pe_one (pe_not (pe_callB (kcall_isi (K := K)) (by rfl) B.isinstance_ (by decide +kernel) (pa_cons (pv 0) (pa_cons (pe_bltn (v := .ty "bool") (by rfl) B.bool_ (by decide +kernel) rfl) pa_nil)))))))), ?_⟩
  rintro dl d ⟨x, rfl, rfl⟩
  exact st_ret (ev_is (ev_and (ev_isi (ev_var rfl) (.int x) (b := true) (by decide +kernel)) fun _ => ev_not (ev_isi (ev_var rfl) (.int x) (b := false) (by decide +kernel))) rfl) rfl

abbrev s__law_equal : Stmt := topS 35
theorem sc__law_equal : FnScope ["_law_actual", "_law_due", "_law_at"] ["_law_actual", "_law_due"] (defScope s__law_equal) := ⟨rfl, rfl, rfl, by decide +kernel, rfl, by decide +kernel, by decide +kernel⟩
def spEqI (dl : List PyData) (d : PyData) : Prop := ∃ x y : Int, dl = [.int x, .int y] ∧ d = .bool (decide (x = y))
def spEqL (dl : List PyData) (d : PyData) : Prop := ∃ l m : List Int, dl = [.list (l.map eI), .list (m.map eI)] ∧ l.length ≤ 1000 ∧ m.length ≤ 1000 ∧ d = .bool (decide (l = m))
abbrev rIsN0 : R2 := fun x y H Q => y = .non ∧ Q (.bl (decide (x = .non))) H
theorem Da.nonE {G : Hp} {v : V} (h : Da G v .none) : v = .non := by cases h; rfl
theorem ro_isI {i : Int} : RoD rIsN0 (.int i) .none (.bool false) := fun G H x y s h1 h2 Q q => by
  rw [h1.intE]
  exact ⟨h2.nonE, q _ G H (.refl s) (.bl _)⟩
theorem ro_isL {l : List PyData} : RoD rIsN0 (.list l) .none (.bool false) := fun G H x y s h1 h2 Q q => by
  obtain ⟨a, vs, rfl, _⟩ := h1.lstE
  exact ⟨h2.nonE, q _ G H (.refl s) (.bl _)⟩
theorem cal__law_equalI (D : DefAt K mg "_law_equal" s__law_equal ["_law_actual", "_law_due"]) (B : Blt mg) (c__law_is_integer : Cal P w K mg base 1 "_law_is_integer" (SpD spIsInt)) : Cal P w K mg base 2 "_law_equal" (SpD spEqI) := by
  refine cal_at D sc__law_equal (fun dl d ⟨a, b, h, _⟩ => by rw [h]; rfl) fun f cdv A outer s H E hr => ⟨_, (pss_cons (ps_if (pt_cmpR op_isN (pv 1) pe_non (nomark _)) (pss_one ps_never) pss_nil) (pss_cons (ps_if (pt_val (pe_callB (kcall_isi (K := K)) (by rfl) B.isinstance_ (by decide +kernel) (pa_cons (pv 1) (pa_cons (pe_bltn (v := .ty "bool") (by rfl) B.bool_ (by decide +kernel) rfl) pa_nil)))) (pss_one ps_never) pss_nil) (pss_cons (ps_if (pt_val (pe_callB (kcall_isi (K := K)) (by rfl) B.isinstance_ (by decide +kernel) (pa_cons (pv 1) (pa_cons (pe_bltn (v := .ty "int") (by rfl) B.int_ (by decide +kernel) rfl) pa_nil)))) (pss_one (ps_ret (pe_and (C8.pe_c c__law_is_integer hr (by decide) (by rfl) (pa_cons (pv 0) pa_nil)) (pe_one (pe_cmpR op_eq (pv 0) (pv 1) (nomark _)))))) pss_nil) (pss_cons ps_never (pss_cons ps_never (pss_cons ps_never (pss_cons ps_never (pss_one ps_never)))))))), ?_⟩
  rintro dl d ⟨x, y, rfl, rfl⟩
  refine st_then (st_ifF (eb_test (ev_op (ev_var rfl) ev_cnon ro_isI)) (st_next rfl)) ?_
  refine st_then (st_ifF (eb_B (ev_isi (ev_var rfl) (.int y) (b := false) (by decide +kernel))) (st_next rfl)) ?_
  refine st_seq (M := fun _ => False) (st_ifT (eb_B (ev_isi (ev_var rfl) (.int y) (b := true) (by decide +kernel))) (st_ret (ev_is (ev_and (ev_call (ea_cons (ev_var rfl) ea_nil) ⟨x, rfl, rfl⟩) fun _ => ev_op (ev_var rfl) (ev_var rfl) ro_eq) (by rw [Bool.true_and])) rfl)) fun _ z => z.elim
theorem eq_all {l m : List Int} (h : l.length = m.length) : ((List.range m.length).all fun k => decide (l.getD k 0 = m.getD k 0)) = decide (l = m) := by
  by_cases e : l = m
  · subst e
    simp
  · rw [decide_eq_false e]
    cases hq : (List.range m.length).all fun k => decide (l.getD k 0 = m.getD k 0) with
    | false => rfl
    | true =>
      exfalso
      rw [List.all_eq_true] at hq
      refine e (List.ext_getElem h fun k h1 h2 => ?_)
      have := of_decide_eq_true (hq k (List.mem_range.mpr h2))
      rwa [List.getD_eq_getElem?_getD, List.getD_eq_getElem?_getD, List.getElem?_eq_getElem h1, List.getElem?_eq_getElem h2] at this
theorem getI {l : List Int} {k : Nat} (h : k < l.length) : l[k]? = some (l.getD k 0) := by
  rw [List.getD_eq_getElem?_getD, List.getElem?_eq_getElem h]
  rfl
theorem cal__law_equalL (D : DefAt K mg "_law_equal" s__law_equal ["_law_actual", "_law_due"]) (B : Blt mg) (c__law_equal : Cal P w K mg base 2 "_law_equal" (SpD spEqI)) : Cal P w K mg base 3 "_law_equal" (SpD spEqL) := by
  refine cal_at D sc__law_equal (fun dl d ⟨a, b, h, _⟩ => by rw [h]; rfl) fun f cdv A outer s H E hr => ⟨_, (pss_cons (ps_if (pt_cmpR op_isN (pv 1) pe_non (nomark _)) (pss_one ps_never) pss_nil) (pss_cons (ps_if (pt_val (pe_callB (kcall_isi (K := K)) (by rfl) B.isinstance_ (by decide +kernel) (pa_cons (pv 1) (pa_cons (pe_bltn (v := .ty "bool") (by rfl) B.bool_ (by decide +kernel) rfl) pa_nil)))) (pss_one ps_never) pss_nil) (pss_cons (ps_if (pt_val (pe_callB (kcall_isi (K := K)) (by rfl) B.isinstance_ (by decide +kernel) (pa_cons (pv 1) (pa_cons (pe_bltn (v := .ty "int") (by rfl) B.int_ (by decide +kernel) rfl) pa_nil)))) (pss_one ps_never) pss_nil) (pss_cons (ps_if (pt_val (pe_callB (kcall_isi (K := K)) (by rfl) B.isinstance_ (by decide +kernel) (pa_cons (pv 1) (pa_cons (pe_bltn (v := .ty "str") (by rfl) B.str_ (by decide +kernel) rfl) pa_nil)))) (pss_one ps_never) pss_nil) (pss_cons (ps_if (PW.pt (pw_and (pt_val (pe_callB (kcall_isi (K := K)) (by rfl) B.isinstance_ (by decide +kernel) (pa_cons (pv 1) (pa_cons (pe_bltn (v := .ty "tuple") (by rfl) B.tuple_ (by decide +kernel) rfl) pa_nil)))) (pw_and1 (pt_not (pt_val (pe_callB (kcall_isi (K := K)) (by rfl) B.isinstance_ (by decide +kernel) (pa_cons (pv 0) (pa_cons (pe_bltn (v := .ty "tuple") (by rfl) B.tuple_ (by decide +kernel) rfl) pa_nil)))))))) (pss_one ps_never) pss_nil) (pss_cons (ps_if (PW.pt (pw_and (pt_val (pe_callB (kcall_isi (K := K)) (by rfl) B.isinstance_ (by decide +kernel) (pa_cons (pv 1) (pa_cons (pe_bltn (v := .ty "list") (by rfl) B.list_ (by decide +kernel) rfl) pa_nil)))) (pw_and1 (pt_not (pt_val (pe_callB (kcall_isi (K := K)) (by rfl) B.isinstance_ (by decide +kernel) (pa_cons (pv 0) (pa_cons (pe_bltn (v := .ty "list") (by rfl) B.list_ (by decide +kernel) rfl) pa_nil)))))))) (pss_one ps_never) pss_nil) (pss_cons (ps_if (pt_cmpR op_ne (pe_callB (kcall_len (K := K)) (by rfl) B.len_ (by decide +kernel) (pa_cons (pv 0) pa_nil)) (pe_callB (kcall_len (K := K)) (by rfl) B.len_ (by decide +kernel) (pa_cons (pv 1) pa_nil)) (nomark _)) (pss_one (ps_ret pe_bl)) pss_nil) (pss_one (ps_ret (pe_callB (kcr_all (K := K) rfl) (by rfl) B.all_ (by decide +kernel) (pa_cons (pe_lc (own := [("_law_at", 2)]) (g := (gName 2)) (tt := tYes) rfl sc__law_equal.nd (pi_range1 (by rfl) B.range_ (pa_cons (pe_callB (kcall_len (K := K)) (by rfl) B.len_ (by decide +kernel) (pa_cons (pv 1) pa_nil)) pa_nil)) (blkOk_by (own := [("_law_at", 2)]) (N := ["_law_actual", "_law_due", "_law_at"]) (sc := defScope s__law_equal) (by decide +kernel)) (fun _ _ _ _ _ => (pg_name (i := 2) sc__law_equal.nd rfl (by first | exact Or.inl rfl | exact Or.inr rfl))) (fun _ _ _ _ _ => pts_nil) (fun _ _ _ _ _ => (C8.pe_c c__law_equal hr (by decide) (by rfl) (pa_cons (pe_ix (kix_list (K := K)) (pv 0) (pv 2) (fun _ _ => rfl)) (pa_cons (pe_ix (kix_list (K := K)) (pv 1) (pv 2) (fun _ _ => rfl)) pa_nil))))) pa_nil))))))))))), ?_⟩
  rintro dl d ⟨l, m, rfl, hl, hm, rfl⟩
  refine st_then (st_ifF (eb_test (ev_op (ev_var rfl) ev_cnon ro_isL)) (st_next rfl)) ?_
  refine st_then (st_ifF (eb_B (ev_isi (ev_var rfl) (.lst _) (b := false) (by decide +kernel))) (st_next rfl)) ?_
  refine st_then (st_ifF (eb_B (ev_isi (ev_var rfl) (.lst _) (b := false) (by decide +kernel))) (st_next rfl)) ?_
  refine st_then (st_ifF (eb_B (ev_isi (ev_var rfl) (.lst _) (b := false) (by decide +kernel))) (st_next rfl)) ?_
  refine st_then (st_ifF (eb_is (eb_and (eb_B (ev_isi (ev_var (d := .list (m.map eI)) rfl) (.lst _) (b := false) (by decide +kernel))) fun _ => eb_not (eb_B (ev_isi (ev_var (d := .list (l.map eI)) rfl) (.lst _) (b := false) (by decide +kernel)))) rfl) (st_next rfl)) ?_
  refine st_then (st_ifF (eb_is (eb_and (eb_B (ev_isi (ev_var (d := .list (m.map eI)) rfl) (.lst _) (b := true) (by decide +kernel))) fun _ => eb_not (eb_B (ev_isi (ev_var (d := .list (l.map eI)) rfl) (.lst _) (b := true) (by decide +kernel)))) rfl) (st_next rfl)) ?_
  have dn : ∀ {a b : Nat}, (!decide ((a : Int) = (b : Int))) = true → a ≠ b := fun h e => by
    subst e
    simp at h
  refine st_seq (M := fun ds => ds = [some (.list (l.map eI)), some (.list (m.map eI)), none] ∧ l.length = m.length) (st_if (eb_test (ev_op (ev_cb (ea_cons (ev_var (d := .list (l.map eI)) rfl) ea_nil) rc_lenL) (ev_cb (ea_cons (ev_var (d := .list (m.map eI)) rfl) ea_nil) rc_lenL) ro_ne)) (fun h => st_ret ev_cbl ?_) fun h => st_next ⟨rfl, ?_⟩) ?_
  · have := dn h
    rw [List.length_map, List.length_map] at this
    rw [decide_eq_false fun z => this (by rw [z])]
  · have := dec_in h
    rw [List.length_map, List.length_map] at this
    omega
  rintro ds ⟨rfl, hlen⟩
  refine st_ret (ev_is (ev_allM (l := List.range m.length) (f := fun k => decide (l.getD k 0 = m.getD k 0)) (ev_lcA (List.range m.length) (fun k : Nat => eI (k : Int)) _ (it_is (it_range (n := m.length) (ea_cons (ev_is (ev_cb (ea_cons (ev_var rfl) ea_nil) rc_lenL) (by rw [List.length_map])) ea_nil) (by omega)) (rangeD_map _)) (by rw [List.length_range]; omega) fun k hk => ⟨[2], _, tg_name, by simp, ?_⟩)) ?_) rfl
  · have hk2 := List.mem_range.mp hk
    exact ev_call (ea_cons (ev_op (ev_var rfl) (ev_var rfl) (ro_ixL (atG_map (e := eI) (getI (by omega))))) (ea_cons (ev_op (ev_var rfl) (ev_var rfl) (ro_ixL (atG_map (e := eI) (getI hk2)))) ea_nil)) ⟨_, _, rfl, rfl⟩
  · rw [eq_all hlen]

abbrev s__law_around : Stmt := topS 40
theorem sc__law_around : FnScope ["_law_points", "_law_k"] ["_law_points"] (defScope s__law_around) := ⟨rfl, rfl, rfl, by decide +kernel, rfl, by decide +kernel, by decide +kernel⟩
def segsAround (l : List P2) : List Sg := (List.range l.length).map fun k => (mnP (l.getD (prvI l.length k) (0, 0)) (l.getD k (0, 0)), mxP (l.getD (prvI l.length k) (0, 0)) (l.getD k (0, 0)))
def spSegsAround (dl : List PyData) (d : PyData) : Prop := ∃ l : List P2, dl = [.list (l.map eP)] ∧ l.length ≤ 1000 ∧ d = .list ((segsAround l).map eS)
theorem getP {l : List P2} {k : Nat} (h : k < l.length) : l[k]? = some (l.getD k (0, 0)) := by
  rw [List.getD_eq_getElem?_getD, List.getElem?_eq_getElem h]
  rfl
theorem atG_back {α : Type} {l : List α} {e : α → PyData} {k : Nat} {x : α} (hk : k < l.length) (h : l[prvI l.length k]? = some x) : atG (l.map e) ((k : Int) - 1) = some (e x) := by
  rw [ix_back (by rw [List.length_map]; exact hk), List.length_map, List.getElem?_map, h]
  rfl
theorem cal__law_around (D : DefAt K mg "_law_around" s__law_around ["_law_points"]) (B : Blt mg) : Cal P w K mg base 1 "_law_around" (SpD spSegsAround) := by
  refine cal_at D sc__law_around (fun dl d ⟨a, h, _⟩ => by rw [h]; rfl) fun f cdv A outer s H E hr => ⟨_, (pss_one (ps_ret (pe_lc (own := [("_law_k", 1)]) (g := (gName 1)) (tt := tYes) rfl sc__law_around.nd (pi_range1 (by rfl) B.range_ (pa_cons (pe_callB (kcall_len (K := K)) (by rfl) B.len_ (by decide +kernel) (pa_cons (pv 0) pa_nil)) pa_nil)) (blkOk_by (own := [("_law_k", 1)]) (N := ["_law_points", "_law_k"]) (sc := defScope s__law_around) (by decide +kernel)) (fun _ _ _ _ _ => (pg_name (i := 1) sc__law_around.nd rfl (by first | exact Or.inl rfl | exact Or.inr rfl))) (fun _ _ _ _ _ => pts_nil) (fun _ _ _ _ _ => (pe_tup (pa_cons (pe_callB (call_minP rfl (u65 hr)) (by rfl) B.min_ (by decide +kernel) (pa_cons (pe_ix (kix_list (K := K)) (pv 0) (pe_op op_sub (pv 1) pe_int) (fun _ _ => rfl)) (pa_cons (pe_ix (kix_list (K := K)) (pv 0) (pv 1) (fun _ _ => rfl)) pa_nil))) (pa_cons (pe_callB (call_maxP rfl (u65 hr)) (by rfl) B.max_ (by decide +kernel) (pa_cons (pe_ix (kix_list (K := K)) (pv 0) (pe_op op_sub (pv 1) pe_int) (fun _ _ => rfl)) (pa_cons (pe_ix (kix_list (K := K)) (pv 0) (pv 1) (fun _ _ => rfl)) pa_nil))) pa_nil))))))), ?_⟩
  rintro dl d ⟨l, rfl, hl, rfl⟩
  refine st_ret (ev_is (ev_lcA (List.range l.length) (fun k : Nat => eI (k : Int)) (fun k => eS (mnP (l.getD (prvI l.length k) (0, 0)) (l.getD k (0, 0)), mxP (l.getD (prvI l.length k) (0, 0)) (l.getD k (0, 0)))) (it_is (it_range (n := l.length) (ea_cons (ev_is (ev_cb (ea_cons (ev_var rfl) ea_nil) rc_lenL) (by rw [List.length_map])) ea_nil) (by omega)) (rangeD_map _)) (by rw [List.length_range]; omega) fun k hk => ⟨[1], _, tg_name, by simp, ?_⟩) ?_) rfl
  · have hk2 := List.mem_range.mp hk
    have b1 : atG (l.map eP) ((k : Int) - 1) = _ := atG_back hk2 (getP (prvI_lt hk2))
    have b2 : atG (l.map eP) (k : Int) = _ := atG_map (e := eP) (getP hk2)
    exact ev_pair (ev_cb (ea_cons (ev_op (ev_var rfl) (ev_op (ev_var rfl) ev_cint ro_sub) (ro_ixL b1)) (ea_cons (ev_op (ev_var rfl) (ev_var rfl) (ro_ixL b2)) ea_nil)) rc_minP) (ev_cb (ea_cons (ev_op (ev_var rfl) (ev_op (ev_var rfl) ev_cint ro_sub) (ro_ixL b1)) (ea_cons (ev_op (ev_var rfl) (ev_var rfl) (ro_ixL b2)) ea_nil)) rc_maxP)
  · unfold segsAround
    rw [List.map_map]
    rfl

abbrev s__law_halves : Stmt := topS 44
theorem sc__law_halves : FnScope ["_law_plane_here", "_law_i", "_law_j"] ["_law_plane_here"] (defScope s__law_halves) := ⟨rfl, rfl, rfl, by decide +kernel, rfl, by decide +kernel, by decide +kernel⟩
def spHalves (dl : List PyData) (d : PyData) : Prop := ∃ pts eds : List P2, dl = [ePl pts eds] ∧ eds.length ≤ 1000 ∧ d = .list ((halvesOf eds).map eP)
theorem cal__law_halves (D : DefAt K mg "_law_halves" s__law_halves ["_law_plane_here"]) (B : Blt mg) : Cal P w K mg base 1 "_law_halves" (SpD spHalves) := by
  refine cal_at D sc__law_halves (fun dl d ⟨a, b, h, _⟩ => by rw [h]; rfl) fun f cdv A outer s H E hr => ⟨_, (pss_one (ps_ret (pe_callB (kcall_sortP (K := K)) (by rfl) B.sorted_ (by decide +kernel) (pa_cons (pe_op op_cat (pe_callTy (kcall_lst (K := K)) (by rfl) B.list_ (by decide +kernel) (pa_cons (pe_ix (kix_tup (K := K)) (pv 0) pe_int (fun _ _ => rfl)) pa_nil)) (pe_lc (own := [("_law_i", 1), ("_law_j", 2)]) (g := (gTup K 2 (gCons (gName 1) (gCons (gName 2) gNil)))) (tt := tYes) rfl sc__law_halves.nd (kpi_tup (K := K) (pe_ix (kix_tup (K := K)) (pv 0) pe_int (fun _ _ => rfl))) (blkOk_by (own := [("_law_i", 1), ("_law_j", 2)]) (N := ["_law_plane_here", "_law_i", "_law_j"]) (sc := defScope s__law_halves) (by decide +kernel)) (fun _ _ _ _ _ => (pg_tup rfl (pgs_cons (pg_name (i := 1) sc__law_halves.nd rfl (by first | exact Or.inl rfl | exact Or.inr rfl)) (pgs_cons (pg_name (i := 2) sc__law_halves.nd rfl (by first | exact Or.inl rfl | exact Or.inr rfl)) pgs_nil)))) (fun _ _ _ _ _ => pts_nil) (fun _ _ _ _ _ => (pe_tup (pa_cons (pv 2) (pa_cons (pv 1) pa_nil)))))) pa_nil)))), ?_⟩
  rintro dl d ⟨pts, eds, rfl, hl, rfl⟩
  exact st_ret (ev_cb (ea_cons (ev_op (ev_cb (ea_cons (ev_snd (ev_var rfl)) ea_nil) rc_lstT) (ev_lcA eds eP (fun e => eP (swp e)) (it_tup (ev_snd (ev_var rfl))) (by omega) fun e he => ⟨[1, 2], _, tg_pair tg_name tg_name, by simp, ev_pair (ev_var rfl) (ev_var rfl)⟩)
    (ro_is (ro_cat (by rw [List.length_map, List.length_map]; omega)) (d' := .list ((eds ++ eds.map swp).map eP)) (by rw [List.map_append, List.map_map]; rfl))) ea_nil) rc_sortP) rfl

abbrev s__law_size : Stmt := topS 45
theorem sc__law_size : FnScope ["_law_plane_here", "_law_cycle", "_law_total", "_law_at", "_law_x", "_law_y", "_law_u", "_law_v"] ["_law_plane_here", "_law_cycle"] (defScope s__law_size) := ⟨rfl, rfl, rfl, by decide +kernel, rfl, by decide +kernel, by decide +kernel⟩
def lawTerm (pts : List P2) (ns : List Int) (k : Nat) : Int := (ptAt pts (ns.getD (prvI ns.length k) 0)).1 * (ptAt pts (ns.getD k 0)).2 - (ptAt pts (ns.getD (prvI ns.length k) 0)).2 * (ptAt pts (ns.getD k 0)).1
def lawTo (pts : List P2) (ns : List Int) (i : Nat) : Int := ((List.range i).map (lawTerm pts ns)).sum
theorem lawTo_succ (pts : List P2) (ns : List Int) (i : Nat) : lawTo pts ns (i + 1) = lawTo pts ns i + lawTerm pts ns i := by
  unfold lawTo
  rw [List.range_succ, List.map_append, List.sum_append]
  simp
def spLawSize (dl : List PyData) (d : PyData) : Prop := ∃ (pts eds : List P2) (ns : List Int), dl = [ePl pts eds, .tuple (ns.map eI)] ∧ (∀ p ∈ pts, InR p) ∧ ns.length ≤ 1000 ∧ (∀ i ∈ ns, 0 ≤ i ∧ i < (pts.length : Int)) ∧ d = .int (lawTo pts ns ns.length)
theorem cal__law_size (D : DefAt K mg "_law_size" s__law_size ["_law_plane_here", "_law_cycle"]) (B : Blt mg) : Cal P w K mg base 1 "_law_size" (SpD spLawSize) := by
  refine cal_at D sc__law_size (fun dl d ⟨a, b, c, h, _⟩ => by rw [h]; rfl) fun f cdv A outer s H E hr => ⟨_, (pss_cons (ps_set (i := 2) sc__law_size.nd rfl (by first | exact Or.inl rfl | exact Or.inr rfl) pe_int)
      (pss_cons (ps_for PassesOwn.never rfl (pi_range1 (by rfl) B.range_ (pa_cons (pe_callB (kcall_len (K := K)) (by rfl) B.len_ (by decide +kernel) (pa_cons (pv 1) pa_nil)) pa_nil)) (pg_name (i := 3) sc__law_size.nd rfl (by first | exact Or.inl rfl | exact Or.inr rfl)) (pss_cons (ps_asg (pe_ix (kix_tup (K := K)) (pe_ix (kix_tup (K := K)) (pv 0) pe_int (fun _ _ => rfl)) (pe_ix (kix_tup (K := K)) (pv 1) (pe_op op_sub (pv 3) pe_int) (fun _ _ => rfl)) (fun _ _ => rfl)) (pg_tup rfl (pgs_cons (pg_name (i := 4) sc__law_size.nd rfl (by first | exact Or.inl rfl | exact Or.inr rfl)) (pgs_cons (pg_name (i := 5) sc__law_size.nd rfl (by first | exact Or.inl rfl | exact Or.inr rfl)) pgs_nil))))
      (pss_cons (ps_asg (pe_ix (kix_tup (K := K)) (pe_ix (kix_tup (K := K)) (pv 0) pe_int (fun _ _ => rfl)) (pe_ix (kix_tup (K := K)) (pv 1) (pv 3) (fun _ _ => rfl)) (fun _ _ => rfl)) (pg_tup rfl (pgs_cons (pg_name (i := 6) sc__law_size.nd rfl (by first | exact Or.inl rfl | exact Or.inr rfl)) (pgs_cons (pg_name (i := 7) sc__law_size.nd rfl (by first | exact Or.inl rfl | exact Or.inr rfl)) pgs_nil))))
      (pss_one (ps_set (i := 2) sc__law_size.nd rfl (by first | exact Or.inl rfl | exact Or.inr rfl) (pe_op op_sub (pe_op op_add (pv 2) (pe_op op_mul (pv 4) (pv 7))) (pe_op op_mul (pv 5) (pv 6))))))))
      (pss_one (ps_ret (pv 2))))), ?_⟩
  rintro dl d ⟨pts, eds, ns, rfl, hin, hl, hns, rfl⟩
  refine st_then (st_asg ev_cint rfl) ?_
  let I : Nat → DE → Prop := fun i ds => ∃ x3 x4 x5 x6 x7, ds = [some (ePl pts eds), some (.tuple (ns.map eI)), some (.int (lawTo pts ns i)), x3, x4, x5, x6, x7]
  refine st_seq (M := I ns.length) (st_for (l := (List.range ns.length).map fun k : Nat => eI (k : Int)) (it_is (it_range (n := ns.length) (ea_cons (ev_is (ev_cb (ea_cons (ev_var rfl) ea_nil) rc_lenT) (by rw [List.length_map])) ea_nil) (by omega)) (rangeD_map _)) I ⟨none, none, none, none, none, rfl⟩ ?_ fun ds' h => by rwa [List.length_map, List.length_range] at h) ?_
  · rintro i d ds' hd ⟨x3, x4, x5, x6, x7, rfl⟩
    have hi : i < ns.length := by
      have := (List.getElem?_eq_some_iff.mp hd).1
      rwa [List.length_map, List.length_range] at this
    rw [List.getElem?_map, List.getElem?_range hi] at hd
    obtain rfl := Option.some.inj hd
    have hj := prvI_lt hi
    have b1 : atG (ns.map eI) ((i : Int) - 1) = _ := atG_back hi (getI hj)
    have b2 : atG (ns.map eI) (i : Int) = _ := atG_map (e := eI) (getI hi)
    have m1 := hns _ (List.mem_of_getElem? (getI hj))
    have m2 := hns _ (List.mem_of_getElem? (getI hi))
    have ep : lawTerm pts ns i = (ptAt pts (ns.getD (prvI ns.length i) 0)).1 * (ptAt pts (ns.getD i 0)).2 - (ptAt pts (ns.getD (prvI ns.length i) 0)).2 * (ptAt pts (ns.getD i 0)).1 := rfl
    have c1 : atG (pts.map eP) (ns.getD (prvI ns.length i) 0) = _ := atG_pt m1.1 m1.2
    have c2 : atG (pts.map eP) (ns.getD i 0) = _ := atG_pt m2.1 m2.2
    obtain ⟨p1, p2, p3, p4⟩ := hin _ (ptAt_mem m1.1 m1.2)
    generalize ptAt pts (ns.getD (prvI ns.length i) 0) = p at *
    generalize ptAt pts (ns.getD i 0) = q at *
    refine ⟨_, _, tg_name, ?_⟩
    refine st_then (st_tgt (d := eP p) (ev_op (ev_fst (ev_var rfl)) (ev_op (ev_var rfl) (ev_op (ev_var rfl) ev_cint ro_sub) (ro_ixT b1)) (ro_ixT c1)) (tg_pair tg_name tg_name) rfl) ?_
    refine st_then (st_tgt (d := eP q) (ev_op (ev_fst (ev_var rfl)) (ev_op (ev_var rfl) (ev_var rfl) (ro_ixT b2)) (ro_ixT c2)) (tg_pair tg_name tg_name) rfl) ?_
    refine st_asg (ev_op (ev_op (ev_var rfl) (ev_op (ev_var rfl) (ev_var rfl) (ro_mul (.inl ⟨by omega, by omega⟩))) ro_add) (ev_op (ev_var rfl) (ev_var rfl) (ro_mul (.inl ⟨by omega, by omega⟩))) ro_sub) ?_
    refine ⟨some (.int (i : Nat)), some (.int p.1), some (.int p.2), some (.int q.1), some (.int q.2), ?_⟩
    rw [lawTo_succ, ep, ← Int.add_sub_assoc]
    rfl
  · rintro ds' ⟨x3, x4, x5, x6, x7, rfl⟩
    exact st_ret (ev_var rfl) rfl

abbrev s__law_stream : Stmt := topS 32
theorem sc__law_stream : FnScope ["_law_script"] ["_law_script"] (defScope s__law_stream) := ⟨rfl, rfl, rfl, by decide +kernel, rfl, by decide +kernel, by decide +kernel⟩
def spStream (K : PySem.W.Frag) : Sp := fun vs H Q _ => ∃ (a : Addr) (ns : List Int), vs = [.ref a] ∧ SqL K H a (ns.map V.int) ∧ ns.length ≤ 1000 ∧ ∀ q p, H q = none → H p = none → p ≠ q → Q (.ref p) (upd (upd H q (.lst (ns.map V.int))) p (.lst [.ref q, .int 0, .int 0]))
theorem cal__law_stream (D : DefAt K mg "_law_stream" s__law_stream ["_law_script"]) (B : Blt mg) : Cal P w K mg base 1 "_law_stream" (spStream K) := by
  refine cal_by D sc__law_stream (fun vs H Q E ⟨a, ns, h, _⟩ => by rw [h]; rfl) fun f cdv A outer s H vs Q E hr h => ?_
  obtain ⟨a, ns, rfl, hS, hl, q⟩ := h
  refine ⟨_, (pss_one (ps_ret (pe_lst (pa_cons (pe_callTy (kcall_lst (K := K)) (by rfl) B.list_ (by decide +kernel) (pa_cons (pv 0) pa_nil)) (pa_cons pe_int (pa_cons pe_int pa_nil)))))), ?_⟩
  refine ⟨.ref a, rfl, a, ns.map V.int, rfl, .inl hS, fun c hc => ⟨(show 3 ≤ sizeLine by decide), fun p hp => ?_⟩⟩
  have hpc : p ≠ c := fun z => by
    subst z
    rw [upd_same] at hp
    cases hp
  rw [upd_ne hpc] at hp
  exact q c p hc hp hpc
end
end K29
namespace K29
open PySem PySem.Spec PyProof.Rows L2

local macro_rules | `(tactic| walk_at "kev") => `(tactic| first
  | exact ev_cint
  | exact ev_cbl
  | exact ev_cnon
  | exact ev_var rfl
  | apply ev_fst
  | apply ev_snd
  | apply ev_op (hr := ro_sub)
  | apply ev_op (hr := ro_add)
  | apply ev_op (hr := ro_lt)
  | apply ev_op (hr := ro_gt)
  | apply ev_op (hr := ro_le)
  | apply ev_op (hr := ro_ge)
  | apply ev_op (hr := ro_eq)
  | apply ev_op (hr := ro_ne)
  | apply ev_neg
  | apply ev_chain (h1 := ro_le) (h2 := ro_le)
  | (refine ev_and ?_ (fun _ => ?_))
  | (refine ev_or ?_ (fun _ => ?_))
  | apply ev_not
  | apply ev_pair
  | apply ev_call
  | exact ea_nil
  | apply ea_cons
  | apply ev_cb (hr := rc_min2)
  | apply ev_cb (hr := rc_max2)
  | apply ev_cb (hr := rc_lenL)
  | apply ev_cb (hr := rc_lenT)
  | apply ev_cb (hr := rc_intB)
  | apply ev_cb (hr := rc_intI)
  | apply eb_test
  | apply eb_B
  | apply eb_not
  | (apply ev_op (hr := ro_mul ?_)))

/-! ### what is taken over as one's own -/
def del (G : Hp) (a : Addr) : Hp := fun b => if b = a then none else G b
def uni (G G1 : Hp) : Hp := fun b => match G b with
  | some o => some o
  | none => G1 b
section
variable {G G1 Gs H H' : Hp} {a p : Addr}
theorem del_ne {b : Addr} (h : b ≠ a) : del G a b = G b := if_neg h
theorem del_self : del G a a = none := if_pos rfl
theorem uni_some {b : Addr} {o : HO} (h : G b = some o) : uni G G1 b = some o := by
  unfold uni
  rw [h]
theorem uni_none {b : Addr} (h : G b = none) : uni G G1 b = G1 b := by
  unfold uni
  rw [h]
theorem grow_del (g : GrowO [p] Gs H G1 H') (h : Gs a = none) : GrowO [p] Gs H (del G1 a) H' :=
  ⟨fun b o e => by
    rw [del_ne fun z => by
      subst z
      rw [h] at e
      cases e]
    exact g.g b o e, fun b o e => by
    by_cases hb : b = a
    · subst hb
      rw [del_self] at e
      cases e
    · rw [del_ne hb] at e
      exact g.s b o e, g.h, g.k, fun b o e => by
    by_cases hb : b = a
    · subst hb
      rw [del_self] at e
      cases e
    · rw [del_ne hb] at e
      exact g.n b o e⟩
theorem grow_uni (s0 : Same Gs G) (s1 : Same G H) (hp : G p = none) (g : GrowO [p] Gs H G1 H') : GrowO [p] G H (uni G G1) H' ∧ Same G1 (uni G G1) :=
  ⟨⟨fun b o e => uni_some e, fun b o e => by
    cases hb : G b with
    | some o2 =>
      rw [uni_some hb] at e
      cases e
      exact g.h b o (fun z => by
        rw [List.mem_singleton.mp z, hp] at hb
        cases hb) (s1 b o hb)
    | none =>
      rw [uni_none hb] at e
      exact g.s b o e, g.h, g.k, fun b o e => by
    cases hb : G b with
    | some o2 =>
      rw [uni_some hb] at e
      cases e
      exact .inl rfl
    | none =>
      rw [uni_none hb] at e
      rcases g.n b o e with z | z
      · rw [s0 b o z] at hb
        cases hb
      · exact .inr z⟩, fun b o e => by
    cases hb : G b with
    | some o2 =>
      rw [uni_some hb]
      rcases g.n b o e with z | z
      · rw [s0 b o z] at hb
        cases hb
        rfl
      · rw [s1 b o2 hb] at z
        cases z
    | none =>
      rw [uni_none hb]
      exact e⟩
/-- pairs of points hold no lists -/
theorem da_del_P {v : V} {q : P2} {vs : List V} (h : Da G v (eP q)) (ha : G a = some (.lst vs)) : Da (del G a) v (eP q) := by
  obtain ⟨t, ws, rfl, ht, hd⟩ := h.tupE
  have ne : t ≠ a := fun z => by
    rw [z, ha] at ht
    cases ht
  obtain ⟨x, y, rfl, dx, dy⟩ := hd.twoE
  obtain rfl := dx.intE
  obtain rfl := dy.intE
  exact .tup (by rw [del_ne ne]; exact ht) (.cons (.int _) (.one (.int _)))
theorem da_del_S {v : V} {q : Sg} {vs : List V} (h : Da G v (eS q)) (ha : G a = some (.lst vs)) : Da (del G a) v (eS q) := by
  obtain ⟨t, ws, rfl, ht, hd⟩ := h.tupE
  have ne : t ≠ a := fun z => by
    rw [z, ha] at ht
    cases ht
  obtain ⟨x, y, rfl, dx, dy⟩ := hd.twoE
  exact .tup (by rw [del_ne ne]; exact ht) (.cons (da_del_P dx ha) (.one (da_del_P dy ha)))
theorem da_del_Ss {vs : List V} (ha : G a = some (.lst vs)) : ∀ {l : List Sg} {ws : List V}, DaAll G ws (l.map eS) → DaAll (del G a) ws (l.map eS)
  | [], _, h => by
    rw [h.nilE]
    exact .nil
  | s :: l, ws, h => by
    obtain ⟨v, us, rfl, h1, h2⟩ := h.consE
    exact .cons (da_del_S h1 ha) (da_del_Ss ha h2)
theorem da_del_St {ws vs : List V} {t : Strm} {l : List Sg} (ha : G a = some (.lst vs)) (hl : l ≠ []) (hd : DaAll G vs (l.map eS)) (h : DaAll G ws (eSt t)) : DaAll (del G a) ws (eSt t) := by
  obtain ⟨x, us, rfl, h1, h2⟩ := h.consE
  obtain ⟨y, z, rfl, h3, h4⟩ := h2.twoE
  obtain ⟨q, zs, rfl, hq, hz⟩ := h1.lstE
  obtain rfl := hz.ints
  have ne : q ≠ a := fun e => by
    rw [e, ha] at hq
    cases hq
    cases l with
    | nil => exact hl rfl
    | cons s l =>
      cases hs : t.s with
      | nil =>
        rw [hs] at hd
        obtain ⟨v, us, e2, _⟩ := hd.consE
        cases e2
      | cons n ns =>
        rw [hs] at hd
        obtain ⟨v, us, e2, h5, _⟩ := hd.consE
        cases e2
        obtain ⟨_, _, e3, _⟩ := h5.tupE
        cases e3
  obtain rfl := h3.intE
  obtain rfl := h4.intE
  exact .cons (.lst (by rw [del_ne ne]; exact hq) (daAll_ints _ _)) (.cons (.int _) (.one (.int _)))
end
/-! ### what the first edges may be -/
def sgA : List Sg := segsAround [(-3, -4), (3, -4), (3, 2), (-3, 2)]
def sgB : List Sg := segsAround [(-1, -2), (1, -2), (-1, 0)]
def sgC : List Sg := segsAround [(-3, -4), (-1, -4), (-3, -2)]
def sgD : List Sg := segsAround [(1, 0), (3, 0), (1, 2)]
def sgE : List Sg := segsAround [(1, -4), (3, -4), (3, -2)]
def sgF : List Sg := segsAround [(-3, -4), (3, -4), (3, -2), (-3, -2)]
def sgG : List Sg := [((-3, -2), (-3, 2)), ((-3, 2), (3, 2)), ((3, -2), (3, 2))]
def closedLists : List (List Sg) := [[], sgA ++ sgB, (sgC ++ sgD) ++ sgE, sgF ++ sgG]
theorem closed_good : ∀ l ∈ closedLists, GoodSg l ∧ l.length ≤ 9 := by
  have h : (closedLists.all fun l => goodB l && decide (l.length ≤ 9)) = true := by decide +kernel
  intro l hl
  have := List.all_eq_true.mp h l hl
  rw [Bool.and_eq_true] at this
  exact ⟨goodB_is this.1, of_decide_eq_true this.2⟩
theorem closed_get : ∀ (k : Nat) (h : k < 4), closedLists[k]? = some (closedLists.getD k []) ∧ (k ≠ 0 → closedLists.getD k [] ≠ []) := by decide +kernel
def spClosed : Sp := fun vs H Q _ => ∃ (G : Hp) (p : Addr) (t : Strm), vs = [.ref p] ∧ Same G H ∧ G p = none ∧ Own.ok G H p (.lst (eSt t)) ∧
  ∀ (l : List Sg) t' p2 G' H', l ∈ closedLists → GrowO [p] G H G' H' → G' p = none → Own.ok G' H' p (.lst (eSt t')) → H p2 = none → G' p2 = none → Own.ok G' H' p2 (.lst (l.map eS)) → Q (.ref p2) H'
section
variable {ds ds2 : DE} {os os2 : OE} {N : DE → OE → Prop} {R : PyData → OE → Prop}
theorem so_takeC {i j : Nat} {p : Addr} {st : Strm} {E : XK} (m : (i, p, Own.lst (eSt st)) ∈ os) (hj : j < ds.length) (hs : ∀ q ∈ os, q.1 ≠ j) (h : ∀ l t' p2, l ∈ closedLists → N (ds.set j none) ((j, p2, .lst (l.map eS)) :: setO os i (.lst (eSt t')))) :
    StO (tAsg (tCall spClosed [] E (tCons (tVar i) tNil)) (gName j)) ds os N R := fun C0 G0 H0 D G H σ b e a qn qr => by
  obtain ⟨h1, h2, h3, h4⟩ := a.is i p _ m
  refine ⟨.ref p, h1, G, p, st, rfl, b.s, h2, h3, fun l t' p2 G' H' hl gr n1 o1 f2 n2 o2 => ?_⟩
  have hl2 : j < σ.length := by
    have : σ.length = ds.length := by
      clear qn qr a hs h hj m h1
      induction e with
      | nil => rfl
      | no _ ih => rw [List.length_cons, List.length_cons, ih]
      | da _ _ ih => rw [List.length_cons, List.length_cons, ih]
    omega
  have a1 := a.call m gr n1 o1
  have f0 := b.fresh f2
  have hns : ∀ q ∈ setO os i (.lst (eSt t')), q.1 ≠ j ∧ q.2.1 ≠ p2 := fun q hq => by
    obtain ⟨k, r, u⟩ := q
    have : ∃ w, (k, r, w) ∈ os := by
      rcases mem_setO hq with ⟨rfl, rfl, w, mw⟩ | ⟨_, mq⟩
      · exact ⟨w, mw⟩
      · exact ⟨u, mq⟩
    obtain ⟨w, mw⟩ := this
    refine ⟨(show k ≠ j from hs (k, r, w) mw), fun z => ?_⟩
    obtain ⟨_, _, g3, _⟩ := a.is k r w mw
    obtain ⟨x, hx⟩ := g3.has
    simp only at z
    rw [z, f2] at hx
    cases hx
  have a2 : HasA C0 H0 G' H' (σ.set j (some (.ref p2))) (setO os i (.lst (eSt t'))) := a1.slots fun q hq => List.getElem?_set_ne fun z => (hns q hq).1 z.symm
  refine qn _ _ _ G' H' (h l t' p2 hl) gr.g (b.put' gr (h4.imp And.right id)) (unset_env j (e.same gr.g)) (a2.add (fun z => ?_) (fun q hq => (hns q hq).2) (List.getElem?_set_self hl2) n2 o2 (.inr f0))
  obtain ⟨x, hx⟩ := o2.has
  rw [z] at hx
  cases hx
theorem seqO {t u : TS} {C0 : List Addr} {G0 H0 G H : Hp} {D : Ends} {σ : L2.St} (h1 : StO t ds os (fun x y => x = ds2 ∧ y = os2) (fun _ _ => False)) (b : GrowO C0 G0 H0 G H) (e : Env G σ ds) (a : HasA C0 H0 G H σ os)
    (k : ∀ σ' G' H', GrowO C0 G0 H0 G' H' → Env G' σ' ds2 → HasA C0 H0 G' H' σ' os2 → u D σ' H') : tSeq t u D σ H :=
  h1 C0 G0 H0 { D with nx := u D } G H σ b e a (fun ds' os' σ' G' H' ⟨z1, z2⟩ _ b2 e2 a2 => k σ' G' H' b2 (z1 ▸ e2) (z2 ▸ a2)) fun _ _ _ _ _ _ z => z.elim
end
section
variable {P : Program} {w : World} {K : PySem.W.Frag} {mg : Str → Option Value} {base : Heap}
local macro_rules | `(tactic| walk_at "knum") => `(tactic| first
  | exact ev_cint
  | apply ev_neg
  | apply ev_pair
  | exact ea_nil
  | apply ea_cons)

abbrev s__law_closed : Stmt := topS 41
theorem sc__law_closed : FnScope ["_law_stream_here", "_law_square", "_law_corners", "_law_halves_here"] ["_law_stream_here"] (defScope s__law_closed) := ⟨rfl, rfl, rfl, by decide +kernel, rfl, by decide +kernel, by decide +kernel⟩
theorem ev_lst' {tl : TA} {ds : DE} {dl e : List PyData} (h : EvA tl ds dl) (hl : e.length ≤ 1000) (q : dl = e) : EvD (tLst tl) ds (.list e) := by
  subst q
  exact ev_lst h hl
theorem cat_sg {l m : List Sg} (h : l.length + m.length ≤ 100000) : RoD rCat (.list (l.map eS)) (.list (m.map eS)) (.list ((l ++ m).map eS)) := ro_is (ro_cat (by rw [List.length_map, List.length_map]; exact h)) (by rw [List.map_append])
theorem cal__law_closed (D : DefAt K mg "_law_closed" s__law_closed ["_law_stream_here"]) (c__law_next : Cal P w K mg base 1 "_law_next" (SpS preNext postNext)) (c__law_around : Cal P w K mg base 1 "_law_around" (SpD spSegsAround)) : Cal P w K mg base 2 "_law_closed" spClosed := by
  refine cal_by D sc__law_closed (fun vs H Q E ⟨G, p, t, h, _⟩ => by rw [h]; rfl) fun f cdv A outer s H vs Q E hr h => ?_
  obtain ⟨G, p, t0, rfl, sGH, hGp, hok, q⟩ := h
  refine ⟨_, (pss_cons (ps_set (i := 1) sc__law_closed.nd rfl (by first | exact Or.inl rfl | exact Or.inr rfl) (C8.pe_c c__law_around hr (by decide) (by rfl) (pa_cons (pe_lst (pa_cons (pe_tup (pa_cons (pe_un un_neg pe_int) (pa_cons (pe_un un_neg pe_int) pa_nil))) (pa_cons (pe_tup (pa_cons pe_int (pa_cons (pe_un un_neg pe_int) pa_nil))) (pa_cons (pe_tup (pa_cons pe_int (pa_cons pe_int pa_nil))) (pa_cons (pe_tup (pa_cons (pe_un un_neg pe_int) (pa_cons pe_int pa_nil))) pa_nil))))) pa_nil)))
      (pss_cons (ps_set (i := 2) sc__law_closed.nd rfl (by first | exact Or.inl rfl | exact Or.inr rfl) (pe_op op_cat (C8.pe_c c__law_around hr (by decide) (by rfl) (pa_cons (pe_lst (pa_cons (pe_tup (pa_cons (pe_un un_neg pe_int) (pa_cons (pe_un un_neg pe_int) pa_nil))) (pa_cons (pe_tup (pa_cons (pe_un un_neg pe_int) (pa_cons (pe_un un_neg pe_int) pa_nil))) (pa_cons (pe_tup (pa_cons (pe_un un_neg pe_int) (pa_cons (pe_un un_neg pe_int) pa_nil))) pa_nil)))) pa_nil)) (C8.pe_c c__law_around hr (by decide) (by rfl) (pa_cons (pe_lst (pa_cons (pe_tup (pa_cons pe_int (pa_cons pe_int pa_nil))) (pa_cons (pe_tup (pa_cons pe_int (pa_cons pe_int pa_nil))) (pa_cons (pe_tup (pa_cons pe_int (pa_cons pe_int pa_nil))) pa_nil)))) pa_nil))))
      (pss_cons (ps_set (i := 2) sc__law_closed.nd rfl (by first | exact Or.inl rfl | exact Or.inr rfl) (pe_op op_cat (pv 2) (C8.pe_c c__law_around hr (by decide) (by rfl) (pa_cons (pe_lst (pa_cons (pe_tup (pa_cons pe_int (pa_cons (pe_un un_neg pe_int) pa_nil))) (pa_cons (pe_tup (pa_cons pe_int (pa_cons (pe_un un_neg pe_int) pa_nil))) (pa_cons (pe_tup (pa_cons pe_int (pa_cons (pe_un un_neg pe_int) pa_nil))) pa_nil)))) pa_nil))))
      (pss_cons (ps_set (i := 3) sc__law_closed.nd rfl (by first | exact Or.inl rfl | exact Or.inr rfl) (pe_op op_cat (C8.pe_c c__law_around hr (by decide) (by rfl) (pa_cons (pe_lst (pa_cons (pe_tup (pa_cons (pe_un un_neg pe_int) (pa_cons (pe_un un_neg pe_int) pa_nil))) (pa_cons (pe_tup (pa_cons pe_int (pa_cons (pe_un un_neg pe_int) pa_nil))) (pa_cons (pe_tup (pa_cons pe_int (pa_cons (pe_un un_neg pe_int) pa_nil))) (pa_cons (pe_tup (pa_cons (pe_un un_neg pe_int) (pa_cons (pe_un un_neg pe_int) pa_nil))) pa_nil))))) pa_nil)) (pe_lst (pa_cons (pe_tup (pa_cons (pe_tup (pa_cons (pe_un un_neg pe_int) (pa_cons (pe_un un_neg pe_int) pa_nil))) (pa_cons (pe_tup (pa_cons (pe_un un_neg pe_int) (pa_cons pe_int pa_nil))) pa_nil))) (pa_cons (pe_tup (pa_cons (pe_tup (pa_cons (pe_un un_neg pe_int) (pa_cons pe_int pa_nil))) (pa_cons (pe_tup (pa_cons pe_int (pa_cons pe_int pa_nil))) pa_nil))) (pa_cons (pe_tup (pa_cons (pe_tup (pa_cons pe_int (pa_cons (pe_un un_neg pe_int) pa_nil))) (pa_cons (pe_tup (pa_cons pe_int (pa_cons pe_int pa_nil))) pa_nil))) pa_nil))))))
      (pss_one (ps_ret (pe_ix (kix_list (K := K)) (pe_lst (pa_cons (pe_lst pa_nil) (pa_cons (pe_op op_cat (pv 1) (C8.pe_c c__law_around hr (by decide) (by rfl) (pa_cons (pe_lst (pa_cons (pe_tup (pa_cons (pe_un un_neg pe_int) (pa_cons (pe_un un_neg pe_int) pa_nil))) (pa_cons (pe_tup (pa_cons pe_int (pa_cons (pe_un un_neg pe_int) pa_nil))) (pa_cons (pe_tup (pa_cons (pe_un un_neg pe_int) (pa_cons pe_int pa_nil))) pa_nil)))) pa_nil))) (pa_cons (pv 2) (pa_cons (pv 3) pa_nil))))) (C8.pe_c c__law_next hr (by decide) (by rfl) (pa_cons (pv 0) (pa_cons pe_int pa_nil))) (fun _ _ => rfl)))))))), ?_⟩
  -- the known part: the script alone
  obtain ⟨ws, hpw, hda⟩ := hok
  obtain ⟨x0, us0, rfl, hx0, hr0⟩ := hda.consE
  obtain ⟨qa, zs, rfl, hqa, hzs⟩ := hx0.lstE
  obtain rfl := hzs.ints
  let Gs : Hp := fun b => if b = qa then G qa else none
  have Gs_q : Gs qa = some (.lst (t0.s.map V.int)) := (if_pos rfl).trans hqa
  have Gs_n : ∀ b o, Gs b = some o → b = qa ∧ G b = some o := fun b o e => by
    by_cases hb : b = qa
    · subst hb
      exact ⟨rfl, (if_pos rfl : Gs b = G b).symm.trans e⟩
    · rw [show Gs b = none from if_neg hb] at e
      cases e
  have s0 : Same Gs G := fun b o e => (Gs_n b o e).2
  have Gs_p : Gs p = none := by
    cases e : Gs p with
    | none => rfl
    | some o =>
      rw [(Gs_n p o e).2] at hGp
      cases hGp
  have ok0 : Own.ok Gs H p (.lst (eSt t0)) := by
    obtain ⟨y, z, rfl, hy, hz⟩ := hr0.twoE
    obtain rfl := hy.intE
    obtain rfl := hz.intE
    exact ⟨_, hpw, .cons (.lst Gs_q (daAll_ints _ _)) (.cons (.int _) (.one (.int _)))⟩
  have b0 : GrowO [p] Gs H Gs H := .refl (s0.trans sGH)
  have e0 : Env Gs (L2.start ["_law_stream_here", "_law_square", "_law_corners", "_law_halves_here"] [.ref p]) [none, none, none, none] := .no (env_none Gs 3)
  have a0 : HasA [p] H Gs H (L2.start ["_law_stream_here", "_law_square", "_law_corners", "_law_halves_here"] [.ref p]) [(0, p, .lst (eSt t0))] := ⟨fun i q o m => by
    cases List.mem_singleton.mp m
    exact ⟨rfl, Gs_p, ok0, .inl ⟨rfl, by simp⟩⟩, fun i q o j r u m1 m2 hne => by
    cases List.mem_singleton.mp m1
    cases List.mem_singleton.mp m2
    exact absurd rfl hne⟩
  refine seqO (ds2 := [none, some (.list (sgA.map eS)), none, none]) (os2 := [(0, p, .lst (eSt t0))]) (so_asg (d := .list (sgA.map eS)) (vv (ev_call (ea_cons (ev_lst' (e := [(-3, -4), (3, -4), (3, 2), (-3, 2)].map eP) ?_ (by simp) rfl) ea_nil) ⟨_, rfl, by decide, rfl⟩)) (by simp) ⟨rfl, rfl⟩) b0 e0 a0 fun σ1 G1 H1 b1 e1 a1 => ?_
  · repeat' walk_at "knum"
  refine seqO (ds2 := [none, some (.list (sgA.map eS)), some (.list ((sgC ++ sgD).map eS)), none]) (os2 := [(0, p, .lst (eSt t0))]) (so_asg (d := .list ((sgC ++ sgD).map eS)) (vv (ev_op (a := .list (sgC.map eS)) (b := .list (sgD.map eS)) (ev_call (ea_cons (ev_lst' (e := [(-3, -4), (-1, -4), (-3, -2)].map eP) ?_ (by simp) rfl) ea_nil) ⟨_, rfl, by decide, rfl⟩) (ev_call (ea_cons (ev_lst' (e := [(1, 0), (3, 0), (1, 2)].map eP) ?_ (by simp) rfl) ea_nil) ⟨_, rfl, by decide, rfl⟩) (cat_sg (by decide)))) (by simp) ⟨rfl, rfl⟩) b1 e1 a1 fun σ2 G2 H2 b2 e2 a2 => ?_
  · repeat' walk_at "knum"
  · repeat' walk_at "knum"
  refine seqO (ds2 := [none, some (.list (sgA.map eS)), some (.list (((sgC ++ sgD) ++ sgE).map eS)), none]) (os2 := [(0, p, .lst (eSt t0))]) (so_asg (d := .list (((sgC ++ sgD) ++ sgE).map eS)) (vv (ev_op (a := .list ((sgC ++ sgD).map eS)) (b := .list (sgE.map eS)) (ev_var rfl) (ev_call (ea_cons (ev_lst' (e := [(1, -4), (3, -4), (3, -2)].map eP) ?_ (by simp) rfl) ea_nil) ⟨_, rfl, by decide, rfl⟩) (cat_sg (by decide)))) (by simp) ⟨rfl, rfl⟩) b2 e2 a2 fun σ3 G3 H3 b3 e3 a3 => ?_
  · repeat' walk_at "knum"
  refine seqO (ds2 := [none, some (.list (sgA.map eS)), some (.list (((sgC ++ sgD) ++ sgE).map eS)), some (.list ((sgF ++ sgG).map eS))]) (os2 := [(0, p, .lst (eSt t0))]) (so_asg (d := .list ((sgF ++ sgG).map eS)) (vv (ev_op (a := .list (sgF.map eS)) (b := .list (sgG.map eS)) (ev_call (ea_cons (ev_lst' (e := [(-3, -4), (3, -4), (3, -2), (-3, -2)].map eP) ?_ (by simp) rfl) ea_nil) ⟨_, rfl, by decide, rfl⟩) (ev_lst' (e := sgG.map eS) ?_ (show 3 ≤ 1000 by decide) rfl) (cat_sg (by decide)))) (by simp) ⟨rfl, rfl⟩) b3 e3 a3 fun σ4 G4 H4 b4 e4 a4 => ?_
  · repeat' walk_at "knum"
  · repeat' walk_at "knum"
  -- the last row
  refine ⟨Nat.zero_le _, fun p0 hp0 => ?_⟩
  have g5 : Same G4 (upd H4 p0 (.lst [])) := same_put b4.s (b4.s.free hp0)
  have n4 : G4 p0 = none := b4.s.free hp0
  have hpp : p0 ≠ p := fun z => by
    obtain ⟨_, _, o, _⟩ := a4.is 0 p _ List.mem_cons_self
    obtain ⟨x, hx⟩ := o.has
    rw [← z, hp0] at hx
    cases hx
  have f0 := b4.fresh hp0
  have b5 : GrowO [p] Gs H G4 (upd H4 p0 (.lst [])) := b4.put n4 (.inr f0)
  have a5 : HasA [p] H G4 (upd H4 p0 (.lst [])) σ4 [(0, p, .lst (eSt t0))] := ⟨fun i r o m => by
    obtain ⟨h1, h2, h3, h4⟩ := a4.is i r o m
    exact ⟨h1, h2, h3.grow (Same.refl _) (same_new hp0), h4⟩, a4.ne⟩
  have ev1 : EvA (tCons (tOp rCat (tVar 1) (tCall (SpD spSegsAround) [] C8.E0 (tCons (tLst (tCons (tTup (tCons (tUn (rU fun i => .int (-i)) (tC (.int 1))) (tCons (tUn (rU fun i => .int (-i)) (tC (.int 2))) tNil))) (tCons (tTup (tCons (tC (.int 1)) (tCons (tUn (rU fun i => .int (-i)) (tC (.int 2))) tNil))) (tCons (tTup (tCons (tUn (rU fun i => .int (-i)) (tC (.int 1))) (tCons (tC (.int 0)) tNil))) tNil)))) tNil))) (tCons (tVar 2) (tCons (tVar 3) tNil)))
      [none, some (.list (sgA.map eS)), some (.list (((sgC ++ sgD) ++ sgE).map eS)), some (.list ((sgF ++ sgG).map eS))] [.list ((sgA ++ sgB).map eS), .list (((sgC ++ sgD) ++ sgE).map eS), .list ((sgF ++ sgG).map eS)] := by
    refine ea_cons (ev_op (a := .list (sgA.map eS)) (b := .list (sgB.map eS)) (ev_var rfl) (ev_call (ea_cons (ev_lst' (e := [(-1, -2), (1, -2), (-1, 0)].map eP) ?_ (by simp) rfl) ea_nil) ⟨_, rfl, by decide, rfl⟩) (cat_sg (by decide))) (ea_cons (ev_var rfl) (ea_cons (ev_var rfl) ea_nil))
    repeat' walk_at "knum"
  refine ev1 G4 _ σ4 g5 e4 _ fun vs G6 H6 gr6 d6 => ?_
  refine ⟨?_, fun pl hpl => ?_⟩
  · show (V.ref p0 :: vs).length ≤ sizeLine
    rw [List.length_cons, d6.length]
    exact (show 4 ≤ sizeLine by decide)
  have b6 := b5.then gr6
  have a6 := a5.grow gr6
  have hp06 : H6 p0 = some (.lst []) := gr6.h _ _ upd_same
  have n6 : G6 p0 = none := gr6.out n4 upd_same
  have npl : pl ≠ p0 := fun z => by
    rw [z, hp06] at hpl
    cases hpl
  have nplp : pl ≠ p := fun z => by
    obtain ⟨_, _, o, _⟩ := a6.is 0 p _ List.mem_cons_self
    obtain ⟨x, hx⟩ := o.has
    rw [← z, hpl] at hx
    cases hx
  have b7 : GrowO [p] Gs H G6 (upd H6 pl (.lst (.ref p0 :: vs))) := b6.put (b6.s.free hpl) (.inr (b6.fresh hpl))
  have a7 : HasA [p] H G6 (upd H6 pl (.lst (.ref p0 :: vs))) σ4 [(0, p, .lst (eSt t0))] := ⟨fun i r o m => by
    obtain ⟨h1, h2, h3, h4⟩ := a6.is i r o m
    exact ⟨h1, h2, h3.grow (Same.refl _) (same_new hpl), h4⟩, a6.ne⟩
  obtain ⟨h1, h2, h3, h4⟩ := a7.is 0 p _ List.mem_cons_self
  refine ⟨.ref p, h1, G6, p, [.int 4], [.int 4], t0, rfl, b7.s, h2, h3, .one (.int 4), ⟨4, rfl, by decide, by decide⟩, ?_⟩
  rintro d t' v G8 H8 ⟨many, r, em, hr0', hr1, rfl⟩ gr8 n8 o8 dv
  cases em
  obtain rfl := dv.intE
  have b8 := b7.put' gr8 (.inl (by simp))
  have hpl8 : H8 pl = some (.lst (.ref p0 :: vs)) := gr8.h _ _ (by simpa using nplp) upd_same
  have hp08 : H8 p0 = some (.lst []) := gr8.h _ _ (by simpa using hpp) (by rw [upd_ne (Ne.symm npl)]; exact hp06)
  have n08 : G8 p0 = none := gr8.out n6 (by rw [upd_ne (Ne.symm npl)]; exact hp06)
  have d8 := d6.same gr8.g
  obtain ⟨k, rfl⟩ : ∃ k : Nat, r = (k : Int) := ⟨r.toNat, by omega⟩
  have hk : k < 4 := by omega
  obtain ⟨cg1, cg2⟩ := closed_get k hk
  have hin : closedLists.getD k [] ∈ closedLists := List.mem_of_getElem? cg1
  have dall : ∀ j, j < 3 → ∃ u, vs[j]? = some u ∧ Da G8 u (.list ((closedLists.getD (j + 1) []).map eS)) := fun j hj => by
    have : [PyData.list ((sgA ++ sgB).map eS), .list (((sgC ++ sgD) ++ sgE).map eS), .list ((sgF ++ sgG).map eS)][j]? = some (.list ((closedLists.getD (j + 1) []).map eS)) := by
      match j, hj with
      | 0, _ => rfl
      | 1, _ => rfl
      | 2, _ => rfl
    exact d8.get this
  cases k with
  | zero =>
    refine ⟨pl, _, ((0 : Nat) : Int), .ref p0, rfl, rfl, .of hpl8, atI_nat rfl, ?_⟩
    obtain ⟨gu, su⟩ := grow_uni s0 sGH hGp b8
    exact q [] t' p0 _ H8 List.mem_cons_self gu (by rw [uni_none hGp]; exact n8) (o8.grow su (Same.refl _)) f0 (by rw [uni_none (sGH.free f0)]; exact n08) ⟨[], hp08, .nil⟩
  | succ j =>
    obtain ⟨u, hu, du⟩ := dall j (by omega)
    obtain ⟨a, xs, rfl, ha, hxs⟩ := du.lstE
    have hne := cg2 (Nat.succ_ne_zero j)
    have fa : H a = none := by
      rcases b8.n a _ ha with z | z
      · exfalso
        obtain ⟨rfl, _⟩ := Gs_n a _ z
        rw [Gs_q] at z
        cases z
        generalize closedLists.getD (j + 1) [] = L at hxs hne
        cases L with
        | nil => exact hne rfl
        | cons s L =>
          obtain ⟨v1, us, e1, h5, _⟩ := hxs.consE
          cases hs : t0.s with
          | nil => rw [hs] at e1; cases e1
          | cons n ns =>
            rw [hs] at e1
            cases e1
            obtain ⟨_, _, e3, _⟩ := h5.tupE
            cases e3
      · exact z
    have Gsa : Gs a = none := (s0.trans sGH).free fa
    have b9 := grow_del b8 Gsa
    obtain ⟨gu, su⟩ := grow_uni s0 sGH hGp b9
    have hap : a ≠ p := fun z => by
      rw [z, n8] at ha
      cases ha
    obtain ⟨ys, hys, dys⟩ := o8
    refine ⟨pl, _, ((j + 1 : Nat) : Int), .ref a, rfl, rfl, .of hpl8, atI_nat (by rw [List.getElem?_cons_succ]; exact hu), ?_⟩
    refine q _ t' a _ H8 hin gu (by rw [uni_none hGp, del_ne (Ne.symm hap)]; exact n8) (Own.ok.grow su (Same.refl _) (o := .lst (eSt t')) ⟨ys, hys, da_del_St ha hne hxs dys⟩) fa (by rw [uni_none (sGH.free fa)]; exact del_self) (Own.ok.grow su (Same.refl _) (o := .lst _) ⟨xs, b8.s _ _ ha, da_del_Ss ha hxs⟩)

abbrev s__law_segments : Stmt := topS 42
theorem sc__law_segments : FnScope ["_law_stream_here", "_law_wide", "_law_most", "_law_found", "_law_turn_here", "_law_a", "_law_b", "_law_pair", "_law_other"] ["_law_stream_here", "_law_wide", "_law_most"] (defScope s__law_segments) := ⟨rfl, rfl, rfl, by decide +kernel, rfl, by decide +kernel, by decide +kernel⟩
def preSeg (dl : List PyData) : Prop := dl = [.int 5, .int 14]
def postSeg (dl : List PyData) (d : PyData) : Prop := ∃ l : List Sg, GoodSg l ∧ l.length ≤ 24 ∧ l ≠ [] ∧ d = .list (l.map eS)
theorem mnmx {a b : P2} (h : a ≠ b) : ltP (mnP a b) (mxP a b) = true := by
  unfold mnP mxP
  cases e : ltP a b with
  | true =>
    rw [ltP_asym e, if_neg (by decide), if_pos rfl]
    exact e
  | false =>
    cases e2 : ltP b a with
    | true =>
      rw [if_pos rfl, if_neg (by decide)]
      exact e2
    | false => exact absurd (ltP_tot e e2) h
theorem mn_in {a b : P2} (ha : InR a) (hb : InR b) : InR (mnP a b) ∧ InR (mxP a b) := by
  unfold mnP mxP
  constructor
  · split <;> assumption
  · split <;> assumption
theorem cal__law_segments (D : DefAt K mg "_law_segments" s__law_segments ["_law_stream_here", "_law_wide", "_law_most"]) (B : Blt mg) (c__law_next : Cal P w K mg base 1 "_law_next" (SpS preNext postNext)) (c__law_place : Cal P w K mg base 2 "_law_place" (SpS prePlace postPlace))
    (c__law_apart : Cal P w K mg base 3 "_law_apart" (SpD spApart)) (c__law_closed : Cal P w K mg base 2 "_law_closed" spClosed) : Cal P w K mg base 4 "_law_segments" (SpS preSeg postSeg) := by
  refine cal_S D sc__law_segments (fun dl h => by rw [h]; rfl) fun f cdv A outer s H E hr => ⟨_, (pss_cons (ps_set (i := 3) sc__law_segments.nd rfl (by first | exact Or.inl rfl | exact Or.inr rfl) (C8.pe_c c__law_closed hr (by decide) (by rfl) (pa_cons (pv 0) pa_nil)))
      (pss_cons (ps_for PassesOwn.never rfl (pi_range1 (by rfl) B.range_ (pa_cons (pe_op op_add pe_int (C8.pe_c c__law_next hr (by decide) (by rfl) (pa_cons (pv 0) (pa_cons (pv 2) pa_nil)))) pa_nil)) (pg_name (i := 4) sc__law_segments.nd rfl (by first | exact Or.inl rfl | exact Or.inr rfl)) (pss_cons (ps_set (i := 5) sc__law_segments.nd rfl (by first | exact Or.inl rfl | exact Or.inr rfl) (C8.pe_c c__law_place hr (by decide) (by rfl) (pa_cons (pv 0) (pa_cons (pv 1) pa_nil))))
      (pss_cons (ps_set (i := 6) sc__law_segments.nd rfl (by first | exact Or.inl rfl | exact Or.inr rfl) (C8.pe_c c__law_place hr (by decide) (by rfl) (pa_cons (pv 0) (pa_cons (pv 1) pa_nil))))
      (pss_cons (ps_set (i := 7) sc__law_segments.nd rfl (by first | exact Or.inl rfl | exact Or.inr rfl) (pe_tup (pa_cons (pe_callB (call_minP rfl (u65 hr)) (by rfl) B.min_ (by decide +kernel) (pa_cons (pv 5) (pa_cons (pv 6) pa_nil))) (pa_cons (pe_callB (call_maxP rfl (u65 hr)) (by rfl) B.max_ (by decide +kernel) (pa_cons (pv 5) (pa_cons (pv 6) pa_nil))) pa_nil))))
      (pss_one (ps_if (PW.pt (pw_and (pt_cmpR (kop_neD (K := K) hr.units) (pv 5) (pv 6) (nomark _)) (pw_and (pt_cmpR (kop_notInD (K := K) (u65 hr)) (pv 7) (pv 3) (by with_unfolding_all rfl)) (pw_and1 (pt_val (pe_callB (kcr_all (K := K) rfl) (by rfl) B.all_ (by decide +kernel) (pa_cons (pe_lc (own := [("_law_other", 8)]) (g := (gName 8)) (tt := tYes) rfl sc__law_segments.nd (kpi_list (K := K) (pv 3)) (blkOk_by (own := [("_law_other", 8)]) (N := ["_law_stream_here", "_law_wide", "_law_most", "_law_found", "_law_turn_here", "_law_a", "_law_b", "_law_pair", "_law_other"]) (sc := defScope s__law_segments) (by decide +kernel)) (fun _ _ _ _ _ => (pg_name (i := 8) sc__law_segments.nd rfl (by first | exact Or.inl rfl | exact Or.inr rfl))) (fun _ _ _ _ _ => pts_nil) (fun _ _ _ _ _ => (C8.pe_c c__law_apart hr (by decide) (by rfl) (pa_cons (pv 7) (pa_cons (pv 8) pa_nil))))) pa_nil))))))) (pss_one (ps_expr (kpe_bm (K := K) PySem.F.plainAttrs_list PySem.F.slot_list_append PySem.F.type_list_append mt_append (pv 3) (pa_cons (pv 7) pa_nil)))) pss_nil))))))
      (pss_cons (ps_if (pt_not (kpt_truth (K := K) (pv 3) (by intro _; rfl))) (pss_one (ps_expr (kpe_bm (K := K) PySem.F.plainAttrs_list PySem.F.slot_list_append PySem.F.type_list_append mt_append (pv 3) (pa_cons (pe_tup (pa_cons (pe_tup (pa_cons pe_int (pa_cons pe_int pa_nil))) (pa_cons (pe_tup (pa_cons pe_int (pa_cons pe_int pa_nil))) pa_nil))) pa_nil)))) pss_nil)
      (pss_one (ps_ret (pv 3)))))), ?_⟩
  rintro p dl t0 rfl
  -- slots: stream 0, wide 1, most 2, found 3, turn 4, a 5, b 6, pair 7, other 8
  let DS : Option PyData → Option PyData → Option PyData → Option PyData → DE := fun x4 x5 x6 x7 => [none, some (.int 5), some (.int 14), none, x4, x5, x6, x7, none]
  let J : Nat → DE → OE → Prop := fun i ds os => ∃ x4 x5 x6 x7 p2 l t, ds = DS x4 x5 x6 x7 ∧ os = [(3, p2, .lst (l.map eS)), (0, p, .lst (eSt t))] ∧ GoodSg l ∧ l.length ≤ 9 + i
  refine so_seq (M := J 0) (so_takeC (i := 0) (j := 3) (st := t0) List.mem_cons_self (by simp) (by simp) fun l t' p2 hl => ⟨none, none, none, none, p2, l, t', rfl, rfl, (closed_good l hl).1, (closed_good l hl).2⟩) ?_
  rintro ds os ⟨x4, x5, x6, x7, p2, l, t, rfl, rfl, gl, ll⟩
  refine so_seq (M := fun ds os => ∃ m, m ≤ 14 ∧ J m ds os) (so_forR (n := fun m os' => m ≤ 14 ∧ ∃ t', os' = [(3, p2, .lst (l.map eS)), (0, p, .lst (eSt t'))]) (es_op (Ra := fun a os' => a = .int 1 ∧ os' = [(3, p2, .lst (l.map eS)), (0, p, .lst (eSt t))]) (es_pure ev_cint ⟨rfl, rfl⟩) ?_) J ?_ ?_ ?_) ?_
  · rintro a os' ⟨rfl, rfl⟩
    refine es_call (i := 0) (p := p) (st := t) (by simp) (ea_cons (ev_var rfl) ea_nil) ⟨14, rfl, by decide, by decide⟩ ?_
    rintro d t' ⟨many, r, em, r0, r1, rfl⟩
    cases em
    refine ⟨_, ro_add, (1 + r).toNat, ?_, by omega, by omega, t', rfl⟩
    rw [Int.toNat_of_nonneg (by omega)]
  · rintro m os' ⟨hm, t', rfl⟩
    exact ⟨_, _, _, _, p2, l, t', rfl, rfl, gl, ll⟩
  · rintro i ds os ⟨m, _, ⟨hm, _⟩, him⟩ ⟨x4, x5, x6, x7, p2, l, t, rfl, rfl, gl, ll⟩
    refine ⟨_, _, tg_name, by simp, ?_⟩
    -- a = place
    refine so_seq (M := fun ds os => ∃ a t, InR a ∧ ds = DS (some (.int (i : Nat))) (some (eP a)) x6 x7 ∧ os = [(3, p2, .lst (l.map eS)), (0, p, .lst (eSt t))]) (so_asgS (Ra := fun d os => postPlace [.int 5] d ∧ ∃ t, os = [(3, p2, .lst (l.map eS)), (0, p, .lst (eSt t))]) (es_call (i := 0) (p := p) (st := t) (by simp) (ea_cons (ev_var rfl) ea_nil) rfl fun d t' hd => ⟨hd, t', rfl⟩) ?_) ?_
    · rintro d os' ⟨⟨x, y, h1, h2, h3, h4, rfl⟩, t', rfl⟩
      exact ⟨by simp, (x * 2 - 3, y * 2 - 4), t', ⟨by simp only; omega, by simp only; omega, by simp only; omega, by simp only; omega⟩, rfl, rfl⟩
    rintro ds os ⟨a, t, ha, rfl, rfl⟩
    refine so_seq (M := fun ds os => ∃ b t, InR b ∧ ds = DS (some (.int (i : Nat))) (some (eP a)) (some (eP b)) x7 ∧ os = [(3, p2, .lst (l.map eS)), (0, p, .lst (eSt t))]) (so_asgS (Ra := fun d os => postPlace [.int 5] d ∧ ∃ t, os = [(3, p2, .lst (l.map eS)), (0, p, .lst (eSt t))]) (es_call (i := 0) (p := p) (st := t) (by simp) (ea_cons (ev_var rfl) ea_nil) rfl fun d t' hd => ⟨hd, t', rfl⟩) ?_) ?_
    · rintro d os' ⟨⟨x, y, h1, h2, h3, h4, rfl⟩, t', rfl⟩
      exact ⟨by simp, (x * 2 - 3, y * 2 - 4), t', ⟨by simp only; omega, by simp only; omega, by simp only; omega, by simp only; omega⟩, rfl, rfl⟩
    rintro ds os ⟨b, t, hb, rfl, rfl⟩
    let s : Sg := (mnP a b, mxP a b)
    refine so_then (ds2 := DS (some (.int (i : Nat))) (some (eP a)) (some (eP b)) (some (eS s))) (os2 := [(3, p2, .lst (l.map eS)), (0, p, .lst (eSt t))]) (so_asg (vv (ev_pair (ev_cb (ea_cons (ev_var rfl) (ea_cons (ev_var rfl) ea_nil)) rc_minP) (ev_cb (ea_cons (ev_var rfl) (ea_cons (ev_var rfl) ea_nil)) rc_maxP))) (by simp) ⟨rfl, rfl⟩) ?_
    have hsr : InRS s := mn_in ha hb
    refine so_if (k := !decide (a = b) && (!decide (s ∈ l) && l.all fun t => sepB s t)) (bv_view (i := 3) (p := p2) (l := l.map eS) (by simp) (eb_and (eb_test (ev_op (ev_var rfl) (ev_var rfl) ro_neP)) fun _ => eb_and (eb_test (ev_op (ev_var (d := eS s) rfl) (ev_var rfl) ro_niSL)) fun _ => eb_B (ev_allM (l := l) (f := fun t => sepB s t) (ev_lcA l eS _ (it_list (ev_var rfl)) (by omega) fun u hu => ⟨[8], _, tg_name, by simp, ev_call (ea_cons (ev_var rfl) (ea_cons (ev_var rfl) ea_nil)) ⟨s, u, rfl, hsr, (gl.inr u hu).1, rfl⟩⟩)))) (fun h => ?_) fun _ => so_next ⟨_, _, _, _, p2, l, t, rfl, rfl, gl, by omega⟩
    rw [Bool.and_eq_true, Bool.and_eq_true] at h
    obtain ⟨h1, h2, h3⟩ := h
    have hab : a ≠ b := by simpa using h1
    have hsl : s ∉ l := by simpa using h2
    have hall : ∀ u ∈ l, sepB s u = true := fun u hu => List.all_eq_true.mp h3 u hu
    refine so_app (i := 3) (p := p2) (l := l.map eS) (by simp) (vv (ev_var rfl)) (by rw [List.length_map]; omega) ⟨_, _, _, _, p2, l ++ [s], t, rfl, ?_, gl.add hsr (mnmx hab) hsl hall, by rw [List.length_append]; exact Nat.succ_le_succ ll⟩
    rw [List.map_append]
    rfl
  · rintro m ds' os' ⟨_, hm, _⟩ h
    exact ⟨m, hm, h⟩
  · rintro ds os ⟨m, hm, x4, x5, x6, x7, p2, l, t, rfl, rfl, gl, ll⟩
    refine so_seq (M := fun ds os => ∃ l, GoodSg l ∧ l.length ≤ 24 ∧ l ≠ [] ∧ ds = DS x4 x5 x6 x7 ∧ os = [(3, p2, .lst (l.map eS)), (0, p, .lst (eSt t))]) (so_if (k := !(!(l.map eS).isEmpty)) (bv_view (i := 3) (p := p2) (l := l.map eS) (by simp) (eb_not (eb_truL (ev_var rfl)))) (fun h => ?_) fun h => so_next ⟨l, gl, by omega, ?_, rfl, rfl⟩) ?_
    · have hl : l = [] := by
        cases l with
        | nil => rfl
        | cons x r => simp at h
      subst hl
      refine so_app (i := 3) (p := p2) (l := []) (d := eS ((0, 0), (2, 1))) (by simp) (vv (ev_pair (ev_pair ev_cint ev_cint) (ev_pair ev_cint ev_cint))) (by simp) ⟨[((0, 0), (2, 1))], goodB_is (by decide +kernel), by simp, by simp, rfl, rfl⟩
    · intro hl
      subst hl
      simp at h
    · rintro ds os ⟨l, gl, ll, hl, rfl, rfl⟩
      refine so_free (i := 3) (p := p2) (l := l.map eS) (by simp) (by decide) ?_
      exact so_ret (vv (ev_var rfl)) ⟨⟨l, gl, ll, hl, rfl⟩, t, by simp [outO]⟩
end
end K29
namespace K29
open PySem PySem.Spec PyProof.Rows L2

local macro_rules | `(tactic| walk_at "kev") => `(tactic| first
  | exact ev_cint
  | exact ev_cbl
  | exact ev_cnon
  | exact ev_var rfl
  | apply ev_fst
  | apply ev_snd
  | apply ev_op (hr := ro_sub)
  | apply ev_op (hr := ro_add)
  | apply ev_op (hr := ro_lt)
  | apply ev_op (hr := ro_gt)
  | apply ev_op (hr := ro_le)
  | apply ev_op (hr := ro_ge)
  | apply ev_op (hr := ro_eq)
  | apply ev_op (hr := ro_ne)
  | apply ev_neg
  | apply ev_chain (h1 := ro_le) (h2 := ro_le)
  | (refine ev_and ?_ (fun _ => ?_))
  | (refine ev_or ?_ (fun _ => ?_))
  | apply ev_not
  | apply ev_pair
  | apply ev_call
  | exact ea_nil
  | apply ea_cons
  | apply ev_cb (hr := rc_min2)
  | apply ev_cb (hr := rc_max2)
  | apply ev_cb (hr := rc_lenL)
  | apply ev_cb (hr := rc_lenT)
  | apply ev_cb (hr := rc_intB)
  | apply ev_cb (hr := rc_intI)
  | apply eb_test
  | apply eb_B
  | apply eb_not
  | (apply ev_op (hr := ro_mul ?_)))

section
variable {K : PySem.W.Frag} {ds : DE} {os : OE} {ta tx te : TE} {R Ra : PyData → OE → Prop}
theorem es_cb {rc : List V → Hp → VK → Prop} (ha : EvS ta ds os Ra) (hb : ∀ a os', Ra a os' → ∃ e, RcD rc [a] e ∧ R e os') : EvS (tCB rc (tCons ta tNil)) ds os R := fun C0 G0 H0 G H σ b e a Q q =>
  ha C0 G0 H0 G H σ b e a _ fun x os1 v G1 H1 hx s1 b1 a1 d1 => by
    obtain ⟨z, hz, hr⟩ := hb x os1 hx
    exact hz G1 H1 [v] b1.s (.one d1) _ fun w G2 H2 g2 d2 => q z os1 w G2 H2 hr (s1.trans g2.g) (b1.then g2) (a1.grow g2) d2
/-- l.index(p), pairs -/
theorem ev_indexP {l : List P2} {x : P2} (ha : EvD ta ds (.list (l.map eP))) (hx : EvD tx ds (eP x)) (hm : x ∈ l) : EvD (tBM K "list" (rIndexD K) ta (tCons tx tNil)) ds (.int (l.idxOf x : Nat)) := fun G H σ s e Q q =>
  ha G H σ s e _ fun v G1 H1 g1 d1 => by
    have d1' := d1
    obtain ⟨a, vs, rfl, h1, h2⟩ := d1.lstE
    refine ⟨.inl ⟨rfl, vs, .of (g1.s _ _ h1)⟩, hx G1 H1 σ g1.s (e.same g1.g) _ fun w G2 H2 g2 d2 => ?_⟩
    refine ⟨a, w, eP x, l.map eP, l.idxOf x, eP x, rfl, rfl, ((d1'.same g2.g).same g2.s).dp, (d2.same g2.s).dp, ePs_shL l, eP_sh x, by rw [List.getElem?_map, ixP_get hm]; rfl, by rw [eP_eqv, decide_eq_true rfl], fun m z hm2 hz => ?_, q _ G2 H2 (g1.trans g2) (.int _)⟩
    rw [List.getElem?_map, Option.map_eq_some_iff] at hz
    obtain ⟨y, hy, rfl⟩ := hz
    rw [eP_eqv]
    refine decide_eq_false fun z => ?_
    subst z
    have first : ∀ {l : List P2} {m : Nat}, l[m]? = some y → l.idxOf y ≤ m := by
      intro l
      induction l with
      | nil => intro m h; simp at h
      | cons z l ih =>
        intro m h
        cases m with
        | zero =>
          simp at h
          subst h
          simp
        | succ m =>
          rw [List.idxOf_cons]
          have := ih (m := m) (by simpa using h)
          cases z == y with
          | true => exact Nat.zero_le _
          | false =>
            show l.idxOf y + 1 ≤ m + 1
            omega
    have := first hy
    omega
end
section
variable {P : Program} {w : World} {K : PySem.W.Frag} {mg : Str → Option Value} {base : Heap}

abbrev s__law_plane : Stmt := topS 43
theorem sc__law_plane : FnScope ["_law_stream_here", "_law_wide", "_law_most", "_law_pairs", "_law_points", "_law_a", "_law_b", "_law_point", "_law_turn_here"] ["_law_stream_here", "_law_wide", "_law_most"] (defScope s__law_plane) := ⟨rfl, rfl, rfl, by decide +kernel, rfl, by decide +kernel, by decide +kernel⟩
def postPlane (dl : List PyData) (d : PyData) : Prop := ∃ pts eds : List P2, GoodPl pts eds ∧ d = ePl pts eds
theorem cal__law_plane (D : DefAt K mg "_law_plane" s__law_plane ["_law_stream_here", "_law_wide", "_law_most"]) (B : Blt mg) (c__law_next : Cal P w K mg base 1 "_law_next" (SpS preNext postNext)) (c__law_place : Cal P w K mg base 2 "_law_place" (SpS prePlace postPlace))
    (c__law_on : Cal P w K mg base 2 "_law_on" (SpD spLies)) (c__law_segments : Cal P w K mg base 4 "_law_segments" (SpS preSeg postSeg)) : Cal P w K mg base 5 "_law_plane" (SpS preSeg postPlane) := by
  refine cal_S D sc__law_plane (fun dl h => by rw [h]; rfl) fun f cdv A outer s H E hr => ⟨_, (pss_cons (ps_set (i := 3) sc__law_plane.nd rfl (by first | exact Or.inl rfl | exact Or.inr rfl) (pe_callB (kcall_sortSeg (K := K) (u65 hr)) (by rfl) B.sorted_ (by decide +kernel) (pa_cons (C8.pe_c c__law_segments hr (by decide) (by rfl) (pa_cons (pv 0) (pa_cons (pv 1) (pa_cons (pv 2) pa_nil)))) pa_nil)))
      (pss_cons (ps_set (i := 4) sc__law_plane.nd rfl (by first | exact Or.inl rfl | exact Or.inr rfl) (pe_lst pa_nil))
      (pss_cons (ps_for PassesOwn.never rfl (kpi_list (K := K) (pv 3)) (pg_tup rfl (pgs_cons (pg_name (i := 5) sc__law_plane.nd rfl (by first | exact Or.inl rfl | exact Or.inr rfl)) (pgs_cons (pg_name (i := 6) sc__law_plane.nd rfl (by first | exact Or.inl rfl | exact Or.inr rfl)) pgs_nil))) (pss_one (ps_for PassesOwn.never rfl (kpi_list (K := K) (pe_lst (pa_cons (pv 5) (pa_cons (pv 6) pa_nil)))) (pg_name (i := 7) sc__law_plane.nd rfl (by first | exact Or.inl rfl | exact Or.inr rfl)) (pss_one (ps_if (pt_cmpR (kop_notInD (K := K) (u65 hr)) (pv 7) (pv 4) (by with_unfolding_all rfl)) (pss_one (ps_expr (kpe_bm (K := K) PySem.F.plainAttrs_list PySem.F.slot_list_append PySem.F.type_list_append mt_append (pv 4) (pa_cons (pv 7) pa_nil)))) pss_nil)))))
      (pss_cons (ps_for PassesOwn.never rfl (pi_range1 (by rfl) B.range_ (pa_cons (C8.pe_c c__law_next hr (by decide) (by rfl) (pa_cons (pv 0) (pa_cons pe_int pa_nil))) pa_nil)) (pg_name (i := 8) sc__law_plane.nd rfl (by first | exact Or.inl rfl | exact Or.inr rfl)) (pss_cons (ps_set (i := 7) sc__law_plane.nd rfl (by first | exact Or.inl rfl | exact Or.inr rfl) (C8.pe_c c__law_place hr (by decide) (by rfl) (pa_cons (pv 0) (pa_cons (pv 1) pa_nil))))
      (pss_one (ps_if (PW.pt (pw_and (pt_cmpR (kop_notInD (K := K) (u65 hr)) (pv 7) (pv 4) (by with_unfolding_all rfl)) (pw_and1 (pt_not (pt_val (pe_callB (kcr_any (K := K) rfl) (by rfl) B.any_ (by decide +kernel) (pa_cons (pe_lc (own := [("_law_a", 5), ("_law_b", 6)]) (g := (gTup K 2 (gCons (gName 5) (gCons (gName 6) gNil)))) (tt := tYes) rfl sc__law_plane.nd (kpi_list (K := K) (pv 3)) (blkOk_by (own := [("_law_a", 5), ("_law_b", 6)]) (N := ["_law_stream_here", "_law_wide", "_law_most", "_law_pairs", "_law_points", "_law_a", "_law_b", "_law_point", "_law_turn_here"]) (sc := defScope s__law_plane) (by decide +kernel)) (fun _ _ _ _ _ => (pg_tup rfl (pgs_cons (pg_name (i := 5) sc__law_plane.nd rfl (by first | exact Or.inl rfl | exact Or.inr rfl)) (pgs_cons (pg_name (i := 6) sc__law_plane.nd rfl (by first | exact Or.inl rfl | exact Or.inr rfl)) pgs_nil)))) (fun _ _ _ _ _ => pts_nil) (fun _ _ _ _ _ => (C8.pe_c c__law_on hr (by decide) (by rfl) (pa_cons (pv 7) (pa_cons (pv 5) (pa_cons (pv 6) pa_nil)))))) pa_nil))))))) (pss_one (ps_expr (kpe_bm (K := K) PySem.F.plainAttrs_list PySem.F.slot_list_append PySem.F.type_list_append mt_append (pv 4) (pa_cons (pv 7) pa_nil)))) pss_nil))))
      (pss_cons (ps_set (i := 4) sc__law_plane.nd rfl (by first | exact Or.inl rfl | exact Or.inr rfl) (pe_callB (kcall_sortP (K := K)) (by rfl) B.sorted_ (by decide +kernel) (pa_cons (pv 4) pa_nil)))
      (pss_one (ps_ret (pe_tup (pa_cons (pe_callTy (kcall_tup (K := K)) (by rfl) B.tuple_ (by decide +kernel) (pa_cons (pv 4) pa_nil)) (pa_cons (pe_callTy (kcall_tup (K := K)) (by rfl) B.tuple_ (by decide +kernel) (pa_cons (pe_callB (kcall_sortP (K := K)) (by rfl) B.sorted_ (by decide +kernel) (pa_cons (pe_lc (own := [("_law_a", 5), ("_law_b", 6)]) (g := (gTup K 2 (gCons (gName 5) (gCons (gName 6) gNil)))) (tt := tYes) rfl sc__law_plane.nd (kpi_list (K := K) (pv 3)) (blkOk_by (own := [("_law_a", 5), ("_law_b", 6)]) (N := ["_law_stream_here", "_law_wide", "_law_most", "_law_pairs", "_law_points", "_law_a", "_law_b", "_law_point", "_law_turn_here"]) (sc := defScope s__law_plane) (by decide +kernel)) (fun _ _ _ _ _ => (pg_tup rfl (pgs_cons (pg_name (i := 5) sc__law_plane.nd rfl (by first | exact Or.inl rfl | exact Or.inr rfl)) (pgs_cons (pg_name (i := 6) sc__law_plane.nd rfl (by first | exact Or.inl rfl | exact Or.inr rfl)) pgs_nil)))) (fun _ _ _ _ _ => pts_nil) (fun _ _ _ _ _ => (pe_tup (pa_cons (kpe_bm (K := K) PySem.F.plainAttrs_list PySem.F.slot_list_index PySem.F.type_list_index (kmt_indexD (K := K) (u65 hr)) (pv 4) (pa_cons (pv 5) pa_nil)) (pa_cons (kpe_bm (K := K) PySem.F.plainAttrs_list PySem.F.slot_list_index PySem.F.type_list_index (kmt_indexD (K := K) (u65 hr)) (pv 4) (pa_cons (pv 6) pa_nil)) pa_nil))))) pa_nil)) pa_nil)) pa_nil)))))))))), ?_⟩
  rintro p dl t0 rfl
  -- slots: stream 0, wide 1, most 2, pairs 3, points 4, a 5, b 6, point 7, turn 8
  refine so_seq (M := fun ds os => ∃ L t, GoodSg L ∧ L.length ≤ 24 ∧ L ≠ [] ∧ ds = [none, some (.int 5), some (.int 14), some (.list (L.map eS)), none, none, none, none, none] ∧ os = [(0, p, .lst (eSt t))]) (so_asgS (Ra := fun d os => ∃ L t, GoodSg L ∧ L.length ≤ 24 ∧ L ≠ [] ∧ d = .list (L.map eS) ∧ os = [(0, p, .lst (eSt t))])
    (es_cb (Ra := fun d os => postSeg [.int 5, .int 14] d ∧ ∃ t, os = [(0, p, .lst (eSt t))]) (es_call (i := 0) (st := t0) List.mem_cons_self (ea_cons (ev_var rfl) (ea_cons (ev_var rfl) ea_nil)) rfl fun d t' hd => ⟨hd, t', rfl⟩) ?_) ?_) ?_
  · rintro d os' ⟨⟨l, gl, ll, ln, rfl⟩, t, rfl⟩
    refine ⟨_, rc_sortS, srtS l, t, gl.perm (srtS_perm l), by rw [(srtS_perm l).length_eq]; exact ll, fun z => ln ?_, rfl, rfl⟩
    have := (srtS_perm l).length_eq
    rw [z] at this
    exact List.length_eq_zero_iff.mp this.symm
  · rintro d os' ⟨L, t, gl, ll, ln, rfl, rfl⟩
    exact ⟨by simp, L, t, gl, ll, ln, rfl, rfl⟩
  rintro ds os ⟨L, t, gl, ll, ln, rfl, rfl⟩
  let DS : Option PyData → Option PyData → Option PyData → Option PyData → DE := fun x5 x6 x7 x8 => [none, some (.int 5), some (.int 14), some (.list (L.map eS)), none, x5, x6, x7, x8]
  refine so_seq (M := fun ds os => ∃ p4, ds = DS none none none none ∧ os = [(4, p4, .lst []), (0, p, .lst (eSt t))]) (so_newL (by simp) (by simp) fun p4 => ⟨p4, rfl, rfl⟩) ?_
  rintro ds os ⟨p4, rfl, rfl⟩
  -- the ends
  let J : Nat → DE → OE → Prop := fun i ds os => ∃ x5 x6 x7 ps, ds = DS x5 x6 x7 none ∧ os = [(4, p4, .lst (ps.map eP)), (0, p, .lst (eSt t))] ∧ PtsOk L ps ∧ ps.length ≤ 2 * i ∧ ∀ k s, k < i → L[k]? = some s → s.1 ∈ ps ∧ s.2 ∈ ps
  refine so_seq (M := J L.length) (so_for (l := L.map eS) (it_list (ev_var rfl)) J ⟨none, none, none, [], rfl, rfl, ⟨List.nodup_nil, (fun _ z => nomatch z), (fun _ z => nomatch z)⟩, by simp, fun _ _ z => absurd z (Nat.not_lt_zero _)⟩ ?_ fun ds' os' h => by rwa [List.length_map] at h) ?_
  · rintro i d ds' os' hd ⟨x5, x6, x7, ps, rfl, rfl, ok, hlen, cov⟩
    rw [List.getElem?_map, Option.map_eq_some_iff] at hd
    obtain ⟨g, hg, rfl⟩ := hd
    have hgm := List.mem_of_getElem? hg
    have hgi := (gl.inr g hgm).1
    have hil := (List.getElem?_eq_some_iff.mp hg).1
    refine ⟨_, _, tg_pair tg_name tg_name, by simp, ?_⟩
    let I : Nat → DE → OE → Prop := fun k ds os => ∃ x7 ps2, ds = DS (some (eP g.1)) (some (eP g.2)) x7 none ∧ os = [(4, p4, .lst (ps2.map eP)), (0, p, .lst (eSt t))] ∧ PtsOk L ps2 ∧ ps2.length ≤ 2 * i + k ∧ (∀ q ∈ ps, q ∈ ps2) ∧ ∀ j q, j < k → [g.1, g.2][j]? = some q → q ∈ ps2
    refine so_for (l := [eP g.1, eP g.2]) (it_list (ev_lst (ea_cons (ev_var rfl) (ea_cons (ev_var rfl) ea_nil)) (by simp))) I ⟨x7, ps, rfl, rfl, ok, by omega, fun _ h => h, fun _ _ z => absurd z (Nat.not_lt_zero _)⟩ ?_ ?_
    · rintro k d ds' os' hd ⟨x7, ps2, rfl, rfl, ok2, hl2, sub, cov2⟩
      obtain ⟨q, hq, rfl⟩ : ∃ q, [g.1, g.2][k]? = some q ∧ eP q = d := by
        rw [show [eP g.1, eP g.2] = [g.1, g.2].map eP from rfl, List.getElem?_map, Option.map_eq_some_iff] at hd
        exact hd
      have hk2 : k < 2 := (List.getElem?_eq_some_iff.mp hq).1
      have hqe : q = g.1 ∨ q = g.2 := by
        rcases List.mem_cons.mp (List.mem_of_getElem? hq) with z | z
        · exact .inl z
        · exact .inr (List.mem_singleton.mp z)
      have hqi : InR q := by
        rcases hqe with z | z
        · rw [z]; exact hgi.1
        · rw [z]; exact hgi.2
      refine ⟨_, _, tg_name, by simp, so_if (k := !decide (q ∈ ps2)) (bv_view (i := 4) (p := p4) (l := ps2.map eP) (by simp) (eb_test (ev_op (ev_var rfl) (ev_var rfl) ro_niPL))) (fun h => ?_) fun h => so_next ⟨_, ps2, rfl, rfl, ok2, by omega, sub, fun j r hj hr => ?_⟩⟩
      · have hq2 : q ∉ ps2 := by simpa using h
        refine so_app (i := 4) (p := p4) (l := ps2.map eP) (by simp) (vv (ev_var rfl)) (by rw [List.length_map]; omega) ⟨_, ps2 ++ [q], rfl, ?_, ok2.add hq2 hqi (.inl ⟨g, hgm, hqe⟩), by rw [List.length_append]; exact Nat.succ_le_succ hl2, fun r hr => List.mem_append_left _ (sub r hr), fun j r hj hr => ?_⟩
        · rw [List.map_append]
          rfl
        · by_cases hjk : j < k
          · exact List.mem_append_left _ (cov2 j r hjk hr)
          · have : j = k := by omega
            subst this
            rw [hq] at hr
            cases hr
            exact List.mem_append_right _ List.mem_cons_self
      · by_cases hjk : j < k
        · exact cov2 j r hjk hr
        · have : j = k := by omega
          subst this
          rw [hq] at hr
          cases hr
          exact dec_in h
    · rintro ds' os' ⟨x7, ps2, rfl, rfl, ok2, hl2, sub, cov2⟩
      refine ⟨_, _, x7, ps2, rfl, rfl, ok2, (show ps2.length ≤ 2 * (i + 1) from by
        have : [eP g.1, eP g.2].length = 2 := rfl
        omega), fun k s hk hs => ?_⟩
      by_cases hki : k < i
      · obtain ⟨c1, c2⟩ := cov k s hki hs
        exact ⟨sub _ c1, sub _ c2⟩
      · have : k = i := by omega
        subst this
        rw [hg] at hs
        cases hs
        exact ⟨cov2 0 _ (show 0 < 2 by decide) rfl, cov2 1 _ (show 1 < 2 by decide) rfl⟩
  rintro ds os ⟨x5, x6, x7, ps, rfl, rfl, ok, hlen, cov⟩
  have cov0 : ∀ s ∈ L, s.1 ∈ ps ∧ s.2 ∈ ps := fun s hs => by
    obtain ⟨k, hk⟩ := List.mem_iff_getElem?.mp hs
    exact cov k s (List.getElem?_eq_some_iff.mp hk).1 hk
  -- points without edges
  let J2 : Nat → DE → OE → Prop := fun i ds os => ∃ x5 x6 x7 x8 ps t, ds = DS x5 x6 x7 x8 ∧ os = [(4, p4, .lst (ps.map eP)), (0, p, .lst (eSt t))] ∧ PtsOk L ps ∧ ps.length ≤ 48 + i ∧ ∀ s ∈ L, s.1 ∈ ps ∧ s.2 ∈ ps
  refine so_seq (M := fun ds os => ∃ m, m ≤ 3 ∧ J2 m ds os) (so_forR (n := fun m os' => m ≤ 3 ∧ ∃ t', os' = [(4, p4, .lst (ps.map eP)), (0, p, .lst (eSt t'))]) (es_call (i := 0) (p := p) (st := t) (by simp) (ea_cons ev_cint ea_nil) ⟨3, rfl, by decide, by decide⟩ ?_) J2 ?_ ?_ ?_) ?_
  · rintro d t' ⟨many, r, em, r0, r1, rfl⟩
    cases em
    exact ⟨r.toNat, by rw [Int.toNat_of_nonneg r0], by omega, by omega, t', rfl⟩
  · rintro m os' ⟨hm, t', rfl⟩
    exact ⟨_, _, _, _, ps, t', rfl, rfl, ok, by omega, cov0⟩
  · rintro i ds os ⟨m, _, ⟨hm, _⟩, him⟩ ⟨x5, x6, x7, x8, ps, t, rfl, rfl, ok, hlen, cov⟩
    refine ⟨_, _, tg_name, by simp, ?_⟩
    refine so_seq (M := fun ds os => ∃ a t, InR a ∧ ds = DS x5 x6 (some (eP a)) (some (.int (i : Nat))) ∧ os = [(4, p4, .lst (ps.map eP)), (0, p, .lst (eSt t))]) (so_asgS (Ra := fun d os => postPlace [.int 5] d ∧ ∃ t, os = [(4, p4, .lst (ps.map eP)), (0, p, .lst (eSt t))]) (es_call (i := 0) (p := p) (st := t) (by simp) (ea_cons (ev_var rfl) ea_nil) rfl fun d t' hd => ⟨hd, t', rfl⟩) ?_) ?_
    · rintro d os' ⟨⟨x, y, h1, h2, h3, h4, rfl⟩, t', rfl⟩
      exact ⟨by simp, (x * 2 - 3, y * 2 - 4), t', ⟨by simp only; omega, by simp only; omega, by simp only; omega, by simp only; omega⟩, rfl, rfl⟩
    rintro ds os ⟨a, t, ha, rfl, rfl⟩
    refine so_if (k := !decide (a ∈ ps) && !(L.any fun s => onSeg a s.1 s.2)) (bv_view (i := 4) (p := p4) (l := ps.map eP) (by simp) (eb_and (eb_test (ev_op (ev_var rfl) (ev_var rfl) ro_niPL)) fun _ => eb_not (eb_B (ev_anyM (l := L) (f := fun s => onSeg a s.1 s.2) (ev_lcA L eS _ (it_list (ev_var rfl)) (by omega) fun u hu => ⟨[5, 6], _, tg_pair tg_name tg_name, by simp, ev_call (ea_cons (ev_var rfl) (ea_cons (ev_var rfl) (ea_cons (ev_var rfl) ea_nil))) ⟨a, u.1, u.2, rfl, ha, (gl.inr u hu).1.1, (gl.inr u hu).1.2, rfl⟩⟩))))) (fun h => ?_) fun _ => so_next ⟨_, _, _, _, ps, t, rfl, rfl, ok, by omega, cov⟩
    rw [Bool.and_eq_true] at h
    obtain ⟨h1, h2⟩ := h
    have hap : a ∉ ps := by simpa using h1
    have hoff : ∀ s ∈ L, onSeg a s.1 s.2 = false := fun s hs => by
      have := nt.mp h2
      rw [List.any_eq_false] at this
      cases e : onSeg a s.1 s.2 with
      | false => rfl
      | true => exact absurd e (this s hs)
    refine so_app (i := 4) (p := p4) (l := ps.map eP) (by simp) (vv (ev_var rfl)) (by rw [List.length_map]; omega) ⟨_, _, _, _, ps ++ [a], t, rfl, ?_, ok.add hap ha (.inr hoff), by rw [List.length_append]; exact Nat.succ_le_succ hlen, fun s hs => ⟨List.mem_append_left _ (cov s hs).1, List.mem_append_left _ (cov s hs).2⟩⟩
    rw [List.map_append]
    rfl
  · rintro m ds' os' ⟨_, hm, _⟩ h
    exact ⟨m, hm, h⟩
  rintro ds os ⟨m, hm, x5, x6, x7, x8, ps, t, rfl, rfl, ok, hlen, cov⟩
  refine so_free (i := 4) (p := p4) (l := ps.map eP) (by simp) (by decide) ?_
  refine so_then (ds2 := [none, some (.int 5), some (.int 14), some (.list (L.map eS)), some (.list ((srtP ps).map eP)), x5, x6, x7, x8]) (os2 := [(0, p, .lst (eSt t))]) (so_asg (vv (ev_cb (ea_cons (ev_var rfl) ea_nil) rc_sortP)) (by simp [outO]) ⟨rfl, rfl⟩) ?_
  have gp := mkPlane gl ln ll ok cov (by omega)
  have mem : ∀ {q}, q ∈ srtP ps ↔ q ∈ ps := fun {q} => (srtP_perm ps).mem_iff
  refine so_ret (vv (d := ePl (srtP ps) (srtP (L.map (ixE (srtP ps))))) (ev_pair (ev_cb (ea_cons (ev_var rfl) ea_nil) rc_tupL) (ev_cb (ea_cons (ev_cb (ea_cons (ev_is (ev_lcA L eS (fun s => eP (ixE (srtP ps) s)) (it_list (ev_var rfl)) (by omega) fun s hs => ⟨[5, 6], _, tg_pair tg_name tg_name, by simp, ev_pair (ev_indexP (ev_var rfl) (ev_var rfl) (mem.mpr (cov s hs).1)) (ev_indexP (ev_var rfl) (ev_var rfl) (mem.mpr (cov s hs).2))⟩) (e := .list ((L.map (ixE (srtP ps))).map eP)) ?_) ea_nil) rc_sortP) ea_nil) rc_tupL))) ⟨⟨_, _, gp, rfl⟩, t, by simp⟩
  rw [List.map_map]
  rfl
end
end K29
namespace K29
open PySem PySem.Spec PyProof.Rows L2

local macro_rules | `(tactic| walk_at "kev") => `(tactic| first
  | exact ev_cint
  | exact ev_cbl
  | exact ev_cnon
  | exact ev_var rfl
  | apply ev_fst
  | apply ev_snd
  | apply ev_op (hr := ro_sub)
  | apply ev_op (hr := ro_add)
  | apply ev_op (hr := ro_lt)
  | apply ev_op (hr := ro_gt)
  | apply ev_op (hr := ro_le)
  | apply ev_op (hr := ro_ge)
  | apply ev_op (hr := ro_eq)
  | apply ev_op (hr := ro_ne)
  | apply ev_neg
  | apply ev_chain (h1 := ro_le) (h2 := ro_le)
  | (refine ev_and ?_ (fun _ => ?_))
  | (refine ev_or ?_ (fun _ => ?_))
  | apply ev_not
  | apply ev_pair
  | apply ev_call
  | exact ea_nil
  | apply ea_cons
  | apply ev_cb (hr := rc_min2)
  | apply ev_cb (hr := rc_max2)
  | apply ev_cb (hr := rc_lenL)
  | apply ev_cb (hr := rc_lenT)
  | apply ev_cb (hr := rc_intB)
  | apply ev_cb (hr := rc_intI)
  | apply eb_test
  | apply eb_B
  | apply eb_not
  | (apply ev_op (hr := ro_mul ?_)))

section
variable {P : Program} {w : World} {K : PySem.W.Frag} {mg : Str → Option Value} {base : Heap}
theorem sum_range {c : List P2} (g : P2 → Int) : ((List.range c.length).map fun k => g (c.getD k (0, 0))).sum = (c.map g).sum := by
  congr 1
  refine List.ext_getElem? fun k => ?_
  by_cases hk : k < c.length
  · rw [List.getElem?_map, List.getElem?_range hk, List.getElem?_map, getP hk]
    rfl
  · rw [List.getElem?_eq_none (by rw [List.length_map, List.length_range]; omega), List.getElem?_eq_none (by rw [List.length_map]; omega)]
theorem ring_sum {nx : P2 → P2} {c : List P2} (hn : ∀ h, (nx h).1 = h.2) (r : Ring nx c) (pts : List P2) : ringSize (c.map fun h => ptAt pts h.1) = (c.map (XH pts)).sum := by
  unfold ringSize ringTo
  rw [← sum_range (XH pts), List.length_map]
  congr 1
  refine List.map_congr_left fun k hk => ?_
  have hk2 := List.mem_range.mp hk
  have e1 : c[k]? = some (c.getD k (0, 0)) := getP hk2
  have e2 := r.2 _ _ e1
  generalize c.getD k (0, 0) = x at e1 e2 ⊢
  have g1 : (c.map fun h => ptAt pts h.1).getD k (0, 0) = ptAt pts x.1 := getD_of (by rw [List.getElem?_map, e1]; rfl)
  have g2 : (c.map fun h => ptAt pts h.1).getD ((k + 1) % c.length) (0, 0) = ptAt pts x.2 := getD_of (by rw [List.getElem?_map, e2, ← hn]; rfl)
  unfold ringTerm XH
  rw [List.length_map, g1, g2]
theorem law_sum {nx : P2 → P2} {c : List P2} (hn : ∀ h, (nx h).1 = h.2) (r : Ring nx c) (pts : List P2) : lawTo pts (c.map Prod.fst) (c.map Prod.fst).length = (c.map (XH pts)).sum := by
  rw [← sumI_perm ((lawPairs_perm hn r).map (XH pts))]
  unfold lawTo lawPairs
  rw [List.map_map]
  rfl
theorem eqv_ePs : ∀ l : List P2, PyData.eqvAll (l.map eP) (l.map eP) = true
  | [] => by simp only [List.map_nil, PyData.eqvAll]
  | p :: l => by
    rw [List.map_cons]
    have e : PyData.eqvAll (eP p :: l.map eP) (eP p :: l.map eP) = (PyData.eqv (eP p) (eP p) && PyData.eqvAll (l.map eP) (l.map eP)) := by simp only [PyData.eqvAll]
    rw [e, eP_eqv, decide_eq_true rfl, eqv_ePs l]
    rfl
theorem eqv_self (l : List P2) : PyData.eqv (.list (l.map eP)) (.list (l.map eP)) = true := by
  have e : PyData.eqv (.list (l.map eP)) (.list (l.map eP)) = PyData.eqvAll (l.map eP) (l.map eP) := by simp only [PyData.eqv]
  rw [e, eqv_ePs]

theorem StO.run {t : TS} {ds : DE} {os : OE} {R : PyData → OE → Prop} {C0 : List Addr} {G0 H0 G H : Hp} {D : Ends} {σ : L2.St} (h : StO t ds os (fun _ _ => False) R) (b : GrowO C0 G0 H0 G H) (e : Env G σ ds) (a : HasA C0 H0 G H σ os)
    (qn : ∀ (_ : DE) (_ : OE) (_ : L2.St) (_ _ : Hp), False → True) (qr : ∀ d os' σ' v G' H', R d os' → GrowO C0 G0 H0 G' H' → HasA C0 H0 G' H' σ' os' → Da G' v d → D.rt v H') : t D σ H :=
  h C0 G0 H0 D G H σ b e a (fun _ _ _ _ _ z => z.elim) qr

abbrev s_law : Stmt := topS 46
theorem sc_law : FnScope ["_law_script", "_law_stream_here", "_law_plane_here", "_law_cycles", "_law_seen", "_law_last", "_law_cycle", "_law_halves_here", "_law_at", "_law_sizes"] ["_law_script"] (defScope s_law) := ⟨rfl, rfl, rfl, by decide +kernel, rfl, by decide +kernel, by decide +kernel⟩
def spLaw (K : PySem.W.Frag) : Sp := fun vs H Q _ => ∃ (a : Addr) (ns : List Int), vs = [.ref a] ∧ SqL K H a (ns.map V.int) ∧ ns.length ≤ 63 ∧ ∀ H', Q (.bl true) H'
theorem ok_law {f : Addr} {fd : FuncData} (F : Fun K "law" "law" s_law f fd) (B : Blt mg) (c__law_stream : Cal P w K mg base 1 "_law_stream" (spStream K)) (c__law_plane : Cal P w K mg base 5 "_law_plane" (SpS preSeg postPlane)) (c_cycle_list : Cal P w K mg base 7 "cycle_list" (SpD spCycles))
    (c_next_half : Cal P w K mg base 7 "next_half" (SpD spNextHalf)) (c_cycle_sizes : Cal P w K mg base 7 "cycle_sizes" (SpD spCySizes)) (c__law_halves : Cal P w K mg base 1 "_law_halves" (SpD spHalves)) (c__law_equal : Cal P w K mg base 3 "_law_equal" (SpD spEqL))
    (c__law_size : Cal P w K mg base 1 "_law_size" (SpD spLawSize)) : FnOk P w K mg base CX0 8 f fd ["_law_script"] (spLaw K) := by
  refine F.ok sc_law (fun vs H Q E ⟨a, ns, h, _⟩ => by rw [h]; rfl) (fun cdv A outer s H vs Q E hr h => ?_)
  obtain ⟨a, ns, rfl, hS, hlen, fin⟩ := h
  refine ⟨_, (pss_cons (ps_set (i := 1) sc_law.nd rfl (by first | exact Or.inl rfl | exact Or.inr rfl) (C8.pe_c c__law_stream hr (by decide) (by rfl) (pa_cons (pv 0) pa_nil)))
      (pss_cons (ps_set (i := 2) sc_law.nd rfl (by first | exact Or.inl rfl | exact Or.inr rfl) (C8.pe_c c__law_plane hr (by decide) (by rfl) (pa_cons (pv 1) (pa_cons pe_int (pa_cons pe_int pa_nil)))))
      (pss_cons (ps_set (i := 3) sc_law.nd rfl (by first | exact Or.inl rfl | exact Or.inr rfl) (C8.pe_c c_cycle_list hr (by decide) (by rfl) (pa_cons (pv 2) pa_nil)))
      (pss_cons (ps_set (i := 4) sc_law.nd rfl (by first | exact Or.inl rfl | exact Or.inr rfl) (pe_lst pa_nil))
      (pss_cons (ps_set (i := 5) sc_law.nd rfl (by first | exact Or.inl rfl | exact Or.inr rfl) (pe_tup (pa_cons (pe_un un_neg pe_int) (pa_cons (pe_un un_neg pe_int) pa_nil))))
      (pss_cons (ps_for PassesOwn.never rfl (kpi_list (K := K) (pv 3)) (pg_name (i := 6) sc_law.nd rfl (by first | exact Or.inl rfl | exact Or.inr rfl)) (pss_cons (ps_setLc (i := 7) (own := [("_law_at", 8)]) (g := (gName 8)) (tt := tYes) rfl sc_law.nd rfl rfl (sw_true rfl rfl rfl (by decide +kernel)) (pi_range1 (by rfl) B.range_ (pa_cons (pe_callB (kcall_len (K := K)) (by rfl) B.len_ (by decide +kernel) (pa_cons (pv 6) pa_nil)) pa_nil)) (blkOk_by (own := [("_law_at", 8)]) (N := ["_law_script", "_law_stream_here", "_law_plane_here", "_law_cycles", "_law_seen", "_law_last", "_law_cycle", "_law_halves_here", "_law_at", "_law_sizes"]) (sc := defScope s_law) (by decide +kernel)) (fun _ _ _ _ _ => (pg_name (i := 8) sc_law.nd rfl (by first | exact Or.inl rfl | exact Or.inr rfl))) (fun _ _ _ _ _ => pts_nil) (fun _ _ _ _ _ => (pe_tup (pa_cons (pe_ix (kix_tup (K := K)) (pv 6) (pe_op op_sub (pv 8) pe_int) (fun _ _ => rfl)) (pa_cons (pe_ix (kix_tup (K := K)) (pv 6) (pv 8) (fun _ _ => rfl)) pa_nil)))))
      (pss_cons (ps_set (i := 7) sc_law.nd rfl (by first | exact Or.inl rfl | exact Or.inr rfl) (pe_op op_cat (pe_slice (ksl_list (K := K)) (pv 7) (po_some pe_int) po_none) (pe_slice (ksl_list (K := K)) (pv 7) po_none (po_some pe_int))))
      (pss_cons (ps_if (PW.pt (pw_or (pt_cmpR (kop_neD (K := K) hr.units) (pe_callB (call_minLP rfl (u65 hr)) (by rfl) B.min_ (by decide +kernel) (pa_cons (pv 7) pa_nil)) (pe_ix (kix_list (K := K)) (pv 7) pe_int (fun _ _ => rfl)) (nomark _)) (pw_or1 (pt_cmpR (kop_leT (K := K) hr.units0) (pe_ix (kix_list (K := K)) (pv 7) pe_int (fun _ _ => rfl)) (pv 5) (nomark _))))) (pss_one (ps_ret pe_bl)) pss_nil)
      (pss_cons (ps_set (i := 5) sc_law.nd rfl (by first | exact Or.inl rfl | exact Or.inr rfl) (pe_ix (kix_list (K := K)) (pv 7) pe_int (fun _ _ => rfl)))
      (pss_cons (ps_for PassesOwn.never rfl (pi_range1 (by rfl) B.range_ (pa_cons (pe_callB (kcall_len (K := K)) (by rfl) B.len_ (by decide +kernel) (pa_cons (pv 7) pa_nil)) pa_nil)) (pg_name (i := 8) sc_law.nd rfl (by first | exact Or.inl rfl | exact Or.inr rfl)) (pss_one (ps_if (pt_cmpR (kop_neD (K := K) hr.units) (C8.pe_c c_next_half hr (by decide) (by rfl) (pa_cons (pv 2) (pa_cons (pe_ix (kix_list (K := K)) (pv 7) (pe_op op_sub (pv 8) pe_int) (fun _ _ => rfl)) pa_nil))) (pe_ix (kix_list (K := K)) (pv 7) (pv 8) (fun _ _ => rfl)) (nomark _)) (pss_one (ps_ret pe_bl)) pss_nil)))
      (pss_one (ps_set (i := 4) sc_law.nd rfl (by first | exact Or.inl rfl | exact Or.inr rfl) (pe_op op_cat (pv 4) (pv 7))))))))))
      (pss_cons (ps_set (i := 9) sc_law.nd rfl (by first | exact Or.inl rfl | exact Or.inr rfl) (C8.pe_c c_cycle_sizes hr (by decide) (by rfl) (pa_cons (pv 2) pa_nil)))
      (pss_cons (ps_if (PW.pt (pw_or (pt_cmpR (kop_neD (K := K) hr.units) (pe_callB (kcall_sortP (K := K)) (by rfl) B.sorted_ (by decide +kernel) (pa_cons (pv 4) pa_nil)) (C8.pe_c c__law_halves hr (by decide) (by rfl) (pa_cons (pv 2) pa_nil)) (nomark _)) (pw_or1 (pt_not (pt_val (C8.pe_c c__law_equal hr (by decide) (by rfl) (pa_cons (pv 9) (pa_cons (pe_lc (own := [("_law_cycle", 6)]) (g := (gName 6)) (tt := tYes) rfl sc_law.nd (kpi_list (K := K) (pv 3)) (blkOk_by (own := [("_law_cycle", 6)]) (N := ["_law_script", "_law_stream_here", "_law_plane_here", "_law_cycles", "_law_seen", "_law_last", "_law_cycle", "_law_halves_here", "_law_at", "_law_sizes"]) (sc := defScope s_law) (by decide +kernel)) (fun _ _ _ _ _ => (pg_name (i := 6) sc_law.nd rfl (by first | exact Or.inl rfl | exact Or.inr rfl))) (fun _ _ _ _ _ => pts_nil) (fun _ _ _ _ _ => (C8.pe_c c__law_size hr (by decide) (by rfl) (pa_cons (pv 2) (pa_cons (pv 6) pa_nil))))) pa_nil)))))))) (pss_one (ps_ret pe_bl)) pss_nil)
      (pss_one (ps_ret (pe_cmpR op_eq (pe_callB (kcr_sum (K := K) rfl) (by rfl) B.sum_ (by decide +kernel) (pa_cons (pv 9) pa_nil)) pe_int (nomark _)))))))))))), ?_⟩
  refine seq_asg (⟨.ref a, rfl, a, ns, rfl, hS, by omega, fun q p hq hp hne => ?_⟩)
  let G : Hp := upd (fun _ => none) q (.lst (ns.map V.int))
  have sG : Same G (upd H q (.lst (ns.map V.int))) := same_both fun _ _ z => nomatch z
  have np : (upd H q (.lst (ns.map V.int))) p = none := by
    rw [upd_ne hne]
    exact hp
  have b1 : GrowO [] G (upd H q (.lst (ns.map V.int))) G (upd (upd H q (.lst (ns.map V.int))) p (.lst [.ref q, .int 0, .int 0])) := (GrowO.refl sG).put (sG.free np) (.inr np)
  have oke : Own.ok G (upd (upd H q (.lst (ns.map V.int))) p (.lst [.ref q, .int 0, .int 0])) p (.lst (eSt ⟨ns, 0, 0⟩)) := ⟨_, upd_same, .cons (.lst upd_same (daAll_ints _ _)) (.cons (.int _) (.one (.int _)))⟩
  have e1 : Env G ((L2.start ["_law_script", "_law_stream_here", "_law_plane_here", "_law_cycles", "_law_seen", "_law_last", "_law_cycle", "_law_halves_here", "_law_at", "_law_sizes"] [.ref a]).set 1 (some (.ref p))) [none, none, none, none, none, none, none, none, none, none] := .no (.no (env_none G 8))
  have a1 : HasA [] (upd H q (.lst (ns.map V.int))) G (upd (upd H q (.lst (ns.map V.int))) p (.lst [.ref q, .int 0, .int 0])) ((L2.start ["_law_script", "_law_stream_here", "_law_plane_here", "_law_cycles", "_law_seen", "_law_last", "_law_cycle", "_law_halves_here", "_law_at", "_law_sizes"] [.ref a]).set 1 (some (.ref p))) [(1, p, .lst (eSt ⟨ns, 0, 0⟩))] := ⟨fun i r o m => by
    cases List.mem_singleton.mp m
    exact ⟨rfl, sG.free np, oke, .inr np⟩, fun i r o j u v m1 m2 h => by
    cases List.mem_singleton.mp m1
    cases List.mem_singleton.mp m2
    exact absurd rfl h⟩
  show tSeq (tAsg _ _) _ _ ((L2.start ["_law_script", "_law_stream_here", "_law_plane_here", "_law_cycles", "_law_seen", "_law_last", "_law_cycle", "_law_halves_here", "_law_at", "_law_sizes"] [.ref a]).set 1 (some (.ref p))) _
  refine StO.run (R := fun d _ => d = .bool true) ?_ b1 e1 a1 (fun _ _ _ _ _ z => z.elim) fun d os' σ' v G' H' hd _ _ dv => (by
    subst hd
    rw [dv.blE]
    exact fin H')
  refine so_seq (M := fun ds os => ∃ pts eds, GoodPl pts eds ∧ ds = [none, none, some (ePl pts eds), none, none, none, none, none, none, none]) (so_asgS (Ra := fun d os => postPlane [.int 5, .int 14] d ∧ ∃ t, os = [(1, p, .lst (eSt t))]) (es_call (i := 1) (st := ⟨ns, 0, 0⟩) List.mem_cons_self (ea_cons ev_cint (ea_cons ev_cint ea_nil)) rfl fun d t' hd => ⟨hd, t', rfl⟩) ?_) ?_
  · rintro d os' ⟨⟨pts, eds, g, rfl⟩, t, rfl⟩
    exact ⟨by simp, pts, eds, g, rfl⟩
  rintro ds os ⟨pts, eds, g, rfl⟩
  refine so_D (NN := fun _ => False) (RR := fun r => r = .bool true) ?_ (fun _ z => z.elim) fun d os' z => z
  have elen := g.elen
  have cl := cyc_len g
  obtain ⟨rings, perm, asc⟩ := cyc_all g
  refine st_then (st_asg (ev_call (ea_cons (ev_var rfl) ea_nil) ⟨pts, eds, rfl, g, rfl⟩) rfl) ?_
  have hsz : eCs pts (cyclesOf pts eds) = ((cyclesOf pts eds).map fun c => (c.map (XH pts)).sum).map eI := by
    rw [List.map_map]
    refine List.map_congr_left fun c hc => ?_
    show PyData.int _ = PyData.int _
    rw [ring_sum (fun h => rfl) (rings c hc).1]
  have spS : spCySizes [ePl pts eds] (.list (eCs pts (cyclesOf pts eds))) := ⟨pts, eds, rfl, g, rfl⟩
  rw [hsz] at spS
  generalize hC : cyclesOf pts eds = C at *
  have hne : ∀ c ∈ C, c ≠ [] := fun c hc => (rings c hc).1.1
  have hfl : C.flatten.length ≤ 62 := by
    rw [perm.length_eq, halves_len]
    omega
  refine st_then (ds2 := [none, none, some (ePl pts eds), some (.list (C.map eC)), some (.list (([] : List P2).map eP)), none, none, none, none, none]) (st_asg (ev_lst ea_nil) rfl) ?_
  refine st_then (ds2 := [none, none, some (ePl pts eds), some (.list (C.map eC)), some (.list (([] : List P2).map eP)), some (eP (-1, -1)), none, none, none, none]) (st_asg (ev_pair (ev_neg ev_cint) (ev_neg ev_cint)) rfl) ?_
  let I : Nat → DE → Prop := fun i ds => ∃ x6 x7 x8, ds = [none, none, some (ePl pts eds), some (.list (C.map eC)), some (.list ((C.take i).flatten.map eP)), some (eP (lastAt C i)), x6, x7, x8, none]
  refine st_seq (M := I C.length) (st_for (l := C.map eC) (it_list (ev_var rfl)) I ⟨none, none, none, rfl⟩ ?_ fun ds' h => by rwa [List.length_map] at h) ?_
  · rintro i d ds' hd ⟨x6, x7, x8, rfl⟩
    rw [List.getElem?_map, Option.map_eq_some_iff] at hd
    obtain ⟨c, hc, rfl⟩ := hd
    have hcm := List.mem_of_getElem? hc
    obtain ⟨ring, cH, h, hh, hhH, hleast⟩ := rings c hcm
    have clen := cl.2 c hcm
    have hhd : headOf c = h := by
      unfold headOf
      rw [hh]
      rfl
    have hlast : ltP (lastAt C i) h = true := by
      rw [← hhd]
      refine last_lt hne asc (fun c' hc' => ?_) hc
      obtain ⟨_, cH', h', hh', hhH', _⟩ := rings c' hc'
      have : headOf c' = h' := by
        unfold headOf
        rw [hh']
        rfl
      rw [this]
      exact (half_in g hhH').1
    have hnext : lastAt C (i + 1) = h := by
      show headOf (C.getD i []) = h
      rw [List.getD_eq_getElem?_getD, hc]
      exact hhd
    have h0 : c[0]? = some h := by
      rw [← List.head?_eq_getElem?]
      exact hh
    have hpos : 0 < c.length := List.length_pos_iff.mpr ring.1
    have hmem : h ∈ c := List.mem_of_getElem? h0
    have hmin : ∀ y ∈ c, ltP y h = false := fun y hy => by
      by_cases e : y = h
      · rw [e]
        exact ltP_irr h
      · exact ltP_asym (hleast y hy e)
    refine ⟨_, _, tg_name, ?_⟩
    refine st_then (ds2 := [none, none, some (ePl pts eds), some (.list (C.map eC)), some (.list ((C.take i).flatten.map eP)), some (eP (lastAt C i)), some (eC c), some (.list ((lawPairs (c.map Prod.fst)).map eP)), x8, none]) (st_asg (ev_is (ev_lcA (List.range (c.map Prod.fst).length) (fun k : Nat => eI (k : Int)) (fun k => eP ((c.map Prod.fst).getD (prvI (c.map Prod.fst).length k) 0, (c.map Prod.fst).getD k 0)) (it_is (it_range (n := (c.map Prod.fst).length) (ea_cons (ev_is (ev_cb (ea_cons (ev_var rfl) ea_nil) rc_lenT) (by rw [List.length_map])) ea_nil) (by rw [List.length_map]; omega)) (rangeD_map _)) (by rw [List.length_range, List.length_map]; omega) fun k hk => ⟨[8], _, tg_name, by simp, ?_⟩) ?_) rfl) ?_
    · have hk2 := List.mem_range.mp hk
      have b1 : atG ((c.map Prod.fst).map eI) ((k : Int) - 1) = _ := atG_back hk2 (getI (prvI_lt hk2))
      have b2 : atG ((c.map Prod.fst).map eI) (k : Int) = _ := atG_map (e := eI) (getI hk2)
      exact ev_pair (ev_op (ev_var rfl) (ev_op (ev_var rfl) ev_cint ro_sub) (ro_ixT b1)) (ev_op (ev_var rfl) (ev_var rfl) (ro_ixT b2))
    · unfold lawPairs
      rw [List.map_map]
      rfl
    have hlp : (lawPairs (c.map Prod.fst)).length = c.length := lawPairs_len
    have hrot := rot (fun h => rfl) ring
    refine st_then (ds2 := [none, none, some (ePl pts eds), some (.list (C.map eC)), some (.list ((C.take i).flatten.map eP)), some (eP (lastAt C i)), some (eC c), some (.list (c.map eP)), x8, none]) (st_asg (ev_op (a := .list ((lawPairs (c.map Prod.fst)).map eP |>.drop 1)) (b := .list ((lawPairs (c.map Prod.fst)).map eP |>.take 1)) (ev_is (ev_slL (ev_var rfl) (eo_some ev_cint) eo_no) (congrArg PyData.list (cutG_from _ 1))) (ev_is (ev_slL (ev_var rfl) eo_no (eo_some ev_cint)) (congrArg PyData.list (cutG_to _ 1))) (ro_is (ro_cat (by rw [List.length_drop, List.length_take, List.length_map, hlp]; omega)) (d' := .list (c.map eP)) ?_)) rfl) ?_
    · rw [← List.map_drop, ← List.map_take, ← List.map_append, hrot]
    have at0 : atG (c.map eP) (0 : Int) = some (eP h) := atG_map (e := eP) (k := 0) h0
    refine st_then (st_ifF (eb_is (eb_or (eb_test (ev_op (ev_cb (ea_cons (ev_var rfl) ea_nil) (rc_minLP hmem hmin)) (ev_op (ev_var rfl) ev_cint (ro_ixL at0)) ro_neP)) fun _ => eb_test (ev_op (ev_op (ev_var rfl) ev_cint (ro_ixL at0)) (ev_var rfl) ro_leP)) ?_) (st_next rfl)) ?_
    · rw [decide_eq_true rfl, hlast]
      rfl
    refine st_then (ds2 := [none, none, some (ePl pts eds), some (.list (C.map eC)), some (.list ((C.take i).flatten.map eP)), some (eP h), some (eC c), some (.list (c.map eP)), x8, none]) (st_asg (ev_op (ev_var rfl) ev_cint (ro_ixL at0)) rfl) ?_
    refine st_seq (M := fun ds => ∃ x8, ds = [none, none, some (ePl pts eds), some (.list (C.map eC)), some (.list ((C.take i).flatten.map eP)), some (eP h), some (eC c), some (.list (c.map eP)), x8, none]) (st_for (l := (List.range c.length).map fun k : Nat => eI (k : Int)) (it_is (it_range (n := c.length) (ea_cons (ev_is (ev_cb (ea_cons (ev_var rfl) ea_nil) rc_lenL) (by rw [List.length_map])) ea_nil) (by omega)) (rangeD_map _)) (fun _ ds => ∃ x8, ds = [none, none, some (ePl pts eds), some (.list (C.map eC)), some (.list ((C.take i).flatten.map eP)), some (eP h), some (eC c), some (.list (c.map eP)), x8, none]) ⟨x8, rfl⟩ ?_ fun ds' z => z) ?_
    · rintro k d ds' hd ⟨x8, rfl⟩
      have hk : k < c.length := by
        have := (List.getElem?_eq_some_iff.mp hd).1
        rwa [List.length_map, List.length_range] at this
      rw [List.getElem?_map, List.getElem?_range hk] at hd
      obtain rfl := Option.some.inj hd
      have hj := prvI_lt hk
      have e1 : c[prvI c.length k]? = some c[prvI c.length k] := List.getElem?_eq_getElem hj
      have e2 := ring.2 _ _ e1
      rw [prvI_next hk] at e2
      have b1 : atG (c.map eP) ((k : Int) - 1) = _ := atG_back hk e1
      have b2 : atG (c.map eP) (k : Int) = _ := atG_map (e := eP) e2
      refine ⟨_, _, tg_name, st_ifF (eb_is (eb_test (ev_op (ev_call (ea_cons (ev_var rfl) (ea_cons (ev_op (ev_var rfl) (ev_op (ev_var rfl) ev_cint ro_sub) (ro_ixL b1)) ea_nil)) ⟨pts, eds, _, rfl, g, cH _ (List.getElem_mem hj), rfl⟩) (ev_op (ev_var rfl) (ev_var rfl) (ro_ixL b2)) ro_neP)) ?_) (st_next ⟨_, rfl⟩)⟩
      rw [decide_eq_true rfl]
      rfl
    · rintro ds' ⟨x8, rfl⟩
      refine st_asg (ev_op (a := .list ((C.take i).flatten.map eP)) (b := .list (c.map eP)) (ev_var rfl) (ev_var rfl) (ro_is (ro_cat ?_) (d' := .list ((C.take (i + 1)).flatten.map eP)) ?_)) ⟨some (eC c), some (.list (c.map eP)), x8, ?_⟩
      · have : (C.take i).flatten.length + (C.drop i).flatten.length = C.flatten.length := by
          rw [← List.length_append, ← List.flatten_append, List.take_append_drop]
        rw [List.length_map, List.length_map]
        omega
      · rw [flat_take hc, List.map_append]
      · rw [hnext]
        rfl
  · rintro ds' ⟨x6, x7, x8, rfl⟩
    rw [List.take_length]
    have hsrt : srtP C.flatten = halvesOf eds := (srtP_uniq ((halves_asc g).imp fun h => ltP_asym h) perm.symm).symm
    refine st_then (ds2 := [none, none, some (ePl pts eds), some (.list (C.map eC)), some (.list (C.flatten.map eP)), some (eP (lastAt C C.length)), x6, x7, x8, some (.list ((C.map fun c => (c.map (XH pts)).sum).map eI))]) (st_asg (ev_call (ea_cons (ev_var rfl) ea_nil) spS) rfl) ?_
    refine st_then (st_ifF (eb_is (eb_or (eb_test (ev_op (ev_cb (ea_cons (ev_var rfl) ea_nil) rc_sortP) (ev_call (ea_cons (ev_var rfl) ea_nil) ⟨pts, eds, rfl, by omega, rfl⟩) ro_nePs)) fun _ => eb_not (eb_B (ev_call (ea_cons (ev_var rfl) (ea_cons (ev_is (ev_lcA C eC (fun c => .int (lawTo pts (c.map Prod.fst) (c.map Prod.fst).length)) (it_list (ev_var rfl)) (by omega) fun c hc => ⟨[6], _, tg_name, by simp, ev_call (ea_cons (ev_var rfl) (ea_cons (ev_var rfl) ea_nil)) ⟨pts, eds, c.map Prod.fst, rfl, g.inr, ?_, ?_, rfl⟩⟩) (e := .list ((C.map fun c => (c.map (XH pts)).sum).map eI)) ?_) ea_nil)) ⟨_, _, rfl, ?_, ?_, rfl⟩))) ?_) (st_next rfl)) ?_
    · have := cl.2 c hc
      rw [List.length_map]
      omega
    · intro n hn
      obtain ⟨h, hh, rfl⟩ := List.mem_map.mp hn
      obtain ⟨a, b, _⟩ := half_in g ((rings c hc).2.1 h hh)
      exact ⟨a, b⟩
    · rw [List.map_map]
      congr 1
      refine List.map_congr_left fun c hc => ?_
      show PyData.int _ = PyData.int _
      rw [law_sum (fun h => rfl) (rings c hc).1]
    · rw [List.length_map]
      omega
    · rw [List.length_map]
      omega
    · rw [hsrt, eqv_self, decide_eq_true rfl]
      rfl
    · refine st_ret (ev_is (ev_op (ev_cb (ea_cons (ev_var rfl) ea_nil) rc_sum) ev_cint ro_eq) ?_) rfl
      rw [flat_sum, sumI_perm (perm.map (XH pts)), halves_zero]
      rfl
end
end K29
/-! K29: what the top has written; the head. -/
namespace K29
open PySem PySem.Spec PyProof.Rows L2
theorem def_mk {l : PySem.W.OpenLaw} {K : PySem.W.Frag} {h : Heap} {mg : Str → Option Value} (X : K.In h) (G : h.Ns mainGlobals mg) {x : Str} {st : Stmt} {f : Addr} {oc : Value} {od an : Option Addr} {osl : Array (Option Value)} {kV doc pm cdv ct : Value} {ps : List Str}
    (a : PySem.W.nsIn K mainGlobals x = some (some (.ref f))) (lk : K.lookup f = some ⟨oc, od, .func (PySem.W.fnOf x x (defArgs st) (defBody st) (defScope st) .none kV doc pm an cdv ct), osl⟩) (c : PySem.W.codeIn K cdv x = true) (k : PySem.W.keepIn K (.ref f) = true)
    (hb : ∀ (kV doc pm : Value) (an : Option Addr) (cdv ct : Value) (us : List Value), us.length = ps.length → bindArgs (PySem.W.fnOf x x (defArgs st) (defBody st) (defScope st) .none kV doc pm an cdv ct) ⟨us, []⟩ = pure (ps.zip us)) : DefAt K mg x st ps := by
  have F := fun_mk (st := st) lk c k
  exact ⟨f, _, F, PySem.W.mg_of X G a, F.binds hb⟩
theorem all_mk {l : PySem.W.OpenLaw} {w : World} {K : PySem.W.Frag} {h : Heap} {mg : Str → Option Value} {fa : Addr} (X : K.In h) (G : h.Ns mainGlobals mg) (hfa : mg "law" = some (.ref fa))
    {f0 f1 f2 f3 f4 f5 f6 f7 f8 f9 f10 f11 f12 f13 f14 f15 f16 f17 f18 f19 f20 f21 f22 f23 f24 f25 f26 f27 f28 f29 f30 f31 f32 f33 f34 f35 f36 f37 f38 : Addr} {od0 an0 od1 an1 od2 an2 od3 an3 od4 an4 od5 an5 od6 an6 od7 an7 od8 an8 od9 an9 od10 an10 od11 an11 od12 an12 od13 an13 od14 an14 od15 an15 od16 an16 od17 an17 od18 an18 od19 an19 od20 an20 od21 an21 od22 an22 od23 an23 od24 an24 od25 an25 od26 an26 od27 an27 od28 an28 od29 an29 od30 an30 od31 an31 od32 an32 od33 an33 od34 an34 od35 an35 od36 an36 od37 an37 od38 an38 : Option Addr} {sl0 sl1 sl2 sl3 sl4 sl5 sl6 sl7 sl8 sl9 sl10 sl11 sl12 sl13 sl14 sl15 sl16 sl17 sl18 sl19 sl20 sl21 sl22 sl23 sl24 sl25 sl26 sl27 sl28 sl29 sl30 sl31 sl32 sl33 sl34 sl35 sl36 sl37 sl38 : Array (Option Value)} {oc0 kV0 dc0 pm0 cd0 ct0 oc1 kV1 dc1 pm1 cd1 ct1 oc2 kV2 dc2 pm2 cd2 ct2 oc3 kV3 dc3 pm3 cd3 ct3 oc4 kV4 dc4 pm4 cd4 ct4 oc5 kV5 dc5 pm5 cd5 ct5 oc6 kV6 dc6 pm6 cd6 ct6 oc7 kV7 dc7 pm7 cd7 ct7 oc8 kV8 dc8 pm8 cd8 ct8 oc9 kV9 dc9 pm9 cd9 ct9 oc10 kV10 dc10 pm10 cd10 ct10 oc11 kV11 dc11 pm11 cd11 ct11 oc12 kV12 dc12 pm12 cd12 ct12 oc13 kV13 dc13 pm13 cd13 ct13 oc14 kV14 dc14 pm14 cd14 ct14 oc15 kV15 dc15 pm15 cd15 ct15 oc16 kV16 dc16 pm16 cd16 ct16 oc17 kV17 dc17 pm17 cd17 ct17 oc18 kV18 dc18 pm18 cd18 ct18 oc19 kV19 dc19 pm19 cd19 ct19 oc20 kV20 dc20 pm20 cd20 ct20 oc21 kV21 dc21 pm21 cd21 ct21 oc22 kV22 dc22 pm22 cd22 ct22 oc23 kV23 dc23 pm23 cd23 ct23 oc24 kV24 dc24 pm24 cd24 ct24 oc25 kV25 dc25 pm25 cd25 ct25 oc26 kV26 dc26 pm26 cd26 ct26 oc27 kV27 dc27 pm27 cd27 ct27 oc28 kV28 dc28 pm28 cd28 ct28 oc29 kV29 dc29 pm29 cd29 ct29 oc30 kV30 dc30 pm30 cd30 ct30 oc31 kV31 dc31 pm31 cd31 ct31 oc32 kV32 dc32 pm32 cd32 ct32 oc33 kV33 dc33 pm33 cd33 ct33 oc34 kV34 dc34 pm34 cd34 ct34 oc35 kV35 dc35 pm35 cd35 ct35 oc36 kV36 dc36 pm36 cd36 ct36 oc37 kV37 dc37 pm37 cd37 ct37 oc38 kV38 dc38 pm38 cd38 ct38 : Value} {t0 t1 t2 : Tok}
    (a0 : PySem.W.nsIn K mainGlobals "turn" = some (some (.ref f0))) (l0 : K.lookup f0 = some ⟨oc0, od0, .func (PySem.W.fnOf "turn" "turn" (defArgs s_turn) (defBody s_turn) (defScope s_turn) .none kV0 dc0 pm0 an0 cd0 ct0), sl0⟩) (c0 : PySem.W.codeIn K cd0 "turn" = true) (k0 : PySem.W.keepIn K (.ref f0) = true)
    (a1 : PySem.W.nsIn K mainGlobals "opposite" = some (some (.ref f1))) (l1 : K.lookup f1 = some ⟨oc1, od1, .func (PySem.W.fnOf "opposite" "opposite" (defArgs s_opposite) (defBody s_opposite) (defScope s_opposite) .none kV1 dc1 pm1 an1 cd1 ct1), sl1⟩) (c1 : PySem.W.codeIn K cd1 "opposite" = true) (k1 : PySem.W.keepIn K (.ref f1) = true)
    (a2 : PySem.W.nsIn K mainGlobals "is_whole" = some (some (.ref f2))) (l2 : K.lookup f2 = some ⟨oc2, od2, .func (PySem.W.fnOf "is_whole" "is_whole" (defArgs s_is_whole) (defBody s_is_whole) (defScope s_is_whole) .none kV2 dc2 pm2 an2 cd2 ct2), sl2⟩) (c2 : PySem.W.codeIn K cd2 "is_whole" = true) (k2 : PySem.W.keepIn K (.ref f2) = true)
    (a3 : PySem.W.nsIn K mainGlobals "is_ascending" = some (some (.ref f3))) (l3 : K.lookup f3 = some ⟨oc3, od3, .func (PySem.W.fnOf "is_ascending" "is_ascending" (defArgs s_is_ascending) (defBody s_is_ascending) (defScope s_is_ascending) .none kV3 dc3 pm3 an3 cd3 ct3), sl3⟩) (c3 : PySem.W.codeIn K cd3 "is_ascending" = true) (k3 : PySem.W.keepIn K (.ref f3) = true)
    (a4 : PySem.W.nsIn K mainGlobals "is_before" = some (some (.ref f4))) (l4 : K.lookup f4 = some ⟨oc4, od4, .func (PySem.W.fnOf "is_before" "is_before" (defArgs s_is_before) (defBody s_is_before) (defScope s_is_before) .none kV4 dc4 pm4 an4 cd4 ct4), sl4⟩) (c4 : PySem.W.codeIn K cd4 "is_before" = true) (k4 : PySem.W.keepIn K (.ref f4) = true)
    (a5 : PySem.W.nsIn K mainGlobals "next_in" = some (some (.ref f5))) (l5 : K.lookup f5 = some ⟨oc5, od5, .func (PySem.W.fnOf "next_in" "next_in" (defArgs s_next_in) (defBody s_next_in) (defScope s_next_in) .none kV5 dc5 pm5 an5 cd5 ct5), sl5⟩) (c5 : PySem.W.codeIn K cd5 "next_in" = true) (k5 : PySem.W.keepIn K (.ref f5) = true)
    (a6 : PySem.W.nsIn K mainGlobals "size_of_ring" = some (some (.ref f6))) (l6 : K.lookup f6 = some ⟨oc6, od6, .func (PySem.W.fnOf "size_of_ring" "size_of_ring" (defArgs s_size_of_ring) (defBody s_size_of_ring) (defScope s_size_of_ring) .none kV6 dc6 pm6 an6 cd6 ct6), sl6⟩) (c6 : PySem.W.codeIn K cd6 "size_of_ring" = true) (k6 : PySem.W.keepIn K (.ref f6) = true)
    (a7 : PySem.W.nsIn K mainGlobals "_law_next" = some (some (.ref f7))) (l7 : K.lookup f7 = some ⟨oc7, od7, .func (PySem.W.fnOf "_law_next" "_law_next" (defArgs s__law_next) (defBody s__law_next) (defScope s__law_next) .none kV7 dc7 pm7 an7 cd7 ct7), sl7⟩) (c7 : PySem.W.codeIn K cd7 "_law_next" = true) (k7 : PySem.W.keepIn K (.ref f7) = true)
    (a8 : PySem.W.nsIn K mainGlobals "_law_turn" = some (some (.ref f8))) (l8 : K.lookup f8 = some ⟨oc8, od8, .func (PySem.W.fnOf "_law_turn" "_law_turn" (defArgs s__law_turn) (defBody s__law_turn) (defScope s__law_turn) .none kV8 dc8 pm8 an8 cd8 ct8), sl8⟩) (c8 : PySem.W.codeIn K cd8 "_law_turn" = true) (k8 : PySem.W.keepIn K (.ref f8) = true)
    (a9 : PySem.W.nsIn K mainGlobals "_law_is_integer" = some (some (.ref f9))) (l9 : K.lookup f9 = some ⟨oc9, od9, .func (PySem.W.fnOf "_law_is_integer" "_law_is_integer" (defArgs s__law_is_integer) (defBody s__law_is_integer) (defScope s__law_is_integer) .none kV9 dc9 pm9 an9 cd9 ct9), sl9⟩) (c9 : PySem.W.codeIn K cd9 "_law_is_integer" = true) (k9 : PySem.W.keepIn K (.ref f9) = true)
    (a10 : PySem.W.nsIn K mainGlobals "_law_around" = some (some (.ref f10))) (l10 : K.lookup f10 = some ⟨oc10, od10, .func (PySem.W.fnOf "_law_around" "_law_around" (defArgs s__law_around) (defBody s__law_around) (defScope s__law_around) .none kV10 dc10 pm10 an10 cd10 ct10), sl10⟩) (c10 : PySem.W.codeIn K cd10 "_law_around" = true) (k10 : PySem.W.keepIn K (.ref f10) = true)
    (a11 : PySem.W.nsIn K mainGlobals "_law_halves" = some (some (.ref f11))) (l11 : K.lookup f11 = some ⟨oc11, od11, .func (PySem.W.fnOf "_law_halves" "_law_halves" (defArgs s__law_halves) (defBody s__law_halves) (defScope s__law_halves) .none kV11 dc11 pm11 an11 cd11 ct11), sl11⟩) (c11 : PySem.W.codeIn K cd11 "_law_halves" = true) (k11 : PySem.W.keepIn K (.ref f11) = true)
    (a12 : PySem.W.nsIn K mainGlobals "_law_size" = some (some (.ref f12))) (l12 : K.lookup f12 = some ⟨oc12, od12, .func (PySem.W.fnOf "_law_size" "_law_size" (defArgs s__law_size) (defBody s__law_size) (defScope s__law_size) .none kV12 dc12 pm12 an12 cd12 ct12), sl12⟩) (c12 : PySem.W.codeIn K cd12 "_law_size" = true) (k12 : PySem.W.keepIn K (.ref f12) = true)
    (a13 : PySem.W.nsIn K mainGlobals "_law_stream" = some (some (.ref f13))) (l13 : K.lookup f13 = some ⟨oc13, od13, .func (PySem.W.fnOf "_law_stream" "_law_stream" (defArgs s__law_stream) (defBody s__law_stream) (defScope s__law_stream) .none kV13 dc13 pm13 an13 cd13 ct13), sl13⟩) (c13 : PySem.W.codeIn K cd13 "_law_stream" = true) (k13 : PySem.W.keepIn K (.ref f13) = true)
    (a14 : PySem.W.nsIn K mainGlobals "lies_on" = some (some (.ref f14))) (l14 : K.lookup f14 = some ⟨oc14, od14, .func (PySem.W.fnOf "lies_on" "lies_on" (defArgs s_lies_on) (defBody s_lies_on) (defScope s_lies_on) .none kV14 dc14 pm14 an14 cd14 ct14), sl14⟩) (c14 : PySem.W.codeIn K cd14 "lies_on" = true) (k14 : PySem.W.keepIn K (.ref f14) = true)
    (a15 : PySem.W.nsIn K mainGlobals "cross" = some (some (.ref f15))) (l15 : K.lookup f15 = some ⟨oc15, od15, .func (PySem.W.fnOf "cross" "cross" (defArgs s_cross) (defBody s_cross) (defScope s_cross) .none kV15 dc15 pm15 an15 cd15 ct15), sl15⟩) (c15 : PySem.W.codeIn K cd15 "cross" = true) (k15 : PySem.W.keepIn K (.ref f15) = true)
    (a16 : PySem.W.nsIn K mainGlobals "is_place" = some (some (.ref f16))) (l16 : K.lookup f16 = some ⟨oc16, od16, .func (PySem.W.fnOf "is_place" "is_place" (defArgs s_is_place) (defBody s_is_place) (defScope s_is_place) .none kV16 dc16 pm16 an16 cd16 ct16), sl16⟩) (c16 : PySem.W.codeIn K cd16 "is_place" = true) (k16 : PySem.W.keepIn K (.ref f16) = true)
    (a17 : PySem.W.nsIn K mainGlobals "is_edge" = some (some (.ref f17))) (l17 : K.lookup f17 = some ⟨oc17, od17, .func (PySem.W.fnOf "is_edge" "is_edge" (defArgs s_is_edge) (defBody s_is_edge) (defScope s_is_edge) .none kV17 dc17 pm17 an17 cd17 ct17), sl17⟩) (c17 : PySem.W.codeIn K cd17 "is_edge" = true) (k17 : PySem.W.keepIn K (.ref f17) = true)
    (a18 : PySem.W.nsIn K mainGlobals "put_around" = some (some (.ref f18))) (l18 : K.lookup f18 = some ⟨oc18, od18, .func (PySem.W.fnOf "put_around" "put_around" (defArgs s_put_around) (defBody s_put_around) (defScope s_put_around) .none kV18 dc18 pm18 an18 cd18 ct18), sl18⟩) (c18 : PySem.W.codeIn K cd18 "put_around" = true) (k18 : PySem.W.keepIn K (.ref f18) = true)
    (a19 : PySem.W.nsIn K mainGlobals "is_half" = some (some (.ref f19))) (l19 : K.lookup f19 = some ⟨oc19, od19, .func (PySem.W.fnOf "is_half" "is_half" (defArgs s_is_half) (defBody s_is_half) (defScope s_is_half) .none kV19 dc19 pm19 an19 cd19 ct19), sl19⟩) (c19 : PySem.W.codeIn K cd19 "is_half" = true) (k19 : PySem.W.keepIn K (.ref f19) = true)
    (a20 : PySem.W.nsIn K mainGlobals "sizes_of" = some (some (.ref f20))) (l20 : K.lookup f20 = some ⟨oc20, od20, .func (PySem.W.fnOf "sizes_of" "sizes_of" (defArgs s_sizes_of) (defBody s_sizes_of) (defScope s_sizes_of) .none kV20 dc20 pm20 an20 cd20 ct20), sl20⟩) (c20 : PySem.W.codeIn K cd20 "sizes_of" = true) (k20 : PySem.W.keepIn K (.ref f20) = true)
    (a21 : PySem.W.nsIn K mainGlobals "_law_place" = some (some (.ref f21))) (l21 : K.lookup f21 = some ⟨oc21, od21, .func (PySem.W.fnOf "_law_place" "_law_place" (defArgs s__law_place) (defBody s__law_place) (defScope s__law_place) .none kV21 dc21 pm21 an21 cd21 ct21), sl21⟩) (c21 : PySem.W.codeIn K cd21 "_law_place" = true) (k21 : PySem.W.keepIn K (.ref f21) = true)
    (a22 : PySem.W.nsIn K mainGlobals "_law_on" = some (some (.ref f22))) (l22 : K.lookup f22 = some ⟨oc22, od22, .func (PySem.W.fnOf "_law_on" "_law_on" (defArgs s__law_on) (defBody s__law_on) (defScope s__law_on) .none kV22 dc22 pm22 an22 cd22 ct22), sl22⟩) (c22 : PySem.W.codeIn K cd22 "_law_on" = true) (k22 : PySem.W.keepIn K (.ref f22) = true)
    (a23 : PySem.W.nsIn K mainGlobals "_law_equal" = some (some (.ref f23))) (l23 : K.lookup f23 = some ⟨oc23, od23, .func (PySem.W.fnOf "_law_equal" "_law_equal" (defArgs s__law_equal) (defBody s__law_equal) (defScope s__law_equal) .none kV23 dc23 pm23 an23 cd23 ct23), sl23⟩) (c23 : PySem.W.codeIn K cd23 "_law_equal" = true) (k23 : PySem.W.keepIn K (.ref f23) = true)
    (a24 : PySem.W.nsIn K mainGlobals "_law_closed" = some (some (.ref f24))) (l24 : K.lookup f24 = some ⟨oc24, od24, .func (PySem.W.fnOf "_law_closed" "_law_closed" (defArgs s__law_closed) (defBody s__law_closed) (defScope s__law_closed) .none kV24 dc24 pm24 an24 cd24 ct24), sl24⟩) (c24 : PySem.W.codeIn K cd24 "_law_closed" = true) (k24 : PySem.W.keepIn K (.ref f24) = true)
    (a25 : PySem.W.nsIn K mainGlobals "meet_wrongly" = some (some (.ref f25))) (l25 : K.lookup f25 = some ⟨oc25, od25, .func (PySem.W.fnOf "meet_wrongly" "meet_wrongly" (defArgs s_meet_wrongly) (defBody s_meet_wrongly) (defScope s_meet_wrongly) .none kV25 dc25 pm25 an25 cd25 ct25), sl25⟩) (c25 : PySem.W.codeIn K cd25 "meet_wrongly" = true) (k25 : PySem.W.keepIn K (.ref f25) = true)
    (a26 : PySem.W.nsIn K mainGlobals "around" = some (some (.ref f26))) (l26 : K.lookup f26 = some ⟨oc26, od26, .func (PySem.W.fnOf "around" "around" (defArgs s_around) (defBody s_around) (defScope s_around) .none kV26 dc26 pm26 an26 cd26 ct26), sl26⟩) (c26 : PySem.W.codeIn K cd26 "around" = true) (k26 : PySem.W.keepIn K (.ref f26) = true)
    (a27 : PySem.W.nsIn K mainGlobals "check_half" = some (some (.ref f27))) (l27 : K.lookup f27 = some ⟨oc27, od27, .func (PySem.W.fnOf "check_half" "check_half" (defArgs s_check_half) (defBody s_check_half) (defScope s_check_half) .none kV27 dc27 pm27 an27 cd27 ct27), sl27⟩) (c27 : PySem.W.codeIn K cd27 "check_half" = true) (k27 : PySem.W.keepIn K (.ref f27) = true)
    (a28 : PySem.W.nsIn K mainGlobals "_law_apart" = some (some (.ref f28))) (l28 : K.lookup f28 = some ⟨oc28, od28, .func (PySem.W.fnOf "_law_apart" "_law_apart" (defArgs s__law_apart) (defBody s__law_apart) (defScope s__law_apart) .none kV28 dc28 pm28 an28 cd28 ct28), sl28⟩) (c28 : PySem.W.codeIn K cd28 "_law_apart" = true) (k28 : PySem.W.keepIn K (.ref f28) = true)
    (a29 : PySem.W.nsIn K mainGlobals "are_clean" = some (some (.ref f29))) (l29 : K.lookup f29 = some ⟨oc29, od29, .func (PySem.W.fnOf "are_clean" "are_clean" (defArgs s_are_clean) (defBody s_are_clean) (defScope s_are_clean) .none kV29 dc29 pm29 an29 cd29 ct29), sl29⟩) (c29 : PySem.W.codeIn K cd29 "are_clean" = true) (k29 : PySem.W.keepIn K (.ref f29) = true)
    (a30 : PySem.W.nsIn K mainGlobals "cycles_of" = some (some (.ref f30))) (l30 : K.lookup f30 = some ⟨oc30, od30, .func (PySem.W.fnOf "cycles_of" "cycles_of" (defArgs s_cycles_of) (defBody s_cycles_of) (defScope s_cycles_of) .none kV30 dc30 pm30 an30 cd30 ct30), sl30⟩) (c30 : PySem.W.codeIn K cd30 "cycles_of" = true) (k30 : PySem.W.keepIn K (.ref f30) = true)
    (a31 : PySem.W.nsIn K mainGlobals "_law_segments" = some (some (.ref f31))) (l31 : K.lookup f31 = some ⟨oc31, od31, .func (PySem.W.fnOf "_law_segments" "_law_segments" (defArgs s__law_segments) (defBody s__law_segments) (defScope s__law_segments) .none kV31 dc31 pm31 an31 cd31 ct31), sl31⟩) (c31 : PySem.W.codeIn K cd31 "_law_segments" = true) (k31 : PySem.W.keepIn K (.ref f31) = true)
    (a32 : PySem.W.nsIn K mainGlobals "is_plane" = some (some (.ref f32))) (l32 : K.lookup f32 = some ⟨oc32, od32, .func (PySem.W.fnOf "is_plane" "is_plane" (defArgs s_is_plane) (defBody s_is_plane) (defScope s_is_plane) .none kV32 dc32 pm32 an32 cd32 ct32), sl32⟩) (c32 : PySem.W.codeIn K cd32 "is_plane" = true) (k32 : PySem.W.keepIn K (.ref f32) = true)
    (a33 : PySem.W.nsIn K mainGlobals "_law_plane" = some (some (.ref f33))) (l33 : K.lookup f33 = some ⟨oc33, od33, .func (PySem.W.fnOf "_law_plane" "_law_plane" (defArgs s__law_plane) (defBody s__law_plane) (defScope s__law_plane) .none kV33 dc33 pm33 an33 cd33 ct33), sl33⟩) (c33 : PySem.W.codeIn K cd33 "_law_plane" = true) (k33 : PySem.W.keepIn K (.ref f33) = true)
    (a34 : PySem.W.nsIn K mainGlobals "check_plane" = some (some (.ref f34))) (l34 : K.lookup f34 = some ⟨oc34, od34, .func (PySem.W.fnOf "check_plane" "check_plane" (defArgs s_check_plane) (defBody s_check_plane) (defScope s_check_plane) .none kV34 dc34 pm34 an34 cd34 ct34), sl34⟩) (c34 : PySem.W.codeIn K cd34 "check_plane" = true) (k34 : PySem.W.keepIn K (.ref f34) = true)
    (a35 : PySem.W.nsIn K mainGlobals "next_half" = some (some (.ref f35))) (l35 : K.lookup f35 = some ⟨oc35, od35, .func (PySem.W.fnOf "next_half" "next_half" (defArgs s_next_half) (defBody s_next_half) (defScope s_next_half) .none kV35 dc35 pm35 an35 cd35 ct35), sl35⟩) (c35 : PySem.W.codeIn K cd35 "next_half" = true) (k35 : PySem.W.keepIn K (.ref f35) = true)
    (a36 : PySem.W.nsIn K mainGlobals "cycle_list" = some (some (.ref f36))) (l36 : K.lookup f36 = some ⟨oc36, od36, .func (PySem.W.fnOf "cycle_list" "cycle_list" (defArgs s_cycle_list) (defBody s_cycle_list) (defScope s_cycle_list) .none kV36 dc36 pm36 an36 cd36 ct36), sl36⟩) (c36 : PySem.W.codeIn K cd36 "cycle_list" = true) (k36 : PySem.W.keepIn K (.ref f36) = true)
    (a37 : PySem.W.nsIn K mainGlobals "cycle_sizes" = some (some (.ref f37))) (l37 : K.lookup f37 = some ⟨oc37, od37, .func (PySem.W.fnOf "cycle_sizes" "cycle_sizes" (defArgs s_cycle_sizes) (defBody s_cycle_sizes) (defScope s_cycle_sizes) .none kV37 dc37 pm37 an37 cd37 ct37), sl37⟩) (c37 : PySem.W.codeIn K cd37 "cycle_sizes" = true) (k37 : PySem.W.keepIn K (.ref f37) = true)
    (a38 : PySem.W.nsIn K mainGlobals "law" = some (some (.ref f38))) (l38 : K.lookup f38 = some ⟨oc38, od38, .func (PySem.W.fnOf "law" "law" (defArgs s_law) (defBody s_law) (defScope s_law) .none kV38 dc38 pm38 an38 cd38 ct38), sl38⟩) (c38 : PySem.W.codeIn K cd38 "law" = true) (k38 : PySem.W.keepIn K (.ref f38) = true)
    (z0 : PySem.W.nsIn K mainGlobals "len" = some none) (z1 : PySem.W.nsIn K mainGlobals "min" = some none) (z2 : PySem.W.nsIn K mainGlobals "max" = some none) (z3 : PySem.W.nsIn K mainGlobals "abs" = some none) (z4 : PySem.W.nsIn K mainGlobals "all" = some none) (z5 : PySem.W.nsIn K mainGlobals "any" = some none) (z6 : PySem.W.nsIn K mainGlobals "sum" = some none) (z7 : PySem.W.nsIn K mainGlobals "sorted" = some none) (z8 : PySem.W.nsIn K mainGlobals "isinstance" = some none) (z9 : PySem.W.nsIn K mainGlobals "int" = some none) (z10 : PySem.W.nsIn K mainGlobals "bool" = some none) (z11 : PySem.W.nsIn K mainGlobals "str" = some none) (z12 : PySem.W.nsIn K mainGlobals "tuple" = some none) (z13 : PySem.W.nsIn K mainGlobals "list" = some none) (z14 : PySem.W.nsIn K mainGlobals "range" = some none) (z15 : PySem.W.nsIn K mainGlobals "zip" = some none) (z16 : PySem.W.nsIn K mainGlobals "enumerate" = some none)
    (glo0 : PySem.W.nsIn K mainGlobals "FARTHEST" = some (some (.int 1000 t0))) (glo1 : PySem.W.nsIn K mainGlobals "MOST_POINTS" = some (some (.int 60 t1))) (glo2 : PySem.W.nsIn K mainGlobals "MOST_EDGES" = some (some (.int 120 t2))) :
    ∃ fd : FuncData, (∀ (s : Shared) (v : Value), BindsTo s fd ⟨[v], []⟩ [("_law_script", v)]) ∧ ∀ base : Heap, K.In base → base.Ns mainGlobals mg → FnOk l.prog w K mg base CX0 8 fa fd ["_law_script"] (spLaw K) := by
  have e := hfa.symm.trans (PySem.W.mg_of X G a38)
  cases e
  have D0 : DefAt K mg "turn" s_turn ["a", "b", "c"] := def_mk (l := l) X G a0 l0 c0 k0 fun _ _ _ _ _ _ us hl => match us, hl with | [_, _, _], _ => rfl
  have D1 : DefAt K mg "opposite" s_opposite ["first", "second"] := def_mk (l := l) X G a1 l1 c1 k1 fun _ _ _ _ _ _ us hl => match us, hl with | [_, _], _ => rfl
  have D2 : DefAt K mg "is_whole" s_is_whole ["value", "low", "high"] := def_mk (l := l) X G a2 l2 c2 k2 fun _ _ _ _ _ _ us hl => match us, hl with | [_, _, _], _ => rfl
  have D3 : DefAt K mg "is_ascending" s_is_ascending ["items"] := def_mk (l := l) X G a3 l3 c3 k3 fun _ _ _ _ _ _ us hl => match us, hl with | [_], _ => rfl
  have D4 : DefAt K mg "is_before" s_is_before ["first", "second"] := def_mk (l := l) X G a4 l4 c4 k4 fun _ _ _ _ _ _ us hl => match us, hl with | [_, _], _ => rfl
  have D5 : DefAt K mg "next_in" s_next_in ["orders", "half"] := def_mk (l := l) X G a5 l5 c5 k5 fun _ _ _ _ _ _ us hl => match us, hl with | [_, _], _ => rfl
  have D6 : DefAt K mg "size_of_ring" s_size_of_ring ["points"] := def_mk (l := l) X G a6 l6 c6 k6 fun _ _ _ _ _ _ us hl => match us, hl with | [_], _ => rfl
  have D7 : DefAt K mg "_law_next" s__law_next ["_law_stream_here", "_law_many"] := def_mk (l := l) X G a7 l7 c7 k7 fun _ _ _ _ _ _ us hl => match us, hl with | [_, _], _ => rfl
  have D8 : DefAt K mg "_law_turn" s__law_turn ["_law_a", "_law_b", "_law_c"] := def_mk (l := l) X G a8 l8 c8 k8 fun _ _ _ _ _ _ us hl => match us, hl with | [_, _, _], _ => rfl
  have D9 : DefAt K mg "_law_is_integer" s__law_is_integer ["_law_actual"] := def_mk (l := l) X G a9 l9 c9 k9 fun _ _ _ _ _ _ us hl => match us, hl with | [_], _ => rfl
  have D10 : DefAt K mg "_law_around" s__law_around ["_law_points"] := def_mk (l := l) X G a10 l10 c10 k10 fun _ _ _ _ _ _ us hl => match us, hl with | [_], _ => rfl
  have D11 : DefAt K mg "_law_halves" s__law_halves ["_law_plane_here"] := def_mk (l := l) X G a11 l11 c11 k11 fun _ _ _ _ _ _ us hl => match us, hl with | [_], _ => rfl
  have D12 : DefAt K mg "_law_size" s__law_size ["_law_plane_here", "_law_cycle"] := def_mk (l := l) X G a12 l12 c12 k12 fun _ _ _ _ _ _ us hl => match us, hl with | [_, _], _ => rfl
  have D13 : DefAt K mg "_law_stream" s__law_stream ["_law_script"] := def_mk (l := l) X G a13 l13 c13 k13 fun _ _ _ _ _ _ us hl => match us, hl with | [_], _ => rfl
  have D14 : DefAt K mg "lies_on" s_lies_on ["point", "a", "b"] := def_mk (l := l) X G a14 l14 c14 k14 fun _ _ _ _ _ _ us hl => match us, hl with | [_, _, _], _ => rfl
  have D15 : DefAt K mg "cross" s_cross ["a", "b", "c", "d"] := def_mk (l := l) X G a15 l15 c15 k15 fun _ _ _ _ _ _ us hl => match us, hl with | [_, _, _, _], _ => rfl
  have D16 : DefAt K mg "is_place" s_is_place ["value"] := def_mk (l := l) X G a16 l16 c16 k16 fun _ _ _ _ _ _ us hl => match us, hl with | [_], _ => rfl
  have D17 : DefAt K mg "is_edge" s_is_edge ["value", "many"] := def_mk (l := l) X G a17 l17 c17 k17 fun _ _ _ _ _ _ us hl => match us, hl with | [_, _], _ => rfl
  have D18 : DefAt K mg "put_around" s_put_around ["centre", "listed"] := def_mk (l := l) X G a18 l18 c18 k18 fun _ _ _ _ _ _ us hl => match us, hl with | [_, _], _ => rfl
  have D19 : DefAt K mg "is_half" s_is_half ["plane", "half"] := def_mk (l := l) X G a19 l19 c19 k19 fun _ _ _ _ _ _ us hl => match us, hl with | [_, _], _ => rfl
  have D20 : DefAt K mg "sizes_of" s_sizes_of ["plane", "cycles"] := def_mk (l := l) X G a20 l20 c20 k20 fun _ _ _ _ _ _ us hl => match us, hl with | [_, _], _ => rfl
  have D21 : DefAt K mg "_law_place" s__law_place ["_law_stream_here", "_law_wide"] := def_mk (l := l) X G a21 l21 c21 k21 fun _ _ _ _ _ _ us hl => match us, hl with | [_, _], _ => rfl
  have D22 : DefAt K mg "_law_on" s__law_on ["_law_point", "_law_a", "_law_b"] := def_mk (l := l) X G a22 l22 c22 k22 fun _ _ _ _ _ _ us hl => match us, hl with | [_, _, _], _ => rfl
  have D23 : DefAt K mg "_law_equal" s__law_equal ["_law_actual", "_law_due"] := def_mk (l := l) X G a23 l23 c23 k23 fun _ _ _ _ _ _ us hl => match us, hl with | [_, _], _ => rfl
  have D24 : DefAt K mg "_law_closed" s__law_closed ["_law_stream_here"] := def_mk (l := l) X G a24 l24 c24 k24 fun _ _ _ _ _ _ us hl => match us, hl with | [_], _ => rfl
  have D25 : DefAt K mg "meet_wrongly" s_meet_wrongly ["first", "second"] := def_mk (l := l) X G a25 l25 c25 k25 fun _ _ _ _ _ _ us hl => match us, hl with | [_, _], _ => rfl
  have D26 : DefAt K mg "around" s_around ["plane"] := def_mk (l := l) X G a26 l26 c26 k26 fun _ _ _ _ _ _ us hl => match us, hl with | [_], _ => rfl
  have D27 : DefAt K mg "check_half" s_check_half ["plane", "half"] := def_mk (l := l) X G a27 l27 c27 k27 fun _ _ _ _ _ _ us hl => match us, hl with | [_, _], _ => rfl
  have D28 : DefAt K mg "_law_apart" s__law_apart ["_law_first", "_law_second"] := def_mk (l := l) X G a28 l28 c28 k28 fun _ _ _ _ _ _ us hl => match us, hl with | [_, _], _ => rfl
  have D29 : DefAt K mg "are_clean" s_are_clean ["segments"] := def_mk (l := l) X G a29 l29 c29 k29 fun _ _ _ _ _ _ us hl => match us, hl with | [_], _ => rfl
  have D30 : DefAt K mg "cycles_of" s_cycles_of ["plane"] := def_mk (l := l) X G a30 l30 c30 k30 fun _ _ _ _ _ _ us hl => match us, hl with | [_], _ => rfl
  have D31 : DefAt K mg "_law_segments" s__law_segments ["_law_stream_here", "_law_wide", "_law_most"] := def_mk (l := l) X G a31 l31 c31 k31 fun _ _ _ _ _ _ us hl => match us, hl with | [_, _, _], _ => rfl
  have D32 : DefAt K mg "is_plane" s_is_plane ["value"] := def_mk (l := l) X G a32 l32 c32 k32 fun _ _ _ _ _ _ us hl => match us, hl with | [_], _ => rfl
  have D33 : DefAt K mg "_law_plane" s__law_plane ["_law_stream_here", "_law_wide", "_law_most"] := def_mk (l := l) X G a33 l33 c33 k33 fun _ _ _ _ _ _ us hl => match us, hl with | [_, _, _], _ => rfl
  have D34 : DefAt K mg "check_plane" s_check_plane ["plane"] := def_mk (l := l) X G a34 l34 c34 k34 fun _ _ _ _ _ _ us hl => match us, hl with | [_], _ => rfl
  have D35 : DefAt K mg "next_half" s_next_half ["plane", "half"] := def_mk (l := l) X G a35 l35 c35 k35 fun _ _ _ _ _ _ us hl => match us, hl with | [_, _], _ => rfl
  have D36 : DefAt K mg "cycle_list" s_cycle_list ["plane"] := def_mk (l := l) X G a36 l36 c36 k36 fun _ _ _ _ _ _ us hl => match us, hl with | [_], _ => rfl
  have D37 : DefAt K mg "cycle_sizes" s_cycle_sizes ["plane"] := def_mk (l := l) X G a37 l37 c37 k37 fun _ _ _ _ _ _ us hl => match us, hl with | [_], _ => rfl
  have B : Blt mg := ⟨PySem.W.mg_none_of X G z0, PySem.W.mg_none_of X G z1, PySem.W.mg_none_of X G z2, PySem.W.mg_none_of X G z3, PySem.W.mg_none_of X G z4, PySem.W.mg_none_of X G z5, PySem.W.mg_none_of X G z6, PySem.W.mg_none_of X G z7, PySem.W.mg_none_of X G z8, PySem.W.mg_none_of X G z9, PySem.W.mg_none_of X G z10, PySem.W.mg_none_of X G z11, PySem.W.mg_none_of X G z12, PySem.W.mg_none_of X G z13, PySem.W.mg_none_of X G z14, PySem.W.mg_none_of X G z15, PySem.W.mg_none_of X G z16⟩
  have T : Glb mg := ⟨⟨_, PySem.W.mg_of X G glo0⟩, ⟨_, PySem.W.mg_of X G glo1⟩, ⟨_, PySem.W.mg_of X G glo2⟩⟩
  have F := fun_mk (st := s_law) l38 c38 k38
  refine ⟨PySem.W.fnOf "law" "law" (defArgs s_law) (defBody s_law) (defScope s_law) .none kV38 dc38 pm38 an38 cd38 ct38, fun s v => .of_eq rfl, fun base _ _ => ?_⟩
  have q_turn := cal_turn (P := l.prog) (w := w) (base := base) D0
  have q_opposite := cal_opposite (P := l.prog) (w := w) (base := base) D1
  have q_is_whole := cal_is_whole (P := l.prog) (w := w) (base := base) D2 B
  have q_is_ascending := cal_is_ascending (P := l.prog) (w := w) (base := base) D3 B
  have q_is_before := cal_is_before (P := l.prog) (w := w) (base := base) D4 B
  have q_next_in := cal_next_in (P := l.prog) (w := w) (base := base) D5 B
  have q_size_of_ring := cal_size_of_ring (P := l.prog) (w := w) (base := base) D6 B
  have q__law_next := cal__law_next (P := l.prog) (w := w) (base := base) D7 B
  have q__law_turn := cal__law_turn (P := l.prog) (w := w) (base := base) D8
  have q__law_is_integer := cal__law_is_integer (P := l.prog) (w := w) (base := base) D9 B
  have q__law_around := cal__law_around (P := l.prog) (w := w) (base := base) D10 B
  have q__law_halves := cal__law_halves (P := l.prog) (w := w) (base := base) D11 B
  have q__law_size := cal__law_size (P := l.prog) (w := w) (base := base) D12 B
  have q__law_stream := cal__law_stream (P := l.prog) (w := w) (base := base) D13 B
  have q_lies_on := cal_lies_on (P := l.prog) (w := w) (base := base) D14 B q_turn
  have q_cross := cal_cross (P := l.prog) (w := w) (base := base) D15 q_turn q_opposite
  have q_is_place := cal_is_place (P := l.prog) (w := w) (base := base) D16 B T q_is_whole
  have q_is_edge := cal_is_edge (P := l.prog) (w := w) (base := base) D17 B q_is_whole
  have q_put_around := cal_put_around (P := l.prog) (w := w) (base := base) D18 B q_is_before
  have q_is_half := cal_is_half (P := l.prog) (w := w) (base := base) D19 B q_is_whole
  have q_sizes_of := cal_sizes_of (P := l.prog) (w := w) (base := base) D20 q_size_of_ring
  have q__law_place := cal__law_place (P := l.prog) (w := w) (base := base) D21 q__law_next
  have q__law_on := cal__law_on (P := l.prog) (w := w) (base := base) D22 B q__law_turn
  have q__law_equalI := cal__law_equalI (P := l.prog) (w := w) (base := base) D23 B q__law_is_integer
  have q__law_closed := cal__law_closed (P := l.prog) (w := w) (base := base) D24 q__law_next q__law_around
  have q_meet := cal_meet (P := l.prog) (w := w) (base := base) D25 B q_cross q_lies_on
  have q_around := cal_around (P := l.prog) (w := w) (base := base) D26 B q_put_around
  have q_check_half := cal_check_half (P := l.prog) (w := w) (base := base) D27 B q_is_half
  have q__law_apart := cal__law_apart (P := l.prog) (w := w) (base := base) D28 q__law_turn q__law_on
  have q__law_equalL := cal__law_equalL (P := l.prog) (w := w) (base := base) D23 B q__law_equalI
  have q_are_clean := cal_are_clean (P := l.prog) (w := w) (base := base) D29 B q_meet
  have q_cycles_of := cal_cycles_of (P := l.prog) (w := w) (base := base) D30 B q_next_in q_around
  have q__law_segments := cal__law_segments (P := l.prog) (w := w) (base := base) D31 B q__law_next q__law_place q__law_apart q__law_closed
  have q_is_plane := cal_is_plane (P := l.prog) (w := w) (base := base) D32 B T q_is_place q_is_edge q_is_ascending q_lies_on q_are_clean
  have q__law_plane := cal__law_plane (P := l.prog) (w := w) (base := base) D33 B q__law_next q__law_place q__law_on q__law_segments
  have q_check_plane := cal_check_plane (P := l.prog) (w := w) (base := base) D34 q_is_plane
  have q_next_half := cal_next_half (P := l.prog) (w := w) (base := base) D35 B q_check_plane q_check_half q_next_in q_around
  have q_cycle_list := cal_cycle_list (P := l.prog) (w := w) (base := base) D36 q_check_plane q_cycles_of
  have q_cycle_sizes := cal_cycle_sizes (P := l.prog) (w := w) (base := base) D37 q_check_plane q_cycles_of q_sizes_of
  exact ok_law F B q__law_stream q__law_plane q_cycle_list q_next_half q_cycle_sizes q__law_halves q__law_equalL q__law_size
end K29
open PySem PySem.W PyProof.Rows
set_option maxHeartbeats 0 in
theorem PySem.Challenge.cw_trueatlas_k29_whole_each_half_edge_once_holds : PySem.Challenge.rw_trueatlas_k29_whole_each_half_edge_once.Holds := by
  w_on; o_law; k_head; (case hw => w_witness2)
  k_fill
  refine L2.walk_of (l := PySem.Challenge.rw_trueatlas_k29_whole_each_half_edge_once) (n := 63) (k := 8) (x := "_law_script") (CX := fun _ => L2.CX0) (sp := fun w => K29.spLaw _) rfl (by decide) rfl ⟨rfl, by decide, by decide⟩ (fun w h Y => PySem.W.kIn_of Y) ?F (fun _ _ a ns hl _ hS => ⟨a, ns, rfl, hS, hl, fun _ => rfl⟩) (fun _ _ _ _ _ h => h)
  case F =>
    intro w mg fa h KX G hmg
    refine' K29.all_mk KX G hmg ?a0 ?l0 ?c0 ?k0 ?a1 ?l1 ?c1 ?k1 ?a2 ?l2 ?c2 ?k2 ?a3 ?l3 ?c3 ?k3 ?a4 ?l4 ?c4 ?k4 ?a5 ?l5 ?c5 ?k5 ?a6 ?l6 ?c6 ?k6 ?a7 ?l7 ?c7 ?k7 ?a8 ?l8 ?c8 ?k8 ?a9 ?l9 ?c9 ?k9 ?a10 ?l10 ?c10 ?k10 ?a11 ?l11 ?c11 ?k11 ?a12 ?l12 ?c12 ?k12 ?a13 ?l13 ?c13 ?k13 ?a14 ?l14 ?c14 ?k14 ?a15 ?l15 ?c15 ?k15 ?a16 ?l16 ?c16 ?k16 ?a17 ?l17 ?c17 ?k17 ?a18 ?l18 ?c18 ?k18 ?a19 ?l19 ?c19 ?k19 ?a20 ?l20 ?c20 ?k20 ?a21 ?l21 ?c21 ?k21 ?a22 ?l22 ?c22 ?k22 ?a23 ?l23 ?c23 ?k23 ?a24 ?l24 ?c24 ?k24 ?a25 ?l25 ?c25 ?k25 ?a26 ?l26 ?c26 ?k26 ?a27 ?l27 ?c27 ?k27 ?a28 ?l28 ?c28 ?k28 ?a29 ?l29 ?c29 ?k29 ?a30 ?l30 ?c30 ?k30 ?a31 ?l31 ?c31 ?k31 ?a32 ?l32 ?c32 ?k32 ?a33 ?l33 ?c33 ?k33 ?a34 ?l34 ?c34 ?k34 ?a35 ?l35 ?c35 ?k35 ?a36 ?l36 ?c36 ?k36 ?a37 ?l37 ?c37 ?k37 ?a38 ?l38 ?c38 ?k38 ?z0 ?z1 ?z2 ?z3 ?z4 ?z5 ?z6 ?z7 ?z8 ?z9 ?z10 ?z11 ?z12 ?z13 ?z14 ?z15 ?z16 ?glo0 ?glo1 ?glo2
    (case a0 => k_is); (case l0 => k_is); (case c0 => k_is); (case k0 => k_is); (case a1 => k_is); (case l1 => k_is); (case c1 => k_is); (case k1 => k_is); (case a2 => k_is); (case l2 => k_is); (case c2 => k_is); (case k2 => k_is); (case a3 => k_is); (case l3 => k_is); (case c3 => k_is); (case k3 => k_is); (case a4 => k_is); (case l4 => k_is); (case c4 => k_is); (case k4 => k_is); (case a5 => k_is); (case l5 => k_is); (case c5 => k_is); (case k5 => k_is); (case a6 => k_is); (case l6 => k_is); (case c6 => k_is); (case k6 => k_is); (case a7 => k_is); (case l7 => k_is); (case c7 => k_is); (case k7 => k_is); (case a8 => k_is); (case l8 => k_is); (case c8 => k_is); (case k8 => k_is); (case a9 => k_is); (case l9 => k_is); (case c9 => k_is); (case k9 => k_is); (case a10 => k_is); (case l10 => k_is); (case c10 => k_is); (case k10 => k_is); (case a11 => k_is); (case l11 => k_is); (case c11 => k_is); (case k11 => k_is); (case a12 => k_is); (case l12 => k_is); (case c12 => k_is); (case k12 => k_is); (case a13 => k_is); (case l13 => k_is); (case c13 => k_is); (case k13 => k_is); (case a14 => k_is); (case l14 => k_is); (case c14 => k_is); (case k14 => k_is); (case a15 => k_is); (case l15 => k_is); (case c15 => k_is); (case k15 => k_is); (case a16 => k_is); (case l16 => k_is); (case c16 => k_is); (case k16 => k_is); (case a17 => k_is); (case l17 => k_is); (case c17 => k_is); (case k17 => k_is); (case a18 => k_is); (case l18 => k_is); (case c18 => k_is); (case k18 => k_is); (case a19 => k_is); (case l19 => k_is); (case c19 => k_is); (case k19 => k_is); (case a20 => k_is); (case l20 => k_is); (case c20 => k_is); (case k20 => k_is); (case a21 => k_is); (case l21 => k_is); (case c21 => k_is); (case k21 => k_is); (case a22 => k_is); (case l22 => k_is); (case c22 => k_is); (case k22 => k_is); (case a23 => k_is); (case l23 => k_is); (case c23 => k_is); (case k23 => k_is); (case a24 => k_is); (case l24 => k_is); (case c24 => k_is); (case k24 => k_is); (case a25 => k_is); (case l25 => k_is); (case c25 => k_is); (case k25 => k_is); (case a26 => k_is); (case l26 => k_is); (case c26 => k_is); (case k26 => k_is); (case a27 => k_is); (case l27 => k_is); (case c27 => k_is); (case k27 => k_is); (case a28 => k_is); (case l28 => k_is); (case c28 => k_is); (case k28 => k_is); (case a29 => k_is); (case l29 => k_is); (case c29 => k_is); (case k29 => k_is); (case a30 => k_is); (case l30 => k_is); (case c30 => k_is); (case k30 => k_is); (case a31 => k_is); (case l31 => k_is); (case c31 => k_is); (case k31 => k_is); (case a32 => k_is); (case l32 => k_is); (case c32 => k_is); (case k32 => k_is); (case a33 => k_is); (case l33 => k_is); (case c33 => k_is); (case k33 => k_is); (case a34 => k_is); (case l34 => k_is); (case c34 => k_is); (case k34 => k_is); (case a35 => k_is); (case l35 => k_is); (case c35 => k_is); (case k35 => k_is); (case a36 => k_is); (case l36 => k_is); (case c36 => k_is); (case k36 => k_is); (case a37 => k_is); (case l37 => k_is); (case c37 => k_is); (case k37 => k_is); (case a38 => k_is); (case l38 => k_is); (case c38 => k_is); (case k38 => k_is); (case z0 => k_is); (case z1 => k_is); (case z2 => k_is); (case z3 => k_is); (case z4 => k_is); (case z5 => k_is); (case z6 => k_is); (case z7 => k_is); (case z8 => k_is); (case z9 => k_is); (case z10 => k_is); (case z11 => k_is); (case z12 => k_is); (case z13 => k_is); (case z14 => k_is); (case z15 => k_is); (case z16 => k_is); (case glo0 => k_is); (case glo1 => k_is); (case glo2 => k_is)
