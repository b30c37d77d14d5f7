import PyProof.Rows.All
import Wide.All
import OpenK.AllK
import Wide.FinOn
import HandS.ForMost
import HandS.More
import HandS.Exc
import HandS.IsInst
import HandS.DictComp
import HandS.Wide
import HandS.WideBits
import HandS.Sort
import HandS.EndBits
import KE.DataEq
import HandS.Codes
import HandS.Conv
import PySem.Challenge.RW_bellbook_k56_whole_no_ring_is_left
set_option Elab.async false
set_option linter.all false
set_option maxRecDepth 100000
set_option maxHeartbeats 4000000
/-! The plain law: rings of dues, without any program. -/
namespace Bb
section
variable {α : Type}

/-- a due: debtor, creditor, amount -/
abbrev DueOf (α : Type) := α × α × Int

def Edge (B : List (DueOf α)) (x y : α) : Prop := ∃ m, (x, y, m) ∈ B

/-- dues lead from a house to g through houses of U's complement that are greater than g -/
inductive Lead (lt : α → α → Bool) (B : List (DueOf α)) (g : α) (U : List α) : α → Prop
  | direct {u : α} : Edge B u g → Lead lt B g U u
  | step {u v : α} : Edge B u v → lt g v = true → v ∉ U → Lead lt B g U v → Lead lt B g U u

inductive Path (B : List (DueOf α)) : α → α → Prop
  | one {x y : α} : Edge B x y → Path B x y
  | cons {x y z : α} : Edge B x y → Path B y z → Path B x z

theorem Path.trans {B : List (DueOf α)} {x y z : α} (a : Path B x y) (b : Path B y z) : Path B x z := by
  induction a with
  | one e => exact .cons e b
  | cons e _ ih => exact .cons e (ih b)
theorem Path.snoc {B : List (DueOf α)} {x y z : α} (a : Path B x y) (b : Edge B y z) : Path B x z := a.trans (.one b)

def Acyclic (B : List (DueOf α)) : Prop := ∀ x, ¬ Path B x x

/-- who is named in a book -/
def Named (B : List (DueOf α)) (x : α) : Prop := ∃ d ∈ B, x = d.1 ∨ x = d.2.1
theorem Edge.nl {B : List (DueOf α)} {x y : α} (e : Edge B x y) : Named B x := by
  obtain ⟨m, h⟩ := e
  exact ⟨_, h, .inl rfl⟩
theorem Edge.nr {B : List (DueOf α)} {x y : α} (e : Edge B x y) : Named B y := by
  obtain ⟨m, h⟩ := e
  exact ⟨_, h, .inr rfl⟩
theorem Path.nl {B : List (DueOf α)} {x y : α} (p : Path B x y) : Named B x := by
  cases p with
  | one e => exact e.nl
  | cons e _ => exact e.nl

theorem Lead.path {lt : α → α → Bool} {B : List (DueOf α)} {g : α} {U : List α} {u : α} (h : Lead lt B g U u) : Path B u g := by
  induction h with
  | direct e => exact .one e
  | step e _ _ _ ih => exact .cons e ih

/-- a total strict order -/
structure Ord (lt : α → α → Bool) : Prop where
  irr : ∀ x, lt x x = false
  tr : ∀ x y z, lt x y = true → lt y z = true → lt x z = true
  tri : ∀ x y, x = y ∨ lt x y = true ∨ lt y x = true

/-- the least of those of a list that are asked for -/
theorem least_of {lt : α → α → Bool} (O : Ord lt) (P : α → Prop) : ∀ l : List α, (∃ x ∈ l, P x) → ∃ m ∈ l, P m ∧ ∀ z ∈ l, P z → z = m ∨ lt m z = true
  | [], h => by
    obtain ⟨x, hx, _⟩ := h
    cases hx
  | a :: l, h => by
    by_cases hl : ∃ x ∈ l, P x
    · obtain ⟨m, hm, pm, least⟩ := least_of O P l hl
      by_cases pa : P a
      · rcases O.tri m a with e | e | e
        · exact ⟨m, List.mem_cons_of_mem _ hm, pm, fun z hz pz => by
            rcases List.mem_cons.mp hz with q | q
            · exact .inl (q.trans e.symm)
            · exact least z q pz⟩
        · exact ⟨m, List.mem_cons_of_mem _ hm, pm, fun z hz pz => by
            rcases List.mem_cons.mp hz with q | q
            · rw [q]; exact .inr e
            · exact least z q pz⟩
        · exact ⟨a, List.mem_cons_self, pa, fun z hz pz => by
            rcases List.mem_cons.mp hz with q | q
            · exact .inl q
            · rcases least z q pz with r | r
              · rw [r]; exact .inr e
              · exact .inr (O.tr _ _ _ e r)⟩
      · exact ⟨m, List.mem_cons_of_mem _ hm, pm, fun z hz pz => by
          rcases List.mem_cons.mp hz with q | q
          · exact absurd (q ▸ pz) pa
          · exact least z q pz⟩
    · obtain ⟨x, hx, px⟩ := h
      have e : x = a := by
        rcases List.mem_cons.mp hx with q | q
        · exact q
        · exact absurd ⟨x, q, px⟩ hl
      subst e
      exact ⟨x, List.mem_cons_self, px, fun z hz pz => by
        rcases List.mem_cons.mp hz with q | q
        · exact .inl q
        · exact absurd ⟨z, q, pz⟩ hl⟩

/-- where no house leads back to itself through greater ones, there is no ring -/
theorem acyclic_of {lt : α → α → Bool} (O : Ord lt) {B : List (DueOf α)} {names : List α} (hn : ∀ x, Named B x → x ∈ names) (h : ∀ x ∈ names, ¬ Lead lt B x [] x) : Acyclic B := by
  intro x px
  obtain ⟨m, hm, pm, least⟩ := least_of O (fun y => Path B y y) names ⟨x, hn x px.nl, px⟩
  refine h m hm ?_
  have key : ∀ u g, Path B u g → g = m → (u = m ∨ Path B m u) → Lead lt B m [] u := by
    intro u g p
    induction p with
    | one e => intro hg _; subst hg; exact .direct e
    | @cons u z g e p ih =>
      intro hg hu
      subst hg
      have mz : Path B g z := by
        rcases hu with r | r
        · subst r; exact .one e
        · exact r.snoc e
      have zz : Path B z z := p.trans mz
      rcases least z (hn z zz.nl) zz with r | r
      · subst r; exact .direct e
      · exact .step e r (by simp) (ih rfl (.inr mz))
  exact key m m pm rfl (.inl rfl)

/-- a house that is passed may be left out, or leads itself -/
theorem Lead.avoid {lt : α → α → Bool} {B : List (DueOf α)} {g x : α} {U : List α} {u : α} (h : Lead lt B g U u) : Lead lt B g (U ++ [x]) u ∨ Lead lt B g (U ++ [x]) x := by
  induction h with
  | direct e => exact .inl (.direct e)
  | @step u v e hg hU _ ih =>
    rcases ih with q | q
    · by_cases hv : v = x
      · subst hv; exact .inr q
      · exact .inl (.step e hg (by simp [hU, hv]) q)
    · exact .inr q
/-- the next house of a ring that is begun: x leads to g, and owes it nothing -/
theorem Lead.next {lt : α → α → Bool} {B : List (DueOf α)} {g x : α} {U : List α} (h : Lead lt B g U x) (hn : ¬ Edge B x g) : ∃ v, Edge B x v ∧ lt g v = true ∧ v ∉ U ++ [x] ∧ Lead lt B g (U ++ [x]) v := by
  have q : Lead lt B g (U ++ [x]) x := by
    rcases h.avoid (x := x) with r | r <;> exact r
  cases q with
  | direct e => exact absurd e hn
  | step e h1 h2 h3 => exact ⟨_, e, h1, h2, h3⟩

/-- what a search that found nothing has seen -/
theorem lead_closed {lt : α → α → Bool} {B : List (DueOf α)} {g : α} {U : List α} {S : α → Prop} (hc : ∀ s, S s → ∀ v, Edge B s v → v ≠ g ∧ (lt g v = true → v ∉ U → S v)) {u : α} (hu : S u) : ¬ Lead lt B g U u := by
  intro h
  induction h with
  | direct e => exact (hc _ hu _ e).1 rfl
  | step e h1 h2 _ ih => exact ih ((hc _ hu _ e).2 h1 h2)

/-- dues that go up leave no ring -/
theorem acyclic_up {lt : α → α → Bool} (O : Ord lt) {B : List (DueOf α)} (h : ∀ x y, Edge B x y → lt x y = true) : Acyclic B := by
  have up : ∀ x y, Path B x y → lt x y = true := by
    intro x y p
    induction p with
    | one e => exact h _ _ e
    | cons e _ ih => exact O.tr _ _ _ (h _ _ e) ih
  intro x p
  have := up x x p
  rw [O.irr x] at this
  cases this

/-! ### lists without a name twice -/
theorem nodup_le {β : Type} [DecidableEq β] : ∀ {l m : List β}, l.Nodup → (∀ x ∈ l, x ∈ m) → l.length ≤ m.length
  | [], _, _, _ => Nat.zero_le _
  | a :: l, m, hn, hs => by
    obtain ⟨h1, h2⟩ := List.nodup_cons.mp hn
    have ha : a ∈ m := hs a List.mem_cons_self
    have q := nodup_le (l := l) (m := m.erase a) h2 fun x hx => by
      have hne : x ≠ a := fun e => h1 (e ▸ hx)
      exact (List.mem_erase_of_ne hne).mpr (hs x (List.mem_cons_of_mem _ hx))
    have e := List.length_erase_of_mem ha
    have hp : 0 < m.length := List.length_pos_of_mem ha
    rw [List.length_cons]
    omega

/-! ### sums -/
theorem perm_sum : ∀ {l m : List Int}, l.Perm m → l.sum = m.sum := by
  intro l m h
  induction h with
  | nil => rfl
  | cons x _ ih => rw [List.sum_cons, List.sum_cons, ih]
  | swap x y l =>
    rw [List.sum_cons, List.sum_cons, List.sum_cons, List.sum_cons]
    omega
  | trans _ _ h1 h2 => exact h1.trans h2

/-- what is owed to a house less what it owes -/
def netD [DecidableEq α] (w : α) (d : DueOf α) : Int := (if d.2.1 = w then d.2.2 else 0) - (if d.1 = w then d.2.2 else 0)
def net [DecidableEq α] (B : List (DueOf α)) (w : α) : Int := (B.map (netD w)).sum
def key (d : DueOf α) : α × α := (d.1, d.2.1)

/-! ### a ring cut out -/
/-- behind each of a row's names the next one, behind the last the first -/
def nx (row : List α) : List α := row.tail ++ row.take 1
theorem nx_len (row : List α) : (nx row).length = row.length := by
  cases row with
  | nil => rfl
  | cons a r => simp [nx]
theorem nx_perm (row : List α) : (nx row).Perm row := by
  cases row with
  | nil => exact List.Perm.refl _
  | cons a r =>
    show (r ++ [a]).Perm (a :: r)
    exact List.perm_append_comm
theorem nx_get {row : List α} {i : Nat} (h : i < row.length) : (nx row)[i]? = row[(i + 1) % row.length]? := by
  cases row with
  | nil => cases h
  | cons a r =>
    show (r ++ [a])[i]? = (a :: r)[(i + 1) % (a :: r).length]?
    rw [List.length_cons] at h ⊢
    by_cases e : i = r.length
    · subst e
      rw [Nat.mod_self, List.getElem?_append_right (Nat.le_refl _), Nat.sub_self]
      rfl
    · have h2 : i < r.length := by omega
      rw [Nat.mod_eq_of_lt (by omega), List.getElem?_append_left h2]
      rfl
/-- a row of names each of whom owes to the next one, the last one to the first -/
structure IsRing (B : List (DueOf α)) (row : List α) : Prop where
  ne : row ≠ []
  nd : row.Nodup
  ed : ∀ p ∈ row.zip (nx row), Edge B p.1 p.2

section
variable [DecidableEq α]
def fol (row : List α) (d : α) : Option α := (row.zip (nx row)).lookup d
theorem lookup_nodup {β γ : Type} [DecidableEq β] : ∀ {l : List (β × γ)} {k : β} {v : γ}, (l.map (·.1)).Nodup → (l.lookup k = some v ↔ (k, v) ∈ l)
  | [], k, v, _ => by simp
  | (a, b) :: l, k, v, h => by
    obtain ⟨h1, h2⟩ := List.nodup_cons.mp (show (a :: l.map (·.1)).Nodup from h)
    rw [List.lookup_cons]
    by_cases e : k = a
    · subst e
      simp only [beq_self_eq_true]
      constructor
      · intro q
        cases q
        exact List.mem_cons_self
      · intro q
        rcases List.mem_cons.mp q with z | z
        · cases z; rfl
        · exact absurd (List.mem_map.mpr ⟨_, z, rfl⟩) h1
    · have e' : (k == a) = false := beq_eq_false_iff_ne.mpr e
      simp only [e']
      rw [lookup_nodup h2]
      constructor
      · exact fun q => List.mem_cons_of_mem _ q
      · intro q
        rcases List.mem_cons.mp q with z | z
        · cases z; exact absurd rfl e
        · exact z
theorem zip_fst {row : List α} : (row.zip (nx row)).map (·.1) = row := List.map_fst_zip (by rw [nx_len]; exact Nat.le_refl _)
theorem zip_snd {row : List α} : (row.zip (nx row)).map (·.2) = nx row := List.map_snd_zip (by rw [nx_len]; exact Nat.le_refl _)
theorem fol_iff {row : List α} (h : row.Nodup) {d c : α} : fol row d = some c ↔ (d, c) ∈ row.zip (nx row) :=
  lookup_nodup (by rw [zip_fst]; exact h)
/-- the due lies on the ring -/
abbrev onR (row : List α) (d : DueOf α) : Prop := fol row d.1 = some d.2.1
def cutB (row : List α) (least : Int) (B : List (DueOf α)) : List (DueOf α) :=
  B.filterMap fun d => if onR row d then (if least < d.2.2 then some (d.1, d.2.1, d.2.2 - least) else none) else some d
theorem cutB_nil {row : List α} {least : Int} : cutB row least [] = [] := rfl
theorem cutB_cons {row : List α} {least : Int} {d : DueOf α} {B : List (DueOf α)} : cutB row least (d :: B) =
    if onR row d then (if least < d.2.2 then (d.1, d.2.1, d.2.2 - least) :: cutB row least B else cutB row least B) else d :: cutB row least B := by
  unfold cutB
  rw [List.filterMap_cons]
  by_cases h : onR row d
  · rw [if_pos h, if_pos h]
    by_cases h2 : least < d.2.2
    · rw [if_pos h2, if_pos h2]
    · rw [if_neg h2, if_neg h2]
  · rw [if_neg h, if_neg h]
theorem cutB_snoc {row : List α} {least : Int} {d : DueOf α} {B : List (DueOf α)} : cutB row least (B ++ [d]) =
    if onR row d then (if least < d.2.2 then cutB row least B ++ [(d.1, d.2.1, d.2.2 - least)] else cutB row least B) else cutB row least B ++ [d] := by
  unfold cutB
  rw [List.filterMap_append, List.filterMap_cons]
  by_cases h : onR row d
  · rw [if_pos h, if_pos h]
    by_cases h2 : least < d.2.2
    · rw [if_pos h2, if_pos h2]; rfl
    · rw [if_neg h2, if_neg h2]; simp
  · rw [if_neg h, if_neg h]; rfl
def one (w : α) (p : α × α) : Int := (if p.2 = w then 1 else 0) - (if p.1 = w then 1 else 0)
theorem net_cut1 {row : List α} {least : Int} (w : α) : ∀ {B : List (DueOf α)}, (∀ d ∈ B, onR row d → least ≤ d.2.2) →
    net (cutB row least B) w = net B w - least * ((B.filter fun d => decide (onR row d)).map fun d => one w (key d)).sum
  | [], _ => by simp [cutB_nil, net]
  | d :: B, h => by
    have ih := net_cut1 w (B := B) fun e he => h e (List.mem_cons_of_mem _ he)
    have e0 : net (d :: B) w = netD w d + net B w := by unfold net; rw [List.map_cons, List.sum_cons]
    rw [cutB_cons, e0]
    by_cases ho : onR row d
    · have hl := h d List.mem_cons_self ho
      rw [if_pos ho, List.filter_cons_of_pos (by simpa using ho), List.map_cons, List.sum_cons]
      have e2 : netD w (d.1, d.2.1, d.2.2 - least) = netD w d - least * one w (key d) := by
        unfold netD one key
        dsimp only
        by_cases a : d.2.1 = w <;> by_cases b : d.1 = w <;> simp [a, b] <;> omega
      rw [Int.mul_add]
      by_cases h2 : least < d.2.2
      · rw [if_pos h2]
        have e1 : net ((d.1, d.2.1, d.2.2 - least) :: cutB row least B) w = netD w (d.1, d.2.1, d.2.2 - least) + net (cutB row least B) w := by unfold net; rw [List.map_cons, List.sum_cons]
        rw [e1, ih, e2]
        omega
      · rw [if_neg h2, ih]
        have e3 : d.2.2 = least := by omega
        have e4 : netD w d - least * one w (key d) = 0 := by
          unfold netD one key
          dsimp only
          by_cases a : d.2.1 = w <;> by_cases b : d.1 = w <;> simp [a, b] <;> omega
        omega
    · rw [if_neg ho, List.filter_cons_of_neg (by simpa using ho)]
      have e1 : net (d :: cutB row least B) w = netD w d + net (cutB row least B) w := by unfold net; rw [List.map_cons, List.sum_cons]
      rw [e1, ih]
      omega
theorem one_sum (w : α) : ∀ l : List (α × α), (l.map (one w)).sum = ((l.map (·.2)).map fun x => if x = w then (1 : Int) else 0).sum - ((l.map (·.1)).map fun x => if x = w then (1 : Int) else 0).sum
  | [] => by simp
  | p :: l => by
    rw [List.map_cons, List.sum_cons, one_sum w l, List.map_cons, List.map_cons, List.map_cons, List.map_cons, List.sum_cons, List.sum_cons]
    unfold one
    omega
theorem nodup_of_map {β γ : Type} {f : β → γ} : ∀ {l : List β}, (l.map f).Nodup → l.Nodup
  | [], _ => List.nodup_nil
  | a :: l, h => by
    obtain ⟨h1, h2⟩ := List.nodup_cons.mp (show (f a :: l.map f).Nodup from h)
    exact List.nodup_cons.mpr ⟨fun q => h1 (List.mem_map.mpr ⟨a, q, rfl⟩), nodup_of_map h2⟩
theorem ring_perm {B : List (DueOf α)} {row : List α} (hk : (B.map key).Nodup) (R : IsRing B row) : ((B.filter fun d => decide (onR row d)).map key).Perm (row.zip (nx row)) := by
  refine (List.perm_ext_iff_of_nodup ?_ ?_).mpr fun p => ?_
  · exact List.Sublist.nodup (List.Sublist.map _ List.filter_sublist) hk
  · refine nodup_of_map (f := (·.1)) ?_
    rw [zip_fst]
    exact R.nd
  · constructor
    · intro h
      obtain ⟨d, hd, e⟩ := List.mem_map.mp h
      obtain ⟨h1, h2⟩ := List.mem_filter.mp hd
      subst e
      exact (fol_iff R.nd).mp (by simpa using h2)
    · intro h
      obtain ⟨m, hm⟩ := R.ed p h
      refine List.mem_map.mpr ⟨(p.1, p.2, m), List.mem_filter.mpr ⟨hm, ?_⟩, rfl⟩
      exact decide_eq_true ((fol_iff R.nd).mpr h)
/-- nobody's net is changed -/
theorem net_cut {B : List (DueOf α)} {row : List α} {least : Int} (hk : (B.map key).Nodup) (R : IsRing B row) (hl : ∀ d ∈ B, onR row d → least ≤ d.2.2) (w : α) : net (cutB row least B) w = net B w := by
  rw [net_cut1 w hl]
  have e1 : ((B.filter fun d => decide (onR row d)).map fun d => one w (key d)) = (((B.filter fun d => decide (onR row d)).map key).map (one w)) := by rw [List.map_map]; rfl
  rw [e1, perm_sum ((ring_perm hk R).map _), one_sum, zip_fst, zip_snd, perm_sum ((nx_perm row).map _)]
  omega
/-- some due lies on the ring -/
theorem ring_some {B : List (DueOf α)} {row : List α} (R : IsRing B row) : ∃ d ∈ B, onR row d := by
  have hne := R.ne
  cases hz : row.zip (nx row) with
  | nil =>
    have q := congrArg List.length (zip_fst (row := row))
    rw [hz] at q
    exact absurd (List.length_eq_zero_iff.mp q.symm) hne
  | cons p l =>
    have hp : p ∈ row.zip (nx row) := by rw [hz]; exact List.mem_cons_self
    obtain ⟨m, hm⟩ := R.ed p hp
    exact ⟨_, hm, (fol_iff R.nd).mpr hp⟩
theorem cut_len {row : List α} {least : Int} : ∀ {B : List (DueOf α)}, (∃ d ∈ B, onR row d ∧ d.2.2 = least) → (cutB row least B).length < B.length
  | [], h => by
    obtain ⟨d, hd, _⟩ := h
    cases hd
  | e :: B, h => by
    have le : (cutB row least B).length ≤ B.length := List.length_filterMap_le _ _
    obtain ⟨d, hd, ho, hm⟩ := h
    rw [cutB_cons, List.length_cons]
    rcases List.mem_cons.mp hd with q | q
    · subst q
      rw [if_pos ho, if_neg (by omega)]
      omega
    · have ih := cut_len (row := row) (least := least) (B := B) ⟨d, q, ho, hm⟩
      by_cases h1 : onR row e
      · rw [if_pos h1]
        by_cases h2 : least < e.2.2
        · rw [if_pos h2, List.length_cons]; omega
        · rw [if_neg h2]; omega
      · rw [if_neg h1, List.length_cons]; omega
end

/-! ### a book lessened -/
inductive Less : List (DueOf α) → List (DueOf α) → Prop
  | nil : Less [] []
  | skip {d : DueOf α} {B L : List (DueOf α)} : Less B L → Less (d :: B) L
  | keep {d c : α} {a r : Int} {B L : List (DueOf α)} : 1 ≤ r → r ≤ a → Less B L → Less ((d, c, a) :: B) ((d, c, r) :: L)
theorem Less.refl : ∀ {B : List (DueOf α)}, (∀ d ∈ B, 1 ≤ d.2.2) → Less B B
  | [], _ => .nil
  | (d, c, a) :: B, h => .keep (h _ List.mem_cons_self) (Int.le_refl _) (Less.refl fun e he => h e (List.mem_cons_of_mem _ he))
theorem Less.trans {B L M : List (DueOf α)} (h1 : Less B L) (h2 : Less L M) : Less B M := by
  induction h1 generalizing M with
  | nil => exact h2
  | skip _ ih => exact .skip (ih h2)
  | keep hr ha _ ih =>
    cases h2 with
    | skip h => exact .skip (ih h)
    | keep hr' ha' h => exact .keep hr' (Int.le_trans ha' ha) (ih h)
theorem Less.keys {B L : List (DueOf α)} (h : Less B L) : (L.map key).Sublist (B.map key) := by
  induction h with
  | nil => exact List.Sublist.refl _
  | skip _ ih => exact .cons _ ih
  | keep _ _ _ ih => exact .cons_cons _ ih
theorem Less.nd {B L : List (DueOf α)} (h : Less B L) (hk : (B.map key).Nodup) : (L.map key).Nodup := h.keys.nodup hk
theorem Less.len {B L : List (DueOf α)} (h : Less B L) : L.length ≤ B.length := by
  have q := h.keys.length_le
  rw [List.length_map, List.length_map] at q
  exact q
theorem Less.pos {B L : List (DueOf α)} (h : Less B L) : ∀ d ∈ L, 1 ≤ d.2.2 := by
  induction h with
  | nil => intro d hd; cases hd
  | skip _ ih => exact ih
  | keep hr _ _ ih =>
    intro d hd
    rcases List.mem_cons.mp hd with q | q
    · subst q; exact hr
    · exact ih d q
theorem Less.edge {B L : List (DueOf α)} (h : Less B L) {x y : α} (e : Edge L x y) : Edge B x y := by
  obtain ⟨m, hm⟩ := e
  have q : (x, y) ∈ L.map key := List.mem_map.mpr ⟨_, hm, rfl⟩
  obtain ⟨d, hd, e⟩ := List.mem_map.mp (h.keys.subset q)
  obtain ⟨d1, d2, d3⟩ := d
  have e' : (d1, d2) = (x, y) := e
  cases e'
  exact ⟨d3, hd⟩
theorem Less.named {B L : List (DueOf α)} (h : Less B L) {x : α} (n : Named L x) : Named B x := by
  obtain ⟨⟨d, c, m⟩, hd, e⟩ := n
  have q := h.edge (⟨m, hd⟩ : Edge L d c)
  rcases e with e | e
  · rw [e]; exact q.nl
  · rw [e]; exact q.nr
section
variable [DecidableEq α]
theorem Less.cut {row : List α} {least : Int} (h0 : 0 ≤ least) : ∀ {B : List (DueOf α)}, (∀ d ∈ B, 1 ≤ d.2.2) → Less B (cutB row least B)
  | [], _ => .nil
  | (d, c, a) :: B, h => by
    have ih := Less.cut (row := row) h0 fun e he => h e (List.mem_cons_of_mem _ he)
    have ha : 1 ≤ a := h _ List.mem_cons_self
    rw [cutB_cons]
    by_cases h1 : onR row (d, c, a)
    · rw [if_pos h1]
      by_cases h2 : least < a
      · rw [if_pos h2]
        show Less ((d, c, a) :: B) ((d, c, a - least) :: cutB row least B)
        exact .keep (by omega) (by omega) ih
      · rw [if_neg h2]; exact .skip ih
    · rw [if_neg h1]; exact .keep ha (Int.le_refl _) ih

/-! ### what was cut -/
def amt (L : List (DueOf α)) (d c : α) : Int := ((L.find? fun e => decide (e.1 = d) && decide (e.2.1 = c)).map (·.2.2)).getD 0
theorem amt_nil (d c : α) : amt [] d c = 0 := rfl
theorem amt_pos {e : DueOf α} {L : List (DueOf α)} {d c : α} (h : e.1 = d ∧ e.2.1 = c) : amt (e :: L) d c = e.2.2 := by
  unfold amt
  rw [List.find?_cons_of_pos (by simp [h.1, h.2])]
  rfl
theorem amt_neg {e : DueOf α} {L : List (DueOf α)} {d c : α} (h : ¬ (e.1 = d ∧ e.2.1 = c)) : amt (e :: L) d c = amt L d c := by
  unfold amt
  rw [List.find?_cons_of_neg (by simpa using h)]
theorem amt_not {L : List (DueOf α)} {d c : α} (h : (d, c) ∉ L.map key) : amt L d c = 0 := by
  induction L with
  | nil => rfl
  | cons e L ih =>
    rw [amt_neg fun q => h (List.mem_map.mpr ⟨e, List.mem_cons_self, by unfold key; rw [q.1, q.2]⟩)]
    exact ih fun q => h (by rw [List.map_cons]; exact List.mem_cons_of_mem _ q)
def cutOf (L : List (DueOf α)) (d : DueOf α) : Option (DueOf α) := if amt L d.1 d.2.1 < d.2.2 then some (d.1, d.2.1, d.2.2 - amt L d.1 d.2.1) else none
def cutsOf (B L : List (DueOf α)) : List (DueOf α) := B.filterMap (cutOf L)

/-- the law's own look: each due is what was cut off it with what is left of it -/
def head1 (k : α × α) : List (DueOf α) → Int × List (DueOf α)
  | [] => (0, [])
  | e :: l => if key e = k then (e.2.2, l) else (0, e :: l)
def parted : List (DueOf α) → List (DueOf α) → List (DueOf α) → Bool
  | [], cs, ls => cs.isEmpty && ls.isEmpty
  | d :: B, cs, ls => if (head1 (key d) cs).1 + (head1 (key d) ls).1 = d.2.2 then parted B (head1 (key d) cs).2 (head1 (key d) ls).2 else false
theorem head1_not {k : α × α} {l : List (DueOf α)} (h : k ∉ l.map key) : head1 k l = (0, l) := by
  cases l with
  | nil => rfl
  | cons e l =>
    show (if key e = k then (e.2.2, l) else (0, e :: l)) = (0, e :: l)
    rw [if_neg fun q => h (by rw [List.map_cons, q]; exact List.mem_cons_self)]
theorem head1_yes {e : DueOf α} {l : List (DueOf α)} {k : α × α} (h : key e = k) : head1 k (e :: l) = (e.2.2, l) := by
  show (if key e = k then (e.2.2, l) else (0, e :: l)) = (e.2.2, l)
  rw [if_pos h]
theorem cutsOf_keys {B M : List (DueOf α)} : ∀ k ∈ (B.filterMap (cutOf M)).map key, k ∈ B.map key := by
  intro k hk
  obtain ⟨e, he, q⟩ := List.mem_map.mp hk
  obtain ⟨d, hd, z⟩ := List.mem_filterMap.mp he
  unfold cutOf at z
  split at z
  · cases z
    subst q
    exact List.mem_map.mpr ⟨d, hd, rfl⟩
  · cases z
theorem parted_ok {M : List (DueOf α)} {B L : List (DueOf α)} (h : Less B L) (hk : (B.map key).Nodup) (hp : ∀ d ∈ B, 1 ≤ d.2.2) (hM : ∀ d ∈ B, amt M d.1 d.2.1 = amt L d.1 d.2.1) : parted B (B.filterMap (cutOf M)) L = true := by
  induction h with
  | nil => rfl
  | @skip d B L hl ih =>
    obtain ⟨h1, h2⟩ := List.nodup_cons.mp (show (key d :: B.map key).Nodup from hk)
    have nL : key d ∉ L.map key := fun q => h1 (hl.keys.subset q)
    have a0 : amt M d.1 d.2.1 = 0 := by rw [hM d List.mem_cons_self, amt_not nL]
    have pd := hp d List.mem_cons_self
    have ec : cutOf M d = some (d.1, d.2.1, d.2.2 - 0) := by
      unfold cutOf
      rw [a0, if_pos (by omega)]
    rw [List.filterMap_cons, ec]
    show (if (head1 (key d) ((d.1, d.2.1, d.2.2 - 0) :: B.filterMap (cutOf M))).1 + (head1 (key d) L).1 = d.2.2 then parted B (head1 (key d) ((d.1, d.2.1, d.2.2 - 0) :: B.filterMap (cutOf M))).2 (head1 (key d) L).2 else false) = true
    rw [head1_yes (show key (d.1, d.2.1, d.2.2 - 0) = key d from rfl), head1_not nL]
    rw [if_pos (by show d.2.2 - 0 + 0 = d.2.2; omega)]
    exact ih h2 (fun e he => hp e (List.mem_cons_of_mem _ he)) fun e he => hM e (List.mem_cons_of_mem _ he)
  | @keep d c a r B L hr ha hl ih =>
    obtain ⟨h1, h2⟩ := List.nodup_cons.mp (show ((d, c) :: B.map key).Nodup from hk)
    have am : amt M d c = r := by
      have q := hM (d, c, a) List.mem_cons_self
      rw [show amt ((d, c, r) :: L) (d, c, a).1 (d, c, a).2.1 = r from amt_pos ⟨rfl, rfl⟩] at q
      exact q
    have ih' := ih h2 (fun e he => hp e (List.mem_cons_of_mem _ he)) fun e he => by
      have q := hM e (List.mem_cons_of_mem _ he)
      rw [amt_neg (e := (d, c, r)) (L := L) (d := e.1) (c := e.2.1) fun z => h1 (List.mem_map.mpr ⟨e, he, by unfold key; rw [← z.1, ← z.2]⟩)] at q
      exact q
    by_cases hlt : r < a
    · have ec : cutOf M (d, c, a) = some (d, c, a - r) := by
        unfold cutOf
        rw [show amt M (d, c, a).1 (d, c, a).2.1 = r from am, if_pos hlt]
      rw [List.filterMap_cons, ec]
      show (if (head1 (d, c) ((d, c, a - r) :: B.filterMap (cutOf M))).1 + (head1 (d, c) ((d, c, r) :: L)).1 = a then parted B (head1 (d, c) ((d, c, a - r) :: B.filterMap (cutOf M))).2 (head1 (d, c) ((d, c, r) :: L)).2 else false) = true
      rw [head1_yes (show key (d, c, a - r) = (d, c) from rfl), head1_yes (show key (d, c, r) = (d, c) from rfl)]
      rw [if_pos (by show a - r + r = a; omega)]
      exact ih'
    · have ec : cutOf M (d, c, a) = none := by
        unfold cutOf
        rw [show amt M (d, c, a).1 (d, c, a).2.1 = r from am, if_neg hlt]
      rw [List.filterMap_cons, ec]
      show (if (head1 (d, c) (B.filterMap (cutOf M))).1 + (head1 (d, c) ((d, c, r) :: L)).1 = a then parted B (head1 (d, c) (B.filterMap (cutOf M))).2 (head1 (d, c) ((d, c, r) :: L)).2 else false) = true
      rw [head1_not fun q => h1 (cutsOf_keys _ q), head1_yes (show key (d, c, r) = (d, c) from rfl)]
      rw [if_pos (by show (0 : Int) + r = a; omega)]
      exact ih'
theorem amt_mem {d c : α} {m : Int} : ∀ {B : List (DueOf α)}, (B.map key).Nodup → (d, c, m) ∈ B → amt B d c = m
  | [], _, h => by cases h
  | e :: B, hk, h => by
    obtain ⟨h1, h2⟩ := List.nodup_cons.mp (show (key e :: B.map key).Nodup from hk)
    rcases List.mem_cons.mp h with q | q
    · subst q
      exact amt_pos ⟨rfl, rfl⟩
    · rw [amt_neg fun z => h1 (List.mem_map.mpr ⟨_, q, by show (d, c) = (e.1, e.2.1); rw [z.1, z.2]⟩)]
      exact amt_mem h2 q
theorem cutsOf_self {B : List (DueOf α)} (hk : (B.map key).Nodup) : cutsOf B B = [] := by
  refine List.filterMap_eq_nil_iff.mpr fun d hd => ?_
  have e : amt B d.1 d.2.1 = d.2.2 := amt_mem hk hd
  unfold cutOf
  rw [e, if_neg (Int.lt_irrefl _)]
theorem cutsOf_pos {B M : List (DueOf α)} : ∀ d ∈ cutsOf B M, 1 ≤ d.2.2 := by
  intro d hd
  obtain ⟨e, _, q⟩ := List.mem_filterMap.mp hd
  unfold cutOf at q
  split at q
  · cases q
    show 1 ≤ e.2.2 - amt M e.1 e.2.1
    omega
  · cases q
theorem cutsOf_snoc {B M : List (DueOf α)} {d : DueOf α} : cutsOf (B ++ [d]) M = if amt M d.1 d.2.1 < d.2.2 then cutsOf B M ++ [(d.1, d.2.1, d.2.2 - amt M d.1 d.2.1)] else cutsOf B M := by
  unfold cutsOf
  rw [List.filterMap_append]
  by_cases h : amt M d.1 d.2.1 < d.2.2
  · rw [if_pos h]
    have e : cutOf M d = some (d.1, d.2.1, d.2.2 - amt M d.1 d.2.1) := by unfold cutOf; rw [if_pos h]
    simp [e]
  · rw [if_neg h]
    have e : cutOf M d = none := by unfold cutOf; rw [if_neg h]
    simp [e]
theorem cutsOf_len {B M : List (DueOf α)} : (cutsOf B M).length ≤ B.length := List.length_filterMap_le _ _

/-! ### ranks -/
theorem filter_lt {β : Type} {p q : β → Bool} : ∀ {l : List β} {z : β}, (∀ y, p y = true → q y = true) → z ∈ l → q z = true → p z = false → (l.filter p).length < (l.filter q).length
  | [], _, _, h, _, _ => by cases h
  | a :: l, z, hpq, h, hq, hp => by
    have le : (l.filter p).length ≤ (l.filter q).length := by
      rw [← List.countP_eq_length_filter, ← List.countP_eq_length_filter]
      exact List.countP_mono_left fun x _ => hpq x
    rcases List.mem_cons.mp h with e | e
    · subst e
      rw [List.filter_cons_of_pos hq, List.filter_cons_of_neg (by rw [hp]; exact Bool.false_ne_true), List.length_cons]
      omega
    · have ih := filter_lt (l := l) hpq e hq hp
      cases ha : p a with
      | true =>
        rw [List.filter_cons_of_pos ha, List.filter_cons_of_pos (hpq a ha), List.length_cons, List.length_cons]
        omega
      | false =>
        rw [List.filter_cons_of_neg (by rw [ha]; exact Bool.false_ne_true)]
        cases hb : q a with
        | true => rw [List.filter_cons_of_pos hb, List.length_cons]; omega
        | false => rw [List.filter_cons_of_neg (by rw [hb]; exact Bool.false_ne_true)]; exact ih
open Classical in
/-- in a book without a ring somebody who is not found yet is owed nothing by those who aren't -/
theorem free_some {B : List (DueOf α)} (hA : Acyclic B) {names F : List α} (hn : ∀ x, Named B x → x ∈ names) (hx : ∃ x ∈ names, x ∉ F) : ∃ x ∈ names, x ∉ F ∧ ∀ d, Edge B d x → d ∈ F := by
  have main : ∀ n x, x ∈ names → x ∉ F → (names.filter fun y => decide (Path B y x)).length ≤ n → ∃ x ∈ names, x ∉ F ∧ ∀ d, Edge B d x → d ∈ F := by
    intro n
    induction n with
    | zero =>
      intro x h1 h2 h3
      refine ⟨x, h1, h2, fun d e => ?_⟩
      have q : d ∈ names.filter fun y => decide (Path B y x) := List.mem_filter.mpr ⟨hn d e.nl, decide_eq_true (.one e)⟩
      have := List.length_pos_of_mem q
      omega
    | succ n ih =>
      intro x h1 h2 h3
      by_cases h : ∀ d, Edge B d x → d ∈ F
      · exact ⟨x, h1, h2, h⟩
      · obtain ⟨d, hd⟩ := Classical.not_forall.mp h
        have e : Edge B d x := Classical.byContradiction fun q => hd fun z => absurd z q
        have nd : d ∉ F := fun q => hd fun _ => q
        refine ih d (hn d e.nl) nd ?_
        have := filter_lt (p := fun y => decide (Path B y d)) (q := fun y => decide (Path B y x)) (l := names) (z := d) (fun y hy => decide_eq_true ((of_decide_eq_true hy).snoc e)) (hn d e.nl)
          (decide_eq_true (.one e)) (decide_eq_false (hA d))
        omega
  obtain ⟨x, h1, h2⟩ := hx
  exact main _ x h1 h2 (Nat.le_refl _)

/-- the rounds of ranks: F who is found, r the next rank -/
structure RankInv (B : List (DueOf α)) (names : List α) (F : List (α × Nat)) (r : Nat) : Prop where
  nd : (F.map (·.1)).Nodup
  sub : ∀ p ∈ F, p.1 ∈ names
  lt : ∀ p ∈ F, p.2 < r
  up : ∀ d c, Edge B d c → ∀ k, (c, k) ∈ F → ∃ j, (d, j) ∈ F ∧ j < k
  big : r ≤ F.length
theorem RankInv.start {B : List (DueOf α)} {names : List α} : RankInv B names [] 0 := ⟨List.nodup_nil, fun _ h => (nomatch h), fun _ h => (nomatch h), fun _ _ _ _ h => (nomatch h), Nat.le_refl _⟩
/-- the dues that are left: of those who aren't found -/
def leftOf (B : List (DueOf α)) (F : List (α × Nat)) : List (DueOf α) := B.filter fun d => decide (d.1 ∉ F.map (·.1))
/-- who is found next -/
def freeOf (B : List (DueOf α)) (names : List α) (F : List (α × Nat)) : List α := names.filter fun x => decide (x ∉ F.map (·.1)) && decide (x ∉ (leftOf B F).map (·.2.1))
theorem mem_freeOf {B : List (DueOf α)} {names : List α} {F : List (α × Nat)} {x : α} : x ∈ freeOf B names F ↔ x ∈ names ∧ x ∉ F.map (·.1) ∧ ∀ d, Edge B d x → d ∈ F.map (·.1) := by
  unfold freeOf leftOf
  rw [List.mem_filter, Bool.and_eq_true, decide_eq_true_eq, decide_eq_true_eq]
  constructor
  · rintro ⟨h1, h2, h3⟩
    refine ⟨h1, h2, fun d ⟨m, hm⟩ => ?_⟩
    refine Classical.byContradiction fun q => h3 (List.mem_map.mpr ⟨(d, x, m), List.mem_filter.mpr ⟨hm, decide_eq_true q⟩, rfl⟩)
  · rintro ⟨h1, h2, h3⟩
    refine ⟨h1, h2, fun q => ?_⟩
    obtain ⟨⟨d, c, m⟩, hd, e⟩ := List.mem_map.mp q
    obtain ⟨a1, a2⟩ := List.mem_filter.mp hd
    have e' : c = x := e
    subst e'
    exact of_decide_eq_true a2 (h3 d ⟨m, a1⟩)
theorem RankInv.free {B : List (DueOf α)} {names : List α} {F : List (α × Nat)} {r : Nat} (R : RankInv B names F r) (hA : Acyclic B) (hN : names.Nodup) (hn : ∀ x, Named B x → x ∈ names) (hl : F.length < names.length) : freeOf B names F ≠ [] := by
  have hx : ∃ x ∈ names, x ∉ F.map (·.1) := by
    refine Classical.byContradiction fun q => ?_
    have : ∀ x ∈ names, x ∈ F.map (·.1) := fun x hx => Classical.byContradiction fun z => q ⟨x, hx, z⟩
    have le := nodup_le hN this
    rw [List.length_map] at le
    omega
  obtain ⟨x, h1, h2, h3⟩ := free_some hA (F := F.map (·.1)) hn hx
  have q : x ∈ freeOf B names F := mem_freeOf.mpr ⟨h1, h2, h3⟩
  intro e
  rw [e] at q
  cases q
theorem free_nd {B : List (DueOf α)} {names : List α} {F : List (α × Nat)} (hN : names.Nodup) : (freeOf B names F).Nodup := List.Sublist.nodup List.filter_sublist hN
theorem RankInv.next {B : List (DueOf α)} {names : List α} {F : List (α × Nat)} {r : Nat} (R : RankInv B names F r) (hN : names.Nodup) (hne : freeOf B names F ≠ []) : RankInv B names (F ++ (freeOf B names F).map fun x => (x, r)) (r + 1) := by
  have e1 : ((freeOf B names F).map fun x => (x, r)).map (·.1) = freeOf B names F := by rw [List.map_map]; exact List.map_id _
  refine ⟨?_, fun p hp => ?_, fun p hp => ?_, fun d c e k hk => ?_, ?_⟩
  · rw [List.map_append, e1]
    refine List.nodup_append.mpr ⟨R.nd, free_nd hN, fun a ha b hb => ?_⟩
    intro q
    subst q
    exact (mem_freeOf.mp hb).2.1 ha
  · rcases List.mem_append.mp hp with q | q
    · exact R.sub p q
    · obtain ⟨x, hx, e⟩ := List.mem_map.mp q
      subst e
      exact (mem_freeOf.mp hx).1
  · rcases List.mem_append.mp hp with q | q
    · exact Nat.lt_succ_of_lt (R.lt p q)
    · obtain ⟨x, hx, e⟩ := List.mem_map.mp q
      subst e
      exact Nat.lt_succ_self _
  · rcases List.mem_append.mp hk with q | q
    · obtain ⟨j, hj, l⟩ := R.up d c e k q
      exact ⟨j, List.mem_append_left _ hj, l⟩
    · obtain ⟨x, hx, z⟩ := List.mem_map.mp q
      cases z
      obtain ⟨⟨d', j⟩, hj, z⟩ := List.mem_map.mp ((mem_freeOf.mp hx).2.2 d e)
      have z' : d' = d := z
      subst z'
      exact ⟨j, List.mem_append_left _ hj, R.lt _ hj⟩
  · rw [List.length_append, List.length_map]
    have := List.length_pos_iff.mpr hne
    have := R.big
    omega
/-- what the ranks are -/
structure Ranks (B : List (DueOf α)) (names : List α) (f : α → Nat) : Prop where
  up : ∀ d c, Edge B d c → f d < f c
  lt : ∀ x ∈ names, f x < names.length
theorem RankInv.done {B : List (DueOf α)} {names : List α} {F : List (α × Nat)} {r : Nat} (R : RankInv B names F r) (hN : names.Nodup) (hn : ∀ x, Named B x → x ∈ names) (hl : names.length ≤ F.length) :
    Ranks B names (fun x => (F.lookup x).getD 0) ∧ ∀ x ∈ names, ∃ k, F.lookup x = some k := by
  have len : F.length = names.length := by
    have := nodup_le R.nd fun x hx => by
      obtain ⟨p, hp, e⟩ := List.mem_map.mp hx
      exact e ▸ R.sub p hp
    rw [List.length_map] at this
    omega
  have all : ∀ x ∈ names, x ∈ F.map (·.1) := by
    intro x hx
    refine Classical.byContradiction fun q => ?_
    have := nodup_le (l := x :: F.map (·.1)) (m := names) (List.nodup_cons.mpr ⟨q, R.nd⟩) fun y hy => by
      rcases List.mem_cons.mp hy with e | e
      · rw [e]; exact hx
      · obtain ⟨p, hp, e⟩ := List.mem_map.mp e
        exact e ▸ R.sub p hp
    rw [List.length_cons, List.length_map] at this
    omega
  have look : ∀ x ∈ names, ∃ k, F.lookup x = some k ∧ (x, k) ∈ F := by
    intro x hx
    obtain ⟨⟨y, k⟩, hp, e⟩ := List.mem_map.mp (all x hx)
    have e' : y = x := e
    subst e'
    exact ⟨k, (lookup_nodup R.nd).mpr hp, hp⟩
  refine ⟨⟨fun d c e => ?_, fun x hx => ?_⟩, fun x hx => ?_⟩
  · obtain ⟨k, h1, h2⟩ := look c (hn c e.nr)
    obtain ⟨j, h3, h4⟩ := R.up d c e k h2
    show (F.lookup d).getD 0 < (F.lookup c).getD 0
    rw [h1, (lookup_nodup R.nd).mpr h3]
    exact h4
  · obtain ⟨k, h1, h2⟩ := look x hx
    show (F.lookup x).getD 0 < _
    rw [h1]
    have := R.lt _ h2
    have := R.big
    show k < names.length
    omega
  · obtain ⟨k, h1, _⟩ := look x hx
    exact ⟨k, h1⟩
end
/-- so many numbers going up below so many -/
theorem up_range : ∀ (l : List Nat) (a : Nat), l.Pairwise (· < ·) → (∀ x ∈ l, a ≤ x ∧ x < a + l.length) → l = List.range' a l.length
  | [], _, _, _ => rfl
  | x :: l, a, hp, hb => by
    obtain ⟨h1, h2⟩ := List.pairwise_cons.mp hp
    have hx := hb x List.mem_cons_self
    have ih := up_range l (a + 1) h2 fun y hy => by
      have := h1 y hy
      have := hb y (List.mem_cons_of_mem _ hy)
      rw [List.length_cons] at this
      omega
    have e : x = a := by
      cases l with
      | nil =>
        simp at hx
        omega
      | cons y l =>
        have hy : y = a + 1 := by
          rw [List.length_cons, List.range'_succ] at ih
          exact (List.cons.inj ih).1
        have := h1 y List.mem_cons_self
        omega
    rw [List.length_cons, List.range'_succ, ← ih, e]
/-- two lists that go up and hold the same are one -/
theorem up_uniq {lt : α → α → Bool} (O : Ord lt) : ∀ {l m : List α}, l.Pairwise (fun x y => lt x y = true) → m.Pairwise (fun x y => lt x y = true) → (∀ x, x ∈ l ↔ x ∈ m) → l = m
  | [], [], _, _, _ => rfl
  | [], b :: m, _, _, h => absurd ((h b).mpr List.mem_cons_self) (by simp)
  | a :: l, [], _, _, h => absurd ((h a).mp List.mem_cons_self) (by simp)
  | a :: l, b :: m, hl, hm, h => by
    obtain ⟨l1, l2⟩ := List.pairwise_cons.mp hl
    obtain ⟨m1, m2⟩ := List.pairwise_cons.mp hm
    have no : ∀ x y, lt x y = true → lt y x = true → False := fun x y p q => by
      have := O.tr _ _ _ p q
      rw [O.irr] at this
      cases this
    have e : a = b := by
      rcases List.mem_cons.mp ((h a).mp List.mem_cons_self) with q | q
      · exact q
      · rcases List.mem_cons.mp ((h b).mpr List.mem_cons_self) with r | r
        · exact r.symm
        · exact (no _ _ (l1 b r) (m1 a q)).elim
    subst e
    rw [up_uniq O l2 m2 fun x => ?_]
    have ne : ∀ y, lt a y = true → y ≠ a := fun y p q => by
      rw [q, O.irr] at p
      cases p
    constructor
    · intro hx
      rcases List.mem_cons.mp ((h x).mp (List.mem_cons_of_mem _ hx)) with q | q
      · exact absurd q (ne x (l1 x hx))
      · exact q
    · intro hx
      rcases List.mem_cons.mp ((h x).mpr (List.mem_cons_of_mem _ hx)) with q | q
      · exact absurd q (ne x (m1 x hx))
      · exact q
end
end Bb

/-! The text by places, the data, small words. -/
namespace Bb
open PySem PySem.Spec PyProof.Rows L2
def topS (i : Nat) : Stmt := PySem.Challenge.pw_bellbook_k56_whole_no_ring_is_left.main.body.getD i (.Pass ⟨0, 0, 0, 0⟩)
abbrev s_names_of : Stmt := topS 4
abbrev s_owes : Stmt := topS 6
abbrev s_leads : Stmt := topS 7
abbrev s_next_in : Stmt := topS 8
abbrev s_ring : Stmt := topS 9
abbrev s_amount_of : Stmt := topS 10
abbrev s_cut : Stmt := topS 11
abbrev s_ringless : Stmt := topS 12
abbrev s_ranks : Stmt := topS 13
abbrev s_law_cell_at : Stmt := topS 15
abbrev s_law_name : Stmt := topS 16
abbrev s_law_deeds : Stmt := topS 17
abbrev s_law_book : Stmt := topS 18
abbrev s_law_whole : Stmt := topS 19
abbrev s_law_dues : Stmt := topS 20
abbrev s_law_parted : Stmt := topS 21
abbrev s_law_sums : Stmt := topS 22
abbrev s_law_goes_up : Stmt := topS 23
abbrev s_law_wide_right : Stmt := topS 24
abbrev s_law : Stmt := topS 25
/-- a def of the text: where it stands, how its arguments bind, that its name holds it -/
def DefAt (K : PySem.W.Frag) (mg : Str → Option Value) (x : Str) (st : Stmt) (ps : List Str) : Prop :=
  ∃ (f : Addr) (fd : FuncData), Fun K x x st f fd ∧ Binds K fd ps [] ∧ mg x = some (.ref f)
/-- what the top has left -/
structure Txt (K : PySem.W.Frag) (mg : Str → Option Value) : Prop where
  d_names_of : DefAt K mg "names_of" s_names_of ["book"]
  d_owes : DefAt K mg "owes" s_owes ["book", "debtor", "creditor"]
  d_leads : DefAt K mg "leads" s_leads ["book", "start", "goal", "used"]
  d_next_in : DefAt K mg "next_in" s_next_in ["book", "row"]
  d_ring : DefAt K mg "ring" s_ring ["book"]
  d_amount_of : DefAt K mg "amount_of" s_amount_of ["book", "debtor", "creditor"]
  d_cut : DefAt K mg "cut" s_cut ["book", "row"]
  d_ringless : DefAt K mg "ringless" s_ringless ["book"]
  d_ranks : DefAt K mg "ranks" s_ranks ["book"]
  d_law_cell_at : DefAt K mg "_law_cell_at" s_law_cell_at ["script", "k"]
  d_law_name : DefAt K mg "_law_name" s_law_name ["k", "cell"]
  d_law_deeds : DefAt K mg "_law_deeds" s_law_deeds ["script", "many"]
  d_law_book : DefAt K mg "_law_book" s_law_book ["deeds", "names"]
  d_law_whole : DefAt K mg "_law_whole" s_law_whole ["found"]
  d_law_dues : DefAt K mg "_law_dues" s_law_dues ["rows"]
  d_law_parted : DefAt K mg "_law_parted" s_law_parted ["book", "cuts", "left"]
  d_law_sums : DefAt K mg "_law_sums" s_law_sums ["rows", "names"]
  d_law_goes_up : DefAt K mg "_law_goes_up" s_law_goes_up ["left"]
  d_law_wide_right : DefAt K mg "_law_wide_right" s_law_wide_right ["script"]
  b_sorted : mg "sorted" = none
  b_enumerate : mg "enumerate" = none
  b_len : mg "len" = none
  b_min : mg "min" = none
  b_list : mg "list" = none
  b_range : mg "range" = none
  b_max : mg "max" = none
  b_int : mg "int" = none
  b_isinstance : mg "isinstance" = none
  b_bool : mg "bool" = none
  b_tuple : mg "tuple" = none
  b_str : mg "str" = none
abbrev Due := DueOf Str
abbrev Book := List Due
/-- texts in their order -/
def sLt (a b : Str) : Bool := decide (a.cps.toList < b.cps.toList)
theorem nat_lt_tri : ∀ a b : List Nat, a = b ∨ a < b ∨ b < a
  | [], [] => .inl rfl
  | [], b :: t => .inr (.inl (by simp))
  | a :: r, [] => .inr (.inr (by simp))
  | a :: r, b :: t => by
    rcases Nat.lt_trichotomy a b with h | h | h
    · exact .inr (.inl (List.cons_lt_cons_iff.mpr (.inl h)))
    · subst h
      rcases nat_lt_tri r t with q | q | q
      · exact .inl (by rw [q])
      · exact .inr (.inl (List.cons_lt_cons_iff.mpr (.inr ⟨rfl, q⟩)))
      · exact .inr (.inr (List.cons_lt_cons_iff.mpr (.inr ⟨rfl, q⟩)))
    · exact .inr (.inr (List.cons_lt_cons_iff.mpr (.inl h)))
theorem sOrd : Ord sLt := by
  refine ⟨fun x => decide_eq_false (List.lt_irrefl _), fun x y z a b => decide_eq_true (List.lt_trans (of_decide_eq_true a) (of_decide_eq_true b)), fun x y => ?_⟩
  rcases nat_lt_tri x.cps.toList y.cps.toList with q | q | q
  · exact .inl (Str.ext' (Array.toList_inj.mp q))
  · exact .inr (.inl (decide_eq_true q))
  · exact .inr (.inr (decide_eq_true q))

/-! ### heaps -/
theorem same_upd {H : Hp} {p : Addr} {o : HO} (h : H p = none) : Same H (upd H p o) := fun b x e => by
  rw [upd_ne (ne_of_none e h)]
  exact e
/-- what is written stands not in the old heap -/
theorem same_put {H H' : Hp} {p : Addr} {o : HO} (s : Same H H') (h : H p = none) : Same H (upd H' p o) := fun b x e => by
  rw [upd_ne (ne_of_none e h)]
  exact s b x e
/-- a list is written: tuples stay -/
theorem sqT_put {K : PySem.W.Frag} {H : Hp} {a l : Addr} {xs ys : List V} {o : HO} (h : SqT K H a xs) (hl : H l = some (.lst ys)) : SqT K (upd H l o) a xs := by
  rcases h with (h | ⟨ob, h⟩) | h
  · exact .inl (.inl (by rw [upd_ne (ne_of h hl (by intro z; cases z))]; exact h))
  · exact .inl (.inr ⟨ob, by rw [upd_ne (ne_of h hl (by intro z; cases z))]; exact h⟩)
  · exact .inr h
theorem sqT_putD {K : PySem.W.Frag} {H : Hp} {a l : Addr} {xs : List V} {kvs : List (Key × V)} {o : HO} (h : SqT K H a xs) (hl : H l = some (.dK kvs)) : SqT K (upd H l o) a xs := by
  rcases h with (h | ⟨ob, h⟩) | h
  · exact .inl (.inl (by rw [upd_ne (ne_of h hl (by intro z; cases z))]; exact h))
  · exact .inl (.inr ⟨ob, by rw [upd_ne (ne_of h hl (by intro z; cases z))]; exact h⟩)
  · exact .inr h
theorem Same.tup {K : PySem.W.Frag} {H H' : Hp} {a : Addr} {xs : List V} (e : Same H H') (h : SqT K H a xs) : SqT K H' a xs := by
  rcases h with (h | ⟨o, h⟩) | h
  · exact .inl (.inl (e _ _ h))
  · exact .inl (.inr ⟨o, e _ _ h⟩)
  · exact .inr h
theorem sqT_new {K : PySem.W.Frag} {H : Hp} {a p : Addr} {xs : List V} {o : HO} (h : SqT K H a xs) (hp : H p = none) : SqT K (upd H p o) a xs := Same.tup (same_upd hp) h

/-! ### books -/
/-- v is the tuple of a due -/
def TupAt (K : PySem.W.Frag) (H : Hp) (v : V) (d : Due) : Prop := ∃ a, v = .ref a ∧ SqT K H a [.str d.1, .str d.2.1, .int d.2.2]
abbrev DuesAt (K : PySem.W.Frag) (H : Hp) : List V → Book → Prop := Paired (TupAt K H)
/-- a list of dues stands at a -/
def BookAt (K : PySem.W.Frag) (H : Hp) (a : Addr) (B : Book) : Prop := ∃ vs, SqL K H a vs ∧ DuesAt K H vs B
theorem paired_imp {α β : Type} {F G : α → β → Prop} (h : ∀ a b, F a b → G a b) : ∀ {l : List α} {m : List β}, Paired F l m → Paired G l m
  | _, _, .nil => .nil
  | _, _, .cons a t => .cons (h _ _ a) (paired_imp h t)
theorem DuesAt.same {K : PySem.W.Frag} {H H' : Hp} (s : Same H H') {vs : List V} {B : Book} (h : DuesAt K H vs B) : DuesAt K H' vs B :=
  paired_imp (fun _ _ ⟨a, e, q⟩ => ⟨a, e, Same.tup s q⟩) h
theorem DuesAt.put {K : PySem.W.Frag} {H : Hp} {l : Addr} {ys : List V} {o : HO} {vs : List V} {B : Book} (h : DuesAt K H vs B) (hl : H l = some (.lst ys)) : DuesAt K (upd H l o) vs B :=
  paired_imp (fun _ _ ⟨a, e, q⟩ => ⟨a, e, sqT_put q hl⟩) h
theorem DuesAt.putD {K : PySem.W.Frag} {H : Hp} {l : Addr} {kvs : List (Key × V)} {o : HO} {vs : List V} {B : Book} (h : DuesAt K H vs B) (hl : H l = some (.dK kvs)) : DuesAt K (upd H l o) vs B :=
  paired_imp (fun _ _ ⟨a, e, q⟩ => ⟨a, e, sqT_putD q hl⟩) h
theorem BookAt.same {K : PySem.W.Frag} {H H' : Hp} (s : Same H H') {a : Addr} {B : Book} (h : BookAt K H a B) : BookAt K H' a B := by
  obtain ⟨vs, h1, h2⟩ := h
  exact ⟨vs, s.seq h1, DuesAt.same s h2⟩
theorem paired_len {α β : Type} {F : α → β → Prop} : ∀ {l : List α} {m : List β}, Paired F l m → l.length = m.length
  | _, _, .nil => rfl
  | _, _, .cons _ t => by rw [List.length_cons, List.length_cons, paired_len t]
theorem paired_get {α β : Type} {F : α → β → Prop} : ∀ {l : List α} {m : List β} {i : Nat} {x : α}, Paired F l m → l[i]? = some x → ∃ y, m[i]? = some y ∧ F x y
  | _, _, _, _, .nil, e => by simp at e
  | _, _, 0, _, .cons h _, e => by
    have e' := Option.some.inj e
    subst e'
    exact ⟨_, rfl, h⟩
  | _, _, i + 1, x, .cons _ t, e => by
    obtain ⟨y, h1, h2⟩ := paired_get (i := i) t (by simpa using e)
    exact ⟨y, by simpa using h1, h2⟩
theorem paired_snoc {α β : Type} {F : α → β → Prop} {a : α} {b : β} : ∀ {l : List α} {m : List β}, Paired F l m → F a b → Paired F (l ++ [a]) (m ++ [b])
  | _, _, .nil, h => .cons h .nil
  | _, _, .cons x t, h => .cons x (paired_snoc t h)
theorem take_snoc {α : Type} {l : List α} {i : Nat} {x : α} (h : l[i]? = some x) : l.take (i + 1) = l.take i ++ [x] := by
  rw [List.take_add_one, h]
  rfl
theorem take_all {α : Type} (l : List α) : l.take l.length = l := List.take_length
end Bb

namespace Bb
open PySem PySem.Spec PyProof.Rows L2
section
variable {P : Program} {w : World} {K : PySem.W.Frag} {mg : Str → Option Value} {base : Heap}
/-! ### owes -/
def owesB (B : Book) (d c : Str) : Bool := B.any fun e => decide (e.1 = d) && decide (e.2.1 = c)
theorem owesB_iff {B : Book} {d c : Str} : owesB B d c = true ↔ Edge B d c := by
  unfold owesB Edge
  rw [List.any_eq_true]
  constructor
  · rintro ⟨⟨x, y, m⟩, h, q⟩
    rw [Bool.and_eq_true, decide_eq_true_eq, decide_eq_true_eq] at q
    obtain ⟨q1, q2⟩ := q
    have q1 : x = d := q1
    have q2 : y = c := q2
    subst q1 q2
    exact ⟨m, h⟩
  · rintro ⟨m, h⟩
    exact ⟨_, h, by simp⟩
def sp_owes (K : PySem.W.Frag) : Sp := fun vs H Q _ => ∃ (a : Addr) (B : Book) (d c : Str), vs = [.ref a, .str d, .str c] ∧ BookAt K H a B ∧ Q (.bl (owesB B d c)) H
theorem scOwes : FnScope ["book", "debtor", "creditor", "due"] ["book", "debtor", "creditor"] (defScope s_owes) := ⟨rfl, rfl, rfl, by decide +kernel, rfl, by decide +kernel, by decide +kernel⟩
theorem strEq (x y : Str) : decide (V.str x = V.str y) = decide (x = y) := by
  by_cases h : x = y
  · subst h; simp
  · have : ¬ V.str x = V.str y := fun q => h (V.str.inj q)
    rw [decide_eq_false h, decide_eq_false this]
theorem ok_owes {f : Addr} {fd : FuncData} (F : Fun K "owes" "owes" s_owes f fd) : FnOk P w K mg base CX0 1 f fd ["book", "debtor", "creditor"] (sp_owes K) := by
  refine F.ok scOwes (fun vs H Q E h => ?_) (fun cdv A outer s H vs Q E hr h => ?_)
  · obtain ⟨a, B, d, c, rfl, _⟩ := h
    rfl
  · obtain ⟨a, B, d, c, rfl, ⟨vs, hv, hB⟩, q⟩ := h
    refine ⟨_, pss_cons (ps_for PassesOwn.never rfl (pi_list (pv 0)) (pg_name (i := 3) scOwes.nd rfl (.inl rfl))
        (pss_one (ps_if (PW.pt (pw_and (pt_cmpR op_eq (pe_ix ix_tup (pv 3) pe_int (fun _ _ => rfl)) (pv 1) (nomark _)) (pw_and1 (pt_cmpR op_eq (pe_ix ix_tup (pv 3) pe_int (fun _ _ => rfl)) (pv 2) (nomark _)))))
          (pss_one (ps_ret pe_bl)) pss_nil)))
      (pss_one (ps_ret pe_bl)), ?_⟩
    refine ⟨_, rfl, a, rfl, ⟨vs, hv⟩, for_list (K := K) (a := a) (xs := vs) (fun i σ H' => (∃ y, σ = [some (.ref a), some (.str d), some (.str c), y]) ∧ H' = H ∧ owesB (B.take i) d c = false)
      ⟨⟨none, rfl⟩, rfl, rfl⟩ (fun i σ H' _ h => h.2.1 ▸ hv) ?_ ?_⟩
    · rintro i x σ H' hi ⟨⟨y, rfl⟩, rfl, hno⟩
      obtain ⟨e, he, t, rfl, ht⟩ := paired_get hB hi
      have step : owesB (B.take (i + 1)) d c = (decide (e.1 = d) && decide (e.2.1 = c)) := by
        unfold owesB at hno ⊢
        rw [take_snoc he, List.any_append, hno]
        simp
      refine ⟨_, rfl, t, _, _, _, rfl, rfl, ht, atI_nat (j := 0) rfl, _, rfl, rfl, _, rfl, ?_⟩
      rw [strEq]
      refine ite2 (fun h1 => ?_) (fun h1 => ?_)
      · refine ⟨_, rfl, t, _, _, _, rfl, rfl, ht, atI_nat (j := 1) rfl, _, rfl, rfl, _, rfl, ?_⟩
        rw [strEq]
        refine ite2 (fun h2 => ?_) (fun h2 => ?_)
        · have e1 : owesB B d c = true := by
            unfold owesB
            refine List.any_eq_true.mpr ⟨e, List.mem_of_getElem? he, ?_⟩
            rw [h1, h2]
            rfl
          rw [e1] at q
          exact q
        · refine ⟨⟨_, rfl⟩, rfl, ?_⟩
          rw [step]
          simp at h2 ⊢
          exact fun _ => h2
      · refine ⟨⟨_, rfl⟩, rfl, ?_⟩
        rw [step]
        simp at h1 ⊢
        exact fun z => absurd z h1
    · rintro σ H' ⟨⟨y, rfl⟩, rfl, hno⟩
      have e1 : owesB B d c = false := by
        rw [paired_len hB, take_all] at hno
        exact hno
      rw [e1] at q
      exact q
end
end Bb

namespace Bb
open PySem PySem.Spec PyProof.Rows L2
/-! ### dicts by texts -/
def tab (f : Str → V) (ks : List Str) : List (Key × V) := ks.map fun k => (Sum.inr k, f k)
def addK (ks : List Str) (k : Str) : List Str := if k ∈ ks then ks else ks ++ [k]
theorem mem_addK {ks : List Str} {k x : Str} : x ∈ addK ks k ↔ x ∈ ks ∨ x = k := by
  unfold addK
  by_cases h : k ∈ ks
  · rw [if_pos h]
    exact ⟨.inl, fun q => q.elim id fun e => e ▸ h⟩
  · rw [if_neg h, List.mem_append, List.mem_singleton]
theorem nd_addK {ks : List Str} {k : Str} (h : ks.Nodup) : (addK ks k).Nodup := by
  unfold addK
  by_cases hk : k ∈ ks
  · rw [if_pos hk]; exact h
  · rw [if_neg hk]; exact nd_snoc h hk
theorem tab_keys {f : Str → V} {ks : List Str} : (tab f ks).map (·.1) = ks.map Sum.inr := by
  unfold tab
  rw [List.map_map]
  rfl
theorem tab_len {f : Str → V} {ks : List Str} : (tab f ks).length = ks.length := List.length_map _
theorem valV_tab {f : Str → V} {k : Str} : ∀ {ks : List Str}, valV (tab f ks) (Sum.inr k : Key) = if k ∈ ks then some (f k) else none
  | [] => rfl
  | a :: ks => by
    show valV ((Sum.inr a, f a) :: tab f ks) (Sum.inr k : Key) = _
    by_cases e : a = k
    · subst e
      rw [valV_pos (p := ((Sum.inr a : Key), f a)) rfl, if_pos List.mem_cons_self]
    · rw [valV_neg (p := ((Sum.inr a : Key), f a)) (fun q => e (Sum.inr.inj q)), valV_tab]
      by_cases h : k ∈ ks
      · rw [if_pos h, if_pos (List.mem_cons_of_mem _ h)]
      · rw [if_neg h, if_neg fun q => (List.mem_cons.mp q).elim (fun z => e z.symm) h]
theorem putK_tab {f : Str → V} {ks : List Str} {k : Str} {v : V} : putK (tab f ks) (Sum.inr k : Key) v = tab (fun x => if x = k then v else f x) (addK ks k) := by
  unfold addK
  by_cases h : k ∈ ks
  · rw [if_pos h]
    unfold putK
    rw [valV_any, valV_tab, if_pos h]
    simp only [Option.isSome_some, if_true]
    unfold tab
    rw [List.map_map]
    refine List.map_congr_left fun x hx => ?_
    show (if (Sum.inr x : Key) = Sum.inr k then ((Sum.inr x : Key), v) else (Sum.inr x, f x)) = (Sum.inr x, if x = k then v else f x)
    by_cases e : x = k
    · rw [if_pos (by rw [e]), if_pos e]
    · rw [if_neg (fun q => e (Sum.inr.inj q)), if_neg e]
  · rw [if_neg h, putK_new v (by rw [valV_tab, if_neg h])]
    unfold tab
    rw [List.map_append]
    refine congr (congrArg _ (List.map_congr_left fun x hx => ?_)) ?_
    · have e : ¬ x = k := fun e => h (e ▸ hx)
      show (Sum.inr x, f x) = (Sum.inr x, if x = k then v else f x)
      rw [if_neg e]
    · simp
theorem tab_congr {f g : Str → V} {ks : List Str} (h : ∀ x ∈ ks, f x = g x) : tab f ks = tab g ks := List.map_congr_left fun x hx => by rw [h x hx]
/-! ### sorted texts -/
theorem rising_up : ∀ (l : List Str) (p : Str), risingS p l = true → (p :: l).Pairwise fun x y => sLt y x = false
  | [], p, _ => List.pairwise_singleton _ _
  | x :: r, p, h => by
    have h' : (!ltCps x.cps.toList p.cps.toList && risingS x r) = true := h
    rw [Bool.and_eq_true] at h'
    obtain ⟨h1, h2⟩ := h'
    have ih := rising_up r x h2
    have hx : sLt x p = false := by
      unfold sLt
      rw [← ltCps_eq]
      simpa using h1
    refine List.pairwise_cons.mpr ⟨fun y hy => ?_, ih⟩
    rcases List.mem_cons.mp hy with e | hy
    · rw [e]; exact hx
    · have hyx := (List.pairwise_cons.mp ih).1 y hy
      rcases sOrd.tri p x with e | e | e
      · rw [e]; exact hyx
      · cases q : sLt y p with
        | false => rfl
        | true => rw [sOrd.tr _ _ _ q e] at hyx; cases hyx
      · rw [e] at hx; cases hx
theorem sorted_up {l : List Str} (h : sortedS l = true) (hn : l.Nodup) : l.Pairwise fun x y => sLt x y = true := by
  have q : l.Pairwise fun x y => sLt y x = false := by
    cases l with
    | nil => exact List.Pairwise.nil
    | cons p l => exact rising_up l p h
  refine List.Pairwise.imp₂ (fun x y a b => ?_) hn q
  rcases sOrd.tri x y with e | e | e
  · exact absurd e a
  · exact e
  · rw [e] at b; cases b
theorem up_nd {l : List Str} (h : l.Pairwise fun x y => sLt x y = true) : l.Nodup :=
  h.imp fun {x y} a e => by
    subst e
    rw [sOrd.irr] at a
    cases a
section
variable {P : Program} {w : World} {K : PySem.W.Frag} {mg : Str → Option Value} {base : Heap}
/-! ### names_of -/
/-- fewer than 64 are named -/
def Few (B : Book) : Prop := ∃ N : List Str, N.length < 64 ∧ ∀ x, Named B x → x ∈ N
theorem Named.take {B : Book} {x : Str} {i : Nat} (h : Named (B.take i) x) : Named B x := by
  obtain ⟨d, hd, e⟩ := h
  exact ⟨d, List.take_subset _ _ hd, e⟩
theorem named_snoc {B : Book} {x : Str} {d : Due} : Named (B ++ [d]) x ↔ Named B x ∨ x = d.1 ∨ x = d.2.1 := by
  unfold Named
  constructor
  · rintro ⟨e, he, q⟩
    rcases List.mem_append.mp he with z | z
    · exact .inl ⟨e, z, q⟩
    · rw [List.mem_singleton.mp z] at q
      exact .inr q
  · rintro (⟨e, he, q⟩ | q)
    · exact ⟨e, List.mem_append_left _ he, q⟩
    · exact ⟨d, List.mem_append_right _ List.mem_cons_self, q⟩
structure NamesOf (B : Book) (ys : List Str) : Prop where
  up : ys.Pairwise fun x y => sLt x y = true
  mem : ∀ x, x ∈ ys ↔ Named B x
def sp_names_of (K : PySem.W.Frag) : Sp := fun vs H Q _ => ∃ (a : Addr) (B : Book), vs = [.ref a] ∧ BookAt K H a B ∧ Few B ∧
  ∀ (ys : List Str) (p : Addr) (H' : Hp), Same H H' → H p = none → H' p = some (.lst (ys.map V.str)) → NamesOf B ys → Q (.ref p) H'
theorem scNames : FnScope ["book", "seen", "due"] ["book"] (defScope s_names_of) := ⟨rfl, rfl, rfl, by decide +kernel, rfl, by decide +kernel, by decide +kernel⟩
theorem ok_names_of {f : Addr} {fd : FuncData} (F : Fun K "names_of" "names_of" s_names_of f fd) (ms : mg "sorted" = none) : FnOk P w K mg base CX0 1 f fd ["book"] (sp_names_of K) := by
  refine F.ok scNames (fun vs H Q E h => ?_) (fun cdv A outer s H vs Q E hr h => ?_)
  · obtain ⟨a, B, rfl, _⟩ := h
    rfl
  · obtain ⟨a, B, rfl, ⟨vs, hv, hB⟩, ⟨N, hN, hsub⟩, q⟩ := h
    have hu := hu_of hr
    refine ⟨_, pss_cons (ps_set (i := 1) scNames.nd rfl (.inl rfl) pe_dnewK)
      (pss_cons (ps_for PassesOwn.never rfl (pi_list (pv 0)) (pg_name (i := 2) scNames.nd rfl (.inl rfl))
        (pss_cons (ps_dput hu (pv 1) (pe_ix ix_tup (pv 2) pe_int (fun _ _ => rfl)) pe_bl rfl)
          (pss_one (ps_dput hu (pv 1) (pe_ix ix_tup (pv 2) pe_int (fun _ _ => rfl)) pe_bl rfl))))
      (pss_one (ps_ret (pe_callB (call_sortedD rfl) (by rfl) ms (by decide +kernel) (pa_cons (pv 1) pa_nil))))), ?_⟩
    intro D hD
    have bound : ∀ (i : Nat) (ks : List Str), ks.Nodup → (∀ x, x ∈ ks → Named B x) → ks.length < 64 := fun i ks h1 h2 =>
      Nat.lt_of_le_of_lt (nodup_le h1 fun x hx => hsub x (h2 x hx)) hN
    refine ⟨_, rfl, a, rfl, ⟨vs, (same_upd hD).seq hv⟩, for_list (K := K) (a := a) (xs := vs)
      (fun i σ H' => ∃ y ks, σ = [some (.ref a), some (.ref D), y] ∧ Same H H' ∧ H' D = some (.dK (tab (fun _ => .bl true) ks)) ∧ ks.Nodup ∧ ∀ x, x ∈ ks ↔ Named (B.take i) x)
      ⟨none, [], rfl, same_upd hD, upd_same, List.nodup_nil, fun x => ⟨fun h => absurd h (by simp), fun ⟨d, hd, _⟩ => by simp at hd⟩⟩ (fun i σ H' _ ⟨_, _, _, s, _⟩ => s.seq hv) ?_ ?_⟩
    · rintro i x σ H' hi ⟨y, ks, rfl, s, hd, nd, mem⟩
      obtain ⟨e, he, t, rfl, ht⟩ := paired_get hB hi
      have l1 := bound i ks nd fun x hx => Named.take ((mem x).mp hx)
      have inB : e ∈ B := List.mem_of_getElem? he
      have nd1 : (addK ks e.1).Nodup := nd_addK nd
      have l2 := bound i (addK ks e.1) nd1 fun x hx => (mem_addK.mp hx).elim (fun z => Named.take ((mem x).mp z)) fun z => ⟨e, inB, .inl z⟩
      refine ⟨_, rfl, _, rfl, t, _, _, _, rfl, rfl, Same.tup s ht, atI_nat (j := 0) rfl, D, _, rfl, DPut.k (k := Sum.inr e.1) hd (by rw [tab_len]; exact Nat.lt_of_lt_of_le l1 (by decide)), ?_⟩
      rw [putK_tab]
      have hD1 : ∀ o, H' D = some o → H D = none := fun _ _ => hD
      have s1 : ∀ o, Same H (upd H' D o) := fun o => same_put s hD
      refine ⟨_, rfl, _, rfl, t, _, _, _, rfl, rfl, Same.tup (s1 _) ht, atI_nat (j := 1) rfl, D, _, rfl, DPut.k (k := Sum.inr e.2.1) upd_same (by rw [tab_len]; exact Nat.lt_of_lt_of_le l2 (by decide)), ?_⟩
      rw [putK_tab, upd_upd]
      refine ⟨_, addK (addK ks e.1) e.2.1, rfl, s1 _, Eq.trans upd_same ?_, nd_addK nd1, fun x => ?_⟩
      · refine congrArg (fun l => some (HO.dK l)) (tab_congr fun x _ => ?_)
        by_cases h1 : x = e.2.1
        · rw [if_pos h1]
        · rw [if_neg h1]
          by_cases h2 : x = e.1
          · rw [if_pos h2]
          · rw [if_neg h2]
      · rw [take_snoc he, named_snoc, mem_addK, mem_addK, mem]
        exact or_assoc
    · rintro σ H' ⟨y, ks, rfl, s, hd, nd, mem⟩
      rw [paired_len hB, take_all] at mem
      refine ⟨_, rfl, D, _, ks, rfl, .inl hd, tab_keys, bound 0 ks nd fun x hx => (mem x).mp hx, fun ys p hp hs np => ?_⟩
      refine q ys p _ (s.trans (same_upd np)) (s.free np) upd_same ⟨sorted_up hs (hp.nodup_iff.mpr nd), fun x => ?_⟩
      rw [hp.mem_iff]
      exact mem x
/-! ### amount_of -/
def sp_amount_of (K : PySem.W.Frag) : Sp := fun vs H Q _ => ∃ (a : Addr) (B : Book) (d c : Str), vs = [.ref a, .str d, .str c] ∧ BookAt K H a B ∧ Q (.int (amt B d c)) H
theorem scAmt : FnScope ["book", "debtor", "creditor", "due"] ["book", "debtor", "creditor"] (defScope s_amount_of) := ⟨rfl, rfl, rfl, by decide +kernel, rfl, by decide +kernel, by decide +kernel⟩
theorem amt_skip {B : Book} {d c : Str} {i : Nat} (h : owesB (B.take i) d c = false) : amt B d c = amt (B.drop i) d c := by
  induction i generalizing B with
  | zero => rfl
  | succ i ih =>
    cases B with
    | nil => rfl
    | cons e B =>
      have h' : (decide (e.1 = d) && decide (e.2.1 = c) || owesB (B.take i) d c) = false := h
      rw [Bool.or_eq_false_iff] at h'
      rw [amt_neg (by intro z; simp [z.1, z.2] at h'), ih h'.2]
      rfl
theorem ok_amount_of {f : Addr} {fd : FuncData} (F : Fun K "amount_of" "amount_of" s_amount_of f fd) : FnOk P w K mg base CX0 1 f fd ["book", "debtor", "creditor"] (sp_amount_of K) := by
  refine F.ok scAmt (fun vs H Q E h => ?_) (fun cdv A outer s H vs Q E hr h => ?_)
  · obtain ⟨a, B, d, c, rfl, _⟩ := h
    rfl
  · obtain ⟨a, B, d, c, rfl, ⟨vs, hv, hB⟩, q⟩ := h
    refine ⟨_, pss_cons (ps_for PassesOwn.never rfl (pi_list (pv 0)) (pg_name (i := 3) scAmt.nd rfl (.inl rfl))
        (pss_one (ps_if (PW.pt (pw_and (pt_cmpR op_eq (pe_ix ix_tup (pv 3) pe_int (fun _ _ => rfl)) (pv 1) (nomark _)) (pw_and1 (pt_cmpR op_eq (pe_ix ix_tup (pv 3) pe_int (fun _ _ => rfl)) (pv 2) (nomark _)))))
          (pss_one (ps_ret (pe_ix ix_tup (pv 3) pe_int (fun _ _ => rfl)))) pss_nil)))
      (pss_one (ps_ret pe_int)), ?_⟩
    refine ⟨_, rfl, a, rfl, ⟨vs, hv⟩, for_list (K := K) (a := a) (xs := vs) (fun i σ H' => (∃ y, σ = [some (.ref a), some (.str d), some (.str c), y]) ∧ H' = H ∧ owesB (B.take i) d c = false)
      ⟨⟨none, rfl⟩, rfl, rfl⟩ (fun i σ H' _ h => h.2.1 ▸ hv) ?_ ?_⟩
    · rintro i x σ H' hi ⟨⟨y, rfl⟩, rfl, hno⟩
      obtain ⟨e, he, t, rfl, ht⟩ := paired_get hB hi
      have step : owesB (B.take (i + 1)) d c = (decide (e.1 = d) && decide (e.2.1 = c)) := by
        unfold owesB at hno ⊢
        rw [take_snoc he, List.any_append, hno]
        simp
      refine ⟨_, rfl, t, _, _, _, rfl, rfl, ht, atI_nat (j := 0) rfl, _, rfl, rfl, _, rfl, ?_⟩
      rw [strEq]
      refine ite2 (fun h1 => ?_) (fun h1 => ?_)
      · refine ⟨_, rfl, t, _, _, _, rfl, rfl, ht, atI_nat (j := 1) rfl, _, rfl, rfl, _, rfl, ?_⟩
        rw [strEq]
        refine ite2 (fun h2 => ?_) (fun h2 => ?_)
        · have e1 : amt B d c = e.2.2 := by
            rw [amt_skip hno, List.drop_eq_getElem_cons (List.getElem?_eq_some_iff.mp he).1, (List.getElem?_eq_some_iff.mp he).2]
            exact amt_pos ⟨of_decide_eq_true h1, of_decide_eq_true h2⟩
          rw [e1] at q
          exact ⟨_, rfl, t, _, _, _, rfl, rfl, ht, atI_nat (j := 2) rfl, q⟩
        · refine ⟨⟨_, rfl⟩, rfl, ?_⟩
          rw [step]
          simp at h2 ⊢
          exact fun _ => h2
      · refine ⟨⟨_, rfl⟩, rfl, ?_⟩
        rw [step]
        simp at h1 ⊢
        exact fun z => absurd z h1
    · rintro σ H' ⟨⟨y, rfl⟩, rfl, hno⟩
      have e1 : amt B d c = 0 := by
        rw [amt_skip hno, paired_len hB, List.drop_length]
        rfl
      rw [e1] at q
      exact q
end
end Bb

namespace Bb
open PySem PySem.Spec PyProof.Rows L2
/-! ### == and != of plain data, whatever the texts' signs -/
section
variable {X : Cx}
theorem op_eqP (hu : X.A.units + 64 < cLine) : OpR X (compareOp .Eq) (fun x y H Q => ∃ d e, Dp X.K H x d ∧ Dp X.K H y e ∧ d.plain = true ∧ e.plain = true ∧ d.depth ≤ 64 ∧ Q (.bl (PyData.eqv d e)) H) := by
  intro pins s σ H x y v u Q I rx ry h
  obtain ⟨d, e, hd, he, pd, pe, dd, q⟩ := h
  obtain ⟨as, r1⟩ := Dp.reads I d x v hd rx
  obtain ⟨bs, r2⟩ := Dp.reads I e y u he ry
  exact SeqAt.eq_plain r1 r2 pd pe (by have := Nat.min_le_left d.depth e.depth; omega) ⟨.bl _, H, I, rfl, q⟩
theorem op_neP (hu : X.A.units + 64 < cLine) : OpR X (compareOp .NotEq) (fun x y H Q => ∃ d e, Dp X.K H x d ∧ Dp X.K H y e ∧ d.plain = true ∧ e.plain = true ∧ d.depth ≤ 64 ∧ Q (.bl (!PyData.eqv d e)) H) := by
  intro pins s σ H x y v u Q I rx ry h
  obtain ⟨d, e, hd, he, pd, pe, dd, q⟩ := h
  obtain ⟨as, r1⟩ := Dp.reads I d x v hd rx
  obtain ⟨bs, r2⟩ := Dp.reads I e y u he ry
  exact SeqAt.rcNe_plain r1 r2 pd pe (by have := Nat.min_le_left d.depth e.depth; omega) _ _ _ _ ⟨.bl _, H, I, rfl, q⟩
end
theorem hu64 {A : Around} {k : Nat} (hr : Room k A) : A.units + 64 < cLine := by
  have := hr.un
  omega
theorem dp_strs {K : PySem.W.Frag} {H : Hp} : ∀ l : List Str, DpAll K H (l.map V.str) (l.map PyData.str)
  | [] => .nil
  | x :: l => .cons (.str x) (dp_strs l)
theorem plain_strs : ∀ l : List Str, PyData.plainAll (l.map PyData.str) = true
  | [] => rfl
  | x :: l => by
    show (PyData.plain (.str x) && PyData.plainAll (l.map PyData.str)) = true
    rw [plain_strs l]
    rfl
theorem depth_strs : ∀ l : List Str, PyData.depthAll (l.map PyData.str) = 0
  | [] => rfl
  | x :: l => by
    show max (PyData.depth (.str x)) (PyData.depthAll (l.map PyData.str)) = 0
    rw [depth_strs l]
    rfl
/-- a list of texts against the empty list -/
theorem eqv_nil (l : List Str) : PyData.eqv (.list (l.map PyData.str)) (.list []) = l.isEmpty := by
  cases l with
  | nil => rfl
  | cons x l => rfl
theorem inV_strs (x : Str) : ∀ l : List Str, inV (.str x) (l.map V.str) = decide (x ∈ l)
  | [] => by simp [inV]
  | a :: l => by
    have ih := inV_strs x l
    unfold inV at ih ⊢
    rw [List.map_cons, List.any_cons, ih]
    have e : eqV (.str a) (.str x) = decide (x = a) := by
      show decide (a = x) = decide (x = a) <;> exact decide_eq_decide.mpr ⟨Eq.symm, Eq.symm⟩
    rw [e]
    by_cases h : x = a
    · simp [h]
    · simp [h]
theorem flat_strs (l : List Str) : (l.map V.str).all flatV = true := by
  rw [List.all_map]
  exact List.all_eq_true.mpr fun x _ => rfl
end Bb

namespace Bb
open PySem PySem.Spec PyProof.Rows L2
/-- a search for g: S who is seen, ws who waits -/
structure Srch (B : Book) (g st : Str) (us S ws : List Str) : Prop where
  nd : S.Nodup
  start : st ∈ S
  sub : ∀ x ∈ S, x ∈ st :: B.map (·.2.1)
  sound : ∀ x ∈ S, Lead sLt B g us x → Lead sLt B g us st
  wsub : ∀ x ∈ ws, x ∈ S
theorem Srch.len {B : Book} {g st : Str} {us S ws : List Str} (h : Srch B g st us S ws) : S.length ≤ B.length + 1 := by
  have q := nodup_le h.nd h.sub
  rw [List.length_cons, List.length_map] at q
  exact q
def Closed (B : Book) (g : Str) (us S : List Str) (x : Str) : Prop := ∀ v, Edge B x v → v ≠ g ∧ (sLt g v = true → v ∉ us → v ∈ S)
theorem Closed.mono {B : Book} {g x : Str} {us S S' : List Str} (h : Closed B g us S x) (hs : ∀ y ∈ S, y ∈ S') : Closed B g us S' x := fun v e => ⟨(h v e).1, fun a b => hs v ((h v e).2 a b)⟩
theorem snoc_of {α : Type} {l : List α} (h : l ≠ []) : ∃ m x, l = m ++ [x] := ⟨l.dropLast, l.getLast h, (List.dropLast_concat_getLast h).symm⟩
/-! ### tests of a due's parts, by what they answer -/
theorem and_known {t u : TT} {σ : L2.St} {H : Hp} {Q : Bool → Hp → Prop} {p q : Bool} (h1 : ∀ Q : Bool → Hp → Prop, Q p H → t σ H Q) (h2 : p = true → ∀ Q : Bool → Hp → Prop, Q q H → u σ H Q) (h : Q (p && q) H) : tAnd t u σ H Q := by
  refine h1 _ ?_
  cases p with
  | true => exact iteT (h2 rfl _ h)
  | false => exact iteF h
section
variable {K : PySem.W.Frag} {σ : L2.St} {H : Hp} {Q : Bool → Hp → Prop} {k j : Nat} {t u D : Addr} {xs : List V} {i : Int} {x z : Str} {us : List Str} {f : Str → V}
theorem rd_ixEq (h1 : σ[k]? = some (some (.ref t))) (h2 : SqT K H t xs) (h3 : atI xs i = some (.str x)) (h4 : σ[j]? = some (some (.str z))) (q : Q (decide (x = z)) H) :
    tTest (tOp rEq (tOp (rIxT K) (tVar k) (tC (.int i))) (tVar j)) σ H Q :=
  ⟨_, h1, t, _, _, _, rfl, rfl, h2, h3, _, h4, rfl, _, rfl, by rw [strEq]; exact q⟩
theorem rd_ixGt (h1 : σ[k]? = some (some (.ref t))) (h2 : SqT K H t xs) (h3 : atI xs i = some (.str x)) (h4 : σ[j]? = some (some (.str z))) (q : Q (sLt z x) H) :
    tTest (tOp (fun x y H Q => ∃ i j, x = V.str i ∧ y = V.str j ∧ Q (V.bl (decide (j.cps.toList < i.cps.toList))) H) (tOp (rIxT K) (tVar k) (tC (.int i))) (tVar j)) σ H Q :=
  ⟨_, h1, t, _, _, _, rfl, rfl, h2, h3, _, h4, _, _, rfl, rfl, _, rfl, q⟩
theorem rd_ixNin (h1 : σ[k]? = some (some (.ref t))) (h2 : SqT K H t xs) (h3 : atI xs i = some (.str x)) (h4 : σ[j]? = some (some (.ref u))) (hu : SqL K H u (us.map V.str)) (q : Q (!decide (x ∈ us)) H) :
    tTest (tOp (rIn K true) (tOp (rIxT K) (tVar k) (tC (.int i))) (tVar j)) σ H Q :=
  ⟨_, h1, t, _, _, _, rfl, rfl, h2, h3, _, h4, u, _, rfl, .inl hu, rfl, flat_strs us, _, rfl, by rw [inV_strs]; exact q⟩
theorem rd_ixNtab (h1 : σ[k]? = some (some (.ref t))) (h2 : SqT K H t xs) (h3 : atI xs i = some (.str x)) (h4 : σ[j]? = some (some (.ref D))) (hd : H D = some (.dK (tab f us))) (q : Q (!decide (x ∈ us)) H) :
    tB (tDNotIn (tOp (rIxT K) (tVar k) (tC (.int i))) (tVar j)) σ H Q := by
  refine ⟨_, h1, t, _, _, _, rfl, rfl, h2, h3, _, h4, D, _, rfl, DGet.k (k := Sum.inr x) hd, _, rfl, ?_⟩
  rw [valV_tab]
  by_cases h : x ∈ us
  · rw [if_pos h]
    rw [decide_eq_true h] at q
    exact q
  · rw [if_neg h]
    rw [decide_eq_false h] at q
    exact q
end
section
variable {P : Program} {w : World} {K : PySem.W.Frag} {mg : Str → Option Value} {base : Heap}
def sp_leads (K : PySem.W.Frag) : Sp := fun vs H Q _ => ∃ (a u : Addr) (B : Book) (st g : Str) (us : List Str), vs = [.ref a, .str st, .str g, .ref u] ∧ BookAt K H a B ∧ SqL K H u (us.map V.str) ∧ B.length ≤ 1000 ∧
  ∀ (b : Bool) (H' : Hp), Same H H' → (b = true ↔ Lead sLt B g us st) → Q (.bl b) H'
theorem scLeads : FnScope ["book", "start", "goal", "used", "seen", "waiting", "at", "due"] ["book", "start", "goal", "used"] (defScope s_leads) := ⟨rfl, rfl, rfl, by decide +kernel, rfl, by decide +kernel, by decide +kernel⟩
theorem ok_leads {f : Addr} {fd : FuncData} (F : Fun K "leads" "leads" s_leads f fd) : FnOk P w K mg base CX0 1 f fd ["book", "start", "goal", "used"] (sp_leads K) := by
  refine F.ok scLeads (fun vs H Q E h => ?_) (fun cdv A outer s H vs Q E hr h => ?_)
  · obtain ⟨a, u, B, st, g, us, rfl, _⟩ := h
    rfl
  · obtain ⟨a, u, B, st, g, us, rfl, ⟨vs, hv, hB⟩, hus, hlen, q⟩ := h
    have hu := hu_of hr
    refine ⟨_, pss_cons (ps_set (i := 4) scLeads.nd rfl (.inl rfl) (pe_disp (pps_cons (pv 1) pe_bl pps_nil) (by rfl) (by rfl) (fun z => by cases z) (by decide)))
      (pss_cons (ps_set (i := 5) scLeads.nd rfl (.inl rfl) (pe_lst (pa_cons (pv 1) pa_nil)))
      (pss_cons (ps_while PassesOwn.never (pt_cmpR (op_neP (hu64 hr)) (pv 5) (pe_lst pa_nil) (nomark _))
        (pss_cons (ps_set (i := 6) scLeads.nd rfl (.inl rfl) (pe_bm0 PySem.F.plainAttrs_list PySem.F.slot_list_pop PySem.F.type_list_pop mt_pop (pv 5)))
        (pss_one (ps_for PassesOwn.never rfl (pi_list (pv 0)) (pg_name (i := 7) scLeads.nd rfl (.inl rfl))
          (pss_cons (ps_if (PW.pt (pw_and (pt_cmpR op_eq (pe_ix ix_tup (pv 7) pe_int (fun _ _ => rfl)) (pv 6) (nomark _)) (pw_and1 (pt_cmpR op_eq (pe_ix ix_tup (pv 7) pe_int (fun _ _ => rfl)) (pv 2) (nomark _)))))
            (pss_one (ps_ret pe_bl)) pss_nil)
          (pss_one (ps_if (PW.pt (pw_and (pt_cmpR op_eq (pe_ix ix_tup (pv 7) pe_int (fun _ _ => rfl)) (pv 6) (nomark _))
              (pw_and (pt_cmpR op_gt_str (pe_ix ix_tup (pv 7) pe_int (fun _ _ => rfl)) (pv 2) (nomark _))
              (pw_and (pt_cmpR op_notIn_seq (pe_ix ix_tup (pv 7) pe_int (fun _ _ => rfl)) (pv 3) (by rfl))
              (pw_and1 (pt_cmp (pc_dnotin hu (pe_ix ix_tup (pv 7) pe_int (fun _ _ => rfl)) (pv 4))))))))
            (pss_cons (ps_dput hu (pv 4) (pe_ix ix_tup (pv 7) pe_int (fun _ _ => rfl)) pe_bl rfl)
              (pss_one (ps_expr (pe_bm PySem.F.plainAttrs_list PySem.F.slot_list_append PySem.F.type_list_append mt_append (pv 5) (pa_cons (pe_ix ix_tup (pv 7) pe_int (fun _ _ => rfl)) pa_nil))))) pss_nil)))))))
      (pss_one (ps_ret pe_bl)))), ?_⟩
    -- seen = {start: True}
    intro D hD
    refine ⟨_, rfl, upd_same, [(Sum.inr st, .bl true)], rfl, (by show 1 ≤ 15; decide), ?_⟩
    rw [upd_upd]
    -- waiting = [start]
    refine ⟨_, rfl, (by show 1 ≤ sizeLine; decide), fun W hW => ?_⟩
    have nWD : W ≠ D := fun e => by rw [e, upd_same] at hW; cases hW
    have hW0 : H W = none := (same_upd hD).free hW
    have s0 : Same H (upd (upd H D (.dK (mergeK [] [(Sum.inr st, .bl true)]))) W (.lst [.str st])) := same_put (same_upd hD) hW0
    refine ⟨fun m σ H' => ∃ y6 y7 S ws, σ = [some (.ref a), some (.str st), some (.str g), some (.ref u), some (.ref D), some (.ref W), y6, y7] ∧ Same H H' ∧ H' D = some (.dK (tab (fun _ => .bl true) S)) ∧ H' W = some (.lst (ws.map V.str)) ∧
      Srch B g st us S ws ∧ (∀ x ∈ S, x ∉ ws → Closed B g us S x) ∧ (B.length + 1 - S.length) + ws.length = m ∧ m ≤ B.length + 1,
      ⟨B.length + 1, none, none, [st], [st], rfl, s0, by rw [upd_ne nWD.symm, upd_same]; rfl, upd_same,
        ⟨by simp, by simp, fun x hx => List.mem_singleton.mp hx ▸ List.mem_cons_self, fun x hx h => List.mem_singleton.mp hx ▸ h, fun x hx => hx⟩, fun x hx hn => absurd hx hn, by simp, Nat.le_refl _⟩, ?_⟩
    rintro m σ H' ⟨y6, y7, S, ws, rfl, sm, hd, hw, R, cl, em, lm⟩
    refine ⟨_, rfl, Nat.zero_le _, fun l hl => ⟨_, _, .lst (.inl (.inl ?_)) (dp_strs ws), .lst (.inl (.inl upd_same)) .nil, plain_strs ws, rfl, ?_, _, rfl, ?_⟩⟩
    · rw [upd_ne (ne_of_none hw hl)]
      exact hw
    · show PyData.depthAll (ws.map PyData.str) + 1 ≤ 64
      rw [depth_strs]
      decide
    rw [eqv_nil]
    have sm1 : Same H (upd H' l (.lst [])) := sm.trans (same_upd hl)
    have hd1 : (upd H' l (.lst [])) D = some (.dK (tab (fun _ => .bl true) S)) := by rw [upd_ne (ne_of_none hd hl)]; exact hd
    have hw1 : (upd H' l (.lst [])) W = some (.lst (ws.map V.str)) := by rw [upd_ne (ne_of_none hw hl)]; exact hw
    generalize upd H' l (.lst []) = H1 at sm1 hd1 hw1 ⊢
    by_cases hws : ws = []
    · -- nobody waits
      subst hws
      refine iteF ?_
      have no : ¬ Lead sLt B g us st := lead_closed (S := fun x => x ∈ S) (fun x hx v e => cl x hx (by simp) v e) R.start
      exact q false H1 sm1 ⟨fun z => (by cases z), fun z => absurd z no⟩
    · have e0 : (!ws.isEmpty) = true := by
        cases ws with
        | nil => exact absurd rfl hws
        | cons _ _ => rfl
      rw [e0]
      refine iteT ?_
      obtain ⟨ws', at', rfl⟩ := snoc_of hws
      rw [List.length_append, List.length_singleton] at em
      refine ⟨fun σ' H2 => ∃ y6 y7 S ws2, σ' = [some (.ref a), some (.str st), some (.str g), some (.ref u), some (.ref D), some (.ref W), y6, y7] ∧ Same H H2 ∧ H2 D = some (.dK (tab (fun _ => .bl true) S)) ∧ H2 W = some (.lst (ws2.map V.str)) ∧
        Srch B g st us S ws2 ∧ (∀ x ∈ S, x ∉ ws2 → Closed B g us S x) ∧ (B.length + 1 - S.length) + ws2.length = m - 1,
        fun σ' H2 ⟨y6, y7, S, ws2, z1, z2, z3, z4, z5, z6, z7⟩ => ⟨m - 1, by omega, y6, y7, S, ws2, z1, z2, z3, z4, z5, z6, z7, by omega⟩, ?_⟩
      -- at = waiting.pop()
      refine ⟨_, rfl, .inl ⟨rfl, _, .inl (.inl hw1)⟩, W, _, .str at', rfl, rfl, hw1, ?_, ?_⟩
      · rw [List.map_append, List.length_append, List.length_map]
        show ((ws'.map V.str) ++ [V.str at'])[ws'.length + 1 - 1]? = _
        rw [Nat.add_sub_cancel, List.getElem?_append_right (by simp), List.length_map, Nat.sub_self]
        rfl
      have e1 : ((ws' ++ [at']).map V.str).dropLast = ws'.map V.str := by rw [List.map_append]; exact List.dropLast_concat
      rw [e1]
      have atS : at' ∈ S := R.wsub at' (by simp)
      have sm2 : Same H (upd H1 W (.lst (ws'.map V.str))) := same_put sm1 hW0
      have nDW : D ≠ W := nWD.symm
      -- for due in book
      refine ⟨_, rfl, a, rfl, ⟨vs, sm2.seq hv⟩, for_list (K := K) (a := a) (xs := vs) (fun i σ H2 => ∃ y7 S ws2, σ = [some (.ref a), some (.str st), some (.str g), some (.ref u), some (.ref D), some (.ref W), some (.str at'), y7] ∧ Same H H2 ∧ H2 D = some (.dK (tab (fun _ => .bl true) S)) ∧
          H2 W = some (.lst (ws2.map V.str)) ∧ Srch B g st us S ws2 ∧ at' ∈ S ∧ (∀ x ∈ S, x ∉ ws2 → x ≠ at' → Closed B g us S x) ∧ (∀ v, Edge (B.take i) at' v → v ≠ g ∧ (sLt g v = true → v ∉ us → v ∈ S)) ∧ (B.length + 1 - S.length) + ws2.length = m - 1)
        ⟨y7, S, ws', rfl, sm2, by rw [upd_ne nDW]; exact hd1, upd_same, ⟨R.nd, R.start, R.sub, R.sound, fun x hx => R.wsub x (List.mem_append_left _ hx)⟩, atS,
          fun x hx h1 h2 => cl x hx (fun z => (List.mem_append.mp z).elim h1 fun e => h2 (List.mem_singleton.mp e)), fun v ⟨_, e⟩ => by simp at e, by omega⟩ (fun i σ H2 _ ⟨_, _, _, _, s, _⟩ => s.seq hv) ?_ ?_⟩
      · rintro i x σ H2 hi ⟨z7, S2, ws2, rfl, s2, hd2, hw2, R2, at2, cl2, ed2, em2⟩
        obtain ⟨e, he, t, rfl, ht⟩ := paired_get hB hi
        have inB : e ∈ B := List.mem_of_getElem? he
        have ht2 := Same.tup s2 ht
        -- what is known of the dues up to this one, where this one brings nothing new
        have done : ∀ (S3 : List Str), (∀ y ∈ S2, y ∈ S3) → (e.1 = at' → e.2.1 ≠ g ∧ (sLt g e.2.1 = true → e.2.1 ∉ us → e.2.1 ∈ S3)) → ∀ v, Edge (B.take (i + 1)) at' v → v ≠ g ∧ (sLt g v = true → v ∉ us → v ∈ S3) := by
          intro S3 h3 hnew v ⟨mm, hm⟩
          rw [take_snoc he] at hm
          rcases List.mem_append.mp hm with z | z
          · have q1 := ed2 v ⟨mm, z⟩
            exact ⟨q1.1, fun c d => h3 v (q1.2 c d)⟩
          · have q1 := List.mem_singleton.mp z
            rw [← q1] at hnew
            exact hnew rfl
        have same : (e.1 = at' → e.2.1 ≠ g ∧ (sLt g e.2.1 = true → e.2.1 ∉ us → e.2.1 ∈ S2)) → ∃ y7 S ws2', ([some (.ref a), some (.str st), some (.str g), some (.ref u), some (.ref D), some (.ref W), some (.str at'), some (.ref t)] : List (Option V)) = [some (.ref a), some (.str st), some (.str g), some (.ref u), some (.ref D), some (.ref W), some (.str at'), y7] ∧ Same H H2 ∧ H2 D = some (.dK (tab (fun _ => .bl true) S)) ∧
          H2 W = some (.lst (ws2'.map V.str)) ∧ Srch B g st us S ws2' ∧ at' ∈ S ∧ (∀ x ∈ S, x ∉ ws2' → x ≠ at' → Closed B g us S x) ∧ (∀ v, Edge (B.take (i + 1)) at' v → v ≠ g ∧ (sLt g v = true → v ∉ us → v ∈ S)) ∧ (B.length + 1 - S.length) + ws2'.length = m - 1 := fun hnew =>
          ⟨_, S2, ws2, rfl, s2, hd2, hw2, R2, at2, cl2, done S2 (fun _ h => h) hnew, em2⟩
        -- if due[0] == at and due[1] == goal
        refine and_known (p := decide (e.1 = at')) (q := decide (e.2.1 = g)) (fun Q q => rd_ixEq rfl ht2 (atI_nat (j := 0) rfl) rfl q) (fun _ Q q => rd_ixEq rfl ht2 (atI_nat (j := 1) rfl) rfl q) ?_
        refine ite2 (fun h1 => ?_) (fun h1 => ?_)
        · rw [Bool.and_eq_true, decide_eq_true_eq, decide_eq_true_eq] at h1
          have ed : Edge B at' g := ⟨e.2.2, by rw [← h1.1, ← h1.2]; exact inB⟩
          exact q true H2 s2 ⟨fun _ => R2.sound at' at2 (.direct ed), fun _ => rfl⟩
        · -- the second one
          rw [Bool.and_eq_true, decide_eq_true_eq, decide_eq_true_eq] at h1
          refine and_known (p := decide (e.1 = at')) (q := sLt g e.2.1 && (!decide (e.2.1 ∈ us) && !decide (e.2.1 ∈ S2))) (fun Q q => rd_ixEq rfl ht2 (atI_nat (j := 0) rfl) rfl q)
            (fun _ Q q => and_known (p := sLt g e.2.1) (q := !decide (e.2.1 ∈ us) && !decide (e.2.1 ∈ S2)) (fun Q q => rd_ixGt rfl ht2 (atI_nat (j := 1) rfl) rfl q)
              (fun _ Q q => and_known (p := !decide (e.2.1 ∈ us)) (q := !decide (e.2.1 ∈ S2)) (fun Q q => rd_ixNin rfl ht2 (atI_nat (j := 1) rfl) rfl (s2.seq hus) q)
                (fun _ Q q => rd_ixNtab rfl ht2 (atI_nat (j := 1) rfl) rfl hd2 q) q) q) ?_
          refine ite2 (fun h2 => ?_) (fun h2 => ?_)
          · simp only [Bool.and_eq_true, decide_eq_true_eq, Bool.not_eq_true', decide_eq_false_iff_not] at h2
            obtain ⟨c1, c2, c3, c4⟩ := h2
            have R3 : Srch B g st us (addK S2 e.2.1) (ws2 ++ [e.2.1]) := by
              refine ⟨nd_addK R2.nd, mem_addK.mpr (.inl R2.start), fun x hx => ?_, fun x hx h => ?_, fun x hx => ?_⟩
              · rcases mem_addK.mp hx with z | z
                · exact R2.sub x z
                · exact List.mem_cons_of_mem _ (List.mem_map.mpr ⟨e, inB, z.symm⟩)
              · rcases mem_addK.mp hx with z | z
                · exact R2.sound x z h
                · subst z
                  refine R2.sound at' at2 (.step ⟨e.2.2, ?_⟩ c2 c3 h)
                  rw [← c1]
                  exact inB
              · rcases List.mem_append.mp hx with z | z
                · exact mem_addK.mpr (.inl (R2.wsub x z))
                · exact mem_addK.mpr (.inr (List.mem_singleton.mp z))
            have e3 : (addK S2 e.2.1).length = S2.length + 1 := by
              unfold addK
              rw [if_neg c4, List.length_append, List.length_singleton]
            have l3 := R3.len
            refine ⟨_, rfl, _, rfl, t, _, _, _, rfl, rfl, ht2, atI_nat (j := 1) rfl, D, _, rfl, DPut.k (k := Sum.inr e.2.1) hd2 (by rw [tab_len]; exact small1000 (by omega)), ?_⟩
            rw [putK_tab]
            have nWD2 : W ≠ D := nWD
            have hw3 : ∀ o, (upd H2 D o) W = some (.lst (ws2.map V.str)) := fun o => by rw [upd_ne nWD2]; exact hw2
            have ht3 : ∀ o, SqT K (upd H2 D o) t [.str e.1, .str e.2.1, .int e.2.2] := fun o => Same.tup (same_put s2 hD) ht
            refine ⟨_, rfl, .inl ⟨rfl, _, .inl (.inl (hw3 _))⟩, _, rfl, t, _, _, _, rfl, rfl, ht3 _, atI_nat (j := 1) rfl, W, _, _, rfl, rfl, hw3 _, ?_, ?_⟩
            · rw [List.length_map]
              exact small1000 (by omega)
            · refine ⟨_, addK S2 e.2.1, ws2 ++ [e.2.1], rfl, same_put (same_put s2 hD) hW0, ?_, ?_, R3, mem_addK.mpr (.inl at2), fun x hx h3 h4 => ?_, ?_, ?_⟩
              · rw [upd_ne nDW, upd_same]
                exact congrArg (fun l => some (HO.dK l)) (tab_congr fun x _ => by
                  by_cases h1 : x = e.2.1
                  · rw [if_pos h1]
                  · rw [if_neg h1])
              · rw [upd_same, List.map_append]
                rfl
              · rcases mem_addK.mp hx with z | z
                · exact (cl2 x z (fun y => h3 (List.mem_append_left _ y)) h4).mono fun y hy => mem_addK.mpr (.inl hy)
                · exact absurd (by rw [z]; simp) h3
              · exact done _ (fun y hy => mem_addK.mpr (.inl hy)) fun _ => ⟨fun z => h1 ⟨c1, z⟩, fun _ _ => mem_addK.mpr (.inr rfl)⟩
              · clear same done
                rw [e3, List.length_append, List.length_singleton]
                omega
          · exact same fun c1 => ⟨fun c2 => h1 ⟨c1, c2⟩, fun c2 c3 => by
              refine Classical.byContradiction fun c4 => h2 ?_
              simp only [Bool.and_eq_true, decide_eq_true_eq, Bool.not_eq_true', decide_eq_false_iff_not]
              exact ⟨c1, c2, c3, c4⟩⟩
      · rintro σ H2 ⟨z7, S2, ws2, rfl, s2, hd2, hw2, R2, at2, cl2, ed2, em2⟩
        rw [paired_len hB, take_all] at ed2
        refine ⟨_, _, S2, ws2, rfl, s2, hd2, hw2, R2, fun x hx hn => ?_, em2⟩
        by_cases e : x = at'
        · subst e
          exact ed2
        · exact cl2 x hx hn e
end
end Bb

namespace Bb
open PySem PySem.Spec PyProof.Rows L2
/-! ### a row of names grows to a ring -/
def Chain (B : Book) (row : List Str) : Prop := ∀ p ∈ row.zip row.tail, Edge B p.1 p.2
theorem tail_snoc {α : Type} {l : List α} {v : α} (h : l ≠ []) : (l ++ [v]).tail = l.tail ++ [v] := by
  cases l with
  | nil => exact absurd rfl h
  | cons a l => rfl
theorem zip_snoc {α : Type} {pre t : List α} {x v : α} (h : pre.length = t.length) : (pre ++ [x]).zip (t ++ [v]) = pre.zip t ++ [(x, v)] := by
  rw [List.zip_append h]
  rfl
theorem zip_cut {α : Type} : ∀ {pre t : List α} {x : α}, pre.length = t.length → (pre ++ [x]).zip t = pre.zip t
  | [], [], x, _ => by simp
  | [], _ :: _, x, h => absurd h (by simp)
  | _ :: _, [], x, h => absurd h (by simp)
  | a :: pre, b :: t, x, h => by
    show (a, b) :: (pre ++ [x]).zip t = (a, b) :: pre.zip t
    rw [zip_cut (by simpa using h)]
theorem Chain.snoc {B : Book} {pre : List Str} {x v : Str} (h : Chain B (pre ++ [x])) (e : Edge B x v) : Chain B ((pre ++ [x]) ++ [v]) := by
  intro p hp
  have hne : pre ++ [x] ≠ [] := by simp
  have hl : pre.length = (pre ++ [x]).tail.length := by simp
  rw [tail_snoc hne, zip_cut (by rw [List.length_append, List.length_append, ← hl] <;> rfl), zip_snoc hl] at hp
  rcases List.mem_append.mp hp with q | q
  · refine h p ?_
    rw [zip_cut hl]
    exact q
  · rw [List.mem_singleton.mp q]
    exact e
theorem Chain.ring {B : Book} {pre : List Str} {x g : Str} (h : Chain B (pre ++ [x])) (hg : (pre ++ [x]).head? = some g) (nd : (pre ++ [x]).Nodup) (e : Edge B x g) : IsRing B (pre ++ [x]) := by
  refine ⟨by simp, nd, fun p hp => ?_⟩
  have e1 : (pre ++ [x]).take 1 = [g] := by
    cases pre with
    | nil =>
      have : x = g := Option.some.inj hg
      rw [this]
      rfl
    | cons a pre =>
      have : a = g := Option.some.inj hg
      rw [this]
      rfl
  have hl : pre.length = (pre ++ [x]).tail.length := by simp
  unfold nx at hp
  rw [e1, zip_snoc hl] at hp
  rcases List.mem_append.mp hp with q | q
  · refine h p ?_
    rw [zip_cut hl]
    exact q
  · rw [List.mem_singleton.mp q]
    exact e
theorem if_known {c : TT} {t u : TS} {D : Ends} {σ : L2.St} {H : Hp} {p : Bool} (h : ∀ Q : Bool → Hp → Prop, Q p H → c σ H Q) (k : if p = true then t D σ H else u D σ H) : tIfS c t u D σ H := h _ k
section
variable {P : Program} {w : World} {K : PySem.W.Frag} {mg : Str → Option Value} {base : Heap}
/-! ### next_in -/
/-- v may come next behind x in a row that begins with g -/
structure Nxt (B : Book) (g x : Str) (row : List Str) (v : Str) : Prop where
  ed : Edge B x v
  gt : sLt g v = true
  new : v ∉ row
  ld : Lead sLt B g row v
def sp_next_in (K : PySem.W.Frag) : Sp := fun vs H Q _ => ∃ (a r : Addr) (B : Book) (g x : Str) (pre : List Str), vs = [.ref a, .ref r] ∧ BookAt K H a B ∧ SqL K H r ((pre ++ [x]).map V.str) ∧ (pre ++ [x]).head? = some g ∧ B.length ≤ 1000 ∧ (∃ v, Nxt B g x (pre ++ [x]) v) ∧
  ∀ (v : Str) (H' : Hp), Same H H' → Nxt B g x (pre ++ [x]) v → Q (.str v) H'
theorem scNext : FnScope ["book", "row", "due"] ["book", "row"] (defScope s_next_in) := ⟨rfl, rfl, rfl, by decide +kernel, rfl, by decide +kernel, by decide +kernel⟩
theorem ok_next_in {f : Addr} {fd : FuncData} (F : Fun K "next_in" "next_in" s_next_in f fd) (T : Txt K mg) : FnOk P w K mg base CX0 2 f fd ["book", "row"] (sp_next_in K) := by
  obtain ⟨fL, fdL, FL, bL, gL⟩ := T.d_leads
  have GL : FnOk P w K mg base CX0 1 fL fdL ["book", "start", "goal", "used"] (sp_leads K) := ok_leads FL
  refine F.ok scNext (fun vs H Q E h => ?_) (fun cdv A outer s H vs Q E hr h => ?_)
  · obtain ⟨a, r, B, g, x, pre, rfl, _⟩ := h
    rfl
  · obtain ⟨a, r, B, g, x, pre, rfl, ⟨vs, hv, hB⟩, hrow, hg, hlen, hex, q⟩ := h
    have hlast : atI ((pre ++ [x]).map V.str) (-1) = some (.str x) := by
      rw [List.map_append]
      exact atI_last _ _
    have hfirst : atI ((pre ++ [x]).map V.str) 0 = some (.str g) := by
      refine atI_nat (j := 0) ?_
      cases pre with
      | nil =>
        have e : x = g := Option.some.inj hg
        rw [e]
        rfl
      | cons b pre =>
        have e : b = g := Option.some.inj hg
        rw [e]
        rfl
    refine ⟨_, pss_cons (ps_for PassesOwn.never rfl (pi_list (pv 0)) (pg_name (i := 2) scNext.nd rfl (.inl rfl))
        (pss_one (ps_if (PW.pt (pw_and (pt_cmpR op_eq (pe_ix ix_tup (pv 2) pe_int (fun _ _ => rfl)) (pe_ix ix_list (pv 1) (pe_un un_neg pe_int) (fun _ _ => rfl)) (nomark _))
              (pw_and (pt_cmpR op_gt_str (pe_ix ix_tup (pv 2) pe_int (fun _ _ => rfl)) (pe_ix ix_list (pv 1) pe_int (fun _ _ => rfl)) (nomark _))
              (pw_and1 (pt_cmpR op_notIn_seq (pe_ix ix_tup (pv 2) pe_int (fun _ _ => rfl)) (pv 1) (by rfl))))))
          (pss_one (ps_if (pt_val (pe_call GL hr (by rfl) gL FL.kp bL .nil pass0 (pa_cons (pv 0) (pa_cons (pe_ix ix_tup (pv 2) pe_int (fun _ _ => rfl)) (pa_cons (pe_ix ix_list (pv 1) pe_int (fun _ _ => rfl)) (pa_cons (pv 1) pa_nil))))))
            (pss_one (ps_ret (pe_ix ix_tup (pv 2) pe_int (fun _ _ => rfl)))) pss_nil)) pss_nil)))
      (pss_one (ps_ret (pe_ix ix_list (pv 1) pe_int (fun _ _ => rfl)))), ?_⟩
    refine ⟨_, rfl, a, rfl, ⟨vs, hv⟩, for_list (K := K) (a := a) (xs := vs) (fun i σ H' => (∃ y, σ = [some (.ref a), some (.ref r), y]) ∧ Same H H' ∧ ∀ e ∈ B.take i, ¬ (e.1 = x ∧ sLt g e.2.1 = true ∧ e.2.1 ∉ pre ++ [x] ∧ Lead sLt B g (pre ++ [x]) e.2.1))
      ⟨⟨none, rfl⟩, Same.refl H, fun e he => by simp at he⟩ (fun i σ H' _ h => h.2.1.seq hv) ?_ ?_⟩
    · rintro i y σ H' hi ⟨⟨y0, rfl⟩, sm, hno⟩
      obtain ⟨e, he, t, rfl, ht⟩ := paired_get hB hi
      have inB : e ∈ B := List.mem_of_getElem? he
      have ht1 := Same.tup sm ht
      have hr1 := sm.seq hrow
      have go : ¬ (e.1 = x ∧ sLt g e.2.1 = true ∧ e.2.1 ∉ pre ++ [x] ∧ Lead sLt B g (pre ++ [x]) e.2.1) → ∀ e' ∈ B.take (i + 1), ¬ (e'.1 = x ∧ sLt g e'.2.1 = true ∧ e'.2.1 ∉ pre ++ [x] ∧ Lead sLt B g (pre ++ [x]) e'.2.1) := fun hn e' he' => by
        rw [take_snoc he] at he'
        rcases List.mem_append.mp he' with z | z
        · exact hno e' z
        · rw [List.mem_singleton.mp z]
          exact hn
      refine if_known (p := decide (e.1 = x) && (sLt g e.2.1 && !decide (e.2.1 ∈ pre ++ [x]))) (fun Q q => and_known (p := decide (e.1 = x)) (q := sLt g e.2.1 && !decide (e.2.1 ∈ pre ++ [x])) (fun Q q => ⟨_, rfl, t, _, _, _, rfl, rfl, ht1, atI_nat (j := 0) rfl, _, rfl, 1, rfl, r, _, _, _, rfl, rfl, hr1, hlast, rfl, _, rfl, by rw [strEq]; exact q⟩)
        (fun _ Q q => and_known (p := sLt g e.2.1) (q := !decide (e.2.1 ∈ pre ++ [x])) (fun Q q => ⟨_, rfl, t, _, _, _, rfl, rfl, ht1, atI_nat (j := 1) rfl, _, rfl, r, _, _, _, rfl, rfl, hr1, hfirst, _, _, rfl, rfl, _, rfl, q⟩)
          (fun _ Q q => rd_ixNin rfl ht1 (atI_nat (j := 1) rfl) rfl hr1 q) q) q) ?_
      refine ite2 (fun h1 => ?_) (fun h1 => ?_)
      · simp only [Bool.and_eq_true, decide_eq_true_eq, Bool.not_eq_true', decide_eq_false_iff_not] at h1
        obtain ⟨c1, c2, c3⟩ := h1
        refine ⟨_, rfl, _, rfl, t, _, _, _, rfl, rfl, ht1, atI_nat (j := 1) rfl, _, rfl, r, _, _, _, rfl, rfl, hr1, hfirst, _, rfl, a, r, B, e.2.1, g, pre ++ [x], rfl, ⟨vs, sm.seq hv, DuesAt.same sm hB⟩, hr1, hlen, fun b H2 s2 hb => ⟨_, rfl, ?_⟩⟩
        have sm2 := sm.trans s2
        refine ite2 (fun hb1 => ?_) (fun hb1 => ?_)
        · refine ⟨_, rfl, t, _, _, _, rfl, rfl, Same.tup sm2 ht, atI_nat (j := 1) rfl, ?_⟩
          refine q e.2.1 H2 sm2 ⟨⟨e.2.2, ?_⟩, c2, c3, hb.mp hb1⟩
          rw [← c1]
          exact inB
        · exact ⟨⟨_, rfl⟩, sm2, go fun z => hb1 (hb.mpr z.2.2.2)⟩
      · refine ⟨⟨_, rfl⟩, sm, go fun z => h1 ?_⟩
        simp only [Bool.and_eq_true, decide_eq_true_eq, Bool.not_eq_true', decide_eq_false_iff_not]
        exact ⟨z.1, z.2.1, z.2.2.1⟩
    · rintro σ H' ⟨_, sm, hno⟩
      rw [paired_len hB, take_all] at hno
      obtain ⟨v, ⟨mm, hm⟩, h2, h3, h4⟩ := hex
      exact absurd ⟨rfl, h2, h3, h4⟩ (hno _ hm)
/-! ### ring -/
def sp_ring (K : PySem.W.Frag) : Sp := fun vs H Q _ => ∃ (a : Addr) (B : Book), vs = [.ref a] ∧ BookAt K H a B ∧ B.length ≤ 1000 ∧ Few B ∧
  ∀ (row : List Str) (p : Addr) (H' : Hp), Same H H' → H p = none → H' p = some (.lst (row.map V.str)) → (IsRing B row ∨ (row = [] ∧ Acyclic B)) → Q (.ref p) H'
theorem scRing : FnScope ["book", "first", "row"] ["book"] (defScope s_ring) := ⟨rfl, rfl, rfl, by decide +kernel, rfl, by decide +kernel, by decide +kernel⟩
theorem ok_ring {f : Addr} {fd : FuncData} (F : Fun K "ring" "ring" s_ring f fd) (T : Txt K mg) : FnOk P w K mg base CX0 3 f fd ["book"] (sp_ring K) := by
  obtain ⟨fN, fdN, FN, bN, gN⟩ := T.d_names_of
  have GN : FnOk P w K mg base CX0 1 fN fdN ["book"] (sp_names_of K) := ok_names_of FN T.b_sorted
  obtain ⟨fL, fdL, FL, bL, gL⟩ := T.d_leads
  have GL : FnOk P w K mg base CX0 1 fL fdL ["book", "start", "goal", "used"] (sp_leads K) := ok_leads FL
  obtain ⟨fO, fdO, FO, bO, gO⟩ := T.d_owes
  have GO : FnOk P w K mg base CX0 1 fO fdO ["book", "debtor", "creditor"] (sp_owes K) := ok_owes FO
  obtain ⟨fX, fdX, FX, bX, gX⟩ := T.d_next_in
  have GX : FnOk P w K mg base CX0 2 fX fdX ["book", "row"] (sp_next_in K) := ok_next_in FX T
  refine F.ok scRing (fun vs H Q E h => ?_) (fun cdv A outer s H vs Q E hr h => ?_)
  · obtain ⟨a, B, rfl, _⟩ := h
    rfl
  · obtain ⟨a, B, rfl, hbook, hlen, hfew, q⟩ := h
    have hr1 : Room 1 _ := hr.mono (by decide)
    refine ⟨_, pss_cons (ps_for PassesOwn.never rfl (pi_list (pe_call GN hr1 (by rfl) gN FN.kp bN .nil pass0 (pa_cons (pv 0) pa_nil))) (pg_name (i := 1) scRing.nd rfl (.inl rfl))
        (pss_one (ps_if (pt_val (pe_call GL hr1 (by rfl) gL FL.kp bL .nil pass0 (pa_cons (pv 0) (pa_cons (pv 1) (pa_cons (pv 1) (pa_cons (pe_lst pa_nil) pa_nil))))))
          (pss_cons (ps_set (i := 2) scRing.nd rfl (.inl rfl) (pe_lst (pa_cons (pv 1) pa_nil)))
          (pss_cons (ps_while PassesOwn.never (pt_not (pt_val (pe_call GO hr1 (by rfl) gO FO.kp bO .nil pass0 (pa_cons (pv 0) (pa_cons (pe_ix ix_list (pv 2) (pe_un un_neg pe_int) (fun _ _ => rfl)) (pa_cons (pv 1) pa_nil))))))
            (pss_one (ps_expr (pe_bm PySem.F.plainAttrs_list PySem.F.slot_list_append PySem.F.type_list_append mt_append (pv 2) (pa_cons (pe_call GX hr (by rfl) gX FX.kp bX .nil pass0 (pa_cons (pv 0) (pa_cons (pv 2) pa_nil))) pa_nil)))))
          (pss_one (ps_ret (pv 2))))) pss_nil)))
      (pss_one (ps_ret (pe_lst pa_nil))), ?_⟩
    -- names_of(book)
    refine ⟨_, rfl, a, B, rfl, hbook, hfew, fun ys p H1 s1 hp hp1 hN => ?_⟩
    refine ⟨p, rfl, ⟨_, .inl (.inl hp1)⟩, for_list (K := K) (a := p) (xs := ys.map V.str) (fun i σ H' => (∃ y1 y2, σ = [some (.ref a), y1, y2]) ∧ Same H1 H' ∧ ∀ x ∈ ys.take i, ¬ Lead sLt B x [] x)
      ⟨⟨none, none, rfl⟩, Same.refl H1, fun x hx => by simp at hx⟩ (fun i σ H' _ h => .inl (.inl (h.2.1 _ _ hp1))) ?_ ?_⟩
    · rintro i y σ H' hi ⟨⟨y1, y2, rfl⟩, sm, hno⟩
      rw [List.getElem?_map] at hi
      obtain ⟨g, hg, rfl⟩ := Option.map_eq_some_iff.mp hi
      have s2 := s1.trans sm
      -- if leads(book, first, first, [])
      refine ⟨_, rfl, _, rfl, _, rfl, Nat.zero_le _, fun l hl => ?_⟩
      refine ⟨a, l, B, g, g, [], rfl, hbook.same (s2.trans (same_upd hl)), .inl (.inl upd_same), hlen, fun b H2 s3 hb => ⟨_, rfl, ?_⟩⟩
      have sm2 : Same H1 H2 := (sm.trans (same_upd hl)).trans s3
      refine ite2 (fun hb1 => ?_) (fun hb1 => ?_)
      · -- row = [first]
        refine ⟨_, rfl, (by show 1 ≤ sizeLine; decide), fun r hr2 => ?_⟩
        have hr0 : H1 r = none := sm2.free hr2
        refine ⟨fun m σ H' => ∃ pre x, σ = [some (.ref a), some (.str g), some (.ref r)] ∧ Same H1 H' ∧ H' r = some (.lst ((pre ++ [x]).map V.str)) ∧ (pre ++ [x]).Nodup ∧ (pre ++ [x]).head? = some g ∧ Chain B (pre ++ [x]) ∧ Lead sLt B g pre x ∧
            (∀ y ∈ pre ++ [x], y ∈ g :: B.map (·.2.1)) ∧ B.length + 1 - (pre ++ [x]).length = m,
          ⟨B.length + 1 - 1, [], g, rfl, sm2.trans (same_upd hr2), upd_same, by simp, rfl, fun p hp => by simp at hp, hb.mp hb1, fun y hy => by rw [List.mem_singleton.mp hy]; exact List.mem_cons_self, rfl⟩, ?_⟩
        rintro m σ H3 ⟨pre, x, rfl, s4, hrow, nd, hg1, ch, ld, sub, em⟩
        have hlast : atI ((pre ++ [x]).map V.str) (-1) = some (.str x) := by
          rw [List.map_append]
          exact atI_last _ _
        have s5 := s1.trans s4
        have hl1 := nodup_le nd sub
        rw [List.length_cons, List.length_map] at hl1
        refine ⟨_, rfl, _, rfl, 1, rfl, r, _, _, _, rfl, rfl, .inl (.inl hrow), hlast, _, rfl, a, B, x, g, rfl, hbook.same s5, ⟨_, rfl, ?_⟩⟩
        cases ho : owesB B x g with
        | true =>
          refine iteF ?_
          refine ⟨_, rfl, q (pre ++ [x]) r H3 s5 (s1.free hr0) hrow (.inl (ch.ring hg1 nd (owesB_iff.mp ho)))⟩
        | false =>
          refine iteT ?_
          have hn : ¬ Edge B x g := fun e => by rw [owesB_iff.mpr e] at ho; cases ho
          obtain ⟨v0, k1, k2, k3, k4⟩ := ld.next hn
          refine ⟨fun σ' H4 => ∃ v, σ' = [some (.ref a), some (.str g), some (.ref r)] ∧ Same H1 H4 ∧ H4 r = some (.lst (((pre ++ [x]) ++ [v]).map V.str)) ∧ Nxt B g x (pre ++ [x]) v, fun σ' H4 ⟨v, e1, e2, e3, e4⟩ => ?_, ?_⟩
          · have nd2 : ((pre ++ [x]) ++ [v]).Nodup := nd_snoc nd e4.new
            have sub2 : ∀ y ∈ (pre ++ [x]) ++ [v], y ∈ g :: B.map (·.2.1) := fun y hy => by
              rcases List.mem_append.mp hy with z | z
              · exact sub y z
              · obtain ⟨mm, hm⟩ := e4.ed
                rw [List.mem_singleton.mp z]
                exact List.mem_cons_of_mem _ (List.mem_map.mpr ⟨_, hm, rfl⟩)
            have hl2 := nodup_le nd2 sub2
            rw [List.length_cons, List.length_map, List.length_append, List.length_singleton] at hl2
            refine ⟨B.length + 1 - ((pre ++ [x]) ++ [v]).length, ?_, pre ++ [x], v, e1, e2, e3, nd2, ?_, ch.snoc e4.ed, e4.ld, sub2, rfl⟩
            · rw [List.length_append (as := pre ++ [x]), List.length_singleton]
              omega
            · rw [List.head?_append, hg1]
              rfl
          · refine ⟨_, rfl, .inl ⟨rfl, _, .inl (.inl hrow)⟩, _, rfl, _, rfl, a, r, B, g, x, pre, rfl, hbook.same s5, .inl (.inl hrow), hg1, hlen, ⟨v0, k1, k2, k3, k4⟩, fun v H4 s6 hv => ?_⟩
            refine ⟨r, _, .str v, rfl, rfl, s6 _ _ hrow, ?_, v, rfl, same_put (s4.trans s6) hr0, ?_, hv⟩
            · rw [List.length_map]
              exact Nat.lt_of_le_of_lt (show _ ≤ 1001 from Nat.le_trans hl1 (Nat.succ_le_succ hlen)) (by decide)
            · rw [upd_same, List.map_append (l₁ := pre ++ [x])]
              rfl
      · refine ⟨⟨_, _, rfl⟩, sm2, fun x hx => ?_⟩
        rw [take_snoc hg] at hx
        rcases List.mem_append.mp hx with z | z
        · exact hno x z
        · rw [List.mem_singleton.mp z]
          exact fun z => hb1 (hb.mpr z)
    · rintro σ H' ⟨⟨y1, y2, rfl⟩, sm, hno⟩
      rw [List.length_map, take_all] at hno
      refine ⟨Nat.zero_le _, fun l hl => q [] l _ ((s1.trans sm).trans (same_upd hl)) ((s1.trans sm).free hl) upd_same (.inr ⟨rfl, ?_⟩)⟩
      exact acyclic_of sOrd (names := ys) (fun x hx => (hN.mem x).mpr hx) hno
end
end Bb

namespace Bb
open PySem PySem.Spec PyProof.Rows L2
/-- for i, x in enumerate(a list that the body leaves as it is) -/
theorem for_enum {K : PySem.W.Frag} {a : Addr} {xs : List V} {g : TG} {tb : TS} {D : Ends} {σ : L2.St} {H : Hp} (Pv : Nat → L2.St → Hp → Prop) (h0 : Pv 0 σ H) (hl : ∀ i σ H, i ≤ xs.length → Pv i σ H → SqL K H a xs)
    (hs : ∀ i x σ H T, xs[i]? = some x → Pv i σ H → H T = none → g (.ref T) σ (upd H T (.tup [.int (i : Nat), x])) fun σ2 H2 => tb { D with nx := Pv (i + 1), ct := Pv (i + 1), bk := D.nx } σ2 H2) (hd : ∀ σ H, Pv xs.length σ H → D.nx σ H) :
    ∃ W : Nat → Nat → L2.St → Hp → Prop, (∃ m, W 0 m σ H) ∧ ∀ i m σ H, W i m σ H →
      ((Ite K a).stop i H ∧ D.nx σ H) ∨ ((Ite K a).go i H ∧ ∃ N : L2.St → Hp → Prop, (∀ σ' H', N σ' H' → ∃ m', m' < m ∧ W (i + 1) m' σ' H') ∧ ∀ x H', (Ite K a).yld i H x H' → g x σ H' fun σ2 H2 => tb { D with nx := N, ct := N, bk := D.nx } σ2 H2) := by
  refine ⟨fun i m σ H => m = xs.length - i ∧ i ≤ xs.length ∧ Pv i σ H, ⟨xs.length, by simp, Nat.zero_le _, h0⟩, ?_⟩
  rintro i m σ H ⟨rfl, hi, p⟩
  have q := hl i σ H hi p
  by_cases hlt : i < xs.length
  · refine .inr ⟨⟨xs, xs[i], q, by simp [hlt]⟩, Pv (i + 1), fun σ' H' p' => ⟨xs.length - (i + 1), by omega, rfl, hlt, p'⟩, fun x H' y => ?_⟩
    obtain ⟨T, y, e1, hT, e2, hy⟩ := y
    subst e1 e2
    exact hs i y σ H T (hy xs q) p hT
  · have e : i = xs.length := by omega
    subst e
    exact .inl ⟨⟨xs, q, Nat.le_refl _⟩, hd σ H p⟩
/-- the list at p is new, of those dues -/
def NewBook (K : PySem.W.Frag) (H : Hp) (p : Addr) (B : Book) : Prop := ∃ vs, H p = some (.lst vs) ∧ DuesAt K H vs B
theorem NewBook.book {K : PySem.W.Frag} {H : Hp} {p : Addr} {B : Book} (h : NewBook K H p B) : BookAt K H p B := by
  obtain ⟨vs, h1, h2⟩ := h
  exact ⟨vs, .inl (.inl h1), h2⟩
theorem NewBook.same {K : PySem.W.Frag} {H H' : Hp} (s : Same H H') {p : Addr} {B : Book} (h : NewBook K H p B) : NewBook K H' p B := by
  obtain ⟨vs, h1, h2⟩ := h
  exact ⟨vs, s _ _ h1, DuesAt.same s h2⟩
/-! ### who follows in a ring -/
def folF (row : List Str) (x : Str) : V := match fol row x with
  | some y => .str y
  | none => .non
theorem fol_at {row : List Str} {i : Nat} {x y : Str} (nd : row.Nodup) (hx : row[i]? = some x) (hy : (nx row)[i]? = some y) : fol row x = some y := by
  refine (fol_iff nd).mpr ?_
  refine List.mem_of_getElem? (i := i) ?_
  rw [List.getElem?_zip_eq_some]
  exact ⟨hx, hy⟩
theorem fol_not {row : List Str} {x : Str} (nd : row.Nodup) (h : x ∉ row) : fol row x = none := by
  cases q : fol row x with
  | none => rfl
  | some y =>
    have m := (fol_iff nd).mp q
    have : x ∈ (row.zip (nx row)).map (·.1) := List.mem_map.mpr ⟨_, m, rfl⟩
    rw [zip_fst] at this
    exact absurd this h
theorem folF_eq {row : List Str} {x c : Str} : decide (folF row x = .str c) = decide (fol row x = some c) := by
  unfold folF
  cases fol row x with
  | none => simp
  | some y => simp
theorem scal_folF {row : List Str} {x c : Str} : scal (folF row x) (.str c) = true := by
  unfold folF
  cases fol row x <;> rfl
theorem get_folF {row : List Str} {x : Str} (nd : row.Nodup) : (valV (tab (folF row) row) (Sum.inr x : Key)).getD .non = folF row x := by
  rw [valV_tab]
  by_cases h : x ∈ row
  · rw [if_pos h]
    rfl
  · rw [if_neg h]
    unfold folF
    rw [fol_not nd h]
    rfl
section
variable {P : Program} {w : World} {K : PySem.W.Frag} {mg : Str → Option Value} {base : Heap}
def sp_cut (K : PySem.W.Frag) : Sp := fun vs H Q _ => ∃ (a r : Addr) (B : Book) (row : List Str), vs = [.ref a, .ref r] ∧ BookAt K H a B ∧ SqL K H r (row.map V.str) ∧ IsRing B row ∧ B.length ≤ 1000 ∧ row.length ≤ 1000 ∧
  ∀ (least : Int) (p : Addr) (H' : Hp), Same H H' → H p = none → NewBook K H' p (cutB row least B) → (∃ e ∈ B, onR row e ∧ e.2.2 = least) → (∀ e ∈ B, onR row e → least ≤ e.2.2) → Q (.ref p) H'
abbrev nCut : List Str := ["book", "row", "follows", "at", "name", "due", "least", "left"]
theorem scCut : FnScope nCut ["book", "row"] (defScope s_cut) := ⟨rfl, rfl, rfl, by decide +kernel, rfl, by decide +kernel, by decide +kernel⟩
theorem ok_cut {f : Addr} {fd : FuncData} (F : Fun K "cut" "cut" s_cut f fd) (T : Txt K mg) : FnOk P w K mg base CX0 1 f fd ["book", "row"] (sp_cut K) := by
  refine F.ok scCut (fun vs H Q E h => ?_) (fun cdv A outer s H vs Q E hr h => ?_)
  · obtain ⟨a, r, B, row, rfl, _⟩ := h
    rfl
  · obtain ⟨a, r, B, row, rfl, ⟨vs, hv, hB⟩, hrow, R, hlen, hlr, q⟩ := h
    have hu := hu_of hr
    refine ⟨_, pss_cons (ps_set (i := 2) scCut.nd rfl (.inr rfl) pe_dnewK)
      (pss_cons (ps_for PassesOwn.never rfl (pi_enum (by rfl) T.b_enumerate (pa_cons (pv 1) pa_nil)) (pg_tup rfl (pgs_cons (pg_name (i := 3) scCut.nd rfl (.inl rfl)) (pgs_cons (pg_name (i := 4) scCut.nd rfl (.inl rfl)) pgs_nil)))
        (pss_one (ps_dput hu (pv 2) (pv 4) (pe_ix ix_list (pv 1) (pe_op op_mod (pe_op op_add (pv 3) pe_int) (pe_callB call_len_seq (by rfl) T.b_len PySem.boot_len (pa_cons (pv 1) pa_nil))) (fun _ _ => rfl)) rfl)))
      (pss_cons (ps_set (i := 6) scCut.nd rfl (.inl rfl) (pe_callB (cr_min rfl) (by rfl) T.b_min (by decide +kernel) (pa_cons
          (pe_lc (own := [("due", 5)]) (g := gName 5) (tt := tTest (tOp rEq (tDGet1 (tVar 2) (tOp (rIxT K) (tVar 5) (tC (.int 0)))) (tOp (rIxT K) (tVar 5) (tC (.int 1))))) (te := tOp (rIxT K) (tVar 5) (tC (.int 2))) rfl scCut.nd (pi_list (pv 0)) (blkOk_by (N := nCut) (sc := defScope s_cut) (by decide +kernel)) (fun _ _ _ _ _ => pg_name (i := 5) scCut.nd rfl (Or.inl rfl))
            (fun _ _ _ _ _ => pts_one (pt_cmpR op_eq (pe_dget1 hu (pv 2) (pe_ix ix_tup (pv 5) pe_int (fun _ _ => rfl)) ⟨rfl, rfl, rfl, rfl⟩) (pe_ix ix_tup (pv 5) pe_int (fun _ _ => rfl)) (nomark _)))
            (fun _ _ _ _ _ => pe_ix ix_tup (pv 5) pe_int (fun _ _ => rfl))) pa_nil)))
      (pss_cons (ps_set (i := 7) scCut.nd rfl (.inl rfl) (pe_lst pa_nil))
      (pss_cons (ps_for PassesOwn.never rfl (pi_list (pv 0)) (pg_name (i := 5) scCut.nd rfl (.inl rfl))
        (pss_one (ps_if (pt_cmpR op_ne (pe_dget1 hu (pv 2) (pe_ix ix_tup (pv 5) pe_int (fun _ _ => rfl)) ⟨rfl, rfl, rfl, rfl⟩) (pe_ix ix_tup (pv 5) pe_int (fun _ _ => rfl)) (nomark _))
          (pss_one (ps_expr (pe_bm PySem.F.plainAttrs_list PySem.F.slot_list_append PySem.F.type_list_append mt_append (pv 7) (pa_cons (pv 5) pa_nil))))
          (pss_one (ps_if (pt_cmpR op_gt (pe_ix ix_tup (pv 5) pe_int (fun _ _ => rfl)) (pv 6) (nomark _))
            (pss_one (ps_expr (pe_bm PySem.F.plainAttrs_list PySem.F.slot_list_append PySem.F.type_list_append mt_append (pv 7) (pa_cons
              (pe_tup (pa_cons (pe_ix ix_tup (pv 5) pe_int (fun _ _ => rfl)) (pa_cons (pe_ix ix_tup (pv 5) pe_int (fun _ _ => rfl)) (pa_cons (pe_op op_sub (pe_ix ix_tup (pv 5) pe_int (fun _ _ => rfl)) (pv 6)) pa_nil)))) pa_nil)))) pss_nil)))))
      (pss_one (ps_ret (pv 7))))))), ?_⟩
    -- follows = {}
    intro D hD
    have hrl : 0 < row.length := List.length_pos_iff.mpr R.ne
    have s0 : ∀ o, Same H (upd H D o) := fun o => same_upd hD
    -- for at, name in enumerate(row)
    refine ⟨_, rfl, r, _, rfl, (s0 _).seq hrow, for_enum (K := K) (a := r) (xs := row.map V.str) (fun i σ H' => ∃ y3 y4, σ = [some (.ref a), some (.ref r), some (.ref D), y3, y4, none, none, none] ∧ Same H H' ∧ H' D = some (.dK (tab (folF row) (row.take i))))
      ⟨none, none, rfl, s0 _, upd_same⟩ (fun i σ H' _ ⟨_, _, _, s, _⟩ => s.seq hrow) ?_ ?_⟩
    · rintro i x σ H' Tp hi ⟨y3, y4, rfl, sm, hd⟩ hT
      rw [List.getElem?_map] at hi
      obtain ⟨nm, hn, rfl⟩ := Option.map_eq_some_iff.mp hi
      have hlt : i < row.length := (List.getElem?_eq_some_iff.mp hn).1
      have hm : (i + 1) % row.length < row.length := Nat.mod_lt _ hrl
      have hx : row[(i + 1) % row.length]? = some row[(i + 1) % row.length] := List.getElem?_eq_getElem hm
      have hf : fol row nm = some row[(i + 1) % row.length] := fol_at R.nd hn ((nx_get hlt).trans hx)
      generalize row[(i + 1) % row.length] = nxt at hx hf
      have sT : Same H (upd H' Tp (.tup [.int (i : Nat), .str nm])) := sm.trans (same_upd hT)
      have hdT : (upd H' Tp (.tup [.int (i : Nat), .str nm])) D = some (.dK (tab (folF row) (row.take i))) := by rw [upd_ne (ne_of_none hd hT)]; exact hd
      refine ⟨Tp, _, rfl, .inl (.inl upd_same), rfl, _, _, rfl, _, _, rfl, rfl, ?_⟩
      -- follows[name] = row[(at + 1) % len(row)]
      refine ⟨.ref r, rfl, _, rfl, _, _, rfl, rfl, .ref r, rfl, r, _, rfl, .inl (sT.seq hrow), _, _, rfl, rfl, ?_, r, _, _, .str nxt, rfl, rfl, sT.seq hrow, ?_, .ref D, rfl, .str nm, rfl, D, _, rfl, DPut.k (k := Sum.inr nm) hdT ?_, ?_⟩
      · show (0 : Int) < ((row.map V.str).length : Int)
        rw [List.length_map]
        omega
      · refine at_of (j := (i + 1) % row.length) ?_ ?_
        · rw [List.length_map, Int.natCast_emod, Int.natCast_add]
          rfl
        · rw [List.getElem?_map, hx]
          rfl
      · rw [tab_len, List.length_take]
        exact small1000 (by omega)
      · rw [putK_tab]
        have hni : nm ∉ row.take i := by
          intro hmem
          obtain ⟨j, hj, e⟩ := List.mem_iff_getElem.mp hmem
          rw [List.length_take] at hj
          have e2 : row[j]? = some nm := by
            rw [List.getElem_take] at e
            rw [List.getElem?_eq_getElem (by omega), e]
          have := nd_ix R.nd e2 hn
          omega
        refine ⟨_, _, rfl, same_put sT hD, ?_⟩
        rw [upd_same]
        unfold addK
        rw [if_neg hni, ← take_snoc hn]
        refine congrArg (fun l => some (HO.dK l)) (tab_congr fun z _ => ?_)
        by_cases hz : z = nm
        · rw [if_pos hz, hz]
          unfold folF
          rw [hf]
        · rw [if_neg hz]
    · rintro σ H1 ⟨y3, y4, rfl, s1, hd1⟩
      rw [List.length_map, take_all] at hd1
      have hD0 := hD
      -- least = min([..])
      refine ⟨_, rfl, a, rfl, ⟨vs, s1.seq hv⟩, fun L hL => ?_⟩
      refine lc_list (K := K) (a := a) (xs := vs) (fun i H' => Same H1 H' ∧ H' L = some (.lst ((((B.take i).filter fun e => decide (onR row e)).map (·.2.2)).map V.int)))
        ⟨same_upd hL, upd_same⟩ (fun i H' _ h => h.1.seq (s1.seq hv)) ?_ ?_
      · rintro i x H' hi ⟨sm, hl⟩
        obtain ⟨e, he, t, rfl, ht⟩ := paired_get hB hi
        have ht1 := Same.tup (s1.trans sm) ht
        have hd2 := sm _ _ hd1
        refine ⟨rfl, .ref D, rfl, D, rfl, .inl ⟨_, .inl hd2⟩, _, rfl, t, _, _, _, rfl, rfl, ht1, atI_nat (j := 0) rfl, _, DGet.k (k := Sum.inr e.1) hd2, _, rfl, t, _, _, _, rfl, rfl, ht1, atI_nat (j := 1) rfl, ?_⟩
        rw [get_folF R.nd]
        refine ⟨scal_folF, _, rfl, ?_⟩
        rw [folF_eq, take_snoc he, List.filter_append]
        refine ite2 (fun h1 => ?_) (fun h1 => ?_)
        · refine ⟨_, rfl, t, _, _, _, rfl, rfl, ht1, atI_nat (j := 2) rfl, _, hl, ?_, same_put sm hL, ?_⟩
          · rw [List.length_map, List.length_map]
            have l1 : ((B.take i).filter fun e => decide (onR row e)).length ≤ i := Nat.le_trans (List.length_filter_le _ _) (by rw [List.length_take]; exact Nat.min_le_left _ _)
            have l2 : i < B.length := (List.getElem?_eq_some_iff.mp he).1
            exact small1000 (by omega)
          · rw [upd_same, List.filter_cons_of_pos (p := fun e : Due => decide (onR row e)) h1, List.map_append, List.map_append]
            rfl
        · refine ⟨sm, ?_⟩
          rw [List.filter_cons_of_neg (p := fun e : Due => decide (onR row e)) h1, List.filter_nil, List.append_nil]
          exact hl
      · rintro H2 ⟨sm, hl⟩
        rw [paired_len hB, take_all] at hl
        have s2 := s1.trans sm
        have hd2 := sm _ _ hd1
        obtain ⟨e0, he0, ho0⟩ := ring_some R
        refine ⟨L, _, rfl, .inl (.inl hl), ?_, fun least hmem hle => ?_⟩
        · rw [List.length_map]
          exact List.length_pos_of_mem (List.mem_filter.mpr ⟨he0, decide_eq_true ho0⟩)
        have least1 : ∃ e ∈ B, onR row e ∧ e.2.2 = least := by
          obtain ⟨e, he, e2⟩ := List.mem_map.mp hmem
          obtain ⟨h1, h2⟩ := List.mem_filter.mp he
          exact ⟨e, h1, of_decide_eq_true h2, e2⟩
        have least2 : ∀ e ∈ B, onR row e → least ≤ e.2.2 := fun e he ho => hle _ (List.mem_map.mpr ⟨e, List.mem_filter.mpr ⟨he, decide_eq_true ho⟩, rfl⟩)
        -- left = []
        refine ⟨Nat.zero_le _, fun G hG => ?_⟩
        have hG0 := s2.free hG
        have nDG : D ≠ G := ne_of_none hd2 hG
        refine ⟨_, rfl, a, rfl, ⟨vs, (s2.trans (same_upd hG)).seq hv⟩, for_list (K := K) (a := a) (xs := vs) (fun i σ H' => (∃ y5, σ = [some (.ref a), some (.ref r), some (.ref D), y3, y4, y5, some (.int least), some (.ref G)]) ∧ Same H H' ∧ H' D = some (.dK (tab (folF row) row)) ∧ NewBook K H' G (cutB row least (B.take i)))
          ⟨⟨_, rfl⟩, s2.trans (same_upd hG), by rw [upd_ne nDG]; exact hd2, [], upd_same, .nil⟩ (fun i σ H' _ h => h.2.1.seq hv) ?_ ?_⟩
        · rintro i x σ H' hi ⟨⟨y5, rfl⟩, s3, hd3, ws, hw, hW⟩
          obtain ⟨e, he, t, rfl, ht⟩ := paired_get hB hi
          have ht1 := Same.tup s3 ht
          have lw : ws.length < sizeLine := by
            rw [paired_len hW]
            have l1 : (cutB row least (B.take i)).length ≤ i := Nat.le_trans (List.length_filterMap_le _ _) (by rw [List.length_take]; exact Nat.min_le_left _ _)
            have l2 : i < B.length := (List.getElem?_eq_some_iff.mp he).1
            exact small1000 (by omega)
          refine ⟨.ref D, rfl, D, rfl, .inl ⟨_, .inl hd3⟩, _, rfl, t, _, _, _, rfl, rfl, ht1, atI_nat (j := 0) rfl, _, DGet.k (k := Sum.inr e.1) hd3, _, rfl, t, _, _, _, rfl, rfl, ht1, atI_nat (j := 1) rfl, ?_⟩
          rw [get_folF R.nd]
          refine ⟨scal_folF, _, rfl, ?_⟩
          rw [folF_eq, take_snoc he, cutB_snoc]
          by_cases ho : onR row e
          · rw [decide_eq_true ho, if_pos ho]
            refine iteF ?_
            refine ⟨_, rfl, t, _, _, _, rfl, rfl, ht1, atI_nat (j := 2) rfl, _, rfl, e.2.2, least, rfl, rfl, _, rfl, ?_⟩
            refine ite2 (fun hm => ?_) (fun hm => ?_)
            · rw [if_pos (of_decide_eq_true hm)]
              refine ⟨.ref G, rfl, .inl ⟨rfl, _, .inl (.inl hw)⟩, _, rfl, t, _, _, _, rfl, rfl, ht1, atI_nat (j := 0) rfl, _, rfl, t, _, _, _, rfl, rfl, ht1, atI_nat (j := 1) rfl, _, rfl, t, _, _, _, rfl, rfl, ht1, atI_nat (j := 2) rfl, _, rfl, _, _, rfl, rfl, (by show 3 ≤ sizeLine; decide), fun Tp hT => ?_⟩
              have hwT : (upd H' Tp (.tup [.str e.1, .str e.2.1, .int (e.2.2 - least)])) G = some (.lst ws) := by rw [upd_ne (ne_of_none hw hT)]; exact hw
              refine ⟨G, _, _, rfl, rfl, hwT, lw, ⟨_, rfl⟩, same_put (s3.trans (same_upd hT)) hG0, ?_, ws ++ [.ref Tp], upd_same, ?_⟩
              · rw [upd_ne nDG, upd_ne (ne_of_none hd3 hT)]
                exact hd3
              · exact paired_snoc (DuesAt.put (DuesAt.same (same_upd hT) hW) hwT) ⟨Tp, rfl, sqT_put (.inl (.inl upd_same)) hwT⟩
            · rw [if_neg (fun z => hm (decide_eq_true z))]
              exact ⟨⟨_, rfl⟩, s3, hd3, ws, hw, hW⟩
          · rw [decide_eq_false ho, if_neg ho]
            refine iteT ?_
            refine ⟨.ref G, rfl, .inl ⟨rfl, _, .inl (.inl hw)⟩, _, rfl, G, _, _, rfl, rfl, hw, lw, ⟨_, rfl⟩, same_put s3 hG0, ?_, ws ++ [.ref t], upd_same, paired_snoc (DuesAt.put hW hw) ⟨t, rfl, sqT_put ht1 hw⟩⟩
            rw [upd_ne nDG]
            exact hd3
        · rintro σ H' ⟨⟨y5, rfl⟩, s3, hd3, hW⟩
          rw [paired_len hB, take_all] at hW
          exact ⟨_, rfl, q least G H' s3 hG0 hW least1 least2⟩
end
end Bb

namespace Bb
open PySem PySem.Spec PyProof.Rows L2
theorem ring_path {B : Book} {g : Str} : ∀ (tl : List Str) (a : Str), (∀ p ∈ (a :: tl).zip (tl ++ [g]), Edge B p.1 p.2) → Path B a g
  | [], a, h => .one (h (a, g) (by simp))
  | b :: tl, a, h => .cons (h (a, b) (by simp)) (ring_path tl b fun p hp => h p (by
      show p ∈ (a, b) :: (b :: tl).zip (tl ++ [g])
      exact List.mem_cons_of_mem _ hp))
theorem IsRing.cyc {B : Book} {row : List Str} (R : IsRing B row) : ¬ Acyclic B := by
  intro h
  obtain ⟨ne, _, ed⟩ := R
  cases row with
  | nil => exact ne rfl
  | cons a tl => exact h a (ring_path tl a ed)
theorem Less.path {B L : Book} (h : Less B L) {x y : Str} (p : Path L x y) : Path B x y := by
  induction p with
  | one e => exact .one (h.edge e)
  | cons e _ ih => exact .cons (h.edge e) ih
theorem Less.acyc {B L : Book} (h : Less B L) (hA : Acyclic B) : Acyclic L := fun x p => hA x (h.path p)
theorem IsRing.len {B : Book} {row : List Str} (R : IsRing B row) (hk : (B.map key).Nodup) : row.length ≤ B.length := by
  have q := (ring_perm hk R).length_eq
  rw [List.length_map] at q
  have e : (row.zip (nx row)).length = row.length := by rw [List.length_zip, nx_len, Nat.min_self]
  have le := List.length_filter_le (fun d => decide (onR row d)) B
  omega
theorem Few.less {B L : Book} (h : Few B) (hl : Less B L) : Few L := by
  obtain ⟨N, h1, h2⟩ := h
  exact ⟨N, h1, fun x hx => h2 x (hl.named hx)⟩
section
variable {P : Program} {w : World} {K : PySem.W.Frag} {mg : Str → Option Value} {base : Heap}
/-- what ringless makes of a book -/
structure Cut (B L : Book) : Prop where
  less : Less B L
  net : ∀ w, net L w = net B w
  acyc : Acyclic L
  same : Acyclic B → L = B
def sp_ringless (K : PySem.W.Frag) : Sp := fun vs H Q _ => ∃ (a : Addr) (B : Book), vs = [.ref a] ∧ BookAt K H a B ∧ B.length ≤ 1000 ∧ Few B ∧ (B.map key).Nodup ∧ (∀ d ∈ B, 1 ≤ d.2.2) ∧
  ∀ (L : Book) (t c l : Addr) (H' : Hp), Same H H' → H t = none → H c = none → H l = none → c ≠ l → H' t = some (.tup [.ref c, .ref l]) → NewBook K H' c (cutsOf B L) → NewBook K H' l L → Cut B L → Q (.ref t) H'
theorem scRingless : FnScope ["book", "left", "row", "cuts", "due", "rest"] ["book"] (defScope s_ringless) := ⟨rfl, rfl, rfl, by decide +kernel, rfl, by decide +kernel, by decide +kernel⟩
theorem ok_ringless {f : Addr} {fd : FuncData} (F : Fun K "ringless" "ringless" s_ringless f fd) (T : Txt K mg) : FnOk P w K mg base CX0 4 f fd ["book"] (sp_ringless K) := by
  obtain ⟨fR, fdR, FR, bR, gR⟩ := T.d_ring
  have GR : FnOk P w K mg base CX0 3 fR fdR ["book"] (sp_ring K) := ok_ring FR T
  obtain ⟨fC, fdC, FC, bC, gC⟩ := T.d_cut
  have GC : FnOk P w K mg base CX0 1 fC fdC ["book", "row"] (sp_cut K) := ok_cut FC T
  obtain ⟨fA, fdA, FA, bA, gA⟩ := T.d_amount_of
  have GA : FnOk P w K mg base CX0 1 fA fdA ["book", "debtor", "creditor"] (sp_amount_of K) := ok_amount_of FA
  refine F.ok scRingless (fun vs H Q E h => ?_) (fun cdv A outer s H vs Q E hr h => ?_)
  · obtain ⟨a, B, rfl, _⟩ := h
    rfl
  · obtain ⟨a, B, rfl, hbook, hlen, hfew, hk, hpos, q⟩ := h
    have hr1 : Room 1 _ := hr.mono (by decide)
    obtain ⟨vs, hv, hB⟩ := id hbook
    refine ⟨_, pss_cons (ps_set (i := 1) scRingless.nd rfl (.inl rfl) (pe_callTy call_list_of (by rfl) T.b_list (by decide +kernel) (pa_cons (pv 0) pa_nil)))
      (pss_cons (ps_set (i := 2) scRingless.nd rfl (.inl rfl) (pe_call GR hr (by rfl) gR FR.kp bR .nil pass0 (pa_cons (pv 1) pa_nil)))
      (pss_cons (ps_while PassesOwn.never (pt_cmpR (op_neP (hu64 hr)) (pv 2) (pe_lst pa_nil) (nomark _))
        (pss_cons (ps_set (i := 1) scRingless.nd rfl (.inl rfl) (pe_call GC hr1 (by rfl) gC FC.kp bC .nil pass0 (pa_cons (pv 1) (pa_cons (pv 2) pa_nil))))
        (pss_one (ps_set (i := 2) scRingless.nd rfl (.inl rfl) (pe_call GR hr (by rfl) gR FR.kp bR .nil pass0 (pa_cons (pv 1) pa_nil))))))
      (pss_cons (ps_set (i := 3) scRingless.nd rfl (.inl rfl) (pe_lst pa_nil))
      (pss_cons (ps_for PassesOwn.never rfl (pi_list (pv 0)) (pg_name (i := 4) scRingless.nd rfl (.inl rfl))
        (pss_cons (ps_set (i := 5) scRingless.nd rfl (.inl rfl) (pe_call GA hr1 (by rfl) gA FA.kp bA .nil pass0 (pa_cons (pv 1) (pa_cons (pe_ix ix_tup (pv 4) pe_int (fun _ _ => rfl)) (pa_cons (pe_ix ix_tup (pv 4) pe_int (fun _ _ => rfl)) pa_nil)))))
        (pss_one (ps_if (pt_cmpR op_lt (pv 5) (pe_ix ix_tup (pv 4) pe_int (fun _ _ => rfl)) (nomark _))
          (pss_one (ps_expr (pe_bm PySem.F.plainAttrs_list PySem.F.slot_list_append PySem.F.type_list_append mt_append (pv 3) (pa_cons
              (pe_tup (pa_cons (pe_ix ix_tup (pv 4) pe_int (fun _ _ => rfl)) (pa_cons (pe_ix ix_tup (pv 4) pe_int (fun _ _ => rfl)) (pa_cons (pe_op op_sub (pe_ix ix_tup (pv 4) pe_int (fun _ _ => rfl)) (pv 5)) pa_nil)))) pa_nil)))) pss_nil))))
      (pss_one (ps_ret (pe_tup (pa_cons (pv 3) (pa_cons (pv 1) pa_nil))))))))), ?_⟩
    -- left = list(book)
    refine ⟨.ref a, rfl, a, vs, rfl, .inl hv, fun l0 hl0 => ?_⟩
    have s0 : Same H (upd H l0 (.lst vs)) := same_upd hl0
    have b0 : NewBook K (upd H l0 (.lst vs)) l0 B := ⟨vs, upd_same, DuesAt.same s0 hB⟩
    -- row = ring(left)
    refine ⟨.ref l0, rfl, l0, B, rfl, b0.book, hlen, hfew, fun row0 r0 H1 s1 hr0 hr01 hring0 => ?_⟩
    refine ⟨fun m σ H' => ∃ l r L row, σ = [some (.ref a), some (.ref l), some (.ref r), none, none, none] ∧ Same H H' ∧ H l = none ∧ NewBook K H' l L ∧ H' r = some (.lst (row.map V.str)) ∧ Less B L ∧ (∀ w, net L w = net B w) ∧ (IsRing L row ∨ (row = [] ∧ Acyclic L)) ∧ (L = B ∨ ¬ Acyclic B) ∧ L.length = m,
      ⟨B.length, l0, r0, B, row0, rfl, s0.trans s1, hl0, b0.same s1, hr01, Less.refl hpos, fun _ => rfl, hring0, .inl rfl, rfl⟩, ?_⟩
    rintro m σ H2 ⟨l, r, L, row, rfl, s2, hl, hL, hrow, less, hnet, hring, hsame, rfl⟩
    refine ⟨_, rfl, Nat.zero_le _, fun z hz => ⟨_, _, .lst (.inl (.inl ?_)) (dp_strs row), .lst (.inl (.inl upd_same)) .nil, plain_strs row, rfl, ?_, _, rfl, ?_⟩⟩
    · rw [upd_ne (ne_of_none hrow hz)]
      exact hrow
    · show PyData.depthAll (row.map PyData.str) + 1 ≤ 64
      rw [depth_strs]
      decide
    rw [eqv_nil]
    have s3 : Same H (upd H2 z (.lst [])) := s2.trans (same_upd hz)
    have hL3 : NewBook K (upd H2 z (.lst [])) l L := hL.same (same_upd hz)
    have hrow3 : (upd H2 z (.lst [])) r = some (.lst (row.map V.str)) := by rw [upd_ne (ne_of_none hrow hz)]; exact hrow
    generalize upd H2 z (.lst []) = H3 at s3 hL3 hrow3 ⊢
    rcases hring with R | ⟨rfl, hA⟩
    · have e0 : (!row.isEmpty) = true := by
        have := R.ne
        cases row with
        | nil => exact absurd rfl this
        | cons _ _ => rfl
      rw [e0]
      refine iteT ?_
      have hkL := less.nd hk
      have lL : L.length ≤ 1000 := Nat.le_trans less.len hlen
      refine ⟨fun σ' H' => ∃ l r L' row, σ' = [some (.ref a), some (.ref l), some (.ref r), none, none, none] ∧ Same H H' ∧ H l = none ∧ NewBook K H' l L' ∧ H' r = some (.lst (row.map V.str)) ∧ Less B L' ∧ (∀ w, net L' w = net B w) ∧ (IsRing L' row ∨ (row = [] ∧ Acyclic L')) ∧ (L' = B ∨ ¬ Acyclic B) ∧ L'.length < L.length,
        fun σ' H' ⟨l, r, L', row, h1, h2, h3, h4, h5, h6, h7, h8, h9, h10⟩ => ⟨L'.length, h10, l, r, L', row, h1, h2, h3, h4, h5, h6, h7, h8, h9, rfl⟩, ?_⟩
      -- left = cut(left, row)
      refine ⟨_, rfl, _, rfl, l, r, L, row, rfl, hL3.book, .inl (.inl hrow3), R, lL, Nat.le_trans (R.len hkL) lL, fun least l2 H4 s4 hl2 hL4 hle1 hle2 => ?_⟩
      have hl02 := s3.free hl2
      have least0 : 0 ≤ least := by
        obtain ⟨e, he, _, e2⟩ := hle1
        have := less.pos e he
        omega
      have less2 : Less L (cutB row least L) := Less.cut least0 less.pos
      have less3 := less.trans less2
      -- row = ring(left)
      refine ⟨_, rfl, l2, cutB row least L, rfl, hL4.book, Nat.le_trans less3.len hlen, hfew.less less3, fun row5 r5 H5 s5 hr5 hr55 hring5 => ?_⟩
      exact ⟨l2, r5, _, row5, rfl, (s3.trans s4).trans s5, hl02, hL4.same s5, hr55, less3, fun w => (net_cut hkL R hle2 w).trans (hnet w), hring5, .inr fun hA => R.cyc (less.acyc hA), cut_len hle1⟩
    · refine iteF ?_
      -- cuts = []
      refine ⟨Nat.zero_le _, fun c hc => ?_⟩
      have hc0 := s3.free hc
      obtain ⟨wl, hwl, hdl⟩ := id hL3
      have nlc : l ≠ c := ne_of_none hwl hc
      refine ⟨_, rfl, a, rfl, ⟨vs, (s3.trans (same_upd hc)).seq hv⟩, for_list (K := K) (a := a) (xs := vs) (fun i σ H' => (∃ y4 y5, σ = [some (.ref a), some (.ref l), some (.ref r), some (.ref c), y4, y5]) ∧ Same H H' ∧ NewBook K H' l L ∧ NewBook K H' c (cutsOf (B.take i) L))
        ⟨⟨_, _, rfl⟩, s3.trans (same_upd hc), hL3.same (same_upd hc), [], upd_same, .nil⟩ (fun i σ H' _ h => h.2.1.seq hv) ?_ ?_⟩
      · rintro i x σ H' hi ⟨⟨y4, y5, rfl⟩, sm, hL', ws, hw, hW⟩
        obtain ⟨e, he, t, rfl, ht⟩ := paired_get hB hi
        have ht1 := Same.tup sm ht
        have lw : ws.length < sizeLine := by
          rw [paired_len hW]
          have l1 : (cutsOf (B.take i) L).length ≤ i := Nat.le_trans cutsOf_len (by rw [List.length_take]; exact Nat.min_le_left _ _)
          have l2 : i < B.length := (List.getElem?_eq_some_iff.mp he).1
          exact small1000 (by omega)
        refine ⟨_, rfl, _, rfl, t, _, _, _, rfl, rfl, ht1, atI_nat (j := 0) rfl, _, rfl, t, _, _, _, rfl, rfl, ht1, atI_nat (j := 1) rfl, l, L, e.1, e.2.1, rfl, hL'.book, ?_⟩
        refine ⟨_, rfl, _, rfl, t, _, _, _, rfl, rfl, ht1, atI_nat (j := 2) rfl, amt L e.1 e.2.1, e.2.2, rfl, rfl, _, rfl, ?_⟩
        rw [take_snoc he, cutsOf_snoc]
        refine ite2 (fun hm => ?_) (fun hm => ?_)
        · rw [if_pos (of_decide_eq_true hm)]
          refine ⟨.ref c, rfl, .inl ⟨rfl, _, .inl (.inl hw)⟩, _, rfl, t, _, _, _, rfl, rfl, ht1, atI_nat (j := 0) rfl, _, rfl, t, _, _, _, rfl, rfl, ht1, atI_nat (j := 1) rfl, _, rfl, t, _, _, _, rfl, rfl, ht1, atI_nat (j := 2) rfl, _, rfl, _, _, rfl, rfl, (by show 3 ≤ sizeLine; decide), fun Tp hT => ?_⟩
          have hwT : (upd H' Tp (.tup [.str e.1, .str e.2.1, .int (e.2.2 - amt L e.1 e.2.1)])) c = some (.lst ws) := by rw [upd_ne (ne_of_none hw hT)]; exact hw
          obtain ⟨wl', hwl', hdl'⟩ := hL'.same (same_upd hT)
          refine ⟨c, _, _, rfl, rfl, hwT, lw, ⟨_, _, rfl⟩, same_put (sm.trans (same_upd hT)) hc0, ⟨wl', by rw [upd_ne nlc]; exact hwl', DuesAt.put hdl' hwT⟩, ws ++ [.ref Tp], upd_same, ?_⟩
          exact paired_snoc (DuesAt.put (DuesAt.same (same_upd hT) hW) hwT) ⟨Tp, rfl, sqT_put (.inl (.inl upd_same)) hwT⟩
        · rw [if_neg (fun z => hm (decide_eq_true z))]
          exact ⟨⟨_, _, rfl⟩, sm, hL', ws, hw, hW⟩
      · rintro σ H' ⟨⟨y4, y5, rfl⟩, sm, hL', hW⟩
        rw [paired_len hB, take_all] at hW
        refine ⟨_, rfl, _, rfl, (by show 2 ≤ sizeLine; decide), fun t ht => ?_⟩
        exact q L t c l _ (sm.trans (same_upd ht)) (sm.free ht) hc0 hl nlc.symm upd_same (hW.same (same_upd ht)) (hL'.same (same_upd ht)) ⟨less, hnet, hA, fun h => hsame.elim id fun z => absurd h z⟩
end
end Bb

namespace Bb
open PySem PySem.Spec PyProof.Rows L2
/-- who is found, with the ranks, as a dict -/
def rankF (F : List (Str × Nat)) (x : Str) : V := .int (((F.lookup x).getD 0 : Nat) : Int)
def tabF (F : List (Str × Nat)) : List (Key × V) := tab (rankF F) (F.map (·.1))
theorem lookup_none {F : List (Str × Nat)} {x : Str} (h : x ∉ F.map (·.1)) : F.lookup x = none := by
  induction F with
  | nil => rfl
  | cons p F ih =>
    obtain ⟨a, b⟩ := p
    rw [List.map_cons, List.mem_cons, not_or] at h
    have e : (x == a) = false := beq_eq_false_iff_ne.mpr h.1
    rw [List.lookup_cons, e]
    exact ih h.2
theorem lookup_snoc {F : List (Str × Nat)} {k x : Str} {r : Nat} : (F ++ [(k, r)]).lookup x = (F.lookup x).or (if x = k then some r else none) := by
  rw [List.lookup_append]
  congr 1
  rw [List.lookup_cons]
  by_cases h : x = k
  · have e : (x == k) = true := beq_iff_eq.mpr h
    rw [e, if_pos h]
  · have e : (x == k) = false := beq_eq_false_iff_ne.mpr h
    rw [e, if_neg h]
    rfl
theorem putK_tabF {F : List (Str × Nat)} {k : Str} {r : Nat} (h : k ∉ F.map (·.1)) : putK (tabF F) (Sum.inr k : Key) (.int (r : Nat)) = tabF (F ++ [(k, r)]) := by
  unfold tabF
  rw [putK_tab]
  unfold addK
  rw [if_neg h, List.map_append]
  refine tab_congr fun x hx => ?_
  unfold rankF
  rw [lookup_snoc]
  by_cases e : x = k
  · subst e
    rw [if_pos rfl, if_pos rfl, lookup_none h]
    rfl
  · rw [if_neg e, if_neg e]
    cases F.lookup x <;> rfl
theorem leftOf_step {B : Book} {F G : List (Str × Nat)} (h : ∀ x ∈ F.map (·.1), x ∈ G.map (·.1)) : (leftOf B F).filter (fun d => decide (d.1 ∉ G.map (·.1))) = leftOf B G := by
  unfold leftOf
  rw [List.filter_filter]
  refine List.filter_congr fun d _ => ?_
  by_cases h1 : d.1 ∈ G.map (·.1)
  · simp [h1]
  · have h2 : d.1 ∉ F.map (·.1) := fun z => h1 (h _ z)
    rw [decide_eq_true h1, decide_eq_true h2]
    rfl
theorem leftOf_nil {B : Book} : leftOf B [] = B := List.filter_eq_self.mpr fun d _ => by simp
/-- the list of pairs (name, number) -/
def PairsAt (K : PySem.W.Frag) (H : Hp) (f : Str → Nat) : List V → List Str → Prop := Paired fun v n => ∃ t, v = .ref t ∧ SqT K H t [.str n, .int (f n : Nat)]
theorem PairsAt.same {K : PySem.W.Frag} {H H' : Hp} {f : Str → Nat} (s : Same H H') {vs : List V} {ns : List Str} (h : PairsAt K H f vs ns) : PairsAt K H' f vs ns :=
  paired_imp (fun _ _ ⟨a, e, q⟩ => ⟨a, e, Same.tup s q⟩) h
theorem PairsAt.put {K : PySem.W.Frag} {H : Hp} {f : Str → Nat} {l : Addr} {ys : List V} {o : HO} {vs : List V} {ns : List Str} (h : PairsAt K H f vs ns) (hl : H l = some (.lst ys)) : PairsAt K (upd H l o) f vs ns :=
  paired_imp (fun _ _ ⟨a, e, q⟩ => ⟨a, e, sqT_put q hl⟩) h
section
variable {P : Program} {w : World} {K : PySem.W.Frag} {mg : Str → Option Value} {base : Heap}
def sp_ranks (K : PySem.W.Frag) : Sp := fun vs H Q _ => ∃ (a : Addr) (B : Book), vs = [.ref a] ∧ BookAt K H a B ∧ B.length ≤ 1000 ∧ Few B ∧ Acyclic B ∧
  ∀ (names : List Str) (f : Str → Nat) (p : Addr) (ws : List V) (H' : Hp), Same H H' → H p = none → NamesOf B names → Ranks B names f → H' p = some (.lst ws) → PairsAt K H' f ws names → Q (.ref p) H'
abbrev nRanks : List Str := ["book", "found", "left", "rank", "names", "creditors", "due", "who", "free"]
theorem scRanks : FnScope nRanks ["book"] (defScope s_ranks) := ⟨rfl, rfl, rfl, by decide +kernel, rfl, by decide +kernel, by decide +kernel⟩
theorem rd_yes {σ : L2.St} {H : Hp} {Q : Bool → Hp → Prop} (h : Q true H) : tYes σ H Q := h
/-- a text that is asked for in a dict of texts -/
theorem rd_ntab {σ : L2.St} {H : Hp} {Q : Bool → Hp → Prop} {k j : Nat} {D : Addr} {x : Str} {us : List Str} {f : Str → V} (h1 : σ[k]? = some (some (.str x))) (h4 : σ[j]? = some (some (.ref D))) (hd : H D = some (.dK (tab f us))) (q : Q (!decide (x ∈ us)) H) :
    tB (tDNotIn (tVar k) (tVar j)) σ H Q := by
  refine ⟨_, h1, _, h4, D, _, rfl, DGet.k (k := Sum.inr x) hd, _, rfl, ?_⟩
  rw [valV_tab]
  by_cases h : x ∈ us
  · rw [if_pos h]
    rw [decide_eq_true h] at q
    exact q
  · rw [if_neg h]
    rw [decide_eq_false h] at q
    exact q
theorem ok_ranks {f : Addr} {fd : FuncData} (F : Fun K "ranks" "ranks" s_ranks f fd) (T : Txt K mg) : FnOk P w K mg base CX0 2 f fd ["book"] (sp_ranks K) := by
  obtain ⟨fN, fdN, FN, bN, gN⟩ := T.d_names_of
  have GN : FnOk P w K mg base CX0 1 fN fdN ["book"] (sp_names_of K) := ok_names_of FN T.b_sorted
  refine F.ok scRanks (fun vs H Q E h => ?_) (fun cdv A outer s H vs Q E hr h => ?_)
  · obtain ⟨a, B, rfl, _⟩ := h
    rfl
  · obtain ⟨a, B, rfl, hbook, hlen, hfew, hA, q⟩ := h
    have hu := hu_of hr
    obtain ⟨vs, hv, hB⟩ := id hbook
    obtain ⟨Nm, hNm, hsubN⟩ := id hfew
    refine ⟨_, pss_cons (ps_set (i := 1) scRanks.nd rfl (.inr rfl) pe_dnewK)
      (pss_cons (ps_set (i := 2) scRanks.nd rfl (.inl rfl) (pe_callTy call_list_of (by rfl) T.b_list (by decide +kernel) (pa_cons (pv 0) pa_nil)))
      (pss_cons (ps_set (i := 3) scRanks.nd rfl (.inl rfl) pe_int)
      (pss_cons (ps_set (i := 4) scRanks.nd rfl (.inl rfl) (pe_call GN hr (by rfl) gN FN.kp bN .nil pass0 (pa_cons (pv 0) pa_nil)))
      (pss_cons (ps_while PassesOwn.never (pt_cmpR op_lt (pe_callB call_lenD (by rfl) T.b_len PySem.boot_len (pa_cons (pv 1) pa_nil)) (pe_callB call_len_seq (by rfl) T.b_len PySem.boot_len (pa_cons (pv 4) pa_nil)) (nomark _))
        (pss_cons (ps_set (i := 5) scRanks.nd rfl (.inr rfl) pe_dnewK)
        (pss_cons (ps_for PassesOwn.never rfl (pi_list (pv 2)) (pg_name (i := 6) scRanks.nd rfl (.inl rfl)) (pss_one (ps_dput hu (pv 5) (pe_ix ix_tup (pv 6) pe_int (fun _ _ => rfl)) pe_bl rfl)))
        (pss_cons (ps_setLc (i := 8) (own := [("who", 7)]) (g := gName 7) (tt := tAnd (tB (tDNotIn (tVar 7) (tVar 1))) (tB (tDNotIn (tVar 7) (tVar 5)))) (te := tVar 7) rfl scRanks.nd rfl rfl (sw_true rfl rfl rfl (by decide +kernel)) (pi_list (pv 4)) (blkOk_by (N := nRanks) (sc := defScope s_ranks) (by decide +kernel))
            (fun _ _ _ _ _ => pg_name (i := 7) scRanks.nd rfl (Or.inl rfl)) (fun _ _ _ _ _ => pts_one (PW.pt (pw_and (pt_cmp (pc_dnotin hu (pv 7) (pv 1))) (pw_and1 (pt_cmp (pc_dnotin hu (pv 7) (pv 5))))))) (fun _ _ _ _ _ => pv 7))
        (pss_cons (ps_if (pt_cmpR (op_eqP (hu64 hr)) (pv 8) (pe_lst pa_nil) (nomark _)) pss_never pss_nil)
        (pss_cons (ps_for PassesOwn.never rfl (pi_list (pv 8)) (pg_name (i := 7) scRanks.nd rfl (.inl rfl)) (pss_one (ps_dput hu (pv 1) (pv 7) (pv 3) rfl)))
        (pss_cons (ps_setLc (i := 2) (own := [("due", 6)]) (g := gName 6) (tt := tB (tDNotIn (tOp (rIxT K) (tVar 6) (tC (.int 0))) (tVar 1))) (te := tVar 6) rfl scRanks.nd rfl rfl (sw_true rfl rfl rfl (by decide +kernel)) (pi_list (pv 2)) (blkOk_by (N := nRanks) (sc := defScope s_ranks) (by decide +kernel))
            (fun _ _ _ _ _ => pg_name (i := 6) scRanks.nd rfl (Or.inl rfl)) (fun _ _ _ _ _ => pts_one (pt_cmp (pc_dnotin hu (pe_ix ix_tup (pv 6) pe_int (fun _ _ => rfl)) (pv 1)))) (fun _ _ _ _ _ => pv 6))
        (pss_one (ps_set (i := 3) scRanks.nd rfl (.inl rfl) (pe_op op_add (pv 3) pe_int))))))))))
      (pss_one (ps_ret (pe_lc (own := [("who", 7)]) (g := gName 7) (tt := tYes) rfl scRanks.nd (pi_list (pv 4)) (blkOk_by (N := nRanks) (sc := defScope s_ranks) (by decide +kernel))
            (fun _ _ _ _ _ => pg_name (i := 7) scRanks.nd rfl (Or.inl rfl)) (fun _ _ _ _ _ => pts_nil) (fun _ _ _ _ _ => pe_tup (pa_cons (pv 7) (pa_cons (pe_dget hu (pv 1) (pv 7) (fun _ _ => rfl)) pa_nil)))))))))), ?_⟩
    -- found = {}; left = list(book); rank = 0
    intro D hD
    have sD : ∀ o, Same H (upd H D o) := fun o => same_upd hD
    refine ⟨.ref a, rfl, a, vs, rfl, .inl ((sD _).seq hv), fun l0 hl0 => ?_⟩
    have hl00 : H l0 = none := (sD _).free hl0
    have nDl : D ≠ l0 := fun e => by rw [← e, upd_same] at hl0; cases hl0
    have s0 : Same H (upd (upd H D (.dK [])) l0 (.lst vs)) := same_put (sD _) hl00
    have hd0 : (upd (upd H D (.dK [])) l0 (.lst vs)) D = some (.dK []) := by rw [upd_ne nDl, upd_same]
    have hl1 : (upd (upd H D (.dK [])) l0 (.lst vs)) l0 = some (.lst vs) := upd_same
    generalize upd (upd H D (.dK [])) l0 (.lst vs) = H0 at s0 hd0 hl1
    -- names = names_of(book)
    refine ⟨_, rfl, a, B, rfl, hbook.same s0, hfew, fun names N H1 s1 hN0 hN hNames => ?_⟩
    have hNnd : names.Nodup := up_nd hNames.up
    have hNin : ∀ x, Named B x → x ∈ names := fun x hx => (hNames.mem x).mpr hx
    have hNlen : names.length < 64 := Nat.lt_of_le_of_lt (nodup_le hNnd fun x hx => hsubN x ((hNames.mem x).mp hx)) hNm
    have hN00 : H N = none := s0.free hN0
    have nND : N ≠ D := ne_of hN (s1 _ _ hd0) (by intro z; cases z)
    -- the rounds
    refine ⟨fun m σ H' => ∃ y5 y6 y7 y8 l F r, σ = [some (.ref a), some (.ref D), some (.ref l), some (.int (r : Nat)), some (.ref N), y5, y6, y7, y8] ∧ Same H H' ∧ H' N = some (.lst (names.map V.str)) ∧ H' D = some (.dK (tabF F)) ∧ NewBook K H' l (leftOf B F) ∧ RankInv B names F r ∧ names.length - F.length = m,
      ⟨names.length, none, none, none, none, l0, [], 0, rfl, s0.trans s1, hN, s1 _ _ hd0, ⟨vs, s1 _ _ hl1, by rw [leftOf_nil]; exact DuesAt.same (s0.trans s1) hB⟩, RankInv.start, rfl⟩, ?_⟩
    rintro m σ H2 ⟨y5, y6, y7, y8, l, F, r, rfl, s2, hn2, hd2, ⟨ws, hl2, hW⟩, R, rfl⟩
    have lenF : (tabF F).length = F.length := by
      unfold tabF
      rw [tab_len, List.length_map]
    have hFlen : F.length ≤ names.length := by
      have := nodup_le R.nd fun x hx => by
        obtain ⟨p, hp, e⟩ := List.mem_map.mp hx
        exact e ▸ R.sub p hp
      rw [List.length_map] at this
      exact this
    refine ⟨.ref D, rfl, D, _, rfl, hd2, .ref N, rfl, N, _, rfl, .inl (.inl (.inl hn2)), _, _, rfl, rfl, _, rfl, ?_⟩
    rw [lenF, List.length_map]
    refine ite2 (fun hlt => ?_) (fun hge => ?_)
    · have hlt' : F.length < names.length := by
        have := of_decide_eq_true hlt
        omega
      have hne := R.free hA hNnd hNin hlt'
      refine ⟨fun σ' H' => ∃ y5 y6 y7 y8 l, σ' = [some (.ref a), some (.ref D), some (.ref l), some (.int ((r + 1 : Nat) : Int)), some (.ref N), y5, y6, y7, y8] ∧ Same H H' ∧ H' N = some (.lst (names.map V.str)) ∧ H' D = some (.dK (tabF (F ++ (freeOf B names F).map fun x => (x, r)))) ∧ NewBook K H' l (leftOf B (F ++ (freeOf B names F).map fun x => (x, r))),
        fun σ' H' ⟨y5, y6, y7, y8, l, h1, h2, h3, h4, h5⟩ => ⟨names.length - (F ++ (freeOf B names F).map fun x => (x, r)).length, ?_, y5, y6, y7, y8, l, _, r + 1, h1, h2, h3, h4, h5, R.next hNnd hne, rfl⟩, ?_⟩
      · have := List.length_pos_iff.mpr hne
        rw [List.length_append, List.length_map]
        omega
      -- creditors = {}
      intro C hC
      have hC0 : H C = none := s2.free hC
      have nNC : N ≠ C := ne_of_none hn2 hC
      have nDC : D ≠ C := ne_of_none hd2 hC
      have nlC : l ≠ C := ne_of_none hl2 hC
      have lW : ws.length ≤ 1000 := by
        rw [paired_len hW]
        exact Nat.le_trans (List.length_filter_le _ _) hlen
      -- for due in left
      refine ⟨_, rfl, l, rfl, ⟨ws, .inl (.inl (by rw [upd_ne nlC]; exact hl2))⟩, for_list (K := K) (a := l) (xs := ws) (fun i σ H' => ∃ y6 ks, σ = [some (.ref a), some (.ref D), some (.ref l), some (.int (r : Nat)), some (.ref N), some (.ref C), y6, y7, y8] ∧ Same H H' ∧ H' N = some (.lst (names.map V.str)) ∧ H' D = some (.dK (tabF F)) ∧ H' l = some (.lst ws) ∧ DuesAt K H' ws (leftOf B F) ∧
          H' C = some (.dK (tab (fun _ => .bl true) ks)) ∧ ks.length ≤ i ∧ ∀ x, x ∈ ks ↔ x ∈ ((leftOf B F).take i).map (·.2.1))
        ⟨y6, [], rfl, s2.trans (same_upd hC), by rw [upd_ne nNC]; exact hn2, by rw [upd_ne nDC]; exact hd2, by rw [upd_ne nlC]; exact hl2, DuesAt.same (same_upd hC) hW, upd_same, Nat.le_refl _, fun x => by simp⟩ (fun i σ H' _ ⟨_, _, _, _, _, _, h, _⟩ => .inl (.inl h)) ?_ ?_⟩
      · rintro i x σ H' hi ⟨z6, ks, rfl, s3, hn3, hd3, hl3, hW3, hc3, lk, mem⟩
        obtain ⟨e, he, t, rfl, ht⟩ := paired_get hW3 hi
        have hiw : i < ws.length := (List.getElem?_eq_some_iff.mp hi).1
        refine ⟨_, rfl, _, rfl, t, _, _, _, rfl, rfl, ht, atI_nat (j := 1) rfl, C, _, rfl, DPut.k (k := Sum.inr e.2.1) hc3 (by rw [tab_len]; exact small1000 (by omega)), ?_⟩
        rw [putK_tab]
        refine ⟨_, addK ks e.2.1, rfl, same_put s3 hC0, by rw [upd_ne nNC]; exact hn3, by rw [upd_ne nDC]; exact hd3, by rw [upd_ne nlC]; exact hl3, DuesAt.putD hW3 hc3, ?_, ?_, fun x => ?_⟩
        · rw [upd_same]
          exact congrArg (fun l => some (HO.dK l)) (tab_congr fun x _ => by
            by_cases h1 : x = e.2.1
            · rw [if_pos h1]
            · rw [if_neg h1])
        · unfold addK
          by_cases h : e.2.1 ∈ ks
          · rw [if_pos h]; omega
          · rw [if_neg h, List.length_append, List.length_singleton]; omega
        · rw [mem_addK, mem, take_snoc he, List.map_append, List.mem_append]
          simp
      · rintro σ H3 ⟨z6, ks, rfl, s3, hn3, hd3, hl3, hW3, hc3, _, mem⟩
        rw [paired_len hW3, take_all] at mem
        -- free = [..]
        refine ⟨_, rfl, N, rfl, ⟨_, .inl (.inl hn3)⟩, fun L hL => ?_⟩
        refine lc_list (K := K) (a := N) (xs := names.map V.str) (fun i H' => Same H3 H' ∧ H' L = some (.lst (((names.take i).filter fun x => decide (x ∉ F.map (·.1)) && decide (x ∉ (leftOf B F).map (·.2.1))).map V.str)))
          ⟨same_upd hL, upd_same⟩ (fun i H' _ h => .inl (.inl (h.1 _ _ hn3))) ?_ ?_
        · rintro i x H' hi ⟨sm, hl⟩
          rw [List.getElem?_map] at hi
          obtain ⟨nm, hnm, rfl⟩ := Option.map_eq_some_iff.mp hi
          refine ⟨rfl, ?_⟩
          refine and_known (p := !decide (nm ∈ F.map (·.1))) (q := !decide (nm ∈ ks)) (fun Q q => rd_ntab rfl rfl (sm _ _ hd3) q) (fun _ Q q => rd_ntab rfl rfl (sm _ _ hc3) q) ?_
          have ep : (!decide (nm ∈ F.map (·.1)) && !decide (nm ∈ ks)) = (decide (nm ∉ F.map (·.1)) && decide (nm ∉ (leftOf B F).map (·.2.1))) := by
            rw [decide_not, decide_not, decide_eq_decide.mpr (mem nm)]
          rw [ep, take_snoc hnm, List.filter_append]
          refine ite2 (fun h1 => ?_) (fun h1 => ?_)
          · refine ⟨_, rfl, _, hl, ?_, same_put sm hL, ?_⟩
            · rw [List.length_map]
              have l1 : ((names.take i).filter fun x => decide (x ∉ F.map (·.1)) && decide (x ∉ (leftOf B F).map (·.2.1))).length ≤ (names.take i).length := List.length_filter_le _ _
              rw [List.length_take] at l1
              exact small1000 (by omega)
            · rw [upd_same, List.filter_cons_of_pos (p := fun x => decide (x ∉ F.map (·.1)) && decide (x ∉ (leftOf B F).map (·.2.1))) h1, List.map_append]
              rfl
          · refine ⟨sm, ?_⟩
            rw [List.filter_cons_of_neg (p := fun x => decide (x ∉ F.map (·.1)) && decide (x ∉ (leftOf B F).map (·.2.1))) h1, List.filter_nil, List.append_nil]
            exact hl
        · rintro H4 ⟨sm, hl⟩
          rw [List.length_map, take_all] at hl
          have hfree : H4 L = some (.lst ((freeOf B names F).map V.str)) := hl
          have s4 : Same H H4 := s3.trans sm
          have hn4 := sm _ _ hn3
          have hd4 := sm _ _ hd3
          have hl4 := sm _ _ hl3
          have hW4 := DuesAt.same sm hW3
          have hL00 : H L = none := s3.free hL
          have nDL : D ≠ L := ne_of_none hd3 hL
          -- if free == []
          refine ⟨_, rfl, Nat.zero_le _, fun z hz => ⟨_, _, .lst (.inl (.inl ?_)) (dp_strs (freeOf B names F)), .lst (.inl (.inl upd_same)) .nil, plain_strs _, rfl, ?_, _, rfl, ?_⟩⟩
          · rw [upd_ne (ne_of_none hfree hz)]
            exact hfree
          · show PyData.depthAll ((freeOf B names F).map PyData.str) + 1 ≤ 64
            rw [depth_strs]
            decide
          rw [eqv_nil]
          have e0 : (freeOf B names F).isEmpty = false := by
            cases hq : freeOf B names F with
            | nil => exact absurd hq hne
            | cons _ _ => rfl
          rw [e0]
          refine iteF ?_
          have s5 : Same H (upd H4 z (.lst [])) := s4.trans (same_upd hz)
          have sz := same_upd (o := .lst []) hz
          have hn5 := sz _ _ hn4
          have hd5 := sz _ _ hd4
          have hl5 := sz _ _ hl4
          have hW5 := DuesAt.same sz hW4
          have hf5 := sz _ _ hfree
          generalize upd H4 z (.lst []) = H5 at s5 hn5 hd5 hl5 hW5 hf5
          have nLD : L ≠ D := nDL.symm
          have nlD : l ≠ D := ne_of hl5 hd5 (by intro z; cases z)
          -- for who in free
          refine ⟨_, rfl, L, rfl, ⟨_, .inl (.inl hf5)⟩, for_list (K := K) (a := L) (xs := (freeOf B names F).map V.str) (fun i σ H' => ∃ z7, σ = [some (.ref a), some (.ref D), some (.ref l), some (.int (r : Nat)), some (.ref N), some (.ref C), z6, z7, some (.ref L)] ∧ Same H H' ∧ H' N = some (.lst (names.map V.str)) ∧
              H' l = some (.lst ws) ∧ DuesAt K H' ws (leftOf B F) ∧ H' L = some (.lst ((freeOf B names F).map V.str)) ∧ H' D = some (.dK (tabF (F ++ ((freeOf B names F).take i).map fun x => (x, r)))))
            ⟨y7, rfl, s5, hn5, hl5, hW5, hf5, by simpa using hd5⟩ (fun i σ H' _ ⟨_, _, _, _, _, _, h, _⟩ => .inl (.inl h)) ?_ ?_⟩
          · rintro i x σ H' hi ⟨z7, rfl, s6, hn6, hl6, hW6, hf6, hd6⟩
            rw [List.getElem?_map] at hi
            obtain ⟨nm, hnm, rfl⟩ := Option.map_eq_some_iff.mp hi
            have hin : nm ∈ freeOf B names F := List.mem_of_getElem? hnm
            have hfresh : nm ∉ (F ++ ((freeOf B names F).take i).map fun x => (x, r)).map (·.1) := by
              rw [List.map_append, List.map_map]
              intro z
              rcases List.mem_append.mp z with z | z
              · exact (mem_freeOf.mp hin).2.1 z
              · obtain ⟨y, hy, e⟩ := List.mem_map.mp z
                have e' : y = nm := e
                subst e'
                obtain ⟨j, hj, e⟩ := List.mem_iff_getElem.mp hy
                rw [List.length_take] at hj
                rw [List.getElem_take] at e
                have e2 : (freeOf B names F)[j]? = some y := by rw [List.getElem?_eq_getElem (by omega), e]
                have := nd_ix (free_nd hNnd) e2 hnm
                omega
            have hlen2 : (F ++ ((freeOf B names F).take i).map fun x => (x, r)).length ≤ 1000 := by
              rw [List.length_append, List.length_map, List.length_take]
              have : (freeOf B names F).length ≤ names.length := List.length_filter_le _ _
              omega
            refine ⟨_, rfl, _, rfl, _, rfl, D, _, rfl, DPut.k (k := Sum.inr nm) hd6 (by unfold tabF; rw [tab_len, List.length_map]; exact small1000 hlen2), ?_⟩
            rw [putK_tabF hfresh]
            refine ⟨_, rfl, same_put s6 hD, by rw [upd_ne nND]; exact hn6, by rw [upd_ne nlD]; exact hl6, DuesAt.putD hW6 hd6, by rw [upd_ne nLD]; exact hf6, ?_⟩
            rw [upd_same, take_snoc hnm, List.map_append, List.append_assoc]
            rfl
          · rintro σ H6 ⟨z7, rfl, s6, hn6, hl6, hW6, hf6, hd6⟩
            rw [List.length_map, take_all] at hd6
            -- left = [..]
            refine ⟨_, rfl, l, rfl, ⟨_, .inl (.inl hl6)⟩, fun G hG => ?_⟩
            refine lc_list (K := K) (a := l) (xs := ws) (fun i H' => Same H6 H' ∧ ∃ ws', H' G = some (.lst ws') ∧ DuesAt K H' ws' (((leftOf B F).take i).filter fun d => decide (d.1 ∉ (F ++ (freeOf B names F).map fun x => (x, r)).map (·.1))))
              ⟨same_upd hG, [], upd_same, .nil⟩ (fun i H' _ h => .inl (.inl (h.1 _ _ hl6))) ?_ ?_
            · rintro i x H' hi ⟨sm6, ws', hg, hWs⟩
              obtain ⟨e, he, t, rfl, ht⟩ := paired_get hW6 hi
              have ht1 := Same.tup sm6 ht
              have hiw : i < ws.length := (List.getElem?_eq_some_iff.mp hi).1
              refine ⟨rfl, ?_⟩
              refine rd_ixNtab rfl ht1 (atI_nat (j := 0) rfl) rfl (sm6 _ _ hd6) ?_
              rw [← decide_not, take_snoc he, List.filter_append]
              refine ite2 (fun h1 => ?_) (fun h1 => ?_)
              · refine ⟨_, rfl, ws', hg, ?_, same_put sm6 hG, ws' ++ [.ref t], upd_same, ?_⟩
                · rw [paired_len hWs]
                  have l1 : (((leftOf B F).take i).filter fun d => decide (d.1 ∉ (F ++ (freeOf B names F).map fun x => (x, r)).map (·.1))).length ≤ ((leftOf B F).take i).length := List.length_filter_le _ _
                  rw [List.length_take] at l1
                  exact small1000 (Nat.le_trans l1 (Nat.le_trans (Nat.min_le_left _ _) (by omega)))
                · rw [List.filter_cons_of_pos (p := fun d : Due => decide (d.1 ∉ (F ++ (freeOf B names F).map fun x => (x, r)).map (·.1))) h1]
                  exact paired_snoc (DuesAt.put hWs hg) ⟨t, rfl, sqT_put ht1 hg⟩
              · refine ⟨sm6, ws', hg, ?_⟩
                rw [List.filter_cons_of_neg (p := fun d : Due => decide (d.1 ∉ (F ++ (freeOf B names F).map fun x => (x, r)).map (·.1))) h1, List.filter_nil, List.append_nil]
                exact hWs
            · rintro H7 ⟨sm6, ws', hg, hWs⟩
              rw [paired_len hW6, take_all, leftOf_step (fun x hx => by rw [List.map_append]; exact List.mem_append_left _ hx)] at hWs
              -- rank = rank + 1
              exact ⟨_, rfl, _, _, rfl, rfl, _, _, _, _, G, rfl, s6.trans sm6, sm6 _ _ hn6, sm6 _ _ hd6, ws', hg, hWs⟩
    · have hle : names.length ≤ F.length := by
        refine Nat.le_of_not_lt fun z => hge (decide_eq_true ?_)
        omega
      obtain ⟨hRk, hlook⟩ := R.done hNnd hNin hle
      -- return [..]
      refine ⟨_, rfl, N, rfl, ⟨_, .inl (.inl hn2)⟩, fun G hG => ?_⟩
      refine lc_list (K := K) (a := N) (xs := names.map V.str) (fun i H' => Same H2 H' ∧ ∃ ws', H' G = some (.lst ws') ∧ PairsAt K H' (fun x => (F.lookup x).getD 0) ws' (names.take i))
        ⟨same_upd hG, [], upd_same, .nil⟩ (fun i H' _ h => .inl (.inl (h.1 _ _ hn2))) ?_ ?_
      · rintro i x H' hi ⟨sm, ws', hg, hWs⟩
        rw [List.getElem?_map] at hi
        obtain ⟨nm, hnm, rfl⟩ := Option.map_eq_some_iff.mp hi
        have hin : nm ∈ names := List.mem_of_getElem? hnm
        have hinF : nm ∈ F.map (·.1) := by
          obtain ⟨k, hk⟩ := hlook nm hin
          exact List.mem_map.mpr ⟨_, (lookup_nodup R.nd).mp hk, rfl⟩
        refine ⟨rfl, rd_yes ?_⟩
        refine iteT ?_
        refine ⟨_, rfl, _, rfl, _, rfl, D, rankF F nm, rfl, ?_, (by show 2 ≤ sizeLine; decide), fun Tp hT => ?_⟩
        · have g := DGet.k (k := Sum.inr nm) (sm _ _ hd2)
          unfold tabF at g
          rw [valV_tab, if_pos hinF] at g
          exact g
        · have hgT : (upd H' Tp (.tup [.str nm, rankF F nm])) G = some (.lst ws') := by rw [upd_ne (ne_of_none hg hT)]; exact hg
          refine ⟨ws', hgT, ?_, same_put (sm.trans (same_upd hT)) hG, ws' ++ [.ref Tp], upd_same, ?_⟩
          · rw [paired_len hWs, List.length_take]
            exact small1000 (by omega)
          · rw [take_snoc hnm]
            exact paired_snoc (PairsAt.put (PairsAt.same (same_upd hT) hWs) hgT) ⟨Tp, rfl, sqT_put (.inl (.inl upd_same)) hgT⟩
      · rintro H3 ⟨sm, ws', hg, hWs⟩
        rw [List.length_map, take_all] at hWs
        exact q names _ G ws' H3 (s2.trans sm) (s2.free hG) hNames hRk hg hWs
end
end Bb

namespace Bb
open PySem PySem.Spec PyProof.Rows L2
section
variable {P : Program} {w : World} {K : PySem.W.Frag} {mg : Str → Option Value} {base : Heap}
/-! ### _law_cell_at -/
def cellA (ns : List Int) (i : Nat) : Int := ns.getD i 0
def sp_cell (K : PySem.W.Frag) : Sp := fun vs H Q _ => ∃ (a : Addr) (ns : List Int) (k : Nat), vs = [.ref a, .int (k : Nat)] ∧ SqL K H a (ns.map V.int) ∧ Q (.int (cellA ns k)) H
theorem scCell : FnScope ["script", "k"] ["script", "k"] (defScope s_law_cell_at) := ⟨rfl, rfl, rfl, by decide +kernel, rfl, by decide +kernel, by decide +kernel⟩
theorem ok_cell {f : Addr} {fd : FuncData} (F : Fun K "_law_cell_at" "_law_cell_at" s_law_cell_at f fd) (T : Txt K mg) : FnOk P w K mg base CX0 1 f fd ["script", "k"] (sp_cell K) := by
  refine F.ok scCell (fun vs H Q E h => ?_) (fun cdv A outer s H vs Q E hr h => ?_)
  · obtain ⟨a, ns, k, rfl, _⟩ := h
    rfl
  · obtain ⟨a, ns, k, rfl, hS, q⟩ := h
    refine ⟨_, pss_cons (ps_if (pt_cmpR op_lt (pv 1) (pe_callB call_len_seq (by rfl) T.b_len PySem.boot_len (pa_cons (pv 0) pa_nil)) (nomark _))
        (pss_one (ps_ret (pe_ix ix_list (pv 0) (pv 1) (fun _ _ => rfl)))) pss_nil) (pss_one (ps_ret pe_int)), ?_⟩
    refine ⟨_, rfl, .ref a, rfl, a, _, rfl, .inl hS, _, _, rfl, rfl, _, rfl, ?_⟩
    rw [List.length_map]
    refine ite2 (fun h => ?_) (fun h => ?_)
    · have hk : k < ns.length := by
        have := of_decide_eq_true h
        omega
      refine ⟨.ref a, rfl, _, rfl, a, _, _, .int (cellA ns k), rfl, rfl, hS, atI_nat ?_, q⟩
      unfold cellA
      rw [List.getElem?_map, List.getElem?_eq_getElem hk, List.getD_eq_getElem?_getD, List.getElem?_eq_getElem hk]
      rfl
    · have hk : ns.length ≤ k := by
        refine Nat.le_of_not_lt fun z => h (decide_eq_true ?_)
        omega
      have e : cellA ns k = 0 := by
        unfold cellA
        rw [List.getD_eq_getElem?_getD, List.getElem?_eq_none hk]
        rfl
      rw [e] at q
      exact q
/-! ### _law_name -/
/-- the name bears the k-th letter at its place -/
def NameOk (cell : Int) (k : Nat) (x : Str) : Prop := x.cps.toList[(cell % 12).toNat]? = some (97 + k)
theorem name_ne {cell : Int} {j k : Nat} {x y : Str} (hx : NameOk cell j x) (hy : NameOk cell k y) (h : j ≠ k) : x ≠ y := by
  intro e
  subst e
  have := Option.some.inj (hx.symm.trans hy)
  omega
theorem letters_eq : (Str.ofString "abcdefghijklmnopqrstuvwxyz").cps.toList = [97, 98, 99, 100, 101, 102, 103, 104, 105, 106, 107, 108, 109, 110, 111, 112, 113, 114, 115, 116, 117, 118, 119, 120, 121, 122] := by decide +kernel
theorem figures_eq : (Str.ofString "0123456789").cps.toList = [48, 49, 50, 51, 52, 53, 54, 55, 56, 57] := by decide +kernel
theorem app_cps (x y : Str) : (x ++ y).cps.toList = x.cps.toList ++ y.cps.toList := by
  show (x.cps ++ y.cps).toList = _
  exact Array.toList_append
theorem len_cps (x : Str) : x.length = x.cps.toList.length := by
  show x.cps.size = _
  exact Array.length_toList.symm
theorem letter_at {n : Nat} (h : n < 26) : (Str.ofString "abcdefghijklmnopqrstuvwxyz").cps.toList[n]? = some (97 + n) := by
  rw [letters_eq]
  revert n
  decide
theorem mod_nat {x m : Int} (hm : 0 < m) : ∃ n : Nat, x % m = (n : Int) ∧ (n : Int) < m := by
  have h1 := Int.emod_nonneg x (show m ≠ 0 by omega)
  have h2 := Int.emod_lt_of_pos x hm
  exact ⟨(x % m).toNat, by omega, by omega⟩
theorem join_len : ∀ ys : List Str, (∀ y ∈ ys, y.length = 1) → (Str.join (Str.ofString "") ys).length = ys.length
  | [], _ => rfl
  | [x], h => h x List.mem_cons_self
  | x :: y :: r, h => by
    have ih := join_len (y :: r) fun z hz => h z (List.mem_cons_of_mem _ hz)
    have e : (Str.ofString "").cps.toList = [] := by decide +kernel
    show (x ++ Str.ofString "" ++ Str.join (Str.ofString "") (y :: r)).length = _
    have hx := h x List.mem_cons_self
    rw [len_cps] at ih hx ⊢
    rw [app_cps, app_cps, e, List.length_append, List.length_append, ih, hx, List.length_cons (a := x)]
    simp
    omega
theorem cut_to (z : Str) (k : Nat) : (cutS z none (some (k : Int))).cps.toList = z.cps.toList.take k := by
  unfold cutS
  rw [HT.sIx_nat, HT.sIx_none, List.drop_zero, Nat.sub_zero, len_cps]
  show (List.take (min k z.cps.toList.length) z.cps.toList) = _
  rw [List.take_eq_take_iff]
  omega
def sp_name : Sp := fun vs H Q _ => ∃ (k : Nat) (cell : Int), vs = [.int (k : Nat), .int cell] ∧ k < 26 ∧ ∀ (x : Str) (H' : Hp), Same H H' → NameOk cell k x → Q (.str x) H'
abbrev nName : List Str := ["k", "cell", "letters", "signs", "at", "more", "seed", "word", "j"]
theorem scName : FnScope nName ["k", "cell"] (defScope s_law_name) := ⟨rfl, rfl, rfl, by decide +kernel, rfl, by decide +kernel, by decide +kernel⟩
theorem ok_name {f : Addr} {fd : FuncData} (F : Fun K "_law_name" "_law_name" s_law_name f fd) (T : Txt K mg) : FnOk P w K mg base CX0 1 f fd ["k", "cell"] sp_name := by
  refine F.ok scName (fun vs H Q E h => ?_) (fun cdv A outer s H vs Q E hr h => ?_)
  · obtain ⟨k, cell, rfl, _⟩ := h
    rfl
  · obtain ⟨k, cell, rfl, hk, q⟩ := h
    refine ⟨_, pss_cons (ps_set (i := 2) scName.nd rfl (.inl rfl) pe_str)
      (pss_cons (ps_set (i := 3) scName.nd rfl (.inr rfl) (pe_op op_add_str (pv 2) pe_str))
      (pss_cons (ps_set (i := 4) scName.nd rfl (.inl rfl) (pe_op op_mod (pv 1) pe_int))
      (pss_cons (ps_set (i := 5) scName.nd rfl (.inl rfl) (pe_op op_mod (pe_op op_fdiv (pv 1) pe_int) (pe_op op_sub pe_int (pv 4))))
      (pss_cons (ps_set (i := 6) scName.nd rfl (.inr rfl) (pe_op op_mod (pe_op op_fdiv (pv 1) pe_int) pe_int))
      (C8.pss_cut (ps_if (pt_cmpR op_eq (pe_op op_mod (pe_op op_fdiv (pv 1) pe_int) pe_int) pe_int (nomark _))
          (pss_cons (ps_set (i := 6) scName.nd rfl (.inr rfl) (pe_op op_add (pe_op op_add (pv 6) (pe_op op_mul pe_int (pv 0))) (pe_op op_mul (pv 0) (pv 0))))
            (pss_one (ps_set (i := 5) scName.nd rfl (.inl rfl) (pe_op op_mod (pe_op op_add (pv 5) (pv 0)) (pe_op op_sub pe_int (pv 4)))))) pss_nil)
      (pss_cons (ps_set (i := 7) scName.nd rfl (.inl rfl) (pe_op op_add_str (pe_ix ix_str (pv 2) (pe_op op_mod (pv 6) pe_int) (fun _ _ => rfl))
          (pe_join pe_str (pe_lc (own := [("j", 8)]) (g := gName 8) (tt := tYes) rfl scName.nd (pi_range2 (by rfl) T.b_range (pa_cons pe_int (pa_cons pe_int pa_nil))) (blkOk_by (N := nName) (sc := defScope s_law_name) (by decide +kernel))
            (fun _ _ _ _ _ => pg_name (i := 8) scName.nd rfl (Or.inl rfl)) (fun _ _ _ _ _ => pts_nil)
            (fun _ _ _ _ _ => pe_ix ix_str (pv 3) (pe_op op_mod (pe_op op_add (pv 6) (pe_op op_mul pe_int (pv 8))) pe_int) (fun _ _ => rfl))))))
      (pss_cons (ps_set (i := 7) scName.nd rfl (.inl rfl) (pe_slice sl_str (pv 7) po_none (po_some (pe_op op_add (pv 4) (pv 5)))))
      (pss_one (ps_ret (pe_op op_add_str (pe_op op_add_str (pe_slice sl_str (pv 7) po_none (po_some (pv 4))) (pe_ix ix_str (pv 2) (pe_op op_mod (pv 0) pe_int) (fun _ _ => rfl))) (pe_slice sl_str (pv 7) (po_some (pv 4)) po_none))))))))))), ?_⟩
    obtain ⟨n, hn, hn12⟩ := mod_nat (x := cell) (m := 12) (by decide)
    have lets : (Str.ofString "abcdefghijklmnopqrstuvwxyz").length ≤ sizeLine := by rw [len_cps, letters_eq]; decide
    have sgl : (Str.ofString "abcdefghijklmnopqrstuvwxyz" ++ Str.ofString "0123456789").cps.toList.length = 36 := by rw [app_cps, letters_eq, figures_eq]; decide
    have sgs : (Str.ofString "abcdefghijklmnopqrstuvwxyz" ++ Str.ofString "0123456789").length ≤ sizeLine := by rw [len_cps, sgl]; decide
    -- letters, signs, at, more, seed
    refine ⟨_, rfl, _, _, rfl, rfl, (by rw [len_cps, len_cps, letters_eq, figures_eq]; decide), ?_⟩
    refine ⟨_, rfl, _, _, rfl, rfl, (by show (0 : Int) < 12; decide), ?_⟩
    show gName 4 (V.int (cell % 12)) _ _ _
    rw [hn]
    refine ⟨_, rfl, _, _, rfl, rfl, ⟨by decide, by decide⟩, _, rfl, _, _, rfl, rfl, _, _, rfl, rfl, (by show (0 : Int) < 12 - (n : Int); omega), ?_⟩
    refine ⟨_, rfl, _, _, rfl, rfl, ⟨by decide, by decide⟩, _, _, rfl, rfl, (by show (0 : Int) < 1000; decide), ?_⟩
    have hmore : 0 ≤ cell / 12 % (12 - (n : Int)) := Int.emod_nonneg _ (by omega)
    refine ⟨fun σ H' => ∃ more seed : Int, 0 ≤ more ∧ σ = [some (.int (k : Nat)), some (.int cell), some (.str (Str.ofString "abcdefghijklmnopqrstuvwxyz")), some (.str (Str.ofString "abcdefghijklmnopqrstuvwxyz" ++ Str.ofString "0123456789")), some (.int (n : Int)), some (.int more), some (.int seed), none, none] ∧ H' = H, ?_, ?_⟩
    · refine ⟨_, rfl, _, _, rfl, rfl, ⟨by decide, by decide⟩, _, _, rfl, rfl, (by show (0 : Int) < 2; decide), rfl, _, rfl, ite2 (fun _ => ?_) (fun _ => ?_)⟩
      · refine ⟨_, rfl, _, rfl, _, _, rfl, rfl, .inl ⟨by decide, by decide⟩, _, _, rfl, rfl, _, rfl, _, rfl, _, _, rfl, rfl, .inl ⟨by omega, by omega⟩, _, _, rfl, rfl, ?_⟩
        refine ⟨_, rfl, _, rfl, _, _, rfl, rfl, _, rfl, _, _, rfl, rfl, _, _, rfl, rfl, (by show (0 : Int) < 12 - (n : Int); omega), ?_⟩
        exact ⟨_, _, Int.emod_nonneg _ (by omega), rfl, rfl⟩
      · exact ⟨_, _, hmore, rfl, rfl⟩
    · rintro σ' H' ⟨more, seed, hmore, rfl, rfl⟩
      -- word = letters[seed % 26] + "".join(..)
      obtain ⟨m26, h26, l26⟩ := mod_nat (x := seed) (m := 26) (by decide)
      have sw : ∀ (L : Addr), H' L = none → Same H' (upd H' L (.lst [])) := fun L h => same_upd h
      refine ⟨_, rfl, _, rfl, _, _, rfl, rfl, (by show (0 : Int) < 26; decide), _, _, 97 + m26, rfl, rfl, lets, ?_, ?_⟩
      · rw [h26]
        exact atI_nat (letter_at (by omega))
      refine ⟨⟨_, rfl⟩, 1, 12, rfl, ⟨by decide, by decide, by decide, by decide⟩, fun L hL => ?_⟩
      refine lc_range (lo := 1) (n := 11) (fun i H2 => Same H' H2 ∧ ∃ ys : List Str, H2 L = some (.lst (ys.map V.str)) ∧ ys.length = i ∧ ∀ y ∈ ys, y.length = 1)
        ⟨same_upd hL, [], upd_same, rfl, fun y hy => by cases hy⟩ ?_ ?_
      · rintro i H2 hi ⟨sm, ys, hl, hlen, h1⟩
        refine ⟨rfl, rd_yes ?_⟩
        refine iteT ?_
        obtain ⟨m36, h36, l36⟩ := mod_nat (x := seed + 7 * (1 + (i : Int))) (m := 36) (by decide)
        have hlt : m36 < (Str.ofString "abcdefghijklmnopqrstuvwxyz" ++ Str.ofString "0123456789").cps.toList.length := by rw [sgl]; omega
        refine ⟨_, rfl, _, rfl, _, rfl, _, _, rfl, rfl, .inl ⟨by decide, by decide⟩, _, _, rfl, rfl, _, _, rfl, rfl, (by show (0 : Int) < 36; decide), _, _, (Str.ofString "abcdefghijklmnopqrstuvwxyz" ++ Str.ofString "0123456789").cps.toList[m36], rfl, rfl, sgs, ?_, _, hl, ?_, same_put sm hL, ys ++ [⟨#[(Str.ofString "abcdefghijklmnopqrstuvwxyz" ++ Str.ofString "0123456789").cps.toList[m36]]⟩], ?_, ?_, ?_⟩
        · rw [h36]
          exact atI_nat (List.getElem?_eq_getElem hlt)
        · rw [List.length_map]
          exact small1000 (by omega)
        · rw [upd_same, List.map_append]
          rfl
        · rw [List.length_append, List.length_singleton, hlen]
        · intro y hy
          rcases List.mem_append.mp hy with z | z
          · exact h1 y z
          · rw [List.mem_singleton.mp z]
            rfl
      · rintro H2 ⟨sm, ys, hl, hlen, h1⟩
        have hsum : (ys.map (·.length)).sum = 11 := by
          have e : ys.map (·.length) = List.replicate 11 1 := by
            refine List.eq_replicate_iff.mpr ⟨by rw [List.length_map]; exact hlen, fun b hb => ?_⟩
            obtain ⟨y, hy, e⟩ := List.mem_map.mp hb
            rw [← e]
            exact h1 y hy
          rw [e]
          decide
        have hl0 : (Str.ofString "").length = 0 := by rw [len_cps]; decide +kernel
        have hj : (Txt.join (Str.ofString "") ys).length = 11 := by
          rw [TL.join_eq, join_len ys h1, hlen]
        refine ⟨_, L, ys, rfl, rfl, .inl (.inl (.inl hl)), ?_, ?_⟩
        · rw [hsum, hl0, Nat.mul_zero]
          decide
        refine ⟨_, _, rfl, rfl, ?_, ?_⟩
        · rw [hj]
          show 1 + 11 ≤ sizeLine
          decide
        have hw : ((⟨#[97 + m26]⟩ : Str) ++ Txt.join (Str.ofString "") ys).cps.toList.length = 12 := by
          rw [app_cps, List.length_append, ← len_cps (Txt.join (Str.ofString "") ys), hj]
          rfl
        generalize (⟨#[97 + m26]⟩ : Str) ++ Txt.join (Str.ofString "") ys = word at hw
        have hws : word.length ≤ sizeLine := by rw [len_cps, hw]; decide
        -- word = word[:at + more]
        obtain ⟨mo, rfl⟩ := Int.eq_ofNat_of_zero_le hmore
        refine ⟨_, rfl, _, rfl, _, rfl, _, _, rfl, rfl, _, rfl, _, rfl, hws, ?_⟩
        have ew : (cutS word none (some ((n : Int) + (mo : Int)))).cps.toList = word.cps.toList.take (n + mo) := by
          rw [← Int.natCast_add]
          exact cut_to word (n + mo)
        generalize cutS word none (some ((n : Int) + (mo : Int))) = w2 at ew
        have l2 : w2.cps.toList.length = min (n + mo) 12 := by rw [ew, List.length_take, hw]
        have hw2 : w2.length ≤ sizeLine := by rw [len_cps, l2]; exact Nat.le_trans (Nat.min_le_right _ _) (by decide)
        have s12 : 12 + 1 + 12 ≤ sizeLine := by decide
        have ea : (cutS w2 none (some (n : Int))).cps.toList = w2.cps.toList.take n := cut_to w2 n
        have la : (cutS w2 none (some (n : Int))).cps.toList.length = n := by
          rw [ea, List.length_take, l2]
          omega
        have lb : (cutS w2 (some (n : Int)) none).length ≤ 12 := Nat.le_trans (cutS_length _ _ _) (by rw [len_cps, l2]; exact Nat.min_le_right _ _)
        obtain ⟨k26, hk26, lk26⟩ := mod_nat (x := (k : Int)) (m := 26) (by decide)
        have ek : k26 = k := by omega
        subst ek
        -- return word[:at] + letters[k % 26] + word[at:]
        refine ⟨_, rfl, _, rfl, _, rfl, _, rfl, hw2, _, rfl, _, rfl, _, _, rfl, rfl, (by show (0 : Int) < 26; decide), _, _, 97 + k26, rfl, rfl, lets, ?_, _, _, rfl, rfl, ?_, ?_⟩
        · rw [hk26]
          exact atI_nat (letter_at hk)
        · rw [len_cps, la]
          show n + 1 ≤ sizeLine
          omega
        · refine ⟨_, rfl, _, rfl, _, rfl, _, rfl, hw2, _, _, rfl, rfl, ?_, ?_⟩
          · rw [len_cps (_ ++ _), app_cps, List.length_append, la]
            show n + 1 + _ ≤ sizeLine
            omega
          · refine q _ H2 sm ?_
            unfold NameOk
            rw [hn, Int.toNat_natCast, app_cps, app_cps, List.getElem?_append_left (by rw [List.length_append, la]; exact Nat.lt_succ_self n), List.getElem?_append_right (by rw [la]; exact Nat.le_refl _), la, Nat.sub_self]
            rfl
end
end Bb

namespace Bb
open PySem PySem.Spec PyProof.Rows L2
/-- a deed: debtor, creditor, amount -/
abbrev Deed := Nat × Nat × Int
def DeedAt (K : PySem.W.Frag) (H : Hp) (v : V) (d : Deed) : Prop := ∃ a, v = .ref a ∧ SqT K H a [.int (d.1 : Nat), .int (d.2.1 : Nat), .int d.2.2]
def DeedOk (many : Nat) (d : Deed) : Prop := d.1 < many ∧ d.2.1 < many ∧ d.1 ≠ d.2.1
theorem step_ne {d s m : Nat} (hd : d < m) (h1 : 1 ≤ s) (h2 : s < m) : (d + s) % m < m ∧ d ≠ (d + s) % m := by
  refine ⟨Nat.mod_lt _ (by omega), fun e => ?_⟩
  by_cases h : d + s < m
  · rw [Nat.mod_eq_of_lt h] at e
    omega
  · rw [Nat.mod_eq_sub_mod (by omega), Nat.mod_eq_of_lt (by omega)] at e
    omega
theorem cut_le {xs : List V} {a b : Nat} : (cutV xs (some (a : Int)) (some (b : Int))).length ≤ b - a ∧ ∀ x ∈ cutV xs (some (a : Int)) (some (b : Int)), x ∈ xs := by
  unfold cutV
  rw [HT.sIx_nat, HT.sIx_nat]
  refine ⟨?_, fun x hx => List.mem_of_mem_drop (List.mem_of_mem_take hx)⟩
  rw [List.length_take, List.length_drop]
  omega
section
variable {P : Program} {w : World} {K : PySem.W.Frag} {mg : Str → Option Value} {base : Heap}
theorem deedAt_same {H H' : Hp} (s : Same H H') {vs : List V} {D : List Deed} (h : Paired (DeedAt K H) vs D) : Paired (DeedAt K H') vs D :=
  paired_imp (fun _ _ ⟨a, e, q⟩ => ⟨a, e, Same.tup s q⟩) h
theorem deedAt_put {H : Hp} {l : Addr} {ys : List V} {o : HO} {vs : List V} {D : List Deed} (h : Paired (DeedAt K H) vs D) (hl : H l = some (.lst ys)) : Paired (DeedAt K (upd H l o)) vs D :=
  paired_imp (fun _ _ ⟨a, e, q⟩ => ⟨a, e, sqT_put q hl⟩) h
def sp_deeds (K : PySem.W.Frag) : Sp := fun vs H Q _ => ∃ (a : Addr) (ns : List Int) (many : Nat), vs = [.ref a, .int (many : Nat)] ∧ SqL K H a (ns.map V.int) ∧ 3 ≤ many ∧ many ≤ 8 ∧ (∀ z ∈ ns, Builtin.Int.intBits z ≤ 1048576) ∧
  ∀ (D : List Deed) (p : Addr) (ws : List V) (H' : Hp), Same H H' → H p = none → H' p = some (.lst ws) → Paired (DeedAt K H') ws D → D.length ≤ 60 → (∀ d ∈ D, DeedOk many d) → Q (.ref p) H'
abbrev nDeeds : List Str := ["script", "many", "deeds", "cell", "mixed", "debtor", "step", "amount"]
theorem scDeeds : FnScope nDeeds ["script", "many"] (defScope s_law_deeds) := ⟨rfl, rfl, rfl, by decide +kernel, rfl, by decide +kernel, by decide +kernel⟩
theorem ok_deeds {f : Addr} {fd : FuncData} (F : Fun K "_law_deeds" "_law_deeds" s_law_deeds f fd) (T : Txt K mg) : FnOk P w K mg base CX0 2 f fd ["script", "many"] (sp_deeds K) := by
  obtain ⟨fC, fdC, FC, bC, gC⟩ := T.d_law_cell_at
  have GC : FnOk P w K mg base CX0 1 fC fdC ["script", "k"] (sp_cell K) := ok_cell FC T
  refine F.ok scDeeds (fun vs H Q E h => ?_) (fun cdv A outer s H vs Q E hr h => ?_)
  · obtain ⟨a, ns, many, rfl, _⟩ := h
    rfl
  · obtain ⟨a, ns, many, rfl, hS, hm3, hm8, hbits, q⟩ := h
    refine ⟨_, pss_cons (ps_set (i := 2) scDeeds.nd rfl (.inl rfl) (pe_lst pa_nil))
      (pss_cons (ps_for PassesOwn.never rfl (pi_list (pe_slice sl_list (pv 0) (po_some pe_int) (po_some pe_int))) (pg_name (i := 3) scDeeds.nd rfl (.inl rfl))
        (pss_cons (ps_set (i := 4) scDeeds.nd rfl (.inl rfl) (pe_op op_mod (pe_op op_mul (pv 3) pe_int) pe_int))
        (pss_cons (ps_set (i := 5) scDeeds.nd rfl (.inl rfl) (pe_op op_mod (pe_op op_mod (pv 4) pe_int) (pv 1)))
        (pss_cons (ps_set (i := 6) scDeeds.nd rfl (.inl rfl) (pe_op op_add pe_int (pe_op op_mod (pe_op op_fdiv (pv 4) pe_int) (pe_op op_sub (pv 1) pe_int))))
        (C8.pss_cut (ps_if (PW.pt (pw_and (pt_cmpR op_eq (pe_op op_mod (pe_call GC hr (by rfl) gC FC.kp bC .nil pass0 (pa_cons (pv 0) (pa_cons pe_int pa_nil))) pe_int) pe_int (nomark _))
            (pw_and1 (pt_cmpR op_gt (pe_op op_mod (pe_op op_fdiv (pv 4) pe_int) pe_int) pe_int (nomark _)))))
            (pss_one (ps_set (i := 6) scDeeds.nd rfl (.inl rfl) pe_int)) pss_nil)
        (pss_cons (ps_set (i := 7) scDeeds.nd rfl (.inl rfl) (pe_op op_mod (pe_op op_fdiv (pv 4) pe_int) pe_int))
        (C8.pss_cut (ps_if (pt_cmpR op_eq (pe_op op_mod (pe_op op_fdiv (pv 4) pe_int) pe_int) pe_int (nomark _))
            (pss_one (ps_set (i := 7) scDeeds.nd rfl (.inl rfl) (pe_op op_mod (pe_op op_add (pe_op op_mulX (pv 3) (pv 3)) (pv 4)) (pe_op op_pow pe_int pe_int)))) pss_nil)
        (pss_one (ps_expr (pe_bm PySem.F.plainAttrs_list PySem.F.slot_list_append PySem.F.type_list_append mt_append (pv 2) (pa_cons
            (pe_tup (pa_cons (pv 5) (pa_cons (pe_op op_mod (pe_op op_add (pv 5) (pv 6)) (pv 1)) (pa_cons (pv 7) pa_nil)))) pa_nil)))))))))))
      (pss_one (ps_ret (pv 2)))), ?_⟩
    -- deeds = []
    refine ⟨Nat.zero_le _, fun L hL => ?_⟩
    have sL := same_upd (o := .lst []) hL
    -- for cell in script[2:62]
    refine ⟨.ref a, rfl, _, rfl, _, rfl, a, _, rfl, sL.seq hS, fun c hc => ?_⟩
    have hc0 := sL.free hc
    have nLc : L ≠ c := fun e => by rw [← e, upd_same] at hc; cases hc
    obtain ⟨hcl, hcm⟩ := cut_le (xs := ns.map V.int) (a := 2) (b := 62)
    have hcut : (upd (upd H L (.lst [])) c (.lst (cutV (ns.map V.int) (some (2 : Nat)) (some (62 : Nat))))) c = some (.lst (cutV (ns.map V.int) (some (2 : Nat)) (some (62 : Nat)))) := upd_same
    refine ⟨c, rfl, ⟨_, .inl (.inl hcut)⟩, for_list (K := K) (a := c) (xs := cutV (ns.map V.int) (some (2 : Nat)) (some (62 : Nat))) (fun i σ H' => ∃ y3 y4 y5 y6 y7 D ws, σ = [some (.ref a), some (.int (many : Nat)), some (.ref L), y3, y4, y5, y6, y7] ∧ Same H H' ∧ H' c = some (.lst (cutV (ns.map V.int) (some (2 : Nat)) (some (62 : Nat)))) ∧
        H' L = some (.lst ws) ∧ Paired (DeedAt K H') ws D ∧ D.length ≤ i ∧ ∀ d ∈ D, DeedOk many d)
      ⟨none, none, none, none, none, [], [], rfl, sL.trans (same_upd hc), hcut, by rw [upd_ne nLc, upd_same], .nil, Nat.le_refl _, fun d hd => by cases hd⟩ (fun i σ H' _ ⟨_, _, _, _, _, _, _, _, _, h, _⟩ => .inl (.inl h)) ?_ ?_⟩
    · rintro i x σ H' hi ⟨y3, y4, y5, y6, y7, D, ws, rfl, sm, hcc, hw, hW, hDl, hD⟩
      obtain ⟨cell, hcell, rfl⟩ := List.mem_map.mp (hcm x (List.mem_of_getElem? hi))
      have hbit := hbits cell hcell
      have hmI : (0 : Int) < (many : Int) := by omega
      -- mixed, debtor, step
      refine ⟨_, rfl, _, _, rfl, rfl, .inr ⟨by decide, by decide⟩, _, _, rfl, rfl, (by show (0 : Int) < 2147483647; decide), ?_⟩
      obtain ⟨mx, hmx, _⟩ := mod_nat (x := cell * 48271) (m := 2147483647) (by decide)
      show gName 4 (V.int (cell * 48271 % 2147483647)) _ _ _
      rw [hmx]
      obtain ⟨db, hdb, ldb⟩ := mod_nat (x := (mx : Int) % 8) (m := (many : Int)) hmI
      refine ⟨_, rfl, _, _, rfl, rfl, (by show (0 : Int) < 8; decide), _, rfl, _, _, rfl, rfl, hmI, ?_⟩
      show gName 5 (V.int ((mx : Int) % 8 % (many : Int))) _ _ _
      rw [hdb]
      obtain ⟨st, hst, lst⟩ := mod_nat (x := (mx : Int) / 8) (m := (many : Int) - 1) (by omega)
      refine ⟨_, rfl, _, _, rfl, rfl, ⟨by decide, by decide⟩, _, rfl, _, _, rfl, rfl, _, _, rfl, rfl, (by show (0 : Int) < (many : Int) - 1; omega), _, _, rfl, rfl, ?_⟩
      show gName 6 (V.int (1 + (mx : Int) / 8 % ((many : Int) - 1))) _ _ _
      rw [hst]
      refine ⟨fun σ H2 => (∃ st : Nat, 1 ≤ st ∧ st < many ∧ σ = [some (.ref a), some (.int (many : Nat)), some (.ref L), some (.int cell), some (.int (mx : Nat)), some (.int (db : Nat)), some (.int (st : Nat)), y7]) ∧ H2 = H', ?_, ?_⟩
      · refine if_known (p := decide (V.int (cellA ns 1 % 2) = V.int 1) && decide ((0 : Int) < (mx : Int) / 64 % 4)) (fun Q q => and_known (p := decide (V.int (cellA ns 1 % 2) = V.int 1)) (q := decide ((0 : Int) < (mx : Int) / 64 % 4))
          (fun Q q => ⟨_, rfl, a, ns, 1, rfl, sm.seq hS, _, _, rfl, rfl, (by show (0 : Int) < 2; decide), rfl, _, rfl, q⟩)
          (fun _ Q q => ⟨_, rfl, _, _, rfl, rfl, ⟨by decide, by decide⟩, _, _, rfl, rfl, (by show (0 : Int) < 4; decide), _, _, rfl, rfl, _, rfl, q⟩) q) ?_
        refine ite2 (fun _ => ?_) (fun _ => ?_)
        · exact ⟨⟨1, Nat.le_refl _, by omega, rfl⟩, rfl⟩
        · exact ⟨⟨1 + st, by omega, by omega, rfl⟩, rfl⟩
      · rintro σ' H2 ⟨⟨st, hs1, hs2, rfl⟩, rfl⟩
        -- amount
        refine ⟨_, rfl, _, _, rfl, rfl, ⟨by decide, by decide⟩, _, _, rfl, rfl, (by show (0 : Int) < 7; decide), ?_⟩
        refine ⟨fun σ H3 => (∃ am : Int, σ = [some (.ref a), some (.int (many : Nat)), some (.ref L), some (.int cell), some (.int (mx : Nat)), some (.int (db : Nat)), some (.int (st : Nat)), some (.int am)]) ∧ H3 = H2, ?_, ?_⟩
        · refine ⟨_, rfl, _, _, rfl, rfl, ⟨by decide, by decide⟩, _, _, rfl, rfl, (by show (0 : Int) < 2; decide), rfl, _, rfl, ite2 (fun _ => ?_) (fun _ => ?_)⟩
          · refine ⟨_, rfl, _, rfl, _, _, rfl, rfl, ?_, _, rfl, _, _, rfl, rfl, _, _, rfl, rfl, ⟨by decide, by decide, by decide⟩, _, _, rfl, rfl, ?_, ⟨_, rfl⟩, rfl⟩
            · show (Builtin.Int.intBits cell : Int) + (Builtin.Int.intBits cell : Int) ≤ 134217728
              omega
            · show (0 : Int) < 10 ^ 58
              decide
          · exact ⟨⟨_, rfl⟩, rfl⟩
        · rintro σ' H3 ⟨⟨am, rfl⟩, rfl⟩
          obtain ⟨hc1, hc2⟩ := step_ne (d := db) (s := st) (m := many) (by omega) hs1 hs2
          have ecr : ((db : Int) + (st : Int)) % (many : Int) = (((db + st) % many : Nat) : Int) := by
            rw [Int.natCast_emod, Int.natCast_add]
          refine ⟨_, rfl, .inl ⟨rfl, _, .inl (.inl hw)⟩, _, rfl, _, rfl, _, rfl, _, _, rfl, rfl, _, rfl, _, _, rfl, rfl, hmI, _, rfl, (by show 3 ≤ sizeLine; decide), fun Tp hT => ?_⟩
          have hwT : ∀ o, (upd H3 Tp o) L = some (.lst ws) := fun o => by rw [upd_ne (ne_of_none hw hT)]; exact hw
          have hcT : ∀ o, (upd H3 Tp o) c = some (.lst (cutV (ns.map V.int) (some (2 : Nat)) (some (62 : Nat)))) := fun o => by rw [upd_ne (ne_of_none hcc hT)]; exact hcc
          have hlt : i < (cutV (ns.map V.int) (some ((2 : Nat) : Int)) (some ((62 : Nat) : Int))).length := (List.getElem?_eq_some_iff.mp hi).1
          refine ⟨L, _, _, rfl, rfl, hwT _, by rw [paired_len hW]; exact small1000 (by omega), _, _, _, _, _, D ++ [(db, (db + st) % many, am)], ws ++ [.ref Tp], rfl, same_put (sm.trans (same_upd hT)) hL, ?_, upd_same, ?_, ?_, ?_⟩
          · rw [upd_ne nLc.symm]
            exact hcT _
          · refine paired_snoc (deedAt_put (deedAt_same (same_upd hT) hW) (hwT _)) ⟨Tp, rfl, sqT_put (.inl (.inl ?_)) (hwT _)⟩
            rw [upd_same]
            show some (HO.tup [V.int (db : Int), V.int (((db : Int) + (st : Int)) % (many : Int)), V.int am]) = _
            rw [ecr]
          · rw [List.length_append, List.length_singleton]
            omega
          · intro d hd
            rcases List.mem_append.mp hd with z | z
            · exact hD d z
            · rw [List.mem_singleton.mp z]
              exact ⟨by omega, hc1, hc2⟩
    · rintro σ H' ⟨y3, y4, y5, y6, y7, D, ws, rfl, sm, hcc, hw, hW, hDl, hD⟩
      exact ⟨_, rfl, q D L ws H' sm hL hw hW (Nat.le_trans hDl hcl) hD⟩
end
end Bb

/-! sorted of a list of dues: some arrangement of it -/
namespace Bb
open PySem PySem.W PySem.Calls PyProof.Rows
section
variable {prog : Program} {w : World} {A : Around} {E : Value → Shared → Prop} {s : Shared}
/-- v is a tuple of two texts and an int in the heap -/
def IsDue (h : Heap) (v : Value) (d : Due) : Prop := ∃ a o t u x n, v = .ref a ∧ h.get? a = some o ∧ o.cls = .type "tuple" ∧ o.data = .seq #[.str d.1 t, .str d.2.1 u, .int d.2.2 x] n
theorem IsDue.keeps {h h' : Heap} {v : Value} {d : Due} (p : IsDue h v d) (k : ∀ b o, h.get? b = some o → o.cls = .type "tuple" → h'.get? b = some o) : IsDue h' v d := by
  obtain ⟨a, o, t, u, x, n, e, ho, hc, hd⟩ := p
  exact ⟨a, o, t, u, x, n, e, k _ _ ho hc, hc, hd⟩
theorem due_tot {vs : List Value} (hp : ∀ v ∈ vs, ∃ d, IsDue s.heap v d) : Srt.Tot prog w A s (tuples' true) (fun p => p.1 ∈ vs) := by
  intro p q hm hm'
  obtain ⟨⟨x, y, i⟩, a, o, t, u, z, n, e, ho, hc, hd⟩ := hp _ hm
  obtain ⟨⟨x', y', i'⟩, a', o', t', u', z', n', e', ho', hc', hd'⟩ := hp _ hm'
  rw [e, e']
  refine ⟨if x = x' then (if y = y' then (if i = i' then false else decide (i < i')) else decide (y.cps.toList < y'.cps.toList)) else decide (x.cps.toList < x'.cps.toList), ?_⟩
  refine PySem.W.kat_lt ho hd ho' hd' ?_
  show PySem.W.KatLex prog w A true (decide (3 < 3)) _ [(.str x t, .str x' t'), (.str y u, .str y' u'), (.int i z, .int i' z')] 0 s
  refine PySem.W.kat_cons (SeqAt.EqAt.str_str x t x' t' prog w _ _ ?_)
  refine PySem.W.kat_go (fun e1 => ?_) (fun e1 => ?_)
  · have ex : x = x' := by simpa using e1
    refine PySem.W.kat_yes (PySem.W.kat_cons (SeqAt.EqAt.str_str y u y' u' prog w _ _ ?_))
    refine PySem.W.kat_go (fun e2 => ?_) (fun e2 => ?_)
    · have ey : y = y' := by simpa using e2
      refine PySem.W.kat_yes (PySem.W.kat_cons (SeqAt.EqAt.int_int i z i' z' prog w _ _ ?_))
      refine PySem.W.kat_go (fun e3 => ?_) (fun e3 => ?_)
      · have ei : i = i' := by simpa using e3
        have e4 : (if x = x' then (if y = y' then (if i = i' then false else decide (i < i')) else decide (y.cps.toList < y'.cps.toList)) else decide (x.cps.toList < x'.cps.toList)) = false := by rw [if_pos ex, if_pos ey, if_pos ei]
        exact PySem.W.kat_yes (PySem.W.kat_nil ⟨rfl, e4.symm⟩)
      · have ei : ¬ i = i' := by simpa using e3
        have e4 : (if x = x' then (if y = y' then (if i = i' then false else decide (i < i')) else decide (y.cps.toList < y'.cps.toList)) else decide (x.cps.toList < x'.cps.toList)) = decide (i < i') := by rw [if_pos ex, if_pos ey, if_neg ei]
        refine PySem.W.kat_no (PySem.W.kat_one _ _ (PyProof.Rows.lt_int ?_))
        exact (show s = s ∧ decide (i < i') = _ from ⟨rfl, e4.symm⟩)
    · have ey : ¬ y = y' := by simpa using e2
      have e4 : (if x = x' then (if y = y' then (if i = i' then false else decide (i < i')) else decide (y.cps.toList < y'.cps.toList)) else decide (x.cps.toList < x'.cps.toList)) = decide (y.cps.toList < y'.cps.toList) := by rw [if_pos ex, if_neg ey]
      refine PySem.W.kat_no (PySem.W.kat_one _ _ (PyProof.Rows.lt_str ?_))
      exact (show s = s ∧ decide (y.cps.toList < y'.cps.toList) = _ from ⟨rfl, e4.symm⟩)
  · have ex : ¬ x = x' := by simpa using e1
    have e4 : (if x = x' then (if y = y' then (if i = i' then false else decide (i < i')) else decide (y.cps.toList < y'.cps.toList)) else decide (x.cps.toList < x'.cps.toList)) = decide (x.cps.toList < x'.cps.toList) := by rw [if_neg ex]
    exact PySem.W.kat_no (oneLt_str ⟨rfl, e4.symm⟩)
theorem dues_firsts {h : Heap} : ∀ {vs : List Value}, (∀ v ∈ vs, ∃ d, IsDue h v d) → ∃ fs : List Value, PySem.W.KatTups h vs fs ∧ fs.length = vs.length ∧ ∀ f ∈ fs, ∃ x t, f = Value.str x t
  | [], _ => ⟨[], PySem.W.KatTups.nil, rfl, fun _ hm => by simp at hm⟩
  | v :: vs, hp => by
    obtain ⟨fs, h1, h2, h3⟩ := dues_firsts (vs := vs) fun v' hm => hp v' (List.mem_cons_of_mem _ hm)
    obtain ⟨⟨x, y, i⟩, a, o, t, u, z, n, e, ho, hc, hd⟩ := hp v (List.mem_cons_self ..)
    subst e
    refine ⟨.str x t :: fs, PySem.W.KatTups.cons ho hc hd rfl h1, by rw [List.length_cons, List.length_cons, h2], fun f hm => ?_⟩
    rcases List.mem_cons.mp hm with rfl | hm
    · exact ⟨x, t, rfl⟩
    · exact h3 f hm
theorem dues_sortable {a : Addr} {vs : List Value} (h0 : 0 < vs.length) (hp : ∀ v ∈ vs, ∃ d, IsDue s.heap v d) (ha : ∀ o, s.heap.get? a = some o → o.cls ≠ .type "tuple") : Srt.Sortable prog w A s a vs := by
  intro h' keep
  have hp' : ∀ v ∈ vs, ∃ d, IsDue h' v d := fun v hm => by
    obtain ⟨d, p⟩ := hp v hm
    exact ⟨d, p.keeps fun b o e c => keep b o (fun z => by subst z; exact ha o e c) e⟩
  obtain ⟨fs, h1, h2, h3⟩ := dues_firsts hp'
  refine ⟨tuples' true, fun Q E hq => ?_, due_tot hp'⟩
  refine PySem.W.kat_kind (T := .type "str") h1 (by omega) (fun f hm => ?_) (by rfl) ?_
  · obtain ⟨x, t, rfl⟩ := h3 f hm
    exact PySem.W.Looks.now
  · have e : (Value.type "str" != Value.type "tuple") = true := by first | decide +kernel | rfl | decide
    rw [e]
    exact hq
theorem sorted_dues {l : Addr} {vs : List Value} {Q : Value → Shared → Prop} (hl : s.heap.IsList l vs.toArray) (hz : vs.length ≤ sizeLine) (hp : ∀ v ∈ vs, ∃ d, IsDue s.heap v d)
    (h : ∀ (h' : Heap) (d : Addr) (out : List Value), out.Perm vs → (∀ b o, s.heap.get? b = some o → h'.get? b = some o) → s.heap.objs.size ≤ d → (∃ n, h'.get? d = some (seqObj "list" out.toArray n)) → Q (.ref d) { s with heap := h' }) :
    wpAny (model prog w) A (call (.builtin "sorted") [.ref l]) Q E s := by
  refine Srt.sorted_any hl hz (fun h2 h₁ a ha k => ?_) fun out ho => ?_
  · refine dues_sortable (s := { s with heap := h₁ }) (by omega) (fun v hm => ?_) fun o e => ?_
    · obtain ⟨d, p⟩ := hp v hm
      exact ⟨d, p.keeps fun b o e _ => (k b o e).2⟩
    · have e' : some o = some (seqObj "list" vs.toArray 0) := e.symm.trans ha
      cases e'
      intro c
      exact absurd (Value.type.inj c) (by decide)
  · exact h _ _ out ho (fun b o e => sortedAll_old e) (Nat.le_succ _) (sortedAll_at s.heap vs out.toArray)
end
end Bb
namespace Bb
open PySem PySem.Spec PyProof.Rows L2
section
variable {X : Cx}
theorem cr_sortedDues : CallR X (.builtin "sorted") (fun vs H Q => ∃ a xs, vs = [V.ref a] ∧ SqL X.K H a xs ∧ (∀ x ∈ xs, ∃ t, ∃ d : Due, x = V.ref t ∧ H t = some (.tup [.str d.1, .str d.2.1, .int d.2.2])) ∧
    ∀ ys p, ys.Perm xs → H p = none → Q (.ref p) (upd H p (.lst ys))) := by
  intro pins s σ H vs us Q I r h
  obtain ⟨a, xs, rfl, hs, hx, q⟩ := h
  obtain ⟨its, rv, hl, hz⟩ := I.list hs
  obtain ⟨u, rfl, ru⟩ := vals1 r
  obtain rfl : u = Value.ref a := ru
  obtain ⟨e1, e2⟩ := refs_back rv fun x m => by
    obtain ⟨t, _, e, _⟩ := hx x m
    exact ⟨t, e⟩
  refine sorted_dues hl.isList (by rw [← rv.length]; exact hz) (fun v hv => ?_) fun h' d out hp k hd hn => ?_
  · obtain ⟨t, rfl⟩ := e2 v hv
    have hm : V.ref t ∈ xs := by rw [e1]; exact List.mem_map.mpr ⟨_, hv, rfl⟩
    obtain ⟨t', d, e, ht⟩ := hx _ hm
    cases e
    obtain ⟨_, its2, r2, o, ho, hc, n, hd⟩ := I.hok _ _ ht
    cases r2 with
    | cons ra r2 =>
      cases r2 with
      | cons rb r2 =>
        cases r2 with
        | cons rc r2 =>
          cases r2
          obtain ⟨t1, rfl⟩ := ra
          obtain ⟨t2, rfl⟩ := rb
          obtain ⟨t3, rfl⟩ := rc
          exact ⟨d, t, o, t1, t2, t3, n, rfl, ho, hc, hd⟩
  · have h3 : ∀ u ∈ out, ∃ a, u = Value.ref a := fun u hu => e2 u (hp.mem_iff.mp hu)
    obtain ⟨n, hn⟩ := hn
    refine ⟨.ref d, upd H d (.lst (out.map backV)), I.laid (t' := s.toks) k hd ⟨?_, out, n, vals_back h3, hn⟩, rfl, q _ d ?_ (I.hok.fresh hd)⟩
    · rw [List.length_map, hp.length_eq, ← rv.length]; exact hz
    · rw [e1]; exact hp.map backV
end
end Bb

namespace Bb
open PySem PySem.Spec PyProof.Rows L2
/-! ### dicts by whole numbers -/
def tabI (f : Nat → Int) (ks : List Nat) : List (Key × V) := ks.map fun k : Nat => ((Sum.inl (k : Int) : Key), V.int (f k))
def addN (ks : List Nat) (k : Nat) : List Nat := if k ∈ ks then ks else ks ++ [k]
theorem mem_addN {ks : List Nat} {k x : Nat} : x ∈ addN ks k ↔ x ∈ ks ∨ x = k := by
  unfold addN
  by_cases h : k ∈ ks
  · rw [if_pos h]
    exact ⟨.inl, fun q => q.elim id fun e => e ▸ h⟩
  · rw [if_neg h, List.mem_append, List.mem_singleton]
theorem nd_addN {ks : List Nat} {k : Nat} (h : ks.Nodup) : (addN ks k).Nodup := by
  unfold addN
  by_cases hk : k ∈ ks
  · rw [if_pos hk]; exact h
  · rw [if_neg hk]; exact nd_snoc h hk
theorem len_addN {ks : List Nat} {k : Nat} : (addN ks k).length ≤ ks.length + 1 := by
  unfold addN
  by_cases hk : k ∈ ks
  · rw [if_pos hk]; omega
  · rw [if_neg hk, List.length_append, List.length_singleton]; omega
theorem inl_inj {a b : Nat} (h : (Sum.inl (a : Int) : Key) = Sum.inl (b : Int)) : a = b := by
  have := Sum.inl.inj h
  omega
theorem valV_tabI {f : Nat → Int} {k : Nat} : ∀ {ks : List Nat}, valV (tabI f ks) (Sum.inl (k : Int) : Key) = if k ∈ ks then some (.int (f k)) else none
  | [] => rfl
  | a :: ks => by
    show valV (((Sum.inl (a : Int) : Key), V.int (f a)) :: tabI f ks) (Sum.inl (k : Int) : Key) = _
    by_cases e : a = k
    · subst e
      rw [valV_pos (p := ((Sum.inl (a : Int) : Key), V.int (f a))) rfl, if_pos List.mem_cons_self]
    · rw [valV_neg (p := ((Sum.inl (a : Int) : Key), V.int (f a))) (fun q => e (inl_inj q)), valV_tabI]
      by_cases h : k ∈ ks
      · rw [if_pos h, if_pos (List.mem_cons_of_mem _ h)]
      · rw [if_neg h, if_neg fun q => (List.mem_cons.mp q).elim (fun z => e z.symm) h]
theorem get_tabI {f : Nat → Int} {k : Nat} {ks : List Nat} : (valV (tabI f ks) (Sum.inl (k : Int) : Key)).getD (.int 0) = .int (if k ∈ ks then f k else 0) := by
  rw [valV_tabI]
  by_cases h : k ∈ ks
  · rw [if_pos h, if_pos h]
    rfl
  · rw [if_neg h, if_neg h]
    rfl
theorem putK_tabI {f : Nat → Int} {ks : List Nat} {k : Nat} {v : Int} : putK (tabI f ks) (Sum.inl (k : Int) : Key) (.int v) = tabI (fun x => if x = k then v else f x) (addN ks k) := by
  unfold addN
  by_cases h : k ∈ ks
  · rw [if_pos h]
    unfold putK
    rw [valV_any, valV_tabI, if_pos h]
    simp only [Option.isSome_some, if_true]
    unfold tabI
    rw [List.map_map]
    refine List.map_congr_left fun x hx => ?_
    show (if (Sum.inl (x : Int) : Key) = Sum.inl (k : Int) then ((Sum.inl (x : Int) : Key), V.int v) else (Sum.inl (x : Int), V.int (f x))) = (Sum.inl (x : Int), V.int (if x = k then v else f x))
    by_cases e : x = k
    · rw [if_pos (by rw [e]), if_pos e]
    · rw [if_neg (fun q => e (inl_inj q)), if_neg e]
  · rw [if_neg h, putK_new _ (by rw [valV_tabI, if_neg h])]
    unfold tabI
    rw [List.map_append]
    refine congr (congrArg _ (List.map_congr_left fun x hx => ?_)) ?_
    · have e : ¬ x = k := fun e => h (e ▸ hx)
      show (Sum.inl (x : Int), V.int (f x)) = (Sum.inl (x : Int), V.int (if x = k then v else f x))
      rw [if_neg e]
    · simp
/-- for k in d, under the lock -/
theorem for_keys {d : Addr} {o : Obj} {kvs : List (Key × V)} {g : TG} {tb : TS} {D : Ends} {σ : L2.St} {H : Hp} (Pv : Nat → L2.St → Hp → Prop) (h0 : Pv 0 σ H) (hl : ∀ i σ H, i ≤ kvs.length → Pv i σ H → H d = some (.frz o (.dK kvs)))
    (hs : ∀ i k v σ H, kvs[i]? = some (k, v) → Pv i σ H → g (kV k) σ H fun σ2 H2 => tb { D with nx := Pv (i + 1), ct := Pv (i + 1), bk := D.nx } σ2 H2) (hd : ∀ σ H, Pv kvs.length σ H → D.nx σ H) :
    ∃ W : Nat → Nat → L2.St → Hp → Prop, (∃ m, W 0 m σ H) ∧ ∀ i m σ H, W i m σ H →
      ((Itk d o kvs).stop i H ∧ D.nx σ H) ∨ ((Itk d o kvs).go i H ∧ ∃ N : L2.St → Hp → Prop, (∀ σ' H', N σ' H' → ∃ m', m' < m ∧ W (i + 1) m' σ' H') ∧ ∀ x H', (Itk d o kvs).yld i H x H' → g x σ H' fun σ2 H2 => tb { D with nx := N, ct := N, bk := D.nx } σ2 H2) := by
  refine ⟨fun i m σ H => m = kvs.length - i ∧ i ≤ kvs.length ∧ Pv i σ H, ⟨kvs.length, by simp, Nat.zero_le _, h0⟩, ?_⟩
  rintro i m σ H ⟨rfl, hi, p⟩
  have q := hl i σ H hi p
  by_cases hlt : i < kvs.length
  · refine .inr ⟨⟨q, hlt⟩, Pv (i + 1), fun σ' H' p' => ⟨kvs.length - (i + 1), by omega, rfl, hlt, p'⟩, fun x H' y => ?_⟩
    obtain ⟨e, k, v, h1, h2⟩ := y
    subst e h2
    exact hs i k v σ H' h1 p
  · have e : i = kvs.length := by omega
    subst e
    exact .inl ⟨⟨q, Nat.le_refl _⟩, hd σ H p⟩
/-! ### the rows of a book -/
def RowOk (names : List Str) (k : Nat) (d : Due) : Prop := (names[k / 26]? = some d.1 ∧ names[k % 26]? = some d.2.1) ∨ (names[k % 26]? = some d.1 ∧ names[k / 26]? = some d.2.1)
structure RowsOk (names : List Str) (ks : List Nat) (B : Book) : Prop where
  ok : ∀ d ∈ B, ∃ k ∈ ks, RowOk names k d
  nd : (B.map key).Nodup
  pos : ∀ d ∈ B, 1 ≤ d.2.2
  len : B.length ≤ ks.length
theorem RowsOk.skip {names : List Str} {ks : List Nat} {B : Book} {k : Nat} (R : RowsOk names ks B) : RowsOk names (ks ++ [k]) B :=
  ⟨fun d hd => let ⟨j, hj, q⟩ := R.ok d hd; ⟨j, List.mem_append_left _ hj, q⟩, R.nd, R.pos, by rw [List.length_append]; exact Nat.le_trans R.len (Nat.le_add_right _ _)⟩
theorem RowsOk.add {names : List Str} {ks : List Nat} {B : Book} {k : Nat} {d : Due} (R : RowsOk names ks B) (hN : names.Nodup) (hk : k ∉ ks) (hlt : k / 26 < k % 26) (hlts : ∀ j ∈ ks, j / 26 < j % 26) (hd : RowOk names k d) (hp : 1 ≤ d.2.2) : RowsOk names (ks ++ [k]) (B ++ [d]) := by
  refine ⟨fun e he => ?_, ?_, fun e he => ?_, ?_⟩
  · rcases List.mem_append.mp he with z | z
    · obtain ⟨j, hj, q⟩ := R.ok e z
      exact ⟨j, List.mem_append_left _ hj, q⟩
    · rw [List.mem_singleton.mp z]
      exact ⟨k, by simp, hd⟩
  · rw [List.map_append]
    refine nd_snoc R.nd fun z => ?_
    obtain ⟨e, he, q⟩ := List.mem_map.mp z
    obtain ⟨j, hj, hr⟩ := R.ok e he
    have q1 : e.1 = d.1 := congrArg (fun p : Str × Str => p.1) q
    have q2 : e.2.1 = d.2.1 := congrArg (fun p : Str × Str => p.2) q
    have hjl := hlts j hj
    unfold RowOk at hr hd
    rw [q1, q2] at hr
    rcases hr with ⟨a1, a2⟩ | ⟨a1, a2⟩ <;> rcases hd with ⟨b1, b2⟩ | ⟨b1, b2⟩
    · have i1 := nd_ix hN a1 b1
      have i2 := nd_ix hN a2 b2
      have : j = k := by omega
      exact hk (this ▸ hj)
    · have i1 := nd_ix hN a1 b1
      have i2 := nd_ix hN a2 b2
      omega
    · have i1 := nd_ix hN a1 b1
      have i2 := nd_ix hN a2 b2
      omega
    · have i1 := nd_ix hN a1 b1
      have i2 := nd_ix hN a2 b2
      have : j = k := by omega
      exact hk (this ▸ hj)
  · rcases List.mem_append.mp he with z | z
    · exact R.pos e z
    · rw [List.mem_singleton.mp z]; exact hp
  · rw [List.length_append, List.length_append, List.length_singleton, List.length_singleton]
    exact Nat.succ_le_succ R.len
theorem paired_perm {α β : Type} {F : α → β → Prop} {l l' : List α} (h : l'.Perm l) : ∀ {m : List β}, Paired F l m → ∃ m', m'.Perm m ∧ Paired F l' m' := by
  induction h with
  | nil => intro m p; exact ⟨m, List.Perm.refl _, p⟩
  | cons x _ ih =>
    intro m p
    cases p with
    | cons a t =>
      obtain ⟨m', h1, h2⟩ := ih t
      exact ⟨_ :: m', h1.cons _, .cons a h2⟩
  | swap x y l =>
    intro m p
    cases p with
    | cons a t =>
      cases t with
      | cons b t => exact ⟨_, List.Perm.swap _ _ _, .cons b (.cons a t)⟩
  | trans _ _ h1 h2 =>
    intro m p
    obtain ⟨m1, a1, b1⟩ := h2 p
    obtain ⟨m2, a2, b2⟩ := h1 b1
    exact ⟨m2, a2.trans a1, b2⟩
/-- v is the tuple of a due that was made here -/
def DueNew (H : Hp) (v : V) (d : Due) : Prop := ∃ t, v = V.ref t ∧ H t = some (.tup [.str d.1, .str d.2.1, .int d.2.2])
section
variable {P : Program} {w : World} {K : PySem.W.Frag} {mg : Str → Option Value} {base : Heap}
def sp_book (K : PySem.W.Frag) : Sp := fun vs H Q _ => ∃ (a n : Addr) (D : List Deed) (ws : List V) (names : List Str), vs = [.ref a, .ref n] ∧ SqL K H a ws ∧ Paired (DeedAt K H) ws D ∧ D.length ≤ 60 ∧ (∀ d ∈ D, DeedOk names.length d) ∧ SqL K H n (names.map V.str) ∧ names.length ≤ 26 ∧ names.Nodup ∧
  ∀ (B : Book) (p : Addr) (H' : Hp), Same H H' → H p = none → NewBook K H' p B → B.length ≤ 60 → (B.map key).Nodup → (∀ d ∈ B, 1 ≤ d.2.2) → (∀ d ∈ B, d.1 ∈ names ∧ d.2.1 ∈ names) → Q (.ref p) H'
abbrev nBook : List Str := ["deeds", "names", "table", "debtor", "creditor", "amount", "one", "other", "more", "rows", "pair"]
theorem scBook : FnScope nBook ["deeds", "names"] (defScope s_law_book) := ⟨rfl, rfl, rfl, by decide +kernel, rfl, by decide +kernel, by decide +kernel⟩
theorem ok_book {f : Addr} {fd : FuncData} (F : Fun K "_law_book" "_law_book" s_law_book f fd) (T : Txt K mg) : FnOk P w K mg base CX0 1 f fd ["deeds", "names"] (sp_book K) := by
  refine F.ok scBook (fun vs H Q E h => ?_) (fun cdv A outer s H vs Q E hr h => ?_)
  · obtain ⟨a, n, D, ws, names, rfl, _⟩ := h
    rfl
  · obtain ⟨a, n, D, ws, names, rfl, hv, hD, hDl, hDok, hnm, hn26, hNnd, q⟩ := h
    have hu := hu_of hr
    refine ⟨_, pss_cons (ps_set (i := 2) scBook.nd rfl (.inl rfl) pe_dnewK)
      (pss_cons (ps_for PassesOwn.never rfl (pi_list (pv 0)) (pg_tup rfl (pgs_cons (pg_name (i := 3) scBook.nd rfl (.inl rfl)) (pgs_cons (pg_name (i := 4) scBook.nd rfl (.inl rfl)) (pgs_cons (pg_name (i := 5) scBook.nd rfl (.inl rfl)) pgs_nil))))
        (pss_cons (ps_set (i := 6) scBook.nd rfl (.inl rfl) (pe_callB (call_min2 rfl) (by rfl) T.b_min (by decide +kernel) (pa_cons (pv 3) (pa_cons (pv 4) pa_nil))))
        (pss_cons (ps_set (i := 7) scBook.nd rfl (.inl rfl) (pe_callB (call_max2 rfl) (by rfl) T.b_max (by decide +kernel) (pa_cons (pv 3) (pa_cons (pv 4) pa_nil))))
        (pss_cons (ps_set (i := 8) scBook.nd rfl (.inl rfl) (pe_op op_mul (pv 5) (pe_op op_sub pe_int (pe_op op_mul pe_int (pe_callTy call_int1 (by rfl) T.b_int (by decide +kernel) (pa_cons (pe_cmpR op_eq (pv 6) (pv 4) (nomark _)) pa_nil))))))
        (pss_one (ps_dput hu (pv 2) (pe_op op_add (pe_op op_mul (pv 6) pe_int) (pv 7)) (pe_op op_add (pe_dget2 hu (pv 2) (pe_op op_add (pe_op op_mul (pv 6) pe_int) (pv 7)) pe_int ⟨rfl, rfl, rfl, rfl⟩) (pv 8)) rfl))))))
      (pss_cons (ps_set (i := 9) scBook.nd rfl (.inl rfl) (pe_lst pa_nil))
      (pss_cons (ps_lock (ps_for PassesOwn.never rfl (pi_keys (pv 2)) (pg_name (i := 10) scBook.nd rfl (.inl rfl))
        (C8.pss_cut (ps_if (pt_cmpR op_gt (pe_dget hu (pv 2) (pv 10) (fun _ _ => rfl)) pe_int (nomark _))
            (pss_one (ps_expr (pe_bm PySem.F.plainAttrs_list PySem.F.slot_list_append PySem.F.type_list_append mt_append (pv 9) (pa_cons
              (pe_tup (pa_cons (pe_ix ix_list (pv 1) (pe_op op_fdiv (pv 10) pe_int) (fun _ _ => rfl)) (pa_cons (pe_ix ix_list (pv 1) (pe_op op_mod (pv 10) pe_int) (fun _ _ => rfl)) (pa_cons (pe_dget hu (pv 2) (pv 10) (fun _ _ => rfl)) pa_nil)))) pa_nil)))) pss_nil)
        (pss_one (ps_if (pt_cmpR op_lt (pe_dget hu (pv 2) (pv 10) (fun _ _ => rfl)) pe_int (nomark _))
            (pss_one (ps_expr (pe_bm PySem.F.plainAttrs_list PySem.F.slot_list_append PySem.F.type_list_append mt_append (pv 9) (pa_cons
              (pe_tup (pa_cons (pe_ix ix_list (pv 1) (pe_op op_mod (pv 10) pe_int) (fun _ _ => rfl)) (pa_cons (pe_ix ix_list (pv 1) (pe_op op_fdiv (pv 10) pe_int) (fun _ _ => rfl)) (pa_cons (pe_un un_neg (pe_dget hu (pv 2) (pv 10) (fun _ _ => rfl))) pa_nil)))) pa_nil)))) pss_nil)))))
      (pss_one (ps_ret (pe_callB cr_sortedDues (by rfl) T.b_sorted (by decide +kernel) (pa_cons (pv 9) pa_nil))))))), ?_⟩
    -- table = {}
    intro Tb hTb
    have s0 : Same H (upd H Tb (.dK [])) := same_upd hTb
    -- for debtor, creditor, amount in deeds
    refine ⟨_, rfl, a, rfl, ⟨ws, s0.seq hv⟩, for_list (K := K) (a := a) (xs := ws) (fun i σ H' => ∃ y3 y4 y5 y6 y7 y8 g ks, σ = [some (.ref a), some (.ref n), some (.ref Tb), y3, y4, y5, y6, y7, y8, none, none] ∧ Same H H' ∧ H' Tb = some (.dK (tabI g ks)) ∧ ks.Nodup ∧ ks.length ≤ i ∧ ∀ k ∈ ks, k / 26 < k % 26 ∧ k % 26 < names.length)
      ⟨none, none, none, none, none, none, fun _ => 0, [], rfl, s0, upd_same, List.nodup_nil, Nat.le_refl _, fun k hk => by cases hk⟩ (fun i σ H' _ ⟨_, _, _, _, _, _, _, _, _, s, _⟩ => s.seq hv) ?_ ?_⟩
    · rintro i x σ H' hi ⟨y3, y4, y5, y6, y7, y8, g, ks, rfl, sm, hd, nd, lk, hks⟩
      obtain ⟨⟨d, c, am⟩, he, t, rfl, ht⟩ := paired_get hD hi
      obtain ⟨hd1, hc1, hne⟩ := hDok _ (List.mem_of_getElem? he)
      have hd1 : d < names.length := hd1
      have hc1 : c < names.length := hc1
      have hne : d ≠ c := hne
      have hil : i < D.length := (List.getElem?_eq_some_iff.mp he).1
      refine ⟨t, _, rfl, Same.tup sm ht, rfl, _, _, rfl, _, _, rfl, _, _, rfl, rfl, ?_⟩
      -- one, other, more
      refine ⟨_, rfl, _, rfl, _, _, rfl, ?_⟩
      have emin : (if ((c : Nat) : Int) < ((d : Nat) : Int) then ((c : Nat) : Int) else ((d : Nat) : Int)) = ((min d c : Nat) : Int) := by split <;> omega
      have emax : (if ((c : Nat) : Int) > ((d : Nat) : Int) then ((c : Nat) : Int) else ((d : Nat) : Int)) = ((max d c : Nat) : Int) := by split <;> omega
      show gName 6 (V.int (if ((c : Nat) : Int) < ((d : Nat) : Int) then ((c : Nat) : Int) else ((d : Nat) : Int))) _ _ _
      rw [emin]
      refine ⟨_, rfl, _, rfl, _, _, rfl, ?_⟩
      show gName 7 (V.int (if ((c : Nat) : Int) > ((d : Nat) : Int) then ((c : Nat) : Int) else ((d : Nat) : Int))) _ _ _
      rw [emax]
      refine ⟨_, rfl, _, rfl, _, rfl, rfl, .inr ⟨_, rfl, _, _, rfl, rfl, .inl ⟨by decide, by decide⟩, _, _, rfl, rfl, _, _, rfl, rfl, .inr ?_, ?_⟩⟩
      · show -(2 ^ 64) < 1 - 2 * (if decide (V.int ((min d c : Nat) : Int) = V.int ((c : Nat) : Int)) = true then (1 : Int) else 0) ∧ 1 - 2 * (if decide (V.int ((min d c : Nat) : Int) = V.int ((c : Nat) : Int)) = true then (1 : Int) else 0) < 2 ^ 64
        split <;> decide
      generalize hmore : am * (1 - 2 * (if decide (V.int ((min d c : Nat) : Int) = V.int ((c : Nat) : Int)) = true then (1 : Int) else 0)) = more
      -- table[one * 26 + other] = ..
      have hkey : ((min d c : Nat) : Int) * 26 + ((max d c : Nat) : Int) = ((min d c * 26 + max d c : Nat) : Int) := by omega
      have hb : -(2 ^ 64) < ((min d c : Nat) : Int) ∧ ((min d c : Nat) : Int) < 2 ^ 64 := by omega
      refine ⟨_, rfl, Tb, rfl, .inl ⟨_, .inl hd⟩, _, rfl, _, _, rfl, rfl, .inl hb, _, rfl, _, _, rfl, rfl, _, DGet.k (k := Sum.inl (((min d c : Nat) : Int) * 26 + ((max d c : Nat) : Int))) hd, ?_⟩
      rw [hkey, get_tabI]
      refine ⟨_, rfl, _, _, rfl, rfl, _, rfl, _, rfl, _, _, rfl, rfl, .inl hb, _, rfl, _, _, rfl, rfl, Tb, _, rfl, DPut.k (k := Sum.inl (((min d c : Nat) : Int) * 26 + ((max d c : Nat) : Int))) hd ?_, ?_⟩
      · unfold tabI
        rw [List.length_map]
        exact small1000 (by omega)
      · rw [hkey]
        refine ⟨_, _, _, _, _, _, (fun x => if x = min d c * 26 + max d c then _ else g x), addN ks (min d c * 26 + max d c), rfl, same_put sm hTb, Eq.trans upd_same (congrArg (fun l => some (HO.dK l)) putK_tabI), nd_addN nd, Nat.le_trans len_addN (Nat.succ_le_succ lk), fun k hk => ?_⟩
        rcases mem_addN.mp hk with z | z
        · exact hks k z
        · subst z
          have h26 : max d c < 26 := by omega
          have hlt : min d c < max d c := by omega
          have hx : max d c < names.length := by omega
          omega
    · rintro σ H1 ⟨y3, y4, y5, y6, y7, y8, g, ks, rfl, s1, hd1, nd, lk, hks⟩
      rw [paired_len hD] at lk
      -- rows = []
      refine ⟨Nat.zero_le _, fun R hR => ?_⟩
      have hR0 := s1.free hR
      have nTR : Tb ≠ R := ne_of_none hd1 hR
      have s2 : Same H (upd H1 R (.lst [])) := s1.trans (same_upd hR)
      have hd2 : (upd H1 R (.lst [])) Tb = some (.dK (tabI g ks)) := by rw [upd_ne nTR]; exact hd1
      -- for pair in table
      refine ⟨Tb, _, hd2, trivial, fun od => ?_⟩
      have hlen : (tabI g ks).length = ks.length := List.length_map _
      refine ⟨_, rfl, Tb, od, rfl, .inl ⟨_, upd_same, for_keys (d := Tb) (o := od) (kvs := tabI g ks) (fun i σ H' => ∃ y10 B vs, σ = [some (.ref a), some (.ref n), some (.ref Tb), y3, y4, y5, y6, y7, y8, some (.ref R), y10] ∧ Same H H' ∧ H' Tb = some (.frz od (.dK (tabI g ks))) ∧ H' R = some (.lst vs) ∧ Paired (DueNew H') vs B ∧ RowsOk names (ks.take i) B)
        ⟨none, [], [], rfl, same_put s2 hTb, upd_same, by rw [upd_ne nTR.symm, upd_same], .nil, ⟨fun d hd => (by cases hd), List.nodup_nil, fun d hd => (by cases hd), Nat.zero_le _⟩⟩ (fun i σ H' _ ⟨_, _, _, _, _, h, _⟩ => h) ?_ ?_⟩⟩
      · rintro i kk v σ H' hi ⟨y10, B, vs, rfl, sm, hfz, hw, hW, RO⟩
        unfold tabI at hi
        rw [List.getElem?_map] at hi
        obtain ⟨k, hk, ekv⟩ := Option.map_eq_some_iff.mp hi
        cases ekv
        have hkin : k ∈ ks := List.mem_of_getElem? hk
        obtain ⟨hk1, hk2⟩ := hks k hkin
        have hnew : k ∉ ks.take i := by
          intro hmem
          obtain ⟨j, hj, e⟩ := List.mem_iff_getElem.mp hmem
          rw [List.length_take] at hj
          have e2 : ks[j]? = some k := by
            rw [List.getElem_take] at e
            rw [List.getElem?_eq_getElem (by omega), e]
          have := nd_ix nd e2 hk
          omega
        have hlts : ∀ j ∈ ks.take i, j / 26 < j % 26 := fun j hj => (hks j (List.take_subset _ _ hj)).1
        have hlenB : vs.length < sizeLine := by
          rw [paired_len hW]
          have l1 := RO.len
          rw [List.length_take] at l1
          exact small1000 (by omega)
        have hget : ∀ H2 : Hp, H2 Tb = some (.frz od (.dK (tabI g ks))) → DGet H2 Tb (.int (k : Int)) (some (.int (g k))) := fun H2 h2 => by
          refine .inl ⟨tabI g ks, Sum.inl (k : Int), .inr ⟨od, h2⟩, rfl, ?_⟩
          rw [valV_tabI, if_pos hkin]
        have hdk : names[k / 26]? = some names[k / 26] := List.getElem?_eq_getElem (by omega)
        have hck : names[k % 26]? = some names[k % 26] := List.getElem?_eq_getElem hk2
        have i1 : ∀ (j : Nat) (z : Str), names[j]? = some z → atI (names.map V.str) (j : Int) = some (.str z) := fun j z hz => atI_nat (by rw [List.getElem?_map, hz]; rfl)
        have ediv : (k : Int) / 26 = ((k / 26 : Nat) : Int) := by omega
        have emod : (k : Int) % 26 = ((k % 26 : Nat) : Int) := by omega
        -- where a row is added
        have addRow : ∀ (Tp : Addr) (x y : Str) (m : Int), H' Tp = none → RowOk names k (x, y, m) → 1 ≤ m → ∃ B vs', Same H (upd (upd H' Tp (.tup [.str x, .str y, .int m])) R (.lst (vs ++ [.ref Tp]))) ∧ (upd (upd H' Tp (.tup [.str x, .str y, .int m])) R (.lst (vs ++ [.ref Tp]))) Tb = some (.frz od (.dK (tabI g ks))) ∧
            (upd (upd H' Tp (.tup [.str x, .str y, .int m])) R (.lst (vs ++ [.ref Tp]))) R = some (.lst vs') ∧ Paired (DueNew (upd (upd H' Tp (.tup [.str x, .str y, .int m])) R (.lst (vs ++ [.ref Tp])))) vs' B ∧ RowsOk names (ks.take (i + 1)) B := by
          intro Tp x y m hT hr hp
          have hRT : R ≠ Tp := ne_of_none hw hT
          refine ⟨B ++ [(x, y, m)], vs ++ [.ref Tp], same_put (sm.trans (same_upd hT)) hR0, by rw [upd_ne nTR, upd_ne (ne_of_none hfz hT)]; exact hfz, upd_same, paired_snoc (paired_imp (fun v d ⟨t, e, ht⟩ => ⟨t, e, by rw [upd_ne (ne_of ht hw (by intro z; cases z)), upd_ne (ne_of_none ht hT)]; exact ht⟩) hW) ⟨Tp, rfl, by rw [upd_ne hRT.symm, upd_same]⟩, ?_⟩
          · rw [take_snoc hk]
            exact RO.add hNnd hnew hk1 hlts hr hp
        -- table[pair] > 0
        refine ⟨fun σ H2 => (σ = [some (.ref a), some (.ref n), some (.ref Tb), y3, y4, y5, y6, y7, y8, some (.ref R), some (.int (k : Int))]) ∧ ((H2 = H' ∧ g k ≤ 0) ∨ (0 < g k ∧ ∃ B vs, Same H H2 ∧ H2 Tb = some (.frz od (.dK (tabI g ks))) ∧ H2 R = some (.lst vs) ∧ Paired (DueNew H2) vs B ∧ RowsOk names (ks.take (i + 1)) B)), ?_, ?_⟩
        · refine ⟨_, rfl, _, rfl, Tb, _, rfl, hget _ hfz, _, _, rfl, rfl, _, rfl, ite2 (fun hgt => ?_) (fun hle => ?_)⟩
          · have hgt' : 0 < g k := of_decide_eq_true hgt
            refine ⟨_, rfl, .inl ⟨rfl, _, .inl (.inl hw)⟩, _, rfl, _, rfl, _, _, rfl, rfl, ⟨by decide, by decide⟩, n, _, _, .str names[k / 26], rfl, rfl, sm.seq hnm, by rw [ediv]; exact i1 _ _ hdk,
              _, rfl, _, rfl, _, _, rfl, rfl, (by show (0 : Int) < 26; decide), n, _, _, .str names[k % 26], rfl, rfl, sm.seq hnm, by rw [emod]; exact i1 _ _ hck, _, rfl, _, rfl, Tb, _, rfl, hget _ hfz, (by show 3 ≤ sizeLine; decide), fun Tp hT => ?_⟩
            refine ⟨R, _, _, rfl, rfl, (by rw [upd_ne (ne_of_none hw hT)]; exact hw), hlenB, rfl, .inr ⟨hgt', ?_⟩⟩
            exact addRow Tp _ _ _ hT (.inl ⟨hdk, hck⟩) (by omega)
          · exact ⟨rfl, .inl ⟨rfl, Int.not_lt.mp fun z => hle (decide_eq_true z)⟩⟩
        · rintro σ' H2 ⟨rfl, ⟨rfl, hle⟩ | ⟨hgt, B2, vs2, sm2, hfz2, hw2, hW2, RO2⟩⟩
          · refine ⟨_, rfl, _, rfl, Tb, _, rfl, hget _ hfz, _, _, rfl, rfl, _, rfl, ite2 (fun hlt => ?_) (fun hge => ?_)⟩
            · have hlt' : g k < 0 := of_decide_eq_true hlt
              refine ⟨_, rfl, .inl ⟨rfl, _, .inl (.inl hw)⟩, _, rfl, _, rfl, _, _, rfl, rfl, (by show (0 : Int) < 26; decide), n, _, _, .str names[k % 26], rfl, rfl, sm.seq hnm, by rw [emod]; exact i1 _ _ hck,
                _, rfl, _, rfl, _, _, rfl, rfl, ⟨by decide, by decide⟩, n, _, _, .str names[k / 26], rfl, rfl, sm.seq hnm, by rw [ediv]; exact i1 _ _ hdk, _, rfl, _, rfl, Tb, _, rfl, hget _ hfz, _, rfl, (by show 3 ≤ sizeLine; decide), fun Tp hT => ?_⟩
              refine ⟨R, _, _, rfl, rfl, (by rw [upd_ne (ne_of_none hw hT)]; exact hw), hlenB, ?_⟩
              obtain ⟨B3, vs3, h1, h2, h3, h4, h5⟩ := addRow Tp _ _ (-(g k)) hT (.inr ⟨hck, hdk⟩) (by omega)
              exact ⟨_, B3, vs3, rfl, h1, h2, h3, h4, h5⟩
            · refine ⟨_, B, vs, rfl, sm, hfz, hw, hW, ?_⟩
              rw [take_snoc hk]
              exact RO.skip
          · refine ⟨_, rfl, _, rfl, Tb, _, rfl, hget _ hfz2, _, _, rfl, rfl, _, rfl, ite2 (fun hlt => ?_) (fun hge => ?_)⟩
            · have hlt' : g k < 0 := of_decide_eq_true hlt
              exact absurd hlt' (by omega)
            · exact ⟨_, B2, vs2, rfl, sm2, hfz2, hw2, hW2, RO2⟩
      · rintro σ H2 ⟨y10, B, vs, rfl, sm, hfz, hw, hW, RO⟩
        rw [hlen, take_all] at RO
        refine ⟨hfz, ?_⟩
        -- return sorted(rows)
        have hW2 : Paired (DueNew (upd H2 Tb (.dK (tabI g ks)))) vs B := paired_imp (fun v d ⟨t, e, ht⟩ => ⟨t, e, by rw [upd_ne (ne_of ht hfz (by intro z; cases z))]; exact ht⟩) hW
        have s3 : Same H (upd H2 Tb (.dK (tabI g ks))) := same_put sm hTb
        refine ⟨_, rfl, R, vs, rfl, .inl (.inl (by rw [upd_ne nTR.symm]; exact hw)), fun x hx => ?_, fun ys p hp np => ?_⟩
        · obtain ⟨j, hj, e⟩ := List.mem_iff_getElem.mp hx
          obtain ⟨d, _, t, e1, ht⟩ := paired_get hW2 (show vs[j]? = some x by rw [List.getElem?_eq_getElem hj, e])
          exact ⟨t, d, e1, ht⟩
        · obtain ⟨B', hB', hW'⟩ := paired_perm hp hW2
          refine q B' p _ (s3.trans (same_upd np)) (s3.free np) ⟨ys, upd_same, ?_⟩ ?_ ?_ ?_ ?_
          · exact paired_imp (fun v d ⟨t, e, ht⟩ => ⟨t, e, .inl (.inl (by rw [upd_ne (ne_of_none ht np)]; exact ht))⟩) hW'
          · have := RO.len
            rw [hB'.length_eq]
            omega
          · exact ((hB'.map key).nodup_iff).mpr RO.nd
          · exact fun d hd => RO.pos d (hB'.mem_iff.mp hd)
          · intro d hd
            obtain ⟨k, _, hr⟩ := RO.ok d (hB'.mem_iff.mp hd)
            rcases hr with ⟨h1, h2⟩ | ⟨h1, h2⟩
            · exact ⟨List.mem_of_getElem? h1, List.mem_of_getElem? h2⟩
            · exact ⟨List.mem_of_getElem? h1, List.mem_of_getElem? h2⟩
end
end Bb

namespace Bb
open PySem PySem.Spec PyProof.Rows L2
theorem or_known {t u : TT} {σ : L2.St} {H : Hp} {Q : Bool → Hp → Prop} {p q : Bool} (h1 : ∀ Q : Bool → Hp → Prop, Q p H → t σ H Q) (h2 : p = false → ∀ Q : Bool → Hp → Prop, Q q H → u σ H Q) (h : Q (p || q) H) : tOr t u σ H Q := by
  refine h1 _ ?_
  cases p with
  | true => exact iteT h
  | false => exact iteF (h2 rfl _ h)
theorem nx_mk {R bk ct : L2.St → Hp → Prop} {rt : VK} {σ : L2.St} {H : Hp} (h : R σ H) : tNext ⟨R, rt, bk, ct⟩ σ H := h
theorem ty_tup {K : PySem.W.Frag} {H : Hp} {t : Addr} {xs : List V} (h : SqT K H t xs) : TyX K H (.ref t) (.type "tuple") := by
  rcases h with (h | ⟨o, h⟩) | ⟨o, its, n, hk, hc, _⟩
  · exact .base (.tup h)
  · exact .fTuple h
  · exact .kTuple hk hc
theorem ty_lst {K : PySem.W.Frag} {H : Hp} {t : Addr} {xs : List V} (h : SqL K H t xs) : TyX K H (.ref t) (.type "list") := by
  rcases h with (h | ⟨o, h⟩) | ⟨o, its, n, hk, hc, _⟩
  · exact .base (.lst h)
  · exact .base (.frz h)
  · exact .kList hk hc
section
variable {P : Program} {w : World} {K : PySem.W.Frag} {mg : Str → Option Value} {base : Heap}
def sp_whole : Sp := fun vs H Q _ => ∃ i : Int, vs = [.int i] ∧ Q (.bl true) H
theorem scWhole : FnScope ["found"] ["found"] (defScope s_law_whole) := ⟨rfl, rfl, rfl, by decide +kernel, rfl, by decide +kernel, by decide +kernel⟩
theorem ok_whole {f : Addr} {fd : FuncData} (F : Fun K "_law_whole" "_law_whole" s_law_whole f fd) (T : Txt K mg) : FnOk P w K mg base CX0 1 f fd ["found"] sp_whole := by
  refine F.ok scWhole (fun vs H Q E h => ?_) (fun cdv A outer s H vs Q E hr h => ?_)
  · obtain ⟨i, rfl, _⟩ := h
    rfl
  · obtain ⟨i, rfl, q⟩ := h
    refine ⟨_, pss_one (ps_ret (pe_and (pe_callB call_isi (by rfl) T.b_isinstance (by decide +kernel) (pa_cons (pv 0) (pa_cons (pe_bltn (v := .ty "int") (u := .type "int") (by rfl) T.b_int (by decide +kernel) rfl) pa_nil)))
      (pe_one (pe_not (pe_callB call_isi (by rfl) T.b_isinstance (by decide +kernel) (pa_cons (pv 0) (pa_cons (pe_bltn (v := .ty "bool") (u := .type "bool") (by rfl) T.b_bool (by decide +kernel) rfl) pa_nil))))))), ?_⟩
    refine ⟨_, rfl, _, _, _, _, true, rfl, .ty _, .base (.int i), kit_ty (by decide +kernel), _, rfl, ?_⟩
    refine iteT ?_
    exact ⟨_, rfl, _, _, _, _, false, rfl, .ty _, .base (.int i), kit_ty (by decide +kernel), _, rfl, q⟩
def sp_dues (K : PySem.W.Frag) : Sp := fun vs H Q _ => ∃ (a : Addr) (B : Book), vs = [.ref a] ∧ BookAt K H a B ∧ (∀ d ∈ B, 1 ≤ d.2.2) ∧ Q (.bl true) H
theorem scDues : FnScope ["rows", "row"] ["rows"] (defScope s_law_dues) := ⟨rfl, rfl, rfl, by decide +kernel, rfl, by decide +kernel, by decide +kernel⟩
theorem ok_dues {f : Addr} {fd : FuncData} (F : Fun K "_law_dues" "_law_dues" s_law_dues f fd) (T : Txt K mg) : FnOk P w K mg base CX0 2 f fd ["rows"] (sp_dues K) := by
  obtain ⟨fW, fdW, FW, bW, gW⟩ := T.d_law_whole
  have GW : FnOk P w K mg base CX0 1 fW fdW ["found"] sp_whole := ok_whole FW T
  refine F.ok scDues (fun vs H Q E h => ?_) (fun cdv A outer s H vs Q E hr h => ?_)
  · obtain ⟨a, B, rfl, _⟩ := h
    rfl
  · obtain ⟨a, B, rfl, ⟨vs, hv, hB⟩, hp, q⟩ := h
    refine ⟨_, pss_cons (ps_if (pt_not (pt_val (pe_callB call_isi (by rfl) T.b_isinstance (by decide +kernel) (pa_cons (pv 0) (pa_cons (pe_bltn (v := .ty "list") (u := .type "list") (by rfl) T.b_list (by decide +kernel) rfl) pa_nil))))) (pss_one (ps_ret pe_bl)) pss_nil)
      (pss_cons (ps_for PassesOwn.never rfl (pi_list (pv 0)) (pg_name (i := 1) scDues.nd rfl (.inl rfl))
        (pss_cons (ps_if (PW.pt (pw_or (pt_not (pt_val (pe_callB call_isi (by rfl) T.b_isinstance (by decide +kernel) (pa_cons (pv 1) (pa_cons (pe_bltn (v := .ty "tuple") (u := .type "tuple") (by rfl) T.b_tuple (by decide +kernel) rfl) pa_nil)))))
            (pw_or (pt_cmpR op_ne (pe_callB call_len_seq (by rfl) T.b_len PySem.boot_len (pa_cons (pv 1) pa_nil)) pe_int (nomark _))
            (pw_or (pt_not (pt_val (pe_callB call_isi (by rfl) T.b_isinstance (by decide +kernel) (pa_cons (pe_ix ix_tup (pv 1) pe_int (fun _ _ => rfl)) (pa_cons (pe_bltn (v := .ty "str") (u := .type "str") (by rfl) T.b_str (by decide +kernel) rfl) pa_nil)))))
            (pw_or1 (pt_not (pt_val (pe_callB call_isi (by rfl) T.b_isinstance (by decide +kernel) (pa_cons (pe_ix ix_tup (pv 1) pe_int (fun _ _ => rfl)) (pa_cons (pe_bltn (v := .ty "str") (u := .type "str") (by rfl) T.b_str (by decide +kernel) rfl) pa_nil)))))))))) (pss_one (ps_ret pe_bl)) pss_nil)
        (pss_one (ps_if (PW.pt (pw_or (pt_not (pt_val (pe_call GW hr (by rfl) gW FW.kp bW .nil pass0 (pa_cons (pe_ix ix_tup (pv 1) pe_int (fun _ _ => rfl)) pa_nil))))
            (pw_or1 (pt_cmpR op_lt (pe_ix ix_tup (pv 1) pe_int (fun _ _ => rfl)) pe_int (nomark _))))) (pss_one (ps_ret pe_bl)) pss_nil))))
      (pss_one (ps_ret pe_bl))), ?_⟩
    refine ⟨_, rfl, _, _, _, _, true, rfl, .ty _, ty_lst hv, kit_ty (by decide +kernel), _, rfl, ?_⟩
    refine iteF ?_
    refine ⟨_, rfl, a, rfl, ⟨vs, hv⟩, for_list (K := K) (a := a) (xs := vs) (fun i σ H' => (∃ y, σ = [some (.ref a), y]) ∧ H' = H) ⟨⟨none, rfl⟩, rfl⟩ (fun i σ H' _ h => h.2 ▸ hv) ?_ ?_⟩
    · rintro i x σ H' hi ⟨⟨y, rfl⟩, rfl⟩
      obtain ⟨e, he, t, rfl, ht⟩ := paired_get hB hi
      have hpe := hp e (List.mem_of_getElem? he)
      refine if_known (p := false) (fun Q q => or_known (p := false) (q := false) (fun Q q => ⟨_, rfl, _, _, _, _, true, rfl, .ty _, ty_tup ht, kit_ty (by decide +kernel), _, rfl, q⟩)
        (fun _ Q q => or_known (p := false) (q := false) (fun Q q => ⟨_, rfl, t, _, rfl, .inr ht, rfl, _, rfl, q⟩)
          (fun _ Q q => or_known (p := false) (q := false) (fun Q q => ⟨_, rfl, t, _, _, _, rfl, rfl, ht, atI_nat (j := 0) rfl, _, _, _, _, true, rfl, .ty _, .base (.str e.1), kit_ty (by decide +kernel), _, rfl, q⟩)
            (fun _ Q q => ⟨_, rfl, t, _, _, _, rfl, rfl, ht, atI_nat (j := 1) rfl, _, _, _, _, true, rfl, .ty _, .base (.str e.2.1), kit_ty (by decide +kernel), _, rfl, q⟩) q) q) q) ?_
      refine iteF ?_
      refine nx_mk ?_
      refine if_known (p := false) (fun Q q => or_known (p := false) (q := false) (fun Q q => ⟨_, rfl, t, _, _, _, rfl, rfl, ht, atI_nat (j := 2) rfl, e.2.2, rfl, _, rfl, q⟩)
        (fun _ Q q => ⟨_, rfl, t, _, _, _, rfl, rfl, ht, atI_nat (j := 2) rfl, e.2.2, 1, rfl, rfl, false, ?_, q⟩) q) ?_
      · exact congrArg V.bl (decide_eq_false (by omega))
      · exact iteF ⟨⟨_, rfl⟩, rfl⟩
    · rintro σ H' ⟨⟨y, rfl⟩, rfl⟩
      exact q
end
end Bb

namespace Bb
open PySem PySem.Spec PyProof.Rows L2
theorem eqv_pair (a b c d : Str) : PyData.eqv (.tuple [.str a, .str b]) (.tuple [.str c, .str d]) = decide ((a, b) = (c, d)) := by
  show (a == c && (b == d && true)) = _
  rw [Bool.and_true]
  by_cases h1 : a = c
  · by_cases h2 : b = d
    · simp [h1, h2]
    · simp [h1, h2]
  · simp [h1]
theorem cut2 (x y z : V) : cutV [x, y, z] none (some 2) = [x, y] := by rfl
theorem not_whole (x y z : V) : ¬ (HT.sIx [x, y, z].length 0 none = 0 ∧ HT.sIx [x, y, z].length [x, y, z].length (some 2) = [x, y, z].length) := fun h => absurd h.2 (by show ¬ HT.sIx 3 3 (some 2) = 3; decide)
theorem head1_drop {k : Str × Str} {cs : Book} {i : Nat} {c : Due} (h : cs[i]? = some c) : head1 k (cs.drop i) = if key c = k then (c.2.2, cs.drop (i + 1)) else (0, cs.drop i) := by
  have hl := (List.getElem?_eq_some_iff.mp h).1
  have e := (List.getElem?_eq_some_iff.mp h).2
  rw [List.drop_eq_getElem_cons hl, e]
  rfl
theorem head1_end {k : Str × Str} {cs : Book} {i : Nat} (h : cs.length ≤ i) : head1 k (cs.drop i) = (0, cs.drop i) := by
  rw [List.drop_of_length_le h]
  rfl
section
variable {P : Program} {w : World} {K : PySem.W.Frag} {mg : Str → Option Value} {base : Heap}
def sp_parted (K : PySem.W.Frag) : Sp := fun vs H Q _ => ∃ (a c l : Addr) (B cs ls : Book), vs = [.ref a, .ref c, .ref l] ∧ BookAt K H a B ∧ BookAt K H c cs ∧ BookAt K H l ls ∧ parted B cs ls = true ∧ ∀ H', Same H H' → Q (.bl true) H'
theorem scParted : FnScope ["book", "cuts", "left", "at", "on", "due", "more"] ["book", "cuts", "left"] (defScope s_law_parted) := ⟨rfl, rfl, rfl, by decide +kernel, rfl, by decide +kernel, by decide +kernel⟩
theorem ok_parted {f : Addr} {fd : FuncData} (F : Fun K "_law_parted" "_law_parted" s_law_parted f fd) (T : Txt K mg) : FnOk P w K mg base CX0 1 f fd ["book", "cuts", "left"] (sp_parted K) := by
  refine F.ok scParted (fun vs H Q E h => ?_) (fun cdv A outer s H vs Q E hr h => ?_)
  · obtain ⟨a, c, l, B, cs, ls, rfl, _⟩ := h
    rfl
  · obtain ⟨a, c, l, B, cs, ls, rfl, ⟨vs, hv, hB⟩, ⟨vc, hc, hC⟩, ⟨vl, hl, hL⟩, hpart, q⟩ := h
    refine ⟨_, pss_cons (ps_set (i := 3) scParted.nd rfl (.inl rfl) pe_int)
      (pss_cons (ps_set (i := 4) scParted.nd rfl (.inl rfl) pe_int)
      (pss_cons (ps_for PassesOwn.never rfl (pi_list (pv 0)) (pg_name (i := 5) scParted.nd rfl (.inl rfl))
        (pss_cons (ps_set (i := 6) scParted.nd rfl (.inl rfl) pe_int)
        (C8.pss_cut (ps_if (PW.pt (pw_and (pt_cmpR op_lt (pv 3) (pe_callB call_len_seq (by rfl) T.b_len PySem.boot_len (pa_cons (pv 1) pa_nil)) (nomark _))
            (pw_and1 (pt_cmpR (op_eqP (hu64 hr)) (pe_slice sl_tup (pe_ix ix_list (pv 1) (pv 3) (fun _ _ => rfl)) po_none (po_some pe_int)) (pe_slice sl_tup (pv 5) po_none (po_some pe_int)) (nomark _)))))
            (pss_cons (ps_set (i := 6) scParted.nd rfl (.inl rfl) (pe_ix ix_tup (pe_ix ix_list (pv 1) (pv 3) (fun _ _ => rfl)) pe_int (fun _ _ => rfl)))
              (pss_one (ps_set (i := 3) scParted.nd rfl (.inl rfl) (pe_op op_add (pv 3) pe_int)))) pss_nil)
        (C8.pss_cut (ps_if (PW.pt (pw_and (pt_cmpR op_lt (pv 4) (pe_callB call_len_seq (by rfl) T.b_len PySem.boot_len (pa_cons (pv 2) pa_nil)) (nomark _))
            (pw_and1 (pt_cmpR (op_eqP (hu64 hr)) (pe_slice sl_tup (pe_ix ix_list (pv 2) (pv 4) (fun _ _ => rfl)) po_none (po_some pe_int)) (pe_slice sl_tup (pv 5) po_none (po_some pe_int)) (nomark _)))))
            (pss_cons (ps_set (i := 6) scParted.nd rfl (.inl rfl) (pe_op op_add (pv 6) (pe_ix ix_tup (pe_ix ix_list (pv 2) (pv 4) (fun _ _ => rfl)) pe_int (fun _ _ => rfl))))
              (pss_one (ps_set (i := 4) scParted.nd rfl (.inl rfl) (pe_op op_add (pv 4) pe_int)))) pss_nil)
        (pss_one (ps_if (pt_cmpR op_ne (pv 6) (pe_ix ix_tup (pv 5) pe_int (fun _ _ => rfl)) (nomark _)) (pss_one (ps_ret pe_bl)) pss_nil))))))
      (pss_one (ps_ret (pe_and (pe_cmpR op_eq (pv 3) (pe_callB call_len_seq (by rfl) T.b_len PySem.boot_len (pa_cons (pv 1) pa_nil)) (nomark _))
        (pe_one (pe_cmpR op_eq (pv 4) (pe_callB call_len_seq (by rfl) T.b_len PySem.boot_len (pa_cons (pv 2) pa_nil)) (nomark _)))))))), ?_⟩
    refine ⟨_, rfl, a, rfl, ⟨vs, hv⟩, for_list (K := K) (a := a) (xs := vs) (fun i σ H' => ∃ (m n : Nat) (y5 y6 : Option V), σ = [some (.ref a), some (.ref c), some (.ref l), some (.int (m : Nat)), some (.int (n : Nat)), y5, y6] ∧ Same H H' ∧ m ≤ cs.length ∧ n ≤ ls.length ∧ parted (B.drop i) (cs.drop m) (ls.drop n) = true)
      ⟨0, 0, none, none, rfl, Same.refl H, Nat.zero_le _, Nat.zero_le _, hpart⟩ (fun i σ H' _ ⟨_, _, _, _, _, s, _⟩ => s.seq hv) ?_ ?_⟩
    · rintro i x σ H' hi ⟨m, n, y5, y6, rfl, sm, hm, hn, hp⟩
      obtain ⟨e, he, t, rfl, ht⟩ := paired_get hB hi
      have hil := (List.getElem?_eq_some_iff.mp he).1
      have hee := (List.getElem?_eq_some_iff.mp he).2
      rw [List.drop_eq_getElem_cons hil, hee] at hp
      have hp2 : (if (head1 (key e) (cs.drop m)).1 + (head1 (key e) (ls.drop n)).1 = e.2.2 then parted (B.drop (i + 1)) (head1 (key e) (cs.drop m)).2 (head1 (key e) (ls.drop n)).2 else false) = true := hp
      -- more = 0; the cuts
      refine ⟨fun σ H2 => ∃ (m' : Nat) (mo : Int), σ = [some (.ref a), some (.ref c), some (.ref l), some (.int (m' : Nat)), some (.int (n : Nat)), some (.ref t), some (.int mo)] ∧ Same H H2 ∧ m' ≤ cs.length ∧ head1 (key e) (cs.drop m) = (mo, cs.drop m'), ?_, ?_⟩
      · refine ⟨_, rfl, .ref c, rfl, c, vc, rfl, .inl (sm.seq hc), _, _, rfl, rfl, _, rfl, ite2 (fun hlt => ?_) (fun hge => ?_)⟩
        · have hlt' : m < vc.length := by
            have := of_decide_eq_true hlt
            omega
          obtain ⟨g, hg, tg, eg, htg⟩ := paired_get hC (List.getElem?_eq_getElem hlt')
          have hgl := (List.getElem?_eq_some_iff.mp hg).1
          have hvc : vc[m]? = some (.ref tg) := by rw [List.getElem?_eq_getElem hlt', eg]
          refine ⟨.ref c, rfl, _, rfl, c, _, _, .ref tg, rfl, rfl, sm.seq hc, atI_nat hvc, _, rfl, tg, _, rfl, Same.tup sm htg, not_whole _ _ _, fun p1 hp1 => ?_⟩
          rw [cut2]
          have s1 := sm.trans (same_upd (o := .tup [.str g.1, .str g.2.1]) hp1)
          refine ⟨.ref t, rfl, _, rfl, t, _, rfl, Same.tup s1 ht, not_whole _ _ _, fun p2 hp2' => ?_⟩
          rw [cut2]
          have s2 := s1.trans (same_upd (o := .tup [.str e.1, .str e.2.1]) hp2')
          refine ⟨_, _, .tup (.inl (.inl ?_)) (.cons (.str g.1) (.cons (.str g.2.1) .nil)), .tup (.inl (.inl upd_same)) (.cons (.str e.1) (.cons (.str e.2.1) .nil)), rfl, rfl, (by show 1 ≤ 64; decide), _, rfl, ?_⟩
          · rw [upd_ne (fun z => by rw [← z, upd_same] at hp2'; cases hp2'), upd_same]
          rw [eqv_pair]
          refine ite2 (fun hk => ?_) (fun hk => ?_)
          · have hk' : key g = key e := of_decide_eq_true hk
            refine ⟨.ref c, rfl, _, rfl, c, _, _, .ref tg, rfl, rfl, s2.seq hc, atI_nat hvc, tg, _, _, _, rfl, rfl, Same.tup s2 htg, atI_nat (j := 2) rfl, ?_⟩
            refine ⟨_, rfl, _, _, rfl, rfl, ?_⟩
            exact ⟨m + 1, g.2.2, rfl, s2, hgl, by rw [head1_drop hg, if_pos hk']⟩
          · have hk' : ¬ key g = key e := fun z => hk (decide_eq_true z)
            exact ⟨m, 0, rfl, s2, hm, by rw [head1_drop hg, if_neg hk']⟩
        · have hge' : cs.length ≤ m := by
            rw [← paired_len hC]
            refine Nat.le_of_not_lt fun z => hge (decide_eq_true ?_)
            omega
          exact ⟨m, 0, rfl, sm, hm, head1_end hge'⟩
      · rintro σ' H2 ⟨m', mo, rfl, s2, hm', hh⟩
        rw [hh] at hp2
        refine ⟨fun σ H3 => ∃ (n' : Nat) (no : Int), σ = [some (.ref a), some (.ref c), some (.ref l), some (.int (m' : Nat)), some (.int (n' : Nat)), some (.ref t), some (.int (mo + no))] ∧ Same H H3 ∧ n' ≤ ls.length ∧ head1 (key e) (ls.drop n) = (no, ls.drop n'), ?_, ?_⟩
        · refine ⟨_, rfl, .ref l, rfl, l, vl, rfl, .inl (s2.seq hl), _, _, rfl, rfl, _, rfl, ite2 (fun hlt => ?_) (fun hge => ?_)⟩
          · have hlt' : n < vl.length := by
              have := of_decide_eq_true hlt
              omega
            obtain ⟨g, hg, tg, eg, htg⟩ := paired_get hL (List.getElem?_eq_getElem hlt')
            have hgl := (List.getElem?_eq_some_iff.mp hg).1
            have hvl : vl[n]? = some (.ref tg) := by rw [List.getElem?_eq_getElem hlt', eg]
            refine ⟨.ref l, rfl, _, rfl, l, _, _, .ref tg, rfl, rfl, s2.seq hl, atI_nat hvl, _, rfl, tg, _, rfl, Same.tup s2 htg, not_whole _ _ _, fun p1 hp1 => ?_⟩
            rw [cut2]
            have s3 := s2.trans (same_upd (o := .tup [.str g.1, .str g.2.1]) hp1)
            refine ⟨.ref t, rfl, _, rfl, t, _, rfl, Same.tup s3 ht, not_whole _ _ _, fun p2 hp2' => ?_⟩
            rw [cut2]
            have s4 := s3.trans (same_upd (o := .tup [.str e.1, .str e.2.1]) hp2')
            refine ⟨_, _, .tup (.inl (.inl ?_)) (.cons (.str g.1) (.cons (.str g.2.1) .nil)), .tup (.inl (.inl upd_same)) (.cons (.str e.1) (.cons (.str e.2.1) .nil)), rfl, rfl, (by show 1 ≤ 64; decide), _, rfl, ?_⟩
            · rw [upd_ne (fun z => by rw [← z, upd_same] at hp2'; cases hp2'), upd_same]
            rw [eqv_pair]
            refine ite2 (fun hk => ?_) (fun hk => ?_)
            · have hk' : key g = key e := of_decide_eq_true hk
              refine ⟨_, rfl, .ref l, rfl, _, rfl, l, _, _, .ref tg, rfl, rfl, s4.seq hl, atI_nat hvl, tg, _, _, _, rfl, rfl, Same.tup s4 htg, atI_nat (j := 2) rfl, _, _, rfl, rfl, ?_⟩
              refine ⟨_, rfl, _, _, rfl, rfl, ?_⟩
              exact ⟨n + 1, g.2.2, rfl, s4, hgl, by rw [head1_drop hg, if_pos hk']⟩
            · have hk' : ¬ key g = key e := fun z => hk (decide_eq_true z)
              exact ⟨n, 0, by rw [Int.add_zero], s4, hn, by rw [head1_drop hg, if_neg hk']⟩
          · have hge' : ls.length ≤ n := by
              rw [← paired_len hL]
              refine Nat.le_of_not_lt fun z => hge (decide_eq_true ?_)
              omega
            exact ⟨n, 0, by rw [Int.add_zero], s2, hn, head1_end hge'⟩
        · rintro σ' H3 ⟨n', no, rfl, s3, hn', hh2⟩
          rw [hh2] at hp2
          have hsum : mo + no = e.2.2 := by
            refine Classical.byContradiction fun z => ?_
            rw [if_neg z] at hp2
            cases hp2
          rw [if_pos hsum] at hp2
          refine ⟨_, rfl, _, rfl, t, _, _, _, rfl, rfl, Same.tup s3 ht, atI_nat (j := 2) rfl, rfl, _, rfl, ?_⟩
          refine iteNS (by rw [hsum]) ?_
          exact ⟨m', n', _, _, rfl, s3, hm', hn', hp2⟩
    · rintro σ H' ⟨m, n, y5, y6, rfl, sm, hm, hn, hp⟩
      rw [paired_len hB, List.drop_length] at hp
      have hp' : ((cs.drop m).isEmpty && (ls.drop n).isEmpty) = true := hp
      rw [Bool.and_eq_true, List.isEmpty_iff, List.isEmpty_iff, List.drop_eq_nil_iff, List.drop_eq_nil_iff] at hp'
      have e1 : m = vc.length := by rw [paired_len hC]; omega
      have e2 : n = vl.length := by rw [paired_len hL]; omega
      refine ⟨_, rfl, .ref c, rfl, c, vc, rfl, .inl (sm.seq hc), rfl, _, rfl, ?_⟩
      rw [decide_eq_true (by rw [e1])]
      refine iteT ?_
      refine ⟨_, rfl, .ref l, rfl, l, vl, rfl, .inl (sm.seq hl), rfl, ?_⟩
      rw [decide_eq_true (by rw [e2])]
      exact q H' sm
end
end Bb

namespace Bb
open PySem PySem.Spec PyProof.Rows L2
theorem net_nil (w : Str) : net ([] : Book) w = 0 := rfl
theorem net_snoc {B : Book} {d : Due} (w : Str) : net (B ++ [d]) w = net B w - (if d.1 = w then d.2.2 else 0) + (if d.2.1 = w then d.2.2 else 0) := by
  unfold net
  rw [List.map_append, List.sum_append]
  show _ + (netD w d + 0) = _
  unfold netD
  omega
theorem addK_in {ks : List Str} {k : Str} (h : k ∈ ks) : addK ks k = ks := by
  unfold addK
  rw [if_pos h]
theorem dget_tab {H : Hp} {D : Addr} {f : Str → V} {ks : List Str} {x : Str} (h : H D = some (.dK (tab f ks))) (hx : x ∈ ks) : DGet H D (.str x) (some (f x)) := by
  have g := DGet.k (k := Sum.inr x) h
  rw [valV_tab, if_pos hx] at g
  exact g
section
variable {P : Program} {w : World} {K : PySem.W.Frag} {mg : Str → Option Value} {base : Heap}
def sp_sums (K : PySem.W.Frag) : Sp := fun vs H Q _ => ∃ (a n : Addr) (B : Book) (names : List Str), vs = [.ref a, .ref n] ∧ BookAt K H a B ∧ SqL K H n (names.map V.str) ∧ names.Nodup ∧ names.length ≤ 64 ∧ (∀ d ∈ B, d.1 ∈ names ∧ d.2.1 ∈ names) ∧
  ∀ (p : Addr) (H' : Hp), Same H H' → H p = none → H' p = some (.dK (tab (fun x => .int (net B x)) names)) → Q (.ref p) H'
theorem scSums : FnScope ["rows", "names", "sums", "name", "row"] ["rows", "names"] (defScope s_law_sums) := ⟨rfl, rfl, rfl, by decide +kernel, rfl, by decide +kernel, by decide +kernel⟩
theorem ok_sums {f : Addr} {fd : FuncData} (F : Fun K "_law_sums" "_law_sums" s_law_sums f fd) : FnOk P w K mg base CX0 1 f fd ["rows", "names"] (sp_sums K) := by
  refine F.ok scSums (fun vs H Q E h => ?_) (fun cdv A outer s H vs Q E hr h => ?_)
  · obtain ⟨a, n, B, names, rfl, _⟩ := h
    rfl
  · obtain ⟨a, n, B, names, rfl, ⟨vs, hv, hB⟩, hnm, hnd, hn64, hin, q⟩ := h
    have hu := hu_of hr
    refine ⟨_, pss_cons (ps_set (i := 2) scSums.nd rfl (.inl rfl) pe_dnewK)
      (pss_cons (ps_for PassesOwn.never rfl (pi_list (pv 1)) (pg_name (i := 3) scSums.nd rfl (.inl rfl)) (pss_one (ps_dput hu (pv 2) (pv 3) pe_int rfl)))
      (pss_cons (ps_for PassesOwn.never rfl (pi_list (pv 0)) (pg_name (i := 4) scSums.nd rfl (.inl rfl))
        (pss_cons (ps_dput hu (pv 2) (pe_ix ix_tup (pv 4) pe_int (fun _ _ => rfl)) (pe_op op_sub (pe_dget hu (pv 2) (pe_ix ix_tup (pv 4) pe_int (fun _ _ => rfl)) (fun _ _ => rfl)) (pe_ix ix_tup (pv 4) pe_int (fun _ _ => rfl))) rfl)
        (pss_one (ps_dput hu (pv 2) (pe_ix ix_tup (pv 4) pe_int (fun _ _ => rfl)) (pe_op op_add (pe_dget hu (pv 2) (pe_ix ix_tup (pv 4) pe_int (fun _ _ => rfl)) (fun _ _ => rfl)) (pe_ix ix_tup (pv 4) pe_int (fun _ _ => rfl))) rfl))))
      (pss_one (ps_ret (pv 2))))), ?_⟩
    intro D hD
    have s0 : Same H (upd H D (.dK [])) := same_upd hD
    refine ⟨_, rfl, n, rfl, ⟨_, s0.seq hnm⟩, for_list (K := K) (a := n) (xs := names.map V.str) (fun i σ H' => ∃ y3, σ = [some (.ref a), some (.ref n), some (.ref D), y3, none] ∧ Same H H' ∧ H' D = some (.dK (tab (fun _ => .int 0) (names.take i))))
      ⟨none, rfl, s0, upd_same⟩ (fun i σ H' _ ⟨_, _, s, _⟩ => s.seq hnm) ?_ ?_⟩
    · rintro i x σ H' hi ⟨y3, rfl, sm, hd⟩
      rw [List.getElem?_map] at hi
      obtain ⟨nm, hn, rfl⟩ := Option.map_eq_some_iff.mp hi
      have hni : nm ∉ names.take i := by
        intro hmem
        obtain ⟨j, hj, e⟩ := List.mem_iff_getElem.mp hmem
        rw [List.length_take] at hj
        have e2 : names[j]? = some nm := by
          rw [List.getElem_take] at e
          rw [List.getElem?_eq_getElem (by omega), e]
        have := nd_ix hnd e2 hn
        omega
      refine ⟨_, rfl, _, rfl, D, _, rfl, DPut.k (k := Sum.inr nm) hd (by rw [tab_len, List.length_take]; exact small1000 (by omega)), ?_⟩
      refine ⟨_, rfl, same_put sm hD, ?_⟩
      rw [upd_same, putK_tab]
      unfold addK
      rw [if_neg hni, ← take_snoc hn]
      refine congrArg (fun l => some (HO.dK l)) (tab_congr fun z _ => ?_)
      by_cases hz : z = nm
      · rw [if_pos hz]
      · rw [if_neg hz]
    · rintro σ H1 ⟨y3, rfl, s1, hd1⟩
      rw [List.length_map, take_all] at hd1
      refine ⟨_, rfl, a, rfl, ⟨vs, s1.seq hv⟩, for_list (K := K) (a := a) (xs := vs) (fun i σ H' => ∃ y4, σ = [some (.ref a), some (.ref n), some (.ref D), y3, y4] ∧ Same H H' ∧ H' D = some (.dK (tab (fun x => .int (net (B.take i) x)) names)))
        ⟨none, rfl, s1, hd1⟩ (fun i σ H' _ ⟨_, _, s, _⟩ => s.seq hv) ?_ ?_⟩
      · rintro i x σ H' hi ⟨y4, rfl, sm, hd⟩
        obtain ⟨e, he, t, rfl, ht⟩ := paired_get hB hi
        obtain ⟨h1, h2⟩ := hin e (List.mem_of_getElem? he)
        have ht1 := Same.tup sm ht
        refine ⟨_, rfl, _, rfl, t, _, _, _, rfl, rfl, ht1, atI_nat (j := 0) rfl, D, _, rfl, dget_tab hd h1, _, rfl, t, _, _, _, rfl, rfl, ht1, atI_nat (j := 2) rfl, _, _, rfl, rfl,
          _, rfl, _, rfl, t, _, _, _, rfl, rfl, ht1, atI_nat (j := 0) rfl, D, _, rfl, DPut.k (k := Sum.inr e.1) hd (by rw [tab_len]; exact small1000 (by omega)), ?_⟩
        rw [putK_tab, addK_in h1]
        have et : tab (fun x => if x = e.1 then V.int (net (B.take i) e.1 - e.2.2) else V.int (net (B.take i) x)) names = tab (fun x => V.int (net (B.take i) x - (if e.1 = x then e.2.2 else 0))) names := by
          refine tab_congr fun z _ => ?_
          by_cases hz : z = e.1
          · rw [if_pos hz, if_pos hz.symm, hz]
          · rw [if_neg hz, if_neg fun q => hz q.symm, Int.sub_zero]
        have hd2 : (upd H' D (.dK (tab (fun x => if x = e.1 then V.int (net (B.take i) e.1 - e.2.2) else V.int (net (B.take i) x)) names))) D = some (.dK (tab (fun x => V.int (net (B.take i) x - (if e.1 = x then e.2.2 else 0))) names)) := by rw [upd_same, et]
        have ht2 : ∀ o, SqT K (upd H' D o) t [.str e.1, .str e.2.1, .int e.2.2] := fun o => sqT_putD ht1 hd
        refine ⟨_, rfl, _, rfl, t, _, _, _, rfl, rfl, ht2 _, atI_nat (j := 1) rfl, D, _, rfl, dget_tab hd2 h2, _, rfl, t, _, _, _, rfl, rfl, ht2 _, atI_nat (j := 2) rfl, _, _, rfl, rfl,
          _, rfl, _, rfl, t, _, _, _, rfl, rfl, ht2 _, atI_nat (j := 1) rfl, D, _, rfl, DPut.k (k := Sum.inr e.2.1) hd2 (by rw [tab_len]; exact small1000 (by omega)), ?_⟩
        refine ⟨_, rfl, same_put (same_put sm hD) hD, ?_⟩
        rw [upd_same, putK_tab, addK_in h2, take_snoc he]
        refine congrArg (fun l => some (HO.dK l)) (tab_congr fun z _ => ?_)
        show (if z = e.2.1 then V.int (net (B.take i) e.2.1 - (if e.1 = e.2.1 then e.2.2 else 0) + e.2.2) else V.int (net (B.take i) z - (if e.1 = z then e.2.2 else 0))) = V.int (net (B.take i ++ [e]) z)
        rw [net_snoc]
        by_cases hz : z = e.2.1
        · rw [if_pos hz, hz, if_pos rfl]
        · have hz2 : ¬ e.2.1 = z := fun q => hz q.symm
          rw [if_neg hz, if_neg hz2, Int.add_zero]
      · rintro σ H2 ⟨y4, rfl, s2, hd2⟩
        rw [paired_len hB, take_all] at hd2
        exact ⟨_, rfl, q D H2 s2 hD hd2⟩
/-! ### _law_goes_up -/
def sp_up (K : PySem.W.Frag) : Sp := fun vs H Q _ => ∃ (a : Addr) (B : Book), vs = [.ref a] ∧ BookAt K H a B ∧ B.length ≤ 1000 ∧ Few B ∧ Acyclic B ∧ ∀ H', Same H H' → Q (.bl true) H'
theorem scUp : FnScope ["left", "rows", "rung", "rank", "who", "place", "due"] ["left"] (defScope s_law_goes_up) := ⟨rfl, rfl, rfl, by decide +kernel, rfl, by decide +kernel, by decide +kernel⟩
theorem ok_up {f : Addr} {fd : FuncData} (F : Fun K "_law_goes_up" "_law_goes_up" s_law_goes_up f fd) (T : Txt K mg) : FnOk P w K mg base CX0 3 f fd ["left"] (sp_up K) := by
  obtain ⟨fR, fdR, FR, bR, gR⟩ := T.d_ranks
  have GR : FnOk P w K mg base CX0 2 fR fdR ["book"] (sp_ranks K) := ok_ranks FR T
  refine F.ok scUp (fun vs H Q E h => ?_) (fun cdv A outer s H vs Q E hr h => ?_)
  · obtain ⟨a, B, rfl, _⟩ := h
    rfl
  · obtain ⟨a, B, rfl, hbook, hlen, hfew, hA, q⟩ := h
    have hu := hu_of hr
    obtain ⟨vs, hv, hB⟩ := id hbook
    obtain ⟨Nm, hNm, hsubN⟩ := id hfew
    refine ⟨_, pss_cons (ps_set (i := 1) scUp.nd rfl (.inl rfl) (pe_lst pa_nil))
      (pss_cons (ps_set (i := 2) scUp.nd rfl (.inl rfl) pe_bl)
      (pss_cons (ps_try_thru0 (pss_one (ps_set (i := 1) scUp.nd rfl (.inl rfl) (pe_call GR hr (by rfl) gR FR.kp bR .nil pass0 (pa_cons (pe_callTy call_list_of (by rfl) T.b_list (by decide +kernel) (pa_cons (pv 0) pa_nil)) pa_nil)))))
      (pss_cons (ps_if (pt_val (pv 2)) (pss_one (ps_ret pe_bl)) pss_nil)
      (pss_cons (ps_set (i := 3) scUp.nd rfl (.inl rfl) pe_dnewK)
      (pss_cons (ps_for PassesOwn.never rfl (pi_list (pv 1)) (pg_tup rfl (pgs_cons (pg_name (i := 4) scUp.nd rfl (.inl rfl)) (pgs_cons (pg_name (i := 5) scUp.nd rfl (.inl rfl)) pgs_nil))) (pss_one (ps_dput hu (pv 3) (pv 4) (pv 5) rfl)))
      (pss_cons (ps_for PassesOwn.never rfl (pi_list (pv 0)) (pg_name (i := 6) scUp.nd rfl (.inl rfl))
        (pss_one (ps_if (PW.pt (pw_or (pt_cmp (pc_dnotin hu (pe_ix ix_tup (pv 6) pe_int (fun _ _ => rfl)) (pv 3))) (pw_or (pt_cmp (pc_dnotin hu (pe_ix ix_tup (pv 6) pe_int (fun _ _ => rfl)) (pv 3)))
            (pw_or1 (pt_cmpR op_ge (pe_dget hu (pv 3) (pe_ix ix_tup (pv 6) pe_int (fun _ _ => rfl)) (fun _ _ => rfl)) (pe_dget hu (pv 3) (pe_ix ix_tup (pv 6) pe_int (fun _ _ => rfl)) (fun _ _ => rfl)) (nomark _)))))) (pss_one (ps_ret pe_bl)) pss_nil)))
      (pss_one (ps_ret pe_bl)))))))), ?_⟩
    -- rows = []; rung = False; rows = ranks(list(left))
    refine ⟨Nat.zero_le _, fun z hz => ?_⟩
    have s0 := same_upd (o := .lst []) hz
    refine ⟨.ref a, rfl, a, vs, rfl, .inl (s0.seq hv), fun l hl => ?_⟩
    have s1 := s0.trans (same_upd (o := .lst vs) hl)
    refine ⟨l, B, rfl, ⟨vs, .inl (.inl upd_same), DuesAt.same s1 hB⟩, hlen, hfew, hA, fun names f p ws H1 s2 hp hN hRk hp1 hW => ?_⟩
    have s3 := s1.trans s2
    have hp0 := s1.free hp
    have hNnd : names.Nodup := up_nd hN.up
    have hNlen : names.length < 64 := Nat.lt_of_le_of_lt (nodup_le hNnd fun x hx => hsubN x ((hN.mem x).mp hx)) hNm
    refine ⟨_, rfl, _, rfl, ?_⟩
    refine iteF ?_
    -- rank = {}
    intro D hD
    have hD0 := s3.free hD
    have s4 : Same H1 (upd H1 D (.dK [])) := same_upd hD
    refine ⟨_, rfl, p, rfl, ⟨ws, .inl (.inl (s4 _ _ hp1))⟩, for_list (K := K) (a := p) (xs := ws) (fun i σ H' => ∃ y4 y5, σ = [some (.ref a), some (.ref p), some (.bl false), some (.ref D), y4, y5, none] ∧ Same H1 H' ∧ H' D = some (.dK (tab (fun x => .int (f x : Nat)) (names.take i))))
      ⟨none, none, rfl, s4, upd_same⟩ (fun i σ H' _ ⟨_, _, _, s, _⟩ => .inl (.inl (s _ _ hp1))) ?_ ?_⟩
    · rintro i x σ H' hi ⟨y4, y5, rfl, sm, hd⟩
      obtain ⟨nm, hn, t, rfl, ht⟩ := paired_get hW hi
      have hni : nm ∉ names.take i := by
        intro hmem
        obtain ⟨j, hj, e⟩ := List.mem_iff_getElem.mp hmem
        rw [List.length_take] at hj
        have e2 : names[j]? = some nm := by
          rw [List.getElem_take] at e
          rw [List.getElem?_eq_getElem (by omega), e]
        have := nd_ix hNnd e2 hn
        omega
      refine ⟨t, _, rfl, Same.tup sm ht, rfl, _, _, rfl, _, _, rfl, rfl, ?_⟩
      refine ⟨_, rfl, _, rfl, _, rfl, D, _, rfl, DPut.k (k := Sum.inr nm) hd (by rw [tab_len, List.length_take]; exact small1000 (by omega)), ?_⟩
      refine ⟨_, _, rfl, same_put sm hD, ?_⟩
      rw [upd_same, putK_tab]
      unfold addK
      rw [if_neg hni, ← take_snoc hn]
      refine congrArg (fun l => some (HO.dK l)) (tab_congr fun z _ => ?_)
      by_cases hz : z = nm
      · rw [if_pos hz, hz]
      · rw [if_neg hz]
    · rintro σ H2 ⟨y4, y5, rfl, sm, hd⟩
      rw [paired_len hW, take_all] at hd
      have s5 := s3.trans sm
      refine ⟨_, rfl, a, rfl, ⟨vs, s5.seq hv⟩, for_list (K := K) (a := a) (xs := vs) (fun i σ H' => (∃ y6, σ = [some (.ref a), some (.ref p), some (.bl false), some (.ref D), y4, y5, y6]) ∧ H' = H2) ⟨⟨_, rfl⟩, rfl⟩ (fun i σ H' _ h => h.2 ▸ s5.seq hv) ?_ ?_⟩
      · rintro i x σ H' hi ⟨⟨y6, rfl⟩, rfl⟩
        obtain ⟨e, he, t, rfl, ht⟩ := paired_get hB hi
        have inB := List.mem_of_getElem? he
        have ht1 := Same.tup s5 ht
        have n1 : e.1 ∈ names := (hN.mem _).mpr ⟨e, inB, .inl rfl⟩
        have n2 : e.2.1 ∈ names := (hN.mem _).mpr ⟨e, inB, .inr rfl⟩
        have hlt := hRk.up e.1 e.2.1 ⟨e.2.2, inB⟩
        refine if_known (p := false) (fun Q q => or_known (p := !decide (e.1 ∈ names)) (q := false) (fun Q q => rd_ixNtab rfl ht1 (atI_nat (j := 0) rfl) rfl hd q)
          (fun _ Q q => or_known (p := !decide (e.2.1 ∈ names)) (q := false) (fun Q q => rd_ixNtab rfl ht1 (atI_nat (j := 1) rfl) rfl hd q)
            (fun _ Q q => ⟨_, rfl, _, rfl, t, _, _, _, rfl, rfl, ht1, atI_nat (j := 0) rfl, D, _, rfl, dget_tab hd n1, _, rfl, _, rfl, t, _, _, _, rfl, rfl, ht1, atI_nat (j := 1) rfl, D, _, rfl, dget_tab hd n2, _, _, rfl, rfl, false, ?_, q⟩) (by rw [decide_eq_true n2]; exact q)) (by rw [decide_eq_true n1]; exact q)) ?_
        · exact congrArg V.bl (decide_eq_false (by omega))
        · exact iteF ⟨⟨_, rfl⟩, rfl⟩
      · rintro σ H' ⟨⟨y6, rfl⟩, rfl⟩
        exact q H' s5
end
end Bb

namespace Bb
open PySem PySem.Spec PyProof.Rows L2
/-- the names of the law, in their turn -/
def NamesL (cell : Int) (ys : List Str) : Prop := ∀ (i : Nat) (x : Str), ys[i]? = some x → NameOk cell i x
theorem NamesL.nd {cell : Int} {ys : List Str} (h : NamesL cell ys) : ys.Nodup := by
  refine List.pairwise_iff_getElem.mpr fun i j hi hj hij => ?_
  exact name_ne (h i _ (List.getElem?_eq_getElem hi)) (h j _ (List.getElem?_eq_getElem hj)) (Nat.ne_of_lt hij)
theorem NamesL.snoc {cell : Int} {ys : List Str} {x : Str} (h : NamesL cell ys) (hx : NameOk cell ys.length x) : NamesL cell (ys ++ [x]) := by
  intro i y hy
  by_cases hi : i < ys.length
  · rw [List.getElem?_append_left hi] at hy
    exact h i y hy
  · rw [List.getElem?_append_right (by omega)] at hy
    have hi2 : i - ys.length < 1 := (List.getElem?_eq_some_iff.mp hy).1
    have e : i = ys.length := by omega
    subst e
    rw [Nat.sub_self] at hy
    have := Option.some.inj hy
    rw [← this]
    exact hx
theorem up_get {l : List Str} (h : l.Pairwise fun x y => sLt x y = true) {i j : Nat} {x y : Str} (hij : i < j) (hx : l[i]? = some x) (hy : l[j]? = some y) : sLt x y = true := by
  obtain ⟨h1, e1⟩ := List.getElem?_eq_some_iff.mp hx
  obtain ⟨h2, e2⟩ := List.getElem?_eq_some_iff.mp hy
  rw [← e1, ← e2]
  exact List.pairwise_iff_getElem.mp h i j h1 h2 hij
/-- the wide book up to a place -/
structure WideB (zs : List Str) (k j : Nat) (B : Book) : Prop where
  back : ∀ d ∈ B, ∃ i i', (i < k ∨ (i = k ∧ i' < j)) ∧ i < i' ∧ zs[i]? = some d.1 ∧ zs[i']? = some d.2.1
  all : ∀ i i' x y, i < i' → (i < k ∨ (i = k ∧ i' < j)) → zs[i]? = some x → zs[i']? = some y → Edge B x y
  nd : (B.map key).Nodup
  pos : ∀ d ∈ B, 1 ≤ d.2.2
  len : B.length ≤ 24 * k + j
theorem WideB.start {zs : List Str} : WideB zs 0 1 [] :=
  ⟨fun d hd => (by cases hd), fun i i' x y h1 h2 _ _ => by omega, List.nodup_nil, fun d hd => (by cases hd), Nat.zero_le _⟩
theorem WideB.row {zs : List Str} {k : Nat} {B : Book} (W : WideB zs k 24 B) (hz : zs.length = 24) : WideB zs (k + 1) (k + 2) B := by
  refine ⟨fun d hd => ?_, fun i i' x y h1 h2 h3 h4 => ?_, W.nd, W.pos, ?_⟩
  · obtain ⟨i, i', h1, h2, h3, h4⟩ := W.back d hd
    exact ⟨i, i', by omega, h2, h3, h4⟩
  · have hl := (List.getElem?_eq_some_iff.mp h4).1
    exact W.all i i' x y h1 (by omega) h3 h4
  · have := W.len
    omega
theorem WideB.add {zs : List Str} {k j : Nat} {B : Book} {x y : Str} {m : Int} (W : WideB zs k j B) (hn : zs.Nodup) (hkj : k < j) (hx : zs[k]? = some x) (hy : zs[j]? = some y) (hm : 1 ≤ m) : WideB zs k (j + 1) (B ++ [(x, y, m)]) := by
  refine ⟨fun d hd => ?_, fun i i' x' y' h1 h2 h3 h4 => ?_, ?_, fun d hd => ?_, ?_⟩
  · rcases List.mem_append.mp hd with z | z
    · obtain ⟨i, i', h1, h2, h3, h4⟩ := W.back d z
      exact ⟨i, i', by omega, h2, h3, h4⟩
    · rw [List.mem_singleton.mp z]
      exact ⟨k, j, by omega, hkj, hx, hy⟩
  · by_cases h : i = k ∧ i' = j
    · obtain ⟨rfl, rfl⟩ := h
      rw [hx] at h3
      rw [hy] at h4
      cases h3
      cases h4
      exact ⟨m, List.mem_append_right _ List.mem_cons_self⟩
    · obtain ⟨mm, hmm⟩ := W.all i i' x' y' h1 (by omega) h3 h4
      exact ⟨mm, List.mem_append_left _ hmm⟩
  · rw [List.map_append]
    refine nd_snoc W.nd fun z => ?_
    obtain ⟨d, hd, e⟩ := List.mem_map.mp z
    obtain ⟨i, i', h1, h2, h3, h4⟩ := W.back d hd
    have e1 : d.1 = x := congrArg (fun p : Str × Str => p.1) e
    have e2 : d.2.1 = y := congrArg (fun p : Str × Str => p.2) e
    rw [e1] at h3
    rw [e2] at h4
    have i1 := nd_ix hn h3 hx
    have i2 := nd_ix hn h4 hy
    omega
  · rcases List.mem_append.mp hd with z | z
    · exact W.pos d z
    · rw [List.mem_singleton.mp z]; exact hm
  · rw [List.length_append, List.length_singleton]
    have := W.len
    omega
theorem WideB.acyc {zs : List Str} {k j : Nat} {B : Book} (W : WideB zs k j B) (hz : zs.Pairwise fun x y => sLt x y = true) : Acyclic B := by
  refine acyclic_up sOrd fun x y ⟨m, hm⟩ => ?_
  obtain ⟨i, i', _, h2, h3, h4⟩ := W.back _ hm
  exact up_get hz h2 h3 h4
theorem WideB.named {zs : List Str} {B : Book} {j : Nat} (W : WideB zs 24 j B) (hl : zs.length = 24) (x : Str) : Named B x ↔ x ∈ zs := by
  constructor
  · rintro ⟨d, hd, e⟩
    obtain ⟨i, i', _, _, h3, h4⟩ := W.back d hd
    rcases e with e | e
    · rw [e]; exact List.mem_of_getElem? h3
    · rw [e]; exact List.mem_of_getElem? h4
  · intro hx
    obtain ⟨i, hi, e⟩ := List.mem_iff_getElem.mp hx
    have hxi : zs[i]? = some x := by rw [List.getElem?_eq_getElem hi, e]
    by_cases h0 : i = 0
    · subst h0
      have h23 : zs[23]? = some zs[23] := List.getElem?_eq_getElem (by omega)
      exact (W.all 0 23 x _ (by omega) (by omega) hxi h23).nl
    · have h00 : zs[0]? = some zs[0] := List.getElem?_eq_getElem (by omega)
      exact (W.all 0 i _ x (by omega) (by omega) h00 hxi).nr
/-! ### data -/
def dDue (d : Due) : PyData := .tuple [.str d.1, .str d.2.1, .int d.2.2]
theorem dp_dues {K : PySem.W.Frag} {H : Hp} : ∀ {vs : List V} {B : Book}, DuesAt K H vs B → DpAll K H vs (B.map dDue)
  | _, _, .nil => .nil
  | _, _, .cons ⟨t, e, ht⟩ r => by
    subst e
    exact .cons (.tup ht (.cons (.str _) (.cons (.str _) (.cons (.int _) .nil)))) (dp_dues r)
theorem plain_dues : ∀ B : Book, PyData.plainAll (B.map dDue) = true
  | [] => rfl
  | d :: B => by
    show (PyData.plain (dDue d) && PyData.plainAll (B.map dDue)) = true
    rw [plain_dues B]
    rfl
theorem depth_dues : ∀ B : Book, PyData.depthAll (B.map dDue) ≤ 1
  | [] => Nat.zero_le _
  | d :: B => by
    show max (PyData.depth (dDue d)) (PyData.depthAll (B.map dDue)) ≤ 1
    have := depth_dues B
    have h : PyData.depth (dDue d) = 1 := rfl
    omega
theorem dp_ints {K : PySem.W.Frag} {H : Hp} : ∀ l : List Int, DpAll K H (l.map V.int) (l.map PyData.int)
  | [] => .nil
  | x :: l => .cons (.int x) (dp_ints l)
theorem plain_ints : ∀ l : List Int, PyData.plainAll (l.map PyData.int) = true
  | [] => rfl
  | x :: l => by
    show (PyData.plain (.int x) && PyData.plainAll (l.map PyData.int)) = true
    rw [plain_ints l]
    rfl
theorem depth_ints : ∀ l : List Int, PyData.depthAll (l.map PyData.int) = 0
  | [] => rfl
  | x :: l => by
    show max (PyData.depth (.int x)) (PyData.depthAll (l.map PyData.int)) = 0
    rw [depth_ints l]
    rfl
section
variable {P : Program} {w : World} {K : PySem.W.Frag} {mg : Str → Option Value} {base : Heap}
def sp_wide (K : PySem.W.Frag) : Sp := fun vs H Q _ => ∃ (a : Addr) (ns : List Int), vs = [.ref a] ∧ SqL K H a (ns.map V.int) ∧ ∀ H', Same H H' → Q (.bl true) H'
abbrev nWide : List Str := ["script", "k", "names", "book", "j", "found", "who", "rank"]
theorem scWide : FnScope nWide ["script"] (defScope s_law_wide_right) := ⟨rfl, rfl, rfl, by decide +kernel, rfl, by decide +kernel, by decide +kernel⟩
theorem ok_wide {f : Addr} {fd : FuncData} (F : Fun K "_law_wide_right" "_law_wide_right" s_law_wide_right f fd) (T : Txt K mg) : FnOk P w K mg base CX0 5 f fd ["script"] (sp_wide K) := by
  obtain ⟨fC, fdC, FC, bC, gC⟩ := T.d_law_cell_at
  have GC : FnOk P w K mg base CX0 1 fC fdC ["script", "k"] (sp_cell K) := ok_cell FC T
  obtain ⟨fM, fdM, FM, bM, gM⟩ := T.d_law_name
  have GM : FnOk P w K mg base CX0 1 fM fdM ["k", "cell"] sp_name := ok_name FM T
  obtain ⟨fR, fdR, FR, bR, gR⟩ := T.d_ranks
  have GR : FnOk P w K mg base CX0 2 fR fdR ["book"] (sp_ranks K) := ok_ranks FR T
  obtain ⟨fL, fdL, FL, bL, gL⟩ := T.d_ringless
  have GL : FnOk P w K mg base CX0 4 fL fdL ["book"] (sp_ringless K) := ok_ringless FL T
  refine F.ok scWide (fun vs H Q E h => ?_) (fun cdv A outer s H vs Q E hr h => ?_)
  · obtain ⟨a, ns, rfl, _⟩ := h
    rfl
  · obtain ⟨a, ns, rfl, hS, q⟩ := h
    have hr1 : Room 1 _ := hr.mono (by decide)
    have hr2 : Room 2 _ := hr.mono (by decide)
    refine ⟨_, pss_cons (ps_set (i := 2) scWide.nd rfl (.inl rfl) (pe_callB cr_sortedS (by rfl) T.b_sorted (by decide +kernel) (pa_cons
          (pe_lc (own := [("k", 1)]) (g := gName 1) (tt := tYes) rfl scWide.nd (pi_range1 (by rfl) T.b_range (pa_cons pe_int pa_nil)) (blkOk_by (N := nWide) (sc := defScope s_law_wide_right) (by decide +kernel))
            (fun _ _ _ _ _ => pg_name (i := 1) scWide.nd rfl (Or.inl rfl)) (fun _ _ _ _ _ => pts_nil)
            (fun _ _ _ _ _ => pe_call GM hr1 (by rfl) gM FM.kp bM .nil pass0 (pa_cons (pv 1) (pa_cons (pe_op op_fdiv (pe_call GC hr1 (by rfl) gC FC.kp bC .nil pass0 (pa_cons (pv 0) (pa_cons pe_int pa_nil))) pe_int) pa_nil)))) pa_nil)))
      (pss_cons (ps_set (i := 3) scWide.nd rfl (.inl rfl) (pe_lst pa_nil))
      (pss_cons (ps_for PassesOwn.never rfl (pi_range1 (by rfl) T.b_range (pa_cons pe_int pa_nil)) (pg_name (i := 1) scWide.nd rfl (.inl rfl))
        (pss_one (ps_for PassesOwn.never rfl (pi_range2 (by rfl) T.b_range (pa_cons (pe_op op_add (pv 1) pe_int) (pa_cons pe_int pa_nil))) (pg_name (i := 4) scWide.nd rfl (.inl rfl))
          (pss_one (ps_expr (pe_bm PySem.F.plainAttrs_list PySem.F.slot_list_append PySem.F.type_list_append mt_append (pv 3) (pa_cons
            (pe_tup (pa_cons (pe_ix ix_list (pv 2) (pv 1) (fun _ _ => rfl)) (pa_cons (pe_ix ix_list (pv 2) (pv 4) (fun _ _ => rfl)) (pa_cons
              (pe_op op_add pe_int (pe_op op_mod (pe_call GC hr1 (by rfl) gC FC.kp bC .nil pass0 (pa_cons (pv 0) (pa_cons (pe_op op_add pe_int (pe_op op_mod (pe_op op_add (pv 1) (pv 4)) pe_int)) pa_nil))) (pe_op op_pow pe_int pe_int))) pa_nil)))) pa_nil)))))))
      (pss_cons (ps_set (i := 5) scWide.nd rfl (.inl rfl) (pe_call GL hr (by rfl) gL FL.kp bL .nil pass0 (pa_cons (pe_callTy call_list_of (by rfl) T.b_list (by decide +kernel) (pa_cons (pv 3) pa_nil)) pa_nil)))
      (pss_one (ps_ret (pe_and (pe_cmpR (op_eqP (hu64 hr)) (pv 5) (pe_tup (pa_cons (pe_lst pa_nil) (pa_cons (pv 3) pa_nil))) (nomark _))
        (pe_one (pe_cmpR (op_eqP (hu64 hr)) (pe_lc (own := [("who", 6), ("rank", 7)]) (g := gTup K 2 (gCons (gName 6) (gCons (gName 7) gNil))) (tt := tYes) (te := tVar 7) rfl scWide.nd
            (pi_list (pe_call GR hr2 (by rfl) gR FR.kp bR .nil pass0 (pa_cons (pe_callTy call_list_of (by rfl) T.b_list (by decide +kernel) (pa_cons (pv 3) pa_nil)) pa_nil))) (blkOk_by (N := nWide) (sc := defScope s_law_wide_right) (by decide +kernel))
            (fun _ _ _ _ _ => pg_tup rfl (pgs_cons (pg_name (i := 6) scWide.nd rfl (Or.inl rfl)) (pgs_cons (pg_name (i := 7) scWide.nd rfl (Or.inl rfl)) pgs_nil))) (fun _ _ _ _ _ => pts_nil) (fun _ _ _ _ _ => pv 7))
          (pe_listRg rfl (by rfl) T.b_list (prg_1 (by rfl) T.b_range pe_int)) (nomark _))))))))), ?_⟩
    -- names = sorted([..])
    refine ⟨24, rfl, by decide, by decide, fun L hL => ?_⟩
    refine lc_range (lo := 0) (n := 24) (fun i H' => Same H H' ∧ ∃ ys : List Str, H' L = some (.lst (ys.map V.str)) ∧ ys.length = i ∧ NamesL (cellA ns 0 / 6) ys)
      ⟨same_upd hL, [], upd_same, rfl, fun i x h => (by simp at h)⟩ ?_ ?_
    · rintro i H2 hi ⟨sm, ys, hl, hlen, hNL⟩
      refine ⟨rfl, rd_yes ?_⟩
      refine iteT ?_
      refine ⟨_, rfl, _, rfl, a, ns, 0, rfl, sm.seq hS, _, _, rfl, rfl, ⟨by decide, by decide⟩, i, cellA ns 0 / 6, ?_, by omega, fun x H3 s3 hx => ?_⟩
      · show [V.int ((0 : Int) + (i : Int)), V.int (cellA ns 0 / 6)] = _
        rw [Int.zero_add]
      · refine ⟨_, s3 _ _ hl, by rw [List.length_map]; exact small1000 (by omega), same_put (sm.trans s3) hL, ys ++ [x], by rw [upd_same, List.map_append]; rfl, by rw [List.length_append, List.length_singleton, hlen], hNL.snoc (by rw [hlen]; exact hx)⟩
    rintro H1 ⟨s1, ys, hl1, hlen1, hNL⟩
    refine ⟨L, ys, rfl, .inl (.inl hl1), by omega, fun zs N hp hs hN => ?_⟩
    have hzup := sorted_up hs (hp.nodup_iff.mpr hNL.nd)
    have hznd := up_nd hzup
    have hz24 : zs.length = 24 := hp.length_eq.trans hlen1
    have s2 : Same H (upd H1 N (.lst (zs.map V.str))) := s1.trans (same_upd hN)
    have hN2 : (upd H1 N (.lst (zs.map V.str))) N = some (.lst (zs.map V.str)) := upd_same
    generalize upd H1 N (.lst (zs.map V.str)) = H2 at s2 hN2
    -- book = []
    refine ⟨Nat.zero_le _, fun G hG => ?_⟩
    have hG0 := s2.free hG
    -- for k in range(24)
    refine ⟨24, rfl, by decide, by decide, for_range (lo := 0) (n := 24) (fun k σ H' => ∃ y1 y4 B vs, σ = [some (.ref a), y1, some (.ref N), some (.ref G), y4, none, none, none] ∧ Same H2 H' ∧ H' G = some (.lst vs) ∧ DuesAt K H' vs B ∧ WideB zs k (k + 1) B)
      ⟨none, none, [], [], rfl, same_upd hG, upd_same, .nil, WideB.start⟩ ?_ ?_⟩
    · rintro k σ H' hk ⟨y1, y4, B, vs, rfl, sm, hw, hW, WB⟩
      refine ⟨_, rfl, _, _, rfl, rfl, _, _, rfl, ⟨by omega, by omega, by omega, by omega⟩, for_range (lo := (0 : Int) + (k : Int) + 1) (n := ((24 : Int) - ((0 : Int) + (k : Int) + 1)).toNat)
        (fun i σ H' => ∃ y4 B vs, σ = [some (.ref a), some (.int ((0 : Int) + (k : Int))), some (.ref N), some (.ref G), y4, none, none, none] ∧ Same H2 H' ∧ H' G = some (.lst vs) ∧ DuesAt K H' vs B ∧ WideB zs k (k + 1 + i) B)
        ⟨y4, B, vs, rfl, sm, hw, hW, WB⟩ ?_ ?_⟩
      · rintro i σ H3 hi ⟨z4, B, vs, rfl, sm, hw, hW, WB⟩
        have hj : k + 1 + i < 24 := by omega
        have hxk : zs[k]? = some zs[k] := List.getElem?_eq_getElem (by omega)
        have hxj : zs[k + 1 + i]? = some zs[k + 1 + i] := List.getElem?_eq_getElem (by omega)
        have i1 : ∀ (j : Nat) (z : Str), zs[j]? = some z → atI (zs.map V.str) (j : Int) = some (.str z) := fun j z hz => atI_nat (by rw [List.getElem?_map, hz]; rfl)
        have e1 : (0 : Int) + (k : Int) = ((k : Nat) : Int) := by omega
        have e2 : (0 : Int) + (k : Int) + 1 + (i : Int) = ((k + 1 + i : Nat) : Int) := by omega
        have sq : SqL K H3 N (zs.map V.str) := .inl (.inl (sm _ _ hN2))
        have hv58 : (0 : Int) < 10 ^ (58 : Int).toNat := by decide
        refine ⟨_, rfl, .inl ⟨rfl, _, .inl (.inl hw)⟩, _, rfl, _, rfl, N, _, _, .str zs[k], rfl, rfl, sq, by rw [e1]; exact i1 _ _ hxk, _, rfl, _, rfl, N, _, _, .str zs[k + 1 + i], rfl, rfl, sq, by rw [e2]; exact i1 _ _ hxj,
          _, rfl, _, rfl, _, rfl, _, _, rfl, rfl, _, _, rfl, rfl, (by show (0 : Int) < 20; decide), _, _, rfl, rfl, a, ns, (2 + ((0 : Int) + (k : Int) + ((0 : Int) + (k : Int) + 1 + (i : Int))) % 20).toNat, ?_, (s2.trans sm).seq hS, _, _, rfl, rfl, ⟨by decide, by decide, by decide⟩, _, _, rfl, rfl, hv58, _, _, rfl, rfl, (by show 3 ≤ sizeLine; decide), fun Tp hT => ?_⟩
        · show [V.ref a, V.int (2 + ((0 : Int) + (k : Int) + ((0 : Int) + (k : Int) + 1 + (i : Int))) % 20)] = _
          rw [Int.toNat_of_nonneg (by omega)]
        · have hwT : ∀ o, (upd H3 Tp o) G = some (.lst vs) := fun o => by rw [upd_ne (ne_of_none hw hT)]; exact hw
          have hlB := WB.len
          refine ⟨G, _, _, rfl, rfl, hwT _, by rw [paired_len hW]; exact small1000 (by omega), _, B ++ [(zs[k], zs[k + 1 + i], 1 + cellA ns (2 + ((0 : Int) + (k : Int) + ((0 : Int) + (k : Int) + 1 + (i : Int))) % 20).toNat % 10 ^ (58 : Int).toNat)], vs ++ [.ref Tp], rfl, same_put (sm.trans (same_upd hT)) hG, upd_same,
            paired_snoc (DuesAt.put (DuesAt.same (same_upd hT) hW) (hwT _)) ⟨Tp, rfl, sqT_put (.inl (.inl upd_same)) (hwT _)⟩, ?_⟩
          refine WB.add hznd (by omega) hxk hxj ?_
          have := Int.emod_nonneg (cellA ns (2 + ((0 : Int) + (k : Int) + ((0 : Int) + (k : Int) + 1 + (i : Int))) % 20).toNat) (show (10 : Int) ^ (58 : Int).toNat ≠ 0 by omega)
          omega
      · rintro σ H3 ⟨z4, B, vs, rfl, sm, hw, hW, WB⟩
        have e : k + 1 + ((24 : Int) - ((0 : Int) + (k : Int) + 1)).toNat = 24 := by omega
        rw [e] at WB
        exact ⟨_, _, B, vs, rfl, sm, hw, hW, WB.row hz24⟩
    · rintro σ H3 ⟨y1, y4, B, vs, rfl, sm, hw, hW, WB⟩
      have hA := WB.acyc hzup
      have hlB := WB.len
      have hfew : Few B := ⟨zs, by omega, fun x hx => (WB.named hz24 x).mp hx⟩
      have s3 := s2.trans sm
      -- found = ringless(list(book))
      refine ⟨.ref G, rfl, G, vs, rfl, .inl (.inl (.inl hw)), fun l hl => ?_⟩
      have sl := same_upd (o := .lst vs) hl
      refine ⟨l, B, rfl, ⟨vs, .inl (.inl upd_same), DuesAt.same sl hW⟩, by omega, hfew, WB.nd, WB.pos, fun LL t c l2 H4 s4 ht hc hl2 hcl ht1 hc1 hl1' cut => ?_⟩
      have eL : LL = B := cut.same hA
      subst eL
      rw [cutsOf_self WB.nd] at hc1
      obtain ⟨vc, hvc, hvc2⟩ := hc1
      cases hvc2
      obtain ⟨vl, hvl, hvl2⟩ := hl1'
      have s5 := sl.trans s4
      have hw4 := s5 _ _ hw
      have hW4 := DuesAt.same s5 hW
      -- found == ([], book)
      refine ⟨_, rfl, Nat.zero_le _, fun z hz => ?_⟩
      have sz := same_upd (o := .lst []) hz
      refine ⟨_, rfl, (by show 2 ≤ sizeLine; decide), fun t2 ht2 => ?_⟩
      have st := same_upd (o := .tup [V.ref z, V.ref G]) ht2
      have s6 := sz.trans st
      have s7 := s5.trans s6
      refine ⟨.tuple [.list [], .list (LL.map dDue)], .tuple [.list [], .list (LL.map dDue)], ?_, ?_, ?_, ?_, ?_, ?_⟩
      · exact .tup (.inl (.inl (s6 _ _ ht1))) (.cons (.lst (.inl (.inl (s6 _ _ hvc))) .nil) (.cons (.lst (.inl (.inl (s6 _ _ hvl))) (dp_dues (DuesAt.same s6 hvl2))) .nil))
      · exact .tup (.inl (.inl upd_same)) (.cons (.lst (.inl (.inl (st _ _ upd_same))) .nil) (.cons (.lst (.inl (.inl (s6 _ _ hw4))) (dp_dues (DuesAt.same s6 hW4))) .nil))
      · show (true && (PyData.plainAll (LL.map dDue) && true)) = true
        rw [plain_dues]
        rfl
      · show (true && (PyData.plainAll (LL.map dDue) && true)) = true
        rw [plain_dues]
        rfl
      · show max (PyData.depthAll [] + 1) (max (PyData.depthAll (LL.map dDue) + 1) 0) + 1 ≤ 64
        have := depth_dues LL
        have h0 : PyData.depthAll [] = 0 := rfl
        omega
      refine ⟨_, rfl, ?_⟩
      rw [SeqAt.eqv_refl_plain _ (by
        show (true && (PyData.plainAll (LL.map dDue) && true)) = true
        rw [plain_dues]
        rfl)]
      refine iteT ?_
      -- [rank for who, rank in ranks(list(book))] == list(range(24))
      have s8 := s3.trans s7
      have hw6 := s6 _ _ hw4
      have hW6 := DuesAt.same s6 hW4
      generalize upd (upd H4 z (.lst [])) t2 (.tup [V.ref z, V.ref G]) = H6 at s8 hw6 hW6
      refine ⟨.ref G, rfl, G, vs, rfl, .inl (.inl (.inl hw6)), fun l3 hl3 => ?_⟩
      have sl3 := same_upd (o := .lst vs) hl3
      refine ⟨l3, LL, rfl, ⟨vs, .inl (.inl upd_same), DuesAt.same sl3 hW6⟩, by omega, hfew, hA, fun names f p ws H7 s9 hp hNm hRk hp1 hW7 => ?_⟩
      have eN : names = zs := up_uniq sOrd hNm.up hzup fun x => (hNm.mem x).trans (WB.named hz24 x)
      subst eN
      refine ⟨p, rfl, ⟨_, .inl (.inl hp1)⟩, fun X hX => ?_⟩
      refine lc_list (K := K) (a := p) (xs := ws) (fun i H' => Same H7 H' ∧ H' X = some (.lst ((names.take i).map fun x => V.int (f x : Nat))))
        ⟨same_upd hX, upd_same⟩ (fun i H' _ h => .inl (.inl (h.1 _ _ hp1))) ?_ ?_
      · rintro i x H' hi ⟨sm', hx⟩
        obtain ⟨nm, hn, t, rfl, ht'⟩ := paired_get hW7 hi
        refine ⟨t, _, rfl, Same.tup sm' ht', rfl, _, _, rfl, _, _, rfl, rfl, rfl, rd_yes ?_⟩
        refine iteT ?_
        refine ⟨_, rfl, _, hx, ?_, same_put sm' hX, ?_⟩
        · rw [List.length_map, List.length_take]
          exact small1000 (by omega)
        · rw [upd_same, take_snoc hn, List.map_append]
          rfl
      · rintro H8 ⟨sm', hx⟩
        rw [paired_len hW7, take_all] at hx
        refine ⟨24, rfl, ⟨by decide, by decide, by decide, by decide, by decide⟩, fun r hr' => ?_⟩
        have hx2 : (upd H8 r (.lst (rgV 0 24))) X = some (.lst (names.map fun x => V.int (f x : Nat))) := by rw [upd_ne (ne_of_none hx hr')]; exact hx
        have e1 : (names.map fun x => V.int (f x : Nat)) = (names.map fun x => ((f x : Nat) : Int)).map V.int := by rw [List.map_map]; rfl
        have e2 : rgV 0 24 = ((List.range 24).map fun i : Nat => (0 : Int) + (i : Int)).map V.int := by
          unfold rgV
          rw [List.map_map]
          rfl
        have e3 : names.map f = List.range' 0 24 := by
          have hpw : (names.map f).Pairwise (· < ·) := by
            refine List.pairwise_map.mpr (List.pairwise_iff_getElem.mpr fun i j hi hj hij => ?_)
            exact hRk.up _ _ (WB.all i j _ _ hij (by omega) (List.getElem?_eq_getElem hi) (List.getElem?_eq_getElem hj))
          have q := up_range (names.map f) 0 hpw fun x hx => by
            obtain ⟨y, hy, e⟩ := List.mem_map.mp hx
            have := hRk.lt y hy
            rw [List.length_map]
            omega
          rw [List.length_map, hz24] at q
          exact q
        have e4 : (names.map fun x => ((f x : Nat) : Int)) = (List.range 24).map fun i : Nat => (0 : Int) + (i : Int) := by
          have : (names.map fun x => ((f x : Nat) : Int)) = (names.map f).map fun n : Nat => (n : Int) := by rw [List.map_map]; rfl
          rw [this, e3]
          decide
        rw [e1, e4] at hx2
        refine ⟨.list (((List.range 24).map fun i : Nat => (0 : Int) + (i : Int)).map PyData.int), .list (((List.range 24).map fun i : Nat => (0 : Int) + (i : Int)).map PyData.int), .lst (.inl (.inl hx2)) (dp_ints _), .lst (.inl (.inl (by rw [upd_same, e2]))) (dp_ints _), plain_ints _, plain_ints _, ?_, ?_⟩
        · show PyData.depthAll (((List.range 24).map fun i : Nat => (0 : Int) + (i : Int)).map PyData.int) + 1 ≤ 64
          rw [depth_ints]
          decide
        · have hpl : PyData.plain (.list (((List.range 24).map fun i : Nat => (0 : Int) + (i : Int)).map PyData.int)) = true := plain_ints _
          rw [SeqAt.eqv_refl_plain _ hpl]
          exact q _ ((((s8.trans sl3).trans s9).trans sm').trans (same_upd hr'))
end
end Bb

namespace Bb
open PySem PySem.Spec PyProof.Rows L2
/-- a test that is known, the heap kept in part -/
theorem if_knownS {c : TT} {t u : TS} {D : Ends} {σ : L2.St} {H : Hp} {p : Bool} {R : Hp → Prop} (h : ∀ Q : Bool → Hp → Prop, (∀ H', R H' → Q p H') → c σ H Q) (k : ∀ H', R H' → if p = true then t D σ H' else u D σ H') : tIfS c t u D σ H := h _ k
theorem asg_seq {rt : VK} {bk ct : L2.St → Hp → Prop} {i : Nat} {x : V} {σ : L2.St} {H : Hp} {t u : TS} {D : Ends} (h : t { D with nx := u D } (σ.set i (some x)) H) : gName i x σ H (Ends.nx ⟨tSeq t u D, rt, bk, ct⟩) := h
theorem next_seq {rt : VK} {bk ct : L2.St → Hp → Prop} {σ : L2.St} {H : Hp} {t u : TS} {D : Ends} (h : t { D with nx := u D } σ H) : tNext ⟨tSeq t u D, rt, bk, ct⟩ σ H := h
/-- the first of an or does not hold -/
theorem or_go {t u : TT} {σ : L2.St} {H : Hp} {Q : Bool → Hp → Prop} (h1 : ∀ Q : Bool → Hp → Prop, Q false H → t σ H Q) (h2 : u σ H Q) : tOr t u σ H Q := h1 _ (iteF h2)
theorem mem_tab {f : Str → V} {p : Key × V} : ∀ {ks : List Str}, p ∈ tab f ks → ∃ k ∈ ks, p = (Sum.inr k, f k) := by
  intro ks h
  obtain ⟨k, hk, e⟩ := List.mem_map.mp h
  exact ⟨k, hk, e.symm⟩
theorem same_tab {f g : Str → Int} {ks : List Str} (h : ∀ k, f k = g k) : ∀ p ∈ tab (fun x => V.int (f x)) ks, valV (tab (fun x => V.int (g x)) ks) p.1 = some p.2 ∧ flatB p.2 = true := by
  intro p hp
  obtain ⟨k, hk, rfl⟩ := mem_tab hp
  refine ⟨?_, rfl⟩
  show valV (tab (fun x => V.int (g x)) ks) (Sum.inr k : Key) = some (V.int (f k))
  rw [valV_tab, if_pos hk, h k]
section
variable {P : Program} {w : World} {K : PySem.W.Frag} {mg : Str → Option Value} {base : Heap}
abbrev lawLevel : Nat := 6
def sp_law (K : PySem.W.Frag) : Sp := fun vs H Q _ => ∃ (a : Addr) (ns : List Int), vs = [.ref a] ∧ SqL K H a (ns.map V.int) ∧ ns.length ≤ 63 ∧ (∀ z ∈ ns, Builtin.Int.intBits z ≤ 1048576) ∧ ∀ H', Q (.bl true) H'
abbrev nLaw : List Str := ["script", "many", "names", "book", "handed", "found", "k"]
theorem scLaw : FnScope nLaw ["script"] (defScope s_law) := ⟨rfl, rfl, rfl, by decide +kernel, rfl, by decide +kernel, by decide +kernel⟩
theorem ok_law {f : Addr} {fd : FuncData} (F : Fun K "law" "law" s_law f fd) (T : Txt K mg) : FnOk P w K mg base CX0 lawLevel f fd ["script"] (sp_law K) := by
  obtain ⟨fC, fdC, FC, bC, gC⟩ := T.d_law_cell_at
  have GC : FnOk P w K mg base CX0 1 fC fdC ["script", "k"] (sp_cell K) := ok_cell FC T
  obtain ⟨fM, fdM, FM, bM, gM⟩ := T.d_law_name
  have GM : FnOk P w K mg base CX0 1 fM fdM ["k", "cell"] sp_name := ok_name FM T
  obtain ⟨fE, fdE, FE, bE, gE⟩ := T.d_law_deeds
  have GE : FnOk P w K mg base CX0 2 fE fdE ["script", "many"] (sp_deeds K) := ok_deeds FE T
  obtain ⟨fB, fdB, FB, bB, gB⟩ := T.d_law_book
  have GB : FnOk P w K mg base CX0 1 fB fdB ["deeds", "names"] (sp_book K) := ok_book FB T
  obtain ⟨fD, fdD, FD, bD, gD⟩ := T.d_law_dues
  have GD : FnOk P w K mg base CX0 2 fD fdD ["rows"] (sp_dues K) := ok_dues FD T
  obtain ⟨fP, fdP, FP, bP, gP⟩ := T.d_law_parted
  have GP : FnOk P w K mg base CX0 1 fP fdP ["book", "cuts", "left"] (sp_parted K) := ok_parted FP T
  obtain ⟨fS, fdS, FS, bS, gS⟩ := T.d_law_sums
  have GS : FnOk P w K mg base CX0 1 fS fdS ["rows", "names"] (sp_sums K) := ok_sums FS
  obtain ⟨fU, fdU, FU, bU, gU⟩ := T.d_law_goes_up
  have GU : FnOk P w K mg base CX0 3 fU fdU ["left"] (sp_up K) := ok_up FU T
  obtain ⟨fW, fdW, FW, bW, gW⟩ := T.d_law_wide_right
  have GW : FnOk P w K mg base CX0 5 fW fdW ["script"] (sp_wide K) := ok_wide FW T
  obtain ⟨fL, fdL, FL, bL, gL⟩ := T.d_ringless
  have GL : FnOk P w K mg base CX0 4 fL fdL ["book"] (sp_ringless K) := ok_ringless FL T
  refine F.ok scLaw (fun vs H Q E h => ?_) (fun cdv A outer s H vs Q E hr h => ?_)
  · obtain ⟨a, ns, rfl, _⟩ := h
    rfl
  · obtain ⟨a, ns, rfl, hS, hlen, hbits, q⟩ := h
    have hr1 : Room 1 _ := hr.mono (by decide)
    have hr2 : Room 2 _ := hr.mono (by decide)
    have hr3 : Room 3 _ := hr.mono (by decide)
    have hr4 : Room 4 _ := hr.mono (by decide)
    refine ⟨_, pss_cons (ps_set (i := 1) scLaw.nd rfl (.inl rfl) (pe_op op_add pe_int (pe_op op_mod (pe_call GC hr1 (by rfl) gC FC.kp bC .nil pass0 (pa_cons (pv 0) (pa_cons pe_int pa_nil))) pe_int)))
      (pss_cons (ps_setLc (i := 2) (own := [("k", 6)]) (g := gName 6) (tt := tYes) rfl scLaw.nd rfl rfl (sw_true rfl rfl rfl (by decide +kernel)) (pi_range1 (by rfl) T.b_range (pa_cons (pv 1) pa_nil)) (blkOk_by (N := nLaw) (sc := defScope s_law) (by decide +kernel))
            (fun _ _ _ _ _ => pg_name (i := 6) scLaw.nd rfl (Or.inl rfl)) (fun _ _ _ _ _ => pts_nil)
            (fun _ _ _ _ _ => pe_call GM hr1 (by rfl) gM FM.kp bM .nil pass0 (pa_cons (pv 6) (pa_cons (pe_op op_fdiv (pe_call GC hr1 (by rfl) gC FC.kp bC .nil pass0 (pa_cons (pv 0) (pa_cons pe_int pa_nil))) pe_int) pa_nil))))
      (pss_cons (ps_set (i := 3) scLaw.nd rfl (.inl rfl) (pe_call GB hr1 (by rfl) gB FB.kp bB .nil pass0 (pa_cons (pe_call GE hr2 (by rfl) gE FE.kp bE .nil pass0 (pa_cons (pv 0) (pa_cons (pv 1) pa_nil))) (pa_cons (pv 2) pa_nil))))
      (pss_cons (ps_set (i := 4) scLaw.nd rfl (.inl rfl) (pe_callTy call_list_of (by rfl) T.b_list (by decide +kernel) (pa_cons (pv 3) pa_nil)))
      (pss_cons (ps_set (i := 5) scLaw.nd rfl (.inl rfl) (pe_call GL hr4 (by rfl) gL FL.kp bL .nil pass0 (pa_cons (pv 4) pa_nil)))
      (pss_cons (ps_if (PW.pt (pw_or (pt_not (pt_val (pe_callB call_isi (by rfl) T.b_isinstance (by decide +kernel) (pa_cons (pv 5) (pa_cons (pe_bltn (v := .ty "tuple") (u := .type "tuple") (by rfl) T.b_tuple (by decide +kernel) rfl) pa_nil)))))
          (pw_or (pt_cmpR op_ne (pe_callB call_len_seq (by rfl) T.b_len PySem.boot_len (pa_cons (pv 5) pa_nil)) pe_int (nomark _))
          (pw_or1 (pt_cmpR (op_neP (hu64 hr)) (pv 4) (pv 3) (nomark _)))))) (pss_one (ps_ret pe_bl)) pss_nil)
      (pss_cons (ps_if (PW.pt (pw_or (pt_not (pt_val (pe_call GD hr2 (by rfl) gD FD.kp bD .nil pass0 (pa_cons (pe_ix ix_tup (pv 5) pe_int (fun _ _ => rfl)) pa_nil))))
          (pw_or (pt_not (pt_val (pe_call GD hr2 (by rfl) gD FD.kp bD .nil pass0 (pa_cons (pe_ix ix_tup (pv 5) pe_int (fun _ _ => rfl)) pa_nil))))
          (pw_or1 (pt_not (pt_val (pe_call GP hr1 (by rfl) gP FP.kp bP .nil pass0 (pa_cons (pv 3) (pa_cons (pe_ix ix_tup (pv 5) pe_int (fun _ _ => rfl)) (pa_cons (pe_ix ix_tup (pv 5) pe_int (fun _ _ => rfl)) pa_nil)))))))))) (pss_one (ps_ret pe_bl)) pss_nil)
      (pss_cons (ps_if (pt_cmpR (op_ne_dictA (Nat.lt_of_succ_lt (hu_of hr))) (pe_call GS hr1 (by rfl) gS FS.kp bS .nil pass0 (pa_cons (pe_ix ix_tup (pv 5) pe_int (fun _ _ => rfl)) (pa_cons (pv 2) pa_nil)))
          (pe_call GS hr1 (by rfl) gS FS.kp bS .nil pass0 (pa_cons (pv 3) (pa_cons (pv 2) pa_nil))) (nomark _)) (pss_one (ps_ret pe_bl)) pss_nil)
      (pss_cons (ps_if (pt_not (pt_val (pe_call GU hr3 (by rfl) gU FU.kp bU .nil pass0 (pa_cons (pe_ix ix_tup (pv 5) pe_int (fun _ _ => rfl)) pa_nil)))) (pss_one (ps_ret pe_bl)) pss_nil)
      (pss_cons (ps_expr (pe_bm PySem.F.plainAttrs_list PySem.F.slot_list_append PySem.F.type_list_append mt_append (pe_ix ix_tup (pv 5) pe_int (fun _ _ => rfl)) (pa_cons
            (pe_tup (pa_cons (pe_ix ix_list (pv 2) pe_int (fun _ _ => rfl)) (pa_cons (pe_ix ix_list (pv 2) pe_int (fun _ _ => rfl)) (pa_cons pe_int pa_nil)))) pa_nil)))
      (pss_cons (ps_if (pt_cmpR (op_neP (hu64 hr)) (pv 4) (pv 3) (nomark _)) (pss_one (ps_ret pe_bl)) pss_nil)
      (pss_one (ps_ret (pe_or (pe_cmpR op_ne (pe_op op_mod (pe_op op_fdiv (pe_call GC hr1 (by rfl) gC FC.kp bC .nil pass0 (pa_cons (pv 0) (pa_cons pe_int pa_nil))) pe_int) pe_int) pe_int (nomark _))
        (pe_one (pe_call GW hr (by rfl) gW FW.kp bW .nil pass0 (pa_cons (pv 0) pa_nil)))))))))))))))), ?_⟩
    -- many
    obtain ⟨many, hm0⟩ : ∃ many : Nat, (3 + cellA ns 0 % 6).toNat = many := ⟨_, rfl⟩
    have hmany : 3 + cellA ns 0 % 6 = (many : Int) := by omega
    have hm3 : 3 ≤ many := by omega
    have hm8 : many ≤ 8 := by omega
    refine ⟨_, rfl, a, ns, 0, rfl, hS, _, _, rfl, rfl, (by show (0 : Int) < 6; decide), _, _, rfl, rfl, ?_⟩
    -- names
    refine ⟨_, rfl, 3 + cellA ns 0 % 6, rfl, by omega, by omega, fun L hL => ?_⟩
    refine lc_range (lo := 0) (n := (3 + cellA ns 0 % 6).toNat) (fun i H' => Same H H' ∧ ∃ ys : List Str, H' L = some (.lst (ys.map V.str)) ∧ ys.length = i ∧ NamesL (cellA ns 0 / 6) ys)
      ⟨same_upd hL, [], upd_same, rfl, fun i x h => (by simp at h)⟩ ?_ ?_
    · rintro i H2 hi ⟨sm, ys, hl, hlen, hNL⟩
      refine ⟨rfl, rd_yes ?_⟩
      refine iteT ?_
      refine ⟨_, rfl, _, rfl, a, ns, 0, rfl, sm.seq hS, _, _, rfl, rfl, ⟨by decide, by decide⟩, i, cellA ns 0 / 6, ?_, by omega, fun x H3 s3 hx => ?_⟩
      · show [V.int ((0 : Int) + (i : Int)), V.int (cellA ns 0 / 6)] = _
        rw [Int.zero_add]
      · refine ⟨_, s3 _ _ hl, by rw [List.length_map]; exact small1000 (by omega), same_put (sm.trans s3) hL, ys ++ [x], by rw [upd_same, List.map_append]; rfl, by rw [List.length_append, List.length_singleton, hlen], hNL.snoc (by rw [hlen]; exact hx)⟩
    rintro H1 ⟨s1, names, hl1, hlen1, hNL⟩
    have hnd := hNL.nd
    -- book
    refine ⟨_, rfl, _, rfl, a, ns, many, by rw [← hmany]; rfl, s1.seq hS, hm3, hm8, hbits, fun D pd ws H2 s2 hpd hpd2 hW hDl hDk => ?_⟩
    have s12 := s1.trans s2
    refine ⟨_, rfl, pd, L, D, ws, names, rfl, .inl (.inl hpd2), hW, hDl, by rw [hlen1, hm0]; exact hDk, .inl (.inl (s2 _ _ hl1)), by omega, hnd, fun B pb H3 s3 hpb hB hBl hBk hBp hBn => ?_⟩
    have s13 := s12.trans s3
    have hN3 := s3 _ _ (s2 _ _ hl1)
    obtain ⟨vs, hvb, hvs⟩ := hB
    have hfew : Few B := ⟨names, by omega, fun x hx => by
      obtain ⟨d, hd, e⟩ := hx
      rcases e with e | e
      · rw [e]; exact (hBn d hd).1
      · rw [e]; exact (hBn d hd).2⟩
    -- handed
    refine ⟨_, rfl, pb, vs, rfl, .inl (.inl (.inl hvb)), fun hd hhd => ?_⟩
    have sh := same_upd (o := .lst vs) hhd
    have hd4 : (upd H3 hd (.lst vs)) hd = some (.lst vs) := upd_same
    have s14 := s13.trans sh
    have hN4 := sh _ _ hN3
    have hvb4 := sh _ _ hvb
    have hvs4 := DuesAt.same sh hvs
    generalize upd H3 hd (.lst vs) = H4 at hd4 s14 hN4 hvb4 hvs4
    -- found
    refine ⟨_, rfl, hd, B, rfl, ⟨vs, .inl (.inl hd4), hvs4⟩, by omega, hfew, hBk, hBp, fun M t c l H5 s5 ht hc hl hcl ht5 hc5 hl5 cut => ?_⟩
    have hMlen := cut.less.len
    have hMfew : Few M := ⟨names, by omega, fun x hx => by
      obtain ⟨d, hd, e⟩ := cut.less.named hx
      rcases e with e | e
      · rw [e]; exact (hBn d hd).1
      · rw [e]; exact (hBn d hd).2⟩
    have hMn : ∀ d ∈ M, d.1 ∈ names ∧ d.2.1 ∈ names := fun d hd => by
      obtain ⟨m, hm⟩ := cut.less.edge (⟨d.2.2, hd⟩ : Edge M d.1 d.2.1)
      exact hBn (d.1, d.2.1, m) hm
    have hpl : PyData.plain (.list (B.map dDue)) = true := plain_dues B
    have hdep : PyData.depth (.list (B.map dDue)) ≤ 64 := by
      show PyData.depthAll (B.map dDue) + 1 ≤ 64
      have := depth_dues B
      omega
    have hdiff : ∀ {H' : Hp}, Same H4 H' → ∀ Q : Bool → Hp → Prop, Q false H' → ∃ d e, Dp K H' (.ref hd) d ∧ Dp K H' (.ref pb) e ∧ d.plain = true ∧ e.plain = true ∧ d.depth ≤ 64 ∧ ∃ b, V.bl (!PyData.eqv d e) = .bl b ∧ Q b H' := by
      intro H' s' Q h
      refine ⟨.list (B.map dDue), .list (B.map dDue), .lst (.inl (.inl (s' _ _ hd4))) (dp_dues (DuesAt.same s' hvs4)), .lst (.inl (.inl (s' _ _ hvb4))) (dp_dues (DuesAt.same s' hvs4)), hpl, hpl, hdep, false, ?_, h⟩
      rw [SeqAt.eqv_refl_plain _ hpl]
      rfl
    -- a tuple of two, the handed book as it was
    refine asg_seq ?_
    refine if_known (p := false) (fun Q q => or_known (p := false) (q := false) (fun Q q => ⟨_, rfl, _, _, _, _, true, rfl, .ty _, ty_tup (.inl (.inl ht5)), kit_ty (by decide +kernel), _, rfl, q⟩)
        (fun _ Q q => or_known (p := false) (q := false) (fun Q q => ⟨_, rfl, t, _, rfl, .inr (.inl (.inl ht5)), rfl, _, rfl, q⟩)
          (fun _ Q q => ⟨_, rfl, _, rfl, hdiff s5 Q q⟩) q) q) ?_
    refine iteF ?_
    refine next_seq ?_
    -- dues all, each parted
    refine if_knownS (p := false) (R := Same H5) (fun Q q => or_go (fun Q q => ⟨_, rfl, t, _, _, _, rfl, rfl, .inl (.inl ht5), atI_nat (j := 0) rfl, c, _, rfl, hc5.book, cutsOf_pos, _, rfl, q⟩)
        (or_go (fun Q q => ⟨_, rfl, t, _, _, _, rfl, rfl, .inl (.inl ht5), atI_nat (j := 1) rfl, l, _, rfl, hl5.book, cut.less.pos, _, rfl, q⟩)
          ⟨_, rfl, _, rfl, t, _, _, _, rfl, rfl, .inl (.inl ht5), atI_nat (j := 0) rfl, _, rfl, t, _, _, _, rfl, rfl, .inl (.inl ht5), atI_nat (j := 1) rfl, pb, c, l, B, cutsOf B M, M, rfl, ⟨vs, .inl (.inl (s5 _ _ hvb4)), DuesAt.same s5 hvs4⟩, hc5.book, hl5.book, parted_ok cut.less hBk hBp (fun _ _ => rfl), fun H' s' => ⟨_, rfl, q H' s'⟩⟩)) fun H6 s6 => ?_
    refine iteF ?_
    refine next_seq ?_
    have h6 : Same H4 H6 := s5.trans s6
    have t6 := s6 _ _ ht5
    have l6 := hl5.same s6
    -- the sums
    refine ⟨_, rfl, t, _, _, _, rfl, rfl, .inl (.inl t6), atI_nat (j := 1) rfl, _, rfl, l, L, M, names, rfl, l6.book, .inl (.inl (h6 _ _ hN4)), hnd, by omega, hMn, fun p1 H7 s7 hp1 hp17 => ?_⟩
    have h7 := h6.trans s7
    refine ⟨_, rfl, _, rfl, pb, L, B, names, rfl, ⟨vs, .inl (.inl (h7 _ _ hvb4)), DuesAt.same h7 hvs4⟩, .inl (.inl (h7 _ _ hN4)), hnd, by omega, hBn, fun p2 H8 s8 hp2 hp28 => ?_⟩
    refine ⟨p1, p2, _, _, rfl, rfl, s8 _ _ hp17, hp28, by rw [tab_len, tab_len], same_tab cut.net, false, rfl, ?_⟩
    refine iteF ?_
    refine next_seq ?_
    have h8 := h7.trans s8
    have t8 := s8 _ _ (s7 _ _ t6)
    have l8 := (l6.same s7).same s8
    -- the dues left go up
    refine if_knownS (p := false) (R := Same H8) (fun Q q => ⟨_, rfl, t, _, _, _, rfl, rfl, .inl (.inl t8), atI_nat (j := 1) rfl, l, M, rfl, l8.book, by omega, hMfew, cut.acyc, fun H' s' => ⟨_, rfl, q H' s'⟩⟩) fun H9 s9 => ?_
    refine iteF ?_
    refine next_seq ?_
    have h9 := h8.trans s9
    have t9 := s9 _ _ t8
    obtain ⟨vl, hvl, hvls⟩ := l8.same s9
    -- found[1].append(..)
    have hn0 : names[0]? = some names[0] := List.getElem?_eq_getElem (by omega)
    have hn1 : names[1]? = some names[1] := List.getElem?_eq_getElem (by omega)
    have i1 : ∀ (j : Nat) (z : Str), names[j]? = some z → atI (names.map V.str) (j : Int) = some (.str z) := fun j z hz => atI_nat (by rw [List.getElem?_map, hz]; rfl)
    have sq9 : SqL K H9 L (names.map V.str) := .inl (.inl (h9 _ _ hN4))
    refine ⟨_, rfl, t, _, _, _, rfl, rfl, .inl (.inl t9), atI_nat (j := 1) rfl, .inl ⟨rfl, _, .inl (.inl hvl)⟩, _, rfl, L, _, _, .str names[0], rfl, rfl, sq9, i1 0 _ hn0, _, rfl, L, _, _, .str names[1], rfl, rfl, sq9, i1 1 _ hn1, (by show 3 ≤ sizeLine; decide), fun Tp hT => ?_⟩
    have hvT : ∀ o, (upd H9 Tp o) l = some (.lst vl) := fun o => by rw [upd_ne (ne_of_none hvl hT)]; exact hvl
    refine ⟨l, _, _, rfl, rfl, hvT _, by rw [paired_len hvls]; exact small1000 (by omega), ?_⟩
    have hA : Same H4 (upd (upd H9 Tp (.tup [.str names[0], .str names[1], .int 1])) l (.lst (vl ++ [.ref Tp]))) := same_put (h9.trans (same_upd hT)) hl
    generalize upd (upd H9 Tp (.tup [.str names[0], .str names[1], .int 1])) l (.lst (vl ++ [.ref Tp])) = H10 at hA
    refine next_seq ?_
    refine if_known (p := false) (fun Q q => ⟨_, rfl, _, rfl, hdiff hA Q q⟩) ?_
    refine iteF ?_
    refine nx_mk ?_
    have sa := (s14.trans hA).seq hS
    refine ⟨_, rfl, a, ns, 0, rfl, sa, _, _, rfl, rfl, ⟨by decide, by decide⟩, _, _, rfl, rfl, (by show (0 : Int) < 8; decide), rfl, ?_⟩
    exact ⟨_, rfl, ite2 (fun _ => q _) fun _ => ⟨_, rfl, a, ns, rfl, sa, fun H' _ => q H'⟩⟩
end
end Bb

namespace Bb
open PySem PySem.Spec PyProof.Rows L2
theorem all_mk {l : PySem.W.OpenLaw} {w : World} {K : PySem.W.Frag} {h : Heap} {mg : Str → Option Value} {fa : Addr} (X : K.In h) (G : h.Ns mainGlobals mg) (hfa : mg "law" = some (.ref fa))
    {f1 : Addr} {od1 an1 : Option Addr} {sl1 : Array (Option Value)} {oc1 kV1 dc1 pm1 cd1 ct1 : Value}
    {f2 : Addr} {od2 an2 : Option Addr} {sl2 : Array (Option Value)} {oc2 kV2 dc2 pm2 cd2 ct2 : Value}
    {f3 : Addr} {od3 an3 : Option Addr} {sl3 : Array (Option Value)} {oc3 kV3 dc3 pm3 cd3 ct3 : Value}
    {f4 : Addr} {od4 an4 : Option Addr} {sl4 : Array (Option Value)} {oc4 kV4 dc4 pm4 cd4 ct4 : Value}
    {f5 : Addr} {od5 an5 : Option Addr} {sl5 : Array (Option Value)} {oc5 kV5 dc5 pm5 cd5 ct5 : Value}
    {f6 : Addr} {od6 an6 : Option Addr} {sl6 : Array (Option Value)} {oc6 kV6 dc6 pm6 cd6 ct6 : Value}
    {f7 : Addr} {od7 an7 : Option Addr} {sl7 : Array (Option Value)} {oc7 kV7 dc7 pm7 cd7 ct7 : Value}
    {f8 : Addr} {od8 an8 : Option Addr} {sl8 : Array (Option Value)} {oc8 kV8 dc8 pm8 cd8 ct8 : Value}
    {f9 : Addr} {od9 an9 : Option Addr} {sl9 : Array (Option Value)} {oc9 kV9 dc9 pm9 cd9 ct9 : Value}
    {f10 : Addr} {od10 an10 : Option Addr} {sl10 : Array (Option Value)} {oc10 kV10 dc10 pm10 cd10 ct10 : Value}
    {f11 : Addr} {od11 an11 : Option Addr} {sl11 : Array (Option Value)} {oc11 kV11 dc11 pm11 cd11 ct11 : Value}
    {f12 : Addr} {od12 an12 : Option Addr} {sl12 : Array (Option Value)} {oc12 kV12 dc12 pm12 cd12 ct12 : Value}
    {f13 : Addr} {od13 an13 : Option Addr} {sl13 : Array (Option Value)} {oc13 kV13 dc13 pm13 cd13 ct13 : Value}
    {f14 : Addr} {od14 an14 : Option Addr} {sl14 : Array (Option Value)} {oc14 kV14 dc14 pm14 cd14 ct14 : Value}
    {f15 : Addr} {od15 an15 : Option Addr} {sl15 : Array (Option Value)} {oc15 kV15 dc15 pm15 cd15 ct15 : Value}
    {f16 : Addr} {od16 an16 : Option Addr} {sl16 : Array (Option Value)} {oc16 kV16 dc16 pm16 cd16 ct16 : Value}
    {f17 : Addr} {od17 an17 : Option Addr} {sl17 : Array (Option Value)} {oc17 kV17 dc17 pm17 cd17 ct17 : Value}
    {f18 : Addr} {od18 an18 : Option Addr} {sl18 : Array (Option Value)} {oc18 kV18 dc18 pm18 cd18 ct18 : Value}
    {f19 : Addr} {od19 an19 : Option Addr} {sl19 : Array (Option Value)} {oc19 kV19 dc19 pm19 cd19 ct19 : Value}
    {f20 : Addr} {od20 an20 : Option Addr} {sl20 : Array (Option Value)} {oc20 kV20 dc20 pm20 cd20 ct20 : Value}
    (a1 : PySem.W.nsIn K mainGlobals "names_of" = some (some (.ref f1))) (l1 : K.lookup f1 = some ⟨oc1, od1, .func (PySem.W.fnOf "names_of" "names_of" (defArgs s_names_of) (defBody s_names_of) (defScope s_names_of) .none kV1 dc1 pm1 an1 cd1 ct1), sl1⟩) (c1 : PySem.W.codeIn K cd1 "names_of" = true) (k1 : PySem.W.keepIn K (.ref f1) = true)
    (a2 : PySem.W.nsIn K mainGlobals "owes" = some (some (.ref f2))) (l2 : K.lookup f2 = some ⟨oc2, od2, .func (PySem.W.fnOf "owes" "owes" (defArgs s_owes) (defBody s_owes) (defScope s_owes) .none kV2 dc2 pm2 an2 cd2 ct2), sl2⟩) (c2 : PySem.W.codeIn K cd2 "owes" = true) (k2 : PySem.W.keepIn K (.ref f2) = true)
    (a3 : PySem.W.nsIn K mainGlobals "leads" = some (some (.ref f3))) (l3 : K.lookup f3 = some ⟨oc3, od3, .func (PySem.W.fnOf "leads" "leads" (defArgs s_leads) (defBody s_leads) (defScope s_leads) .none kV3 dc3 pm3 an3 cd3 ct3), sl3⟩) (c3 : PySem.W.codeIn K cd3 "leads" = true) (k3 : PySem.W.keepIn K (.ref f3) = true)
    (a4 : PySem.W.nsIn K mainGlobals "next_in" = some (some (.ref f4))) (l4 : K.lookup f4 = some ⟨oc4, od4, .func (PySem.W.fnOf "next_in" "next_in" (defArgs s_next_in) (defBody s_next_in) (defScope s_next_in) .none kV4 dc4 pm4 an4 cd4 ct4), sl4⟩) (c4 : PySem.W.codeIn K cd4 "next_in" = true) (k4 : PySem.W.keepIn K (.ref f4) = true)
    (a5 : PySem.W.nsIn K mainGlobals "ring" = some (some (.ref f5))) (l5 : K.lookup f5 = some ⟨oc5, od5, .func (PySem.W.fnOf "ring" "ring" (defArgs s_ring) (defBody s_ring) (defScope s_ring) .none kV5 dc5 pm5 an5 cd5 ct5), sl5⟩) (c5 : PySem.W.codeIn K cd5 "ring" = true) (k5 : PySem.W.keepIn K (.ref f5) = true)
    (a6 : PySem.W.nsIn K mainGlobals "amount_of" = some (some (.ref f6))) (l6 : K.lookup f6 = some ⟨oc6, od6, .func (PySem.W.fnOf "amount_of" "amount_of" (defArgs s_amount_of) (defBody s_amount_of) (defScope s_amount_of) .none kV6 dc6 pm6 an6 cd6 ct6), sl6⟩) (c6 : PySem.W.codeIn K cd6 "amount_of" = true) (k6 : PySem.W.keepIn K (.ref f6) = true)
    (a7 : PySem.W.nsIn K mainGlobals "cut" = some (some (.ref f7))) (l7 : K.lookup f7 = some ⟨oc7, od7, .func (PySem.W.fnOf "cut" "cut" (defArgs s_cut) (defBody s_cut) (defScope s_cut) .none kV7 dc7 pm7 an7 cd7 ct7), sl7⟩) (c7 : PySem.W.codeIn K cd7 "cut" = true) (k7 : PySem.W.keepIn K (.ref f7) = true)
    (a8 : PySem.W.nsIn K mainGlobals "ringless" = some (some (.ref f8))) (l8 : K.lookup f8 = some ⟨oc8, od8, .func (PySem.W.fnOf "ringless" "ringless" (defArgs s_ringless) (defBody s_ringless) (defScope s_ringless) .none kV8 dc8 pm8 an8 cd8 ct8), sl8⟩) (c8 : PySem.W.codeIn K cd8 "ringless" = true) (k8 : PySem.W.keepIn K (.ref f8) = true)
    (a9 : PySem.W.nsIn K mainGlobals "ranks" = some (some (.ref f9))) (l9 : K.lookup f9 = some ⟨oc9, od9, .func (PySem.W.fnOf "ranks" "ranks" (defArgs s_ranks) (defBody s_ranks) (defScope s_ranks) .none kV9 dc9 pm9 an9 cd9 ct9), sl9⟩) (c9 : PySem.W.codeIn K cd9 "ranks" = true) (k9 : PySem.W.keepIn K (.ref f9) = true)
    (a10 : PySem.W.nsIn K mainGlobals "_law_cell_at" = some (some (.ref f10))) (l10 : K.lookup f10 = some ⟨oc10, od10, .func (PySem.W.fnOf "_law_cell_at" "_law_cell_at" (defArgs s_law_cell_at) (defBody s_law_cell_at) (defScope s_law_cell_at) .none kV10 dc10 pm10 an10 cd10 ct10), sl10⟩) (c10 : PySem.W.codeIn K cd10 "_law_cell_at" = true) (k10 : PySem.W.keepIn K (.ref f10) = true)
    (a11 : PySem.W.nsIn K mainGlobals "_law_name" = some (some (.ref f11))) (l11 : K.lookup f11 = some ⟨oc11, od11, .func (PySem.W.fnOf "_law_name" "_law_name" (defArgs s_law_name) (defBody s_law_name) (defScope s_law_name) .none kV11 dc11 pm11 an11 cd11 ct11), sl11⟩) (c11 : PySem.W.codeIn K cd11 "_law_name" = true) (k11 : PySem.W.keepIn K (.ref f11) = true)
    (a12 : PySem.W.nsIn K mainGlobals "_law_deeds" = some (some (.ref f12))) (l12 : K.lookup f12 = some ⟨oc12, od12, .func (PySem.W.fnOf "_law_deeds" "_law_deeds" (defArgs s_law_deeds) (defBody s_law_deeds) (defScope s_law_deeds) .none kV12 dc12 pm12 an12 cd12 ct12), sl12⟩) (c12 : PySem.W.codeIn K cd12 "_law_deeds" = true) (k12 : PySem.W.keepIn K (.ref f12) = true)
    (a13 : PySem.W.nsIn K mainGlobals "_law_book" = some (some (.ref f13))) (l13 : K.lookup f13 = some ⟨oc13, od13, .func (PySem.W.fnOf "_law_book" "_law_book" (defArgs s_law_book) (defBody s_law_book) (defScope s_law_book) .none kV13 dc13 pm13 an13 cd13 ct13), sl13⟩) (c13 : PySem.W.codeIn K cd13 "_law_book" = true) (k13 : PySem.W.keepIn K (.ref f13) = true)
    (a14 : PySem.W.nsIn K mainGlobals "_law_whole" = some (some (.ref f14))) (l14 : K.lookup f14 = some ⟨oc14, od14, .func (PySem.W.fnOf "_law_whole" "_law_whole" (defArgs s_law_whole) (defBody s_law_whole) (defScope s_law_whole) .none kV14 dc14 pm14 an14 cd14 ct14), sl14⟩) (c14 : PySem.W.codeIn K cd14 "_law_whole" = true) (k14 : PySem.W.keepIn K (.ref f14) = true)
    (a15 : PySem.W.nsIn K mainGlobals "_law_dues" = some (some (.ref f15))) (l15 : K.lookup f15 = some ⟨oc15, od15, .func (PySem.W.fnOf "_law_dues" "_law_dues" (defArgs s_law_dues) (defBody s_law_dues) (defScope s_law_dues) .none kV15 dc15 pm15 an15 cd15 ct15), sl15⟩) (c15 : PySem.W.codeIn K cd15 "_law_dues" = true) (k15 : PySem.W.keepIn K (.ref f15) = true)
    (a16 : PySem.W.nsIn K mainGlobals "_law_parted" = some (some (.ref f16))) (l16 : K.lookup f16 = some ⟨oc16, od16, .func (PySem.W.fnOf "_law_parted" "_law_parted" (defArgs s_law_parted) (defBody s_law_parted) (defScope s_law_parted) .none kV16 dc16 pm16 an16 cd16 ct16), sl16⟩) (c16 : PySem.W.codeIn K cd16 "_law_parted" = true) (k16 : PySem.W.keepIn K (.ref f16) = true)
    (a17 : PySem.W.nsIn K mainGlobals "_law_sums" = some (some (.ref f17))) (l17 : K.lookup f17 = some ⟨oc17, od17, .func (PySem.W.fnOf "_law_sums" "_law_sums" (defArgs s_law_sums) (defBody s_law_sums) (defScope s_law_sums) .none kV17 dc17 pm17 an17 cd17 ct17), sl17⟩) (c17 : PySem.W.codeIn K cd17 "_law_sums" = true) (k17 : PySem.W.keepIn K (.ref f17) = true)
    (a18 : PySem.W.nsIn K mainGlobals "_law_goes_up" = some (some (.ref f18))) (l18 : K.lookup f18 = some ⟨oc18, od18, .func (PySem.W.fnOf "_law_goes_up" "_law_goes_up" (defArgs s_law_goes_up) (defBody s_law_goes_up) (defScope s_law_goes_up) .none kV18 dc18 pm18 an18 cd18 ct18), sl18⟩) (c18 : PySem.W.codeIn K cd18 "_law_goes_up" = true) (k18 : PySem.W.keepIn K (.ref f18) = true)
    (a19 : PySem.W.nsIn K mainGlobals "_law_wide_right" = some (some (.ref f19))) (l19 : K.lookup f19 = some ⟨oc19, od19, .func (PySem.W.fnOf "_law_wide_right" "_law_wide_right" (defArgs s_law_wide_right) (defBody s_law_wide_right) (defScope s_law_wide_right) .none kV19 dc19 pm19 an19 cd19 ct19), sl19⟩) (c19 : PySem.W.codeIn K cd19 "_law_wide_right" = true) (k19 : PySem.W.keepIn K (.ref f19) = true)
    (a20 : PySem.W.nsIn K mainGlobals "law" = some (some (.ref f20))) (l20 : K.lookup f20 = some ⟨oc20, od20, .func (PySem.W.fnOf "law" "law" (defArgs s_law) (defBody s_law) (defScope s_law) .none kV20 dc20 pm20 an20 cd20 ct20), sl20⟩) (c20 : PySem.W.codeIn K cd20 "law" = true) (k20 : PySem.W.keepIn K (.ref f20) = true)
    (z_sorted : PySem.W.nsIn K mainGlobals "sorted" = some none)
    (z_enumerate : PySem.W.nsIn K mainGlobals "enumerate" = some none)
    (z_len : PySem.W.nsIn K mainGlobals "len" = some none)
    (z_min : PySem.W.nsIn K mainGlobals "min" = some none)
    (z_list : PySem.W.nsIn K mainGlobals "list" = some none)
    (z_range : PySem.W.nsIn K mainGlobals "range" = some none)
    (z_max : PySem.W.nsIn K mainGlobals "max" = some none)
    (z_int : PySem.W.nsIn K mainGlobals "int" = some none)
    (z_isinstance : PySem.W.nsIn K mainGlobals "isinstance" = some none)
    (z_bool : PySem.W.nsIn K mainGlobals "bool" = some none)
    (z_tuple : PySem.W.nsIn K mainGlobals "tuple" = some none)
    (z_str : PySem.W.nsIn K mainGlobals "str" = some none) :
    ∃ fd : FuncData, (∀ (s : Shared) (v : Value), BindsTo s fd ⟨[v], []⟩ [("script", v)]) ∧ ∀ base : Heap, K.In base → base.Ns mainGlobals mg → FnOk l.prog w K mg base CX0 lawLevel fa fd ["script"] (sp_law K) := by
  have e := hfa.symm.trans (PySem.W.mg_of X G a20)
  cases e
  have F1 := fun_mk (st := s_names_of) l1 c1 k1
  have b1 := F1.binds (ps := ["book"]) fun _ _ _ _ _ _ us hl => match us, hl with | [_], _ => rfl
  have F2 := fun_mk (st := s_owes) l2 c2 k2
  have b2 := F2.binds (ps := ["book", "debtor", "creditor"]) fun _ _ _ _ _ _ us hl => match us, hl with | [_, _, _], _ => rfl
  have F3 := fun_mk (st := s_leads) l3 c3 k3
  have b3 := F3.binds (ps := ["book", "start", "goal", "used"]) fun _ _ _ _ _ _ us hl => match us, hl with | [_, _, _, _], _ => rfl
  have F4 := fun_mk (st := s_next_in) l4 c4 k4
  have b4 := F4.binds (ps := ["book", "row"]) fun _ _ _ _ _ _ us hl => match us, hl with | [_, _], _ => rfl
  have F5 := fun_mk (st := s_ring) l5 c5 k5
  have b5 := F5.binds (ps := ["book"]) fun _ _ _ _ _ _ us hl => match us, hl with | [_], _ => rfl
  have F6 := fun_mk (st := s_amount_of) l6 c6 k6
  have b6 := F6.binds (ps := ["book", "debtor", "creditor"]) fun _ _ _ _ _ _ us hl => match us, hl with | [_, _, _], _ => rfl
  have F7 := fun_mk (st := s_cut) l7 c7 k7
  have b7 := F7.binds (ps := ["book", "row"]) fun _ _ _ _ _ _ us hl => match us, hl with | [_, _], _ => rfl
  have F8 := fun_mk (st := s_ringless) l8 c8 k8
  have b8 := F8.binds (ps := ["book"]) fun _ _ _ _ _ _ us hl => match us, hl with | [_], _ => rfl
  have F9 := fun_mk (st := s_ranks) l9 c9 k9
  have b9 := F9.binds (ps := ["book"]) fun _ _ _ _ _ _ us hl => match us, hl with | [_], _ => rfl
  have F10 := fun_mk (st := s_law_cell_at) l10 c10 k10
  have b10 := F10.binds (ps := ["script", "k"]) fun _ _ _ _ _ _ us hl => match us, hl with | [_, _], _ => rfl
  have F11 := fun_mk (st := s_law_name) l11 c11 k11
  have b11 := F11.binds (ps := ["k", "cell"]) fun _ _ _ _ _ _ us hl => match us, hl with | [_, _], _ => rfl
  have F12 := fun_mk (st := s_law_deeds) l12 c12 k12
  have b12 := F12.binds (ps := ["script", "many"]) fun _ _ _ _ _ _ us hl => match us, hl with | [_, _], _ => rfl
  have F13 := fun_mk (st := s_law_book) l13 c13 k13
  have b13 := F13.binds (ps := ["deeds", "names"]) fun _ _ _ _ _ _ us hl => match us, hl with | [_, _], _ => rfl
  have F14 := fun_mk (st := s_law_whole) l14 c14 k14
  have b14 := F14.binds (ps := ["found"]) fun _ _ _ _ _ _ us hl => match us, hl with | [_], _ => rfl
  have F15 := fun_mk (st := s_law_dues) l15 c15 k15
  have b15 := F15.binds (ps := ["rows"]) fun _ _ _ _ _ _ us hl => match us, hl with | [_], _ => rfl
  have F16 := fun_mk (st := s_law_parted) l16 c16 k16
  have b16 := F16.binds (ps := ["book", "cuts", "left"]) fun _ _ _ _ _ _ us hl => match us, hl with | [_, _, _], _ => rfl
  have F17 := fun_mk (st := s_law_sums) l17 c17 k17
  have b17 := F17.binds (ps := ["rows", "names"]) fun _ _ _ _ _ _ us hl => match us, hl with | [_, _], _ => rfl
  have F18 := fun_mk (st := s_law_goes_up) l18 c18 k18
  have b18 := F18.binds (ps := ["left"]) fun _ _ _ _ _ _ us hl => match us, hl with | [_], _ => rfl
  have F19 := fun_mk (st := s_law_wide_right) l19 c19 k19
  have b19 := F19.binds (ps := ["script"]) fun _ _ _ _ _ _ us hl => match us, hl with | [_], _ => rfl
  have F20 := fun_mk (st := s_law) l20 c20 k20
  have T : Txt K mg := ⟨⟨f1, _, F1, b1, PySem.W.mg_of X G a1⟩,
    ⟨f2, _, F2, b2, PySem.W.mg_of X G a2⟩,
    ⟨f3, _, F3, b3, PySem.W.mg_of X G a3⟩,
    ⟨f4, _, F4, b4, PySem.W.mg_of X G a4⟩,
    ⟨f5, _, F5, b5, PySem.W.mg_of X G a5⟩,
    ⟨f6, _, F6, b6, PySem.W.mg_of X G a6⟩,
    ⟨f7, _, F7, b7, PySem.W.mg_of X G a7⟩,
    ⟨f8, _, F8, b8, PySem.W.mg_of X G a8⟩,
    ⟨f9, _, F9, b9, PySem.W.mg_of X G a9⟩,
    ⟨f10, _, F10, b10, PySem.W.mg_of X G a10⟩,
    ⟨f11, _, F11, b11, PySem.W.mg_of X G a11⟩,
    ⟨f12, _, F12, b12, PySem.W.mg_of X G a12⟩,
    ⟨f13, _, F13, b13, PySem.W.mg_of X G a13⟩,
    ⟨f14, _, F14, b14, PySem.W.mg_of X G a14⟩,
    ⟨f15, _, F15, b15, PySem.W.mg_of X G a15⟩,
    ⟨f16, _, F16, b16, PySem.W.mg_of X G a16⟩,
    ⟨f17, _, F17, b17, PySem.W.mg_of X G a17⟩,
    ⟨f18, _, F18, b18, PySem.W.mg_of X G a18⟩,
    ⟨f19, _, F19, b19, PySem.W.mg_of X G a19⟩,
    PySem.W.mg_none_of X G z_sorted,
    PySem.W.mg_none_of X G z_enumerate,
    PySem.W.mg_none_of X G z_len,
    PySem.W.mg_none_of X G z_min,
    PySem.W.mg_none_of X G z_list,
    PySem.W.mg_none_of X G z_range,
    PySem.W.mg_none_of X G z_max,
    PySem.W.mg_none_of X G z_int,
    PySem.W.mg_none_of X G z_isinstance,
    PySem.W.mg_none_of X G z_bool,
    PySem.W.mg_none_of X G z_tuple,
    PySem.W.mg_none_of X G z_str⟩
  exact ⟨_, fun s v => .of_eq rfl, fun base _ _ => ok_law F20 T⟩
theorem walk {l : PySem.W.OpenLaw} {q : Program} {loose : List Str} {XP : (Str → Option Value) → Heap → Prop} {YP : World → Heap → Prop} {d : DefRec} {K : Params → PySem.W.Frag} (hn : l.most = some 63) (hdf : d.params.defaults = [])
    (hY : ∀ (w : World) (h : Heap), YP w h → (K w.params).In h)
    (F : ∀ (w : World) (mg : Str → Option Value) (fa : Addr) (h : Heap), (K w.params).In h → h.Ns mainGlobals mg → mg d.name = some (.ref fa) →
      ∃ fd : FuncData, (∀ (s : Shared) (u : Value), BindsTo s fd ⟨[u], []⟩ [("script", u)]) ∧ ∀ base : Heap, (K w.params).In base → base.Ns mainGlobals mg → FnOk l.prog w (K w.params) mg base CX0 lawLevel fa fd ["script"] (sp_law (K w.params))) :
    PySem.W.WalkO q loose XP YP l.row.toRowW d [] (fun f vs => PySem.call f vs) :=
  L2.walk_ofB (n := 63) (k := lawLevel) (x := "script") (CX := fun _ => CX0) (sp := fun w => sp_law (K w.params)) hn (by decide) hdf ⟨rfl, by decide, by decide⟩ hY F (fun _ _ a ns hl hb _ hS => ⟨a, ns, rfl, hS, hl, hb, fun _ => rfl⟩) fun _ _ _ _ _ z => z
end Bb
open PySem PySem.W PyProof.Rows
set_option maxHeartbeats 0 in
theorem PySem.Challenge.cw_bellbook_k56_whole_no_ring_is_left_holds : PySem.Challenge.rw_bellbook_k56_whole_no_ring_is_left.Holds := by
  w_on; o_law; k_head; (case hw => w_witness2)
  k_fill
  refine Bb.walk (l := PySem.Challenge.rw_bellbook_k56_whole_no_ring_is_left) rfl rfl (fun w h Y => PySem.W.kIn_of Y) ?F
  case F =>
    intro w mg fa h KX G hmg
    refine' Bb.all_mk KX G hmg ?a1 ?l1 ?c1 ?k1 ?a2 ?l2 ?c2 ?k2 ?a3 ?l3 ?c3 ?k3 ?a4 ?l4 ?c4 ?k4 ?a5 ?l5 ?c5 ?k5 ?a6 ?l6 ?c6 ?k6 ?a7 ?l7 ?c7 ?k7 ?a8 ?l8 ?c8 ?k8 ?a9 ?l9 ?c9 ?k9 ?a10 ?l10 ?c10 ?k10 ?a11 ?l11 ?c11 ?k11 ?a12 ?l12 ?c12 ?k12 ?a13 ?l13 ?c13 ?k13 ?a14 ?l14 ?c14 ?k14 ?a15 ?l15 ?c15 ?k15 ?a16 ?l16 ?c16 ?k16 ?a17 ?l17 ?c17 ?k17 ?a18 ?l18 ?c18 ?k18 ?a19 ?l19 ?c19 ?k19 ?a20 ?l20 ?c20 ?k20 ?z_sorted ?z_enumerate ?z_len ?z_min ?z_list ?z_range ?z_max ?z_int ?z_isinstance ?z_bool ?z_tuple ?z_str
    (case a1 => k_is); (case l1 => k_is); (case c1 => k_is); (case k1 => k_is); (case a2 => k_is); (case l2 => k_is)
    (case c2 => k_is); (case k2 => k_is); (case a3 => k_is); (case l3 => k_is); (case c3 => k_is); (case k3 => k_is)
    (case a4 => k_is); (case l4 => k_is); (case c4 => k_is); (case k4 => k_is); (case a5 => k_is); (case l5 => k_is)
    (case c5 => k_is); (case k5 => k_is); (case a6 => k_is); (case l6 => k_is); (case c6 => k_is); (case k6 => k_is)
    (case a7 => k_is); (case l7 => k_is); (case c7 => k_is); (case k7 => k_is); (case a8 => k_is); (case l8 => k_is)
    (case c8 => k_is); (case k8 => k_is); (case a9 => k_is); (case l9 => k_is); (case c9 => k_is); (case k9 => k_is)
    (case a10 => k_is); (case l10 => k_is); (case c10 => k_is); (case k10 => k_is); (case a11 => k_is); (case l11 => k_is)
    (case c11 => k_is); (case k11 => k_is); (case a12 => k_is); (case l12 => k_is); (case c12 => k_is); (case k12 => k_is)
    (case a13 => k_is); (case l13 => k_is); (case c13 => k_is); (case k13 => k_is); (case a14 => k_is); (case l14 => k_is)
    (case c14 => k_is); (case k14 => k_is); (case a15 => k_is); (case l15 => k_is); (case c15 => k_is); (case k15 => k_is)
    (case a16 => k_is); (case l16 => k_is); (case c16 => k_is); (case k16 => k_is); (case a17 => k_is); (case l17 => k_is)
    (case c17 => k_is); (case k17 => k_is); (case a18 => k_is); (case l18 => k_is); (case c18 => k_is); (case k18 => k_is)
    (case a19 => k_is); (case l19 => k_is); (case c19 => k_is); (case k19 => k_is); (case a20 => k_is); (case l20 => k_is)
    (case c20 => k_is); (case k20 => k_is); (case z_sorted => k_is); (case z_enumerate => k_is); (case z_len => k_is); (case z_min => k_is)
    (case z_list => k_is); (case z_range => k_is); (case z_max => k_is); (case z_int => k_is); (case z_isinstance => k_is); (case z_bool => k_is)
    (case z_tuple => k_is); (case z_str => k_is)
