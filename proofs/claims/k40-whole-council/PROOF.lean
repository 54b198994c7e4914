import PyProof.Rows.All
import Wide.All
import OpenK.AllK
import Wide.FinOn
import HandS.ForMost
import HandS.Star
import HandS.Deep
import HandS.TupAny
import HandS.DictComp
import HandS.Conv
import HandS.IsInst
import HandS.Style
import HandS.Flow
import HandS.Evl
import PySem.Challenge.RW_mastcalls_k40_whole_council
import HandS.ListItems
import KE.KDictList
set_option Elab.async false
set_option linter.all false
set_option maxRecDepth 100000
set_option maxHeartbeats 4000000
/-! The mathematics: keepers, sequencers, letters as plain data; what is settled stays. No program here. -/
namespace Mc
variable {E : Type}

/-! ### 1. Records of a keeper -/
inductive Rec (E : Type) where
  | prom (e : Int)
  | take (e : Int) (p : Nat) (x : E)
  deriving DecidableEq
def Rec.epoch : Rec E → Int
  | .prom e => e
  | .take e _ _ => e
abbrev Row (E : Type) := List (Int × E)
def put (s : Int × Row E) : Rec E → Int × Row E
  | .prom e => (max s.1 e, s.2)
  | .take e p x => (max s.1 e, if p < s.2.length then s.2.set p (e, x) else s.2 ++ [(e, x)])
def known (rs : List (Rec E)) : Int × Row E := rs.foldl put (-1, [])
theorem known_nil : known ([] : List (Rec E)) = (-1, []) := rfl
theorem known_snoc (rs : List (Rec E)) (r : Rec E) : known (rs ++ [r]) = put (known rs) r := by
  simp [known, List.foldl_append]
theorem put_epoch (s : Int × Row E) (r : Rec E) : (put s r).1 = max s.1 r.epoch := by cases r <;> rfl
theorem put_len (s : Int × Row E) (r : Rec E) : s.2.length ≤ (put s r).2.length ∧ (put s r).2.length ≤ s.2.length + 1 := by
  cases r with
  | prom e => simp [put]
  | take e p x =>
    simp only [put]
    split <;> simp
/-- a record fits behind others: no lesser epoch, no place beyond the row's end -/
def Fit (s : Int × Row E) : Rec E → Prop
  | .prom e => s.1 ≤ e
  | .take e p _ => s.1 ≤ e ∧ p ≤ s.2.length
inductive WF : List (Rec E) → Prop
  | nil : WF []
  | snoc {rs : List (Rec E)} {r : Rec E} : WF rs → Fit (known rs) r → WF (rs ++ [r])
theorem WF.init {rs : List (Rec E)} {r : Rec E} (h : WF (rs ++ [r])) : WF rs ∧ Fit (known rs) r := by
  generalize e : rs ++ [r] = q at h
  cases h with
  | nil => simp at e
  | snoc h1 h2 =>
    obtain ⟨rfl, e2⟩ := List.append_inj' e rfl
    cases e2
    exact ⟨h1, h2⟩
theorem snoc_ind {α : Type} {P : List α → Prop} (h0 : P []) (hs : ∀ l a, P l → P (l ++ [a])) : ∀ l, P l := by
  intro l
  have key : ∀ n (l : List α), l.length = n → P l := by
    intro n
    induction n with
    | zero => intro l e; cases l with
      | nil => exact h0
      | cons a t => simp at e
    | succ n ih =>
      intro l e
      have hne : l ≠ [] := by intro h; subst h; simp at e
      rw [← List.dropLast_concat_getLast hne]
      exact hs _ _ (ih _ (by simp [e]))
  exact key _ l rfl
theorem WF.pre : ∀ {b a : List (Rec E)}, WF (a ++ b) → WF a := by
  intro b
  induction b using snoc_ind with
  | h0 => intro a h; simpa using h
  | hs l r ih =>
    intro a h
    rw [← List.append_assoc] at h
    exact ih h.init.1
theorem WF.prefix {a rs : List (Rec E)} (h : WF rs) (p : a <+: rs) : WF a := by
  obtain ⟨b, rfl⟩ := p
  exact h.pre
theorem known_epoch_le : ∀ (rs : List (Rec E)) (r : Rec E), r ∈ rs → r.epoch ≤ (known rs).1 := by
  intro rs
  induction rs using snoc_ind with
  | h0 => intro r h; simp at h
  | hs l a ih =>
    intro r h
    rw [known_snoc, put_epoch]
    rcases List.mem_append.mp h with h | h
    · have := ih r h; omega
    · simp at h; subst h; omega
theorem known_len_le : ∀ rs : List (Rec E), (known rs).2.length ≤ rs.length := by
  intro rs
  induction rs using snoc_ind with
  | h0 => simp [known]
  | hs l a ih =>
    rw [known_snoc]
    have := (put_len (known l) a).2
    simp; omega
theorem known_mono : ∀ (b a : List (Rec E)), (known a).1 ≤ (known (a ++ b)).1 := by
  intro b
  induction b using snoc_ind with
  | h0 => intro a; simp
  | hs l r ih =>
    intro a
    rw [← List.append_assoc, known_snoc, put_epoch]
    have := ih a
    omega
/-- behind a beginning of a row of records there are none of lesser epochs -/
theorem later_epoch : ∀ (b a : List (Rec E)), WF (a ++ b) → ∀ r ∈ b, (known a).1 ≤ r.epoch := by
  intro b
  induction b using snoc_ind with
  | h0 => intro a _ r h; simp at h
  | hs l q ih =>
    intro a h r hr
    rw [← List.append_assoc] at h
    obtain ⟨h1, h2⟩ := h.init
    rcases List.mem_append.mp hr with hr | hr
    · exact ih a h1 r hr
    · simp at hr
      subst hr
      have h3 := known_mono l a
      cases r with
      | prom e => simp only [Fit, Rec.epoch] at *; omega
      | take e p x => simp only [Fit, Rec.epoch] at *; omega
/-- what stands in the row was taken -/
theorem row_taken : ∀ (rs : List (Rec E)), WF rs → ∀ (p : Nat) (e : Int) (x : E), (known rs).2[p]? = some (e, x) → Rec.take e p x ∈ rs := by
  intro rs
  induction rs using snoc_ind with
  | h0 => intro _ p e x h; simp [known] at h
  | hs l a ih =>
    intro hw p e x h
    obtain ⟨h1, h2⟩ := hw.init
    rw [known_snoc] at h
    cases a with
    | prom e' => exact List.mem_append_left _ (ih h1 p e x h)
    | take e' p' x' =>
      simp only [put] at h
      simp only [Fit] at h2
      split at h
      · rename_i hp
        rw [List.getElem?_set] at h
        split at h
        · rename_i e2; subst e2
          simp [hp] at h
          obtain ⟨rfl, rfl⟩ := h
          simp
        · exact List.mem_append_left _ (ih h1 p e x h)
      · rename_i hp
        rw [List.getElem?_append] at h
        split at h
        · exact List.mem_append_left _ (ih h1 p e x h)
        · rename_i hp2
          have e3 : p - (known l).2.length = 0 := by
            by_cases q : p - (known l).2.length = 0
            · exact q
            · rw [List.getElem?_eq_none (by simp; omega)] at h; cases h
          rw [e3] at h
          simp at h
          obtain ⟨rfl, rfl⟩ := h
          have : p' = p := by omega
          subst this
          simp
/-- what was taken at a place is there, or one of a greater epoch -/
theorem taken_row : ∀ (rs : List (Rec E)), WF rs → ∀ (p : Nat) (e : Int) (x : E), Rec.take e p x ∈ rs → ∃ e' x', (known rs).2[p]? = some (e', x') ∧ e ≤ e' := by
  intro rs
  induction rs using snoc_ind with
  | h0 => intro _ p e x h; simp at h
  | hs l a ih =>
    intro hw p e x h
    obtain ⟨h1, h2⟩ := hw.init
    rw [known_snoc]
    rcases List.mem_append.mp h with hm | h
    · obtain ⟨e1, x1, q1, q2⟩ := ih h1 p e x hm
      cases a with
      | prom e' => exact ⟨e1, x1, q1, q2⟩
      | take e' p' x' =>
        simp only [put]
        simp only [Fit] at h2
        obtain ⟨hpl, _⟩ := List.getElem?_eq_some_iff.mp q1
        split
        · rw [List.getElem?_set]
          split
          · rename_i hp _ 
            have h3 := known_epoch_le l _ hm
            simp only [Rec.epoch] at h3
            exact ⟨e', x', by simp [*], by omega⟩
          · exact ⟨e1, x1, q1, q2⟩
        · rw [List.getElem?_append_left hpl]
          exact ⟨e1, x1, q1, q2⟩
    · simp at h
      subst h
      simp only [put]
      simp only [Fit] at h2
      split
      · rename_i hp
        exact ⟨e, x, by simp [hp], Int.le_refl _⟩
      · rename_i hp
        have e3 : p = (known l).2.length := by omega
        exact ⟨e, x, by rw [e3]; simp, Int.le_refl _⟩

/-! ### 2. Letters, keepers, sequencers -/
inductive Letter (E : Type) where
  | ask (e : Int) (k : Nat)
  | write (e : Int) (k : Nat) (p : Nat) (x : E)
  | refused (e : Int) (k : Nat) (ke : Int)
  | told (e : Int) (k : Nat) (row : Row E)
  | taken (e : Int) (k : Nat) (p : Nat)
def Letter.epoch : Letter E → Int
  | .ask e _ | .write e _ _ _ | .refused e _ _ | .told e _ _ | .taken e _ _ => e
def Letter.num : Letter E → Nat
  | .ask _ k | .write _ k _ _ | .refused _ k _ | .told _ k _ | .taken _ k _ => k
def Letter.isReq : Letter E → Bool
  | .ask _ _ | .write _ _ _ _ => true
  | _ => false
structure Kp (E : Type) where
  recs : List (Rec E)
  loose : List (Rec E)
  wait : List (Letter E)
def Kp.all (k : Kp E) : List (Rec E) := k.recs ++ k.loose
inductive Stand where | asking | leading | stopped
  deriving DecidableEq
structure Sq (E : Type) where
  epoch : Int
  stand : Stand
  rows : List (Nat × Row E)
  row : List E
  taken : List Nat
structure Cst (E : Type) where
  ks : List (Kp E)
  sq : List (Sq E)
  ls : List (Letter E)
section
variable [DecidableEq E]
def fits (row : Row E) (e : Int) (p : Nat) : Bool :=
  if row.length < p then false else (p == 0 || (row[p - 1]?).any (fun q => decide (q.1 = e)))
/-- a keeper takes a letter -/
def handle (n : Nat) (k : Kp E) (l : Letter E) : Kp E :=
  if l.epoch < (known k.all).1 then { k with wait := k.wait ++ [.refused l.epoch n (known k.all).1] }
  else match l with
    | .write e _ p x =>
      if fits (known k.all).2 e p then
        { k with loose := if p = (known k.all).2.length ∨ (known k.all).2[p]? ≠ some (e, x) then k.loose ++ [.take e p x] else k.loose, wait := k.wait ++ [.taken e n p] }
      else k
    | .ask e _ => { k with loose := if (known k.all).1 < e then k.loose ++ [.prom e] else k.loose, wait := k.wait ++ [.told e n (known k.all).2] }
    | _ => k
end
def flushK (k : Kp E) : Kp E := ⟨k.all, [], []⟩
def fallK (k : Kp E) (m : Nat) : Kp E := ⟨k.recs ++ k.loose.take m, [], []⟩
/-- at each place the entry of the greatest epoch -/
def Newest (rows : List (Row E)) (out : List E) : Prop :=
  (∀ row ∈ rows, row.length ≤ out.length) ∧ ∀ (p : Nat) (x : E), out[p]? = some x → ∃ row ∈ rows, ∃ e : Int, row[p]? = some (e, x) ∧ ∀ row' ∈ rows, ∀ (e' : Int) (x' : E), row'[p]? = some (e', x') → e' ≤ e
/-- a dict's store -/
def putRow (rows : List (Nat × Row E)) (k : Nat) (row : Row E) : List (Nat × Row E) :=
  if k ∈ rows.map (·.1) then rows.map (fun q => if q.1 = k then (q.1, row) else q) else rows ++ [(k, row)]
/-- a sequencer over n keepers takes an answer -/
def Hear (n : Nat) (s : Sq E) (l : Letter E) (s' : Sq E) : Prop :=
  if l.epoch ≠ s.epoch ∨ s.stand = .stopped then s' = s
  else match l with
    | .refused _ _ _ => s' = { s with stand := .stopped }
    | .told _ k row =>
      if s.stand = .asking then
        (if n / 2 + 1 ≤ (putRow s.rows k row).length then ∃ out, Newest ((putRow s.rows k row).map (·.2)) out ∧ s' = { s with rows := putRow s.rows k row, row := out, stand := .leading }
        else s' = { s with rows := putRow s.rows k row })
      else s' = s
    | .taken _ k p => if s.stand = .leading ∧ s.taken[k]? = some p then s' = { s with taken := s.taken.set k (p + 1) } else s' = s
    | _ => s' = s
def wr (s : Sq E) (k : Nat) : Option (Letter E) :=
  match s.taken[k]? with
  | some p => (match s.row[p]? with | some x => some (.write s.epoch k p x) | none => none)
  | none => none
def toSend (n : Nat) (s : Sq E) : List (Letter E) :=
  match s.stand with
  | .asking => ((List.range n).filter (fun k => !(s.rows.map (·.1)).contains k)).map (fun k => .ask s.epoch k)
  | .leading => (List.range n).filterMap (wr s)
  | .stopped => []

/-! ### 3. What holds -/
def Snap (rs : List (Rec E)) (e : Int) (row : Row E) : Prop := ∃ a, a <+: rs ∧ known a = (e, row)
theorem Snap.mono {rs rs' : List (Rec E)} {e : Int} {row : Row E} (h : Snap rs e row) (p : rs <+: rs') : Snap rs' e row := by
  obtain ⟨a, h1, h2⟩ := h
  exact ⟨a, h1.trans p, h2⟩
/-- a sequencer of an epoch has an entry at a place -/
def Has (sq : List (Sq E)) (e : Int) (p : Nat) (x : E) : Prop := ∃ s ∈ sq, s.epoch = e ∧ s.row[p]? = some x
/-- an answer of the keeper k, by its records -/
def AnsOk (k : Nat) (rs : List (Rec E)) : Letter E → Prop
  | .refused _ k' _ => k' = k
  | .told e k' row => k' = k ∧ Snap rs e row
  | .taken e k' p => k' = k ∧ ∃ x, Rec.take e p x ∈ rs
  | _ => False
theorem AnsOk.mono {k : Nat} {rs rs' : List (Rec E)} {l : Letter E} (h : AnsOk k rs l) (p : rs <+: rs') : AnsOk k rs' l := by
  cases l with
  | refused e k' ke => exact h
  | told e k' row => exact ⟨h.1, h.2.mono p⟩
  | taken e k' q =>
    obtain ⟨h1, x, h2⟩ := h
    exact ⟨h1, x, p.subset h2⟩
  | ask e k => exact h
  | write e k p x => exact h
def LetOk (ks : List (Kp E)) (sq : List (Sq E)) : Letter E → Prop
  | .ask _ k => k < ks.length
  | .write e k p x => k < ks.length ∧ Has sq e p x
  | l => ∃ kp : Kp E, ks[l.num]? = some kp ∧ AnsOk l.num kp.recs l
def Led (n : Nat) (s : Sq E) : Prop := n / 2 + 1 ≤ s.rows.length ∧ ∃ out more, s.row = out ++ more ∧ Newest (s.rows.map (·.2)) out
structure SqOk (ks : List (Kp E)) (s : Sq E) : Prop where
  ask : s.stand = .asking → s.row = [] ∧ ∀ m ∈ s.taken, m = 0
  keys : (s.rows.map (·.1)).Nodup
  rows : ∀ (k : Nat) (row : Row E), (k, row) ∈ s.rows → ∃ kp : Kp E, ks[k]? = some kp ∧ Snap kp.recs s.epoch row ∧ ∀ (e : Int) (x : E), (e, x) ∈ row → e < s.epoch
  led1 : s.stand = .leading → Led ks.length s
  led2 : s.row ≠ [] → Led ks.length s
  len : s.taken.length = ks.length
  tk : ∀ (k m : Nat), s.taken[k]? = some m → ∀ p : Nat, p < m → ∃ (kp : Kp E) (x : E), ks[k]? = some kp ∧ Rec.take s.epoch p x ∈ kp.recs
structure Inv (st : Cst E) : Prop where
  ep : (st.sq.map (·.epoch)).Nodup
  wf : ∀ (k : Nat) (kp : Kp E), st.ks[k]? = some kp → WF kp.all
  src : ∀ (k : Nat) (kp : Kp E), st.ks[k]? = some kp → ∀ e p x, Rec.take e p x ∈ kp.all → Has st.sq e p x
  wt : ∀ (k : Nat) (kp : Kp E), st.ks[k]? = some kp → ∀ l ∈ kp.wait, AnsOk k kp.all l
  lt : ∀ l ∈ st.ls, LetOk st.ks st.sq l
  sqs : ∀ s ∈ st.sq, SqOk st.ks s
/-- keepers only grow -/
def Grow (ks ks' : List (Kp E)) : Prop := ks'.length = ks.length ∧ ∀ (k : Nat) (kp : Kp E), ks[k]? = some kp → ∃ kp' : Kp E, ks'[k]? = some kp' ∧ kp.recs <+: kp'.recs
theorem Grow.refl (ks : List (Kp E)) : Grow ks ks := ⟨rfl, fun k kp h => ⟨kp, h, List.prefix_refl _⟩⟩
theorem Grow.trans {a b c : List (Kp E)} (h : Grow a b) (g : Grow b c) : Grow a c := by
  refine ⟨g.1.trans h.1, fun k kp e => ?_⟩
  obtain ⟨kp1, e1, p1⟩ := h.2 k kp e
  obtain ⟨kp2, e2, p2⟩ := g.2 k kp1 e1
  exact ⟨kp2, e2, p1.trans p2⟩
theorem Grow.set {ks : List (Kp E)} {k : Nat} {kp kp' : Kp E} (h : ks[k]? = some kp) (p : kp.recs <+: kp'.recs) : Grow ks (ks.set k kp') := by
  refine ⟨by simp, fun j q e => ?_⟩
  rw [List.getElem?_set]
  split
  · rename_i e1; subst e1
    obtain ⟨hl, _⟩ := List.getElem?_eq_some_iff.mp h
    rw [h] at e
    cases e
    exact ⟨kp', by simp [hl], p⟩
  · exact ⟨q, e, List.prefix_refl _⟩
/-- rows of sequencers only grow -/
def GrowS (sq sq' : List (Sq E)) : Prop := ∀ s ∈ sq, ∃ s' ∈ sq', s'.epoch = s.epoch ∧ s.row <+: s'.row
theorem Has.mono {sq sq' : List (Sq E)} {e : Int} {p : Nat} {x : E} (h : Has sq e p x) (g : GrowS sq sq') : Has sq' e p x := by
  obtain ⟨s, hs, he, hr⟩ := h
  obtain ⟨s', hs', he', pr⟩ := g s hs
  refine ⟨s', hs', by rw [he', he], ?_⟩
  obtain ⟨t, ht⟩ := pr
  rw [← ht, List.getElem?_append_left (List.getElem?_eq_some_iff.mp hr).1]
  exact hr
theorem LetOk.mono {ks ks' : List (Kp E)} {sq sq' : List (Sq E)} {l : Letter E} (h : LetOk ks sq l) (g : Grow ks ks') (g' : GrowS sq sq') : LetOk ks' sq' l := by
  have key : ∀ l : Letter E, (∃ kp : Kp E, ks[l.num]? = some kp ∧ AnsOk l.num kp.recs l) → ∃ kp : Kp E, ks'[l.num]? = some kp ∧ AnsOk l.num kp.recs l := by
    intro l ⟨kp, h1, h2⟩
    obtain ⟨kp', e', p⟩ := g.2 _ _ h1
    exact ⟨kp', e', h2.mono p⟩
  cases l with
  | ask e k => show k < ks'.length; rw [g.1]; exact h
  | write e k p x => exact ⟨by rw [g.1]; exact h.1, h.2.mono g'⟩
  | refused e k ke => exact key _ h
  | told e k row => exact key _ h
  | taken e k p => exact key _ h
theorem SqOk.mono {ks ks' : List (Kp E)} {s : Sq E} (h : SqOk ks s) (g : Grow ks ks') : SqOk ks' s := by
  refine ⟨h.ask, h.keys, fun k row hm => ?_, fun e => by rw [g.1]; exact h.led1 e, fun e => by rw [g.1]; exact h.led2 e, by rw [g.1]; exact h.len, fun k m hm p hp => ?_⟩
  · obtain ⟨kp, h1, h2, h3⟩ := h.rows k row hm
    obtain ⟨kp', e', p⟩ := g.2 _ _ h1
    exact ⟨kp', e', h2.mono p, h3⟩
  · obtain ⟨kp, x, h1, h2⟩ := h.tk k m hm p hp
    obtain ⟨kp', e', q⟩ := g.2 _ _ h1
    exact ⟨kp', x, e', q.subset h2⟩

/-! ### 4. Each step keeps it -/
theorem GrowS.refl (sq : List (Sq E)) : GrowS sq sq := fun s h => ⟨s, h, rfl, List.prefix_refl _⟩
theorem Inv.keeper {st : Cst E} (I : Inv st) {k : Nat} {kp kp' : Kp E} (h : st.ks[k]? = some kp) (p : kp.recs <+: kp'.recs) (hw : WF kp'.all)
    (hs : ∀ e p x, Rec.take e p x ∈ kp'.all → Has st.sq e p x) (ha : ∀ l ∈ kp'.wait, AnsOk k kp'.all l) : Inv { st with ks := st.ks.set k kp' } := by
  have g : Grow st.ks (st.ks.set k kp') := Grow.set h p
  have key : ∀ (j : Nat) (q : Kp E), (st.ks.set k kp')[j]? = some q → (j = k ∧ q = kp') ∨ st.ks[j]? = some q := by
    intro j q e
    rw [List.getElem?_set] at e
    split at e
    · rename_i e1
      split at e
      · exact .inl ⟨e1.symm, (Option.some.inj e).symm⟩
      · cases e
    · exact .inr e
  refine ⟨I.ep, fun j q e => ?_, fun j q e => ?_, fun j q e => ?_, fun l hl => (I.lt l hl).mono g (GrowS.refl _), fun s hs' => (I.sqs s hs').mono g⟩
  · rcases key j q e with ⟨_, rfl⟩ | e
    · exact hw
    · exact I.wf j q e
  · rcases key j q e with ⟨_, rfl⟩ | e
    · exact hs
    · exact I.src j q e
  · rcases key j q e with ⟨rfl, rfl⟩ | e
    · exact ha
    · exact I.wt j q e
section
variable [DecidableEq E]
/-- a letter of a sequencer comes to a keeper -/
theorem Inv.handle {st : Cst E} (I : Inv st) {k : Nat} {kp : Kp E} {l : Letter E} (h : st.ks[k]? = some kp) (hl : LetOk st.ks st.sq l) (hq : l.isReq = true) : Inv { st with ks := st.ks.set k (handle k kp l) } := by
  have hw := I.wf k kp h
  have hs := I.src k kp h
  have ha := I.wt k kp h
  unfold Mc.handle
  split
  · refine I.keeper h (List.prefix_refl _) hw hs fun l hl => ?_
    rcases List.mem_append.mp hl with hl | hl
    · exact ha l hl
    · simp at hl; subst hl; rfl
  · rename_i hlt
    cases l with
    | ask e k' =>
      simp only [Letter.epoch] at hlt
      by_cases hgt : (known kp.all).1 < e
      · simp only [if_pos hgt]
        have e1 : ∀ w, (Kp.mk kp.recs (kp.loose ++ [Rec.prom e]) w).all = kp.all ++ [Rec.prom e] := by intro w; simp [Kp.all]
        refine I.keeper h (List.prefix_refl _) ?_ ?_ ?_
        · rw [e1]
          exact .snoc hw (by simp only [Fit]; omega)
        · intro e p x hm
          rw [e1] at hm
          rcases List.mem_append.mp hm with hm | hm
          · exact hs e p x hm
          · simp at hm
        · intro l hl
          rw [e1]
          rcases List.mem_append.mp hl with hl | hl
          · exact (ha l hl).mono (List.prefix_append _ _)
          · simp at hl
            subst hl
            refine ⟨rfl, _, List.prefix_refl _, ?_⟩
            rw [known_snoc]
            simp only [put]
            congr 1
            omega
      · simp only [if_neg hgt]
        refine I.keeper h (List.prefix_refl _) hw hs fun l hl => ?_
        rcases List.mem_append.mp hl with hl | hl
        · exact ha l hl
        · simp at hl
          subst hl
          refine ⟨rfl, _, List.prefix_refl _, ?_⟩
          show known kp.all = (e, (known kp.all).2)
          have : (known kp.all).1 = e := by omega
          rw [← this]
    | write e k' p x =>
      simp only [Letter.epoch] at hlt ⊢
      have hx : Has st.sq e p x := hl.2
      split
      · rename_i hf
        have hp : p ≤ (known kp.all).2.length := by
          unfold fits at hf
          split at hf
          · cases hf
          · omega
        split
        · have e1 : ∀ w, (Kp.mk kp.recs (kp.loose ++ [Rec.take e p x]) w).all = kp.all ++ [Rec.take e p x] := by intro w; simp [Kp.all]
          refine I.keeper h (List.prefix_refl _) ?_ ?_ ?_
          · rw [e1]
            exact .snoc hw ⟨by omega, hp⟩
          · intro e' p' x' hm
            rw [e1] at hm
            rcases List.mem_append.mp hm with hm | hm
            · exact hs e' p' x' hm
            · simp at hm
              obtain ⟨rfl, rfl, rfl⟩ := hm
              exact hx
          · intro l hl
            rw [e1]
            rcases List.mem_append.mp hl with hl | hl
            · exact (ha l hl).mono (List.prefix_append _ _)
            · simp at hl
              subst hl
              exact ⟨rfl, x, by simp⟩
        · rename_i hno
          refine I.keeper h (List.prefix_refl _) hw hs fun l hl => ?_
          rcases List.mem_append.mp hl with hl | hl
          · exact ha l hl
          · simp at hl
            subst hl
            have : (known kp.all).2[p]? = some (e, x) := by
              by_cases q : (known kp.all).2[p]? = some (e, x)
              · exact q
              · exact absurd (Or.inr q) hno
            exact ⟨rfl, x, row_taken _ hw p e x this⟩
      · have : st.ks.set k kp = st.ks := by
          apply List.ext_getElem?
          intro j
          rw [List.getElem?_set]
          split
          · rename_i e1; subst e1
            obtain ⟨hl, _⟩ := List.getElem?_eq_some_iff.mp h
            rw [if_pos hl, h]
          · rfl
        rw [this]
        exact I
    | refused e k' ke => cases hq
    | told e k' row => cases hq
    | taken e k' q => cases hq
end
theorem Inv.lets {st : Cst E} (I : Inv st) {ls : List (Letter E)} (h : ∀ l ∈ ls, l ∈ st.ls ∨ LetOk st.ks st.sq l) : Inv { st with ls := ls } :=
  ⟨I.ep, I.wf, I.src, I.wt, fun l hl => (h l hl).elim (fun q => I.lt l q) id, I.sqs⟩
theorem Inv.flush {st : Cst E} (I : Inv st) {k : Nat} {kp : Kp E} (h : st.ks[k]? = some kp) : Inv { st with ks := st.ks.set k (flushK kp) } ∧ ∀ l ∈ kp.wait, LetOk (st.ks.set k (flushK kp)) st.sq l := by
  refine ⟨I.keeper h ⟨kp.loose, rfl⟩ ?_ ?_ ?_, fun l hl => ?_⟩
  · have := I.wf k kp h
    simpa [flushK, Kp.all] using this
  · have := I.src k kp h
    simpa [flushK, Kp.all] using this
  · intro l hl
    simp [flushK] at hl
  · have ha := I.wt k kp h l hl
    obtain ⟨hlt, _⟩ := List.getElem?_eq_some_iff.mp h
    have e1 : (st.ks.set k (flushK kp))[k]? = some (flushK kp) := by simp [hlt]
    cases l with
    | ask e k => exact ha.elim
    | write e k p x => exact ha.elim
    | refused e k' ke => exact ⟨flushK kp, by rw [show (Letter.refused e k' ke : Letter E).num = k from ha]; exact e1, rfl⟩
    | told e k' row => exact ⟨flushK kp, by rw [show (Letter.told e k' row : Letter E).num = k from ha.1]; exact e1, rfl, ha.2⟩
    | taken e k' p => exact ⟨flushK kp, by rw [show (Letter.taken e k' p : Letter E).num = k from ha.1]; exact e1, rfl, ha.2⟩
theorem Inv.fall {st : Cst E} (I : Inv st) {k : Nat} {kp : Kp E} (m : Nat) (h : st.ks[k]? = some kp) : Inv { st with ks := st.ks.set k (fallK kp m) } := by
  have hp : kp.recs ++ kp.loose.take m <+: kp.all := by
    refine ⟨kp.loose.drop m, ?_⟩
    simp [Kp.all]
  refine I.keeper h ⟨kp.loose.take m, rfl⟩ ?_ ?_ ?_
  · have := (I.wf k kp h).prefix hp
    simpa [fallK, Kp.all] using this
  · intro e p x hm
    refine I.src k kp h e p x (hp.subset ?_)
    simpa [fallK, Kp.all] using hm
  · intro l hl
    simp [fallK] at hl

theorem one_epoch {sq : List (Sq E)} (h : (sq.map (·.epoch)).Nodup) {s s' : Sq E} (h1 : s ∈ sq) (h2 : s' ∈ sq) (e : s.epoch = s'.epoch) : s = s' := by
  induction sq with
  | nil => simp at h1
  | cons a t ih =>
    rw [List.map_cons, List.nodup_cons] at h
    have k1 := List.mem_cons.mp h1
    have k2 := List.mem_cons.mp h2
    clear h1 h2
    rcases k1 with q1 | q1
    · rcases k2 with q2 | q2
      · exact q1.trans q2.symm
      · subst q1
        exact absurd (List.mem_map.mpr ⟨s', q2, e.symm⟩ : s.epoch ∈ t.map (·.epoch)) h.1
    · rcases k2 with q2 | q2
      · subst q2
        exact absurd (List.mem_map.mpr ⟨s, q1, e⟩ : s'.epoch ∈ t.map (·.epoch)) h.1
      · exact ih h.2 q1 q2
theorem GrowS.set {sq : List (Sq E)} {i : Nat} {s s' : Sq E} (h : sq[i]? = some s) (he : s'.epoch = s.epoch) (hp : s.row <+: s'.row) : GrowS sq (sq.set i s') := by
  intro q hq
  obtain ⟨j, hj⟩ := List.getElem?_of_mem hq
  obtain ⟨hl, _⟩ := List.getElem?_eq_some_iff.mp h
  by_cases e : i = j
  · subst e
    rw [h] at hj
    cases hj
    exact ⟨s', List.mem_of_getElem? (List.getElem?_set_self hl), he, hp⟩
  · exact ⟨q, List.mem_of_getElem? (by rw [List.getElem?_set_ne e]; exact hj), rfl, List.prefix_refl _⟩
theorem GrowS.trans {a b c : List (Sq E)} (h : GrowS a b) (g : GrowS b c) : GrowS a c := by
  intro s hs
  obtain ⟨s1, m1, e1, p1⟩ := h s hs
  obtain ⟨s2, m2, e2, p2⟩ := g s1 m1
  exact ⟨s2, m2, e2.trans e1, p1.trans p2⟩
theorem Inv.seq {st : Cst E} (I : Inv st) {i : Nat} {s s' : Sq E} (h : st.sq[i]? = some s) (he : s'.epoch = s.epoch) (hp : s.row <+: s'.row) (ok : SqOk st.ks s') : Inv { st with sq := st.sq.set i s' } := by
  have g := GrowS.set h he hp
  refine ⟨?_, I.wf, fun k kp e a b c d => (I.src k kp e a b c d).mono g, I.wt, fun l hl => (I.lt l hl).mono (Grow.refl _) g, fun q hq => ?_⟩
  · have : (st.sq.set i s').map (·.epoch) = st.sq.map (·.epoch) := by
      rw [List.map_set, he]
      apply List.ext_getElem?
      intro j
      rw [List.getElem?_set]
      split
      · rename_i e1; subst e1
        obtain ⟨hl, _⟩ := List.getElem?_eq_some_iff.mp h
        rw [List.length_map, if_pos hl, List.getElem?_map, h]
        rfl
      · rfl
    show ((st.sq.set i s').map (·.epoch)).Nodup
    rw [this]
    exact I.ep
  · rcases List.mem_or_eq_of_mem_set hq with hq | rfl
    · exact I.sqs q hq
    · exact ok
theorem putRow_keys {rows : List (Nat × Row E)} {k : Nat} {row : Row E} : (putRow rows k row).map (·.1) = if k ∈ rows.map (·.1) then rows.map (·.1) else rows.map (·.1) ++ [k] := by
  unfold putRow
  split
  · rw [List.map_map]
    apply List.map_congr_left
    intro q _
    simp only [Function.comp]
    split <;> rfl
  · simp
theorem putRow_nodup {rows : List (Nat × Row E)} {k : Nat} {row : Row E} (h : (rows.map (·.1)).Nodup) : ((putRow rows k row).map (·.1)).Nodup := by
  rw [putRow_keys]
  split
  · exact h
  · rename_i hk
    rw [List.nodup_append]
    refine ⟨h, by simp, fun a ha b hb => ?_⟩
    simp at hb
    subst hb
    intro e
    subst e
    exact hk ha
theorem putRow_mem {rows : List (Nat × Row E)} {k : Nat} {row : Row E} {k' : Nat} {row' : Row E} (h : (k', row') ∈ putRow rows k row) : (k' = k ∧ row' = row) ∨ (k', row') ∈ rows := by
  unfold putRow at h
  split at h
  · obtain ⟨q, hq, e⟩ := List.mem_map.mp h
    split at e
    · rename_i e1
      cases e
      exact .inl ⟨e1, rfl⟩
    · subst e
      exact .inr hq
  · rcases List.mem_append.mp h with h | h
    · exact .inr h
    · simp at h
      exact .inl h
theorem Inv.hear {st : Cst E} (I : Inv st) {s s' : Sq E} {l : Letter E} (hs : s ∈ st.sq) (hl : LetOk st.ks st.sq l) (h : Hear st.ks.length s l s') : s'.epoch = s.epoch ∧ s.row <+: s'.row ∧ SqOk st.ks s' := by
  have ok := I.sqs s hs
  have same : s' = s → s'.epoch = s.epoch ∧ s.row <+: s'.row ∧ SqOk st.ks s' := by
    rintro rfl
    exact ⟨rfl, List.prefix_refl _, ok⟩
  unfold Hear at h
  split at h
  · exact same h
  · rename_i hne
    have hep : l.epoch = s.epoch := by
      by_cases q : l.epoch = s.epoch
      · exact q
      · exact absurd (Or.inl q) hne
    cases l with
    | ask e k => exact same h
    | write e k p x => exact same h
    | refused e k ke =>
      simp only at h
      subst h
      exact ⟨rfl, List.prefix_refl _, ⟨fun e => (nomatch e), ok.keys, ok.rows, fun e => (nomatch e), ok.led2, ok.len, ok.tk⟩⟩
    | told e k row =>
      simp only at h
      split at h
      · rename_i hask
        obtain ⟨hr0, ht0⟩ := ok.ask hask
        obtain ⟨kp, hkp, _, hsn⟩ := hl
        simp only [Letter.epoch] at hep
        simp only [Letter.num] at hkp
        subst hep
        have hlt : ∀ (e' : Int) (x : E), (e', x) ∈ row → e' < s.epoch := by
          intro e' x hm
          obtain ⟨a, ha, hka⟩ := hsn
          have hwa : WF a := (I.wf k kp hkp).prefix (ha.trans ⟨kp.loose, rfl⟩)
          obtain ⟨p, hp⟩ := List.getElem?_of_mem hm
          have h1 : Rec.take e' p x ∈ a := row_taken a hwa p e' x (by rw [hka]; exact hp)
          have h2 := known_epoch_le a _ h1
          rw [hka] at h2
          simp only [Rec.epoch] at h2
          by_cases q : e' = s.epoch
          · subst q
            obtain ⟨s1, m1, e1, r1⟩ := I.src k kp hkp _ p x (List.mem_append_left _ (ha.subset h1))
            have := one_epoch I.ep m1 hs e1
            subst this
            rw [hr0] at r1
            simp at r1
          · omega
        have rows' : ∀ (k' : Nat) (row' : Row E), (k', row') ∈ putRow s.rows k row → ∃ kp : Kp E, st.ks[k']? = some kp ∧ Snap kp.recs s.epoch row' ∧ ∀ (e : Int) (x : E), (e, x) ∈ row' → e < s.epoch := by
          intro k' row' hm
          rcases putRow_mem hm with ⟨rfl, rfl⟩ | hm
          · exact ⟨kp, hkp, hsn, hlt⟩
          · exact ok.rows k' row' hm
        split at h
        · rename_i hmost
          obtain ⟨out, hnew, rfl⟩ := h
          have led : Led st.ks.length { s with rows := putRow s.rows k row, row := out, stand := .leading } := ⟨hmost, out, [], by simp, hnew⟩
          exact ⟨rfl, by rw [hr0]; exact List.nil_prefix, ⟨fun e => (nomatch e), putRow_nodup ok.keys, rows', fun _ => led, fun _ => led, ok.len, ok.tk⟩⟩
        · subst h
          refine ⟨rfl, List.prefix_refl _, fun _ => ⟨hr0, ht0⟩, putRow_nodup ok.keys, rows', fun e => ?_, fun e => ?_, ok.len, ok.tk⟩
          · simp only at e
            rw [hask] at e
            cases e
          · exact absurd hr0 e
      · exact same h
    | taken e k p =>
      simp only at h
      split at h
      · rename_i hc
        obtain ⟨hld, htp⟩ := hc
        subst h
        obtain ⟨kp, hkp, _, x, hx⟩ := hl
        simp only [Letter.epoch] at hep
        simp only [Letter.num] at hkp
        subst hep
        refine ⟨rfl, List.prefix_refl _, fun e => ?_, ok.keys, ok.rows, ok.led1, ok.led2, by simp [ok.len], fun k' m hm p' hp' => ?_⟩
        · simp only at e
          rw [hld] at e
          cases e
        · simp only at hm
          rw [List.getElem?_set] at hm
          split at hm
          · rename_i e1
            subst e1
            split at hm
            · cases hm
              by_cases q : p' = p
              · subst q
                exact ⟨kp, x, hkp, hx⟩
              · exact ok.tk k p htp p' (by omega)
            · cases hm
          · exact ok.tk k' m hm p' hp'
      · exact same h
theorem Inv.toSend {st : Cst E} (I : Inv st) {s : Sq E} (hs : s ∈ st.sq) {l : Letter E} (h : l ∈ toSend st.ks.length s) : LetOk st.ks st.sq l ∧ l.isReq = true := by
  unfold Mc.toSend at h
  split at h
  · obtain ⟨k, hk, rfl⟩ := List.mem_map.mp h
    have := (List.mem_filter.mp hk).1
    exact ⟨List.mem_range.mp this, rfl⟩
  · obtain ⟨k, hk, e⟩ := List.mem_filterMap.mp h
    unfold wr at e
    split at e
    · rename_i p hp
      split at e
      · rename_i x hx
        cases e
        exact ⟨⟨List.mem_range.mp hk, s, hs, rfl, hx⟩, rfl⟩
      · cases e
    · cases e
  · simp at h
def newSq (e : Int) (n : Nat) : Sq E := ⟨e, .asking, [], [], List.replicate n 0⟩
theorem Inv.begin {st : Cst E} (I : Inv st) {e : Int} (h : e ∉ st.sq.map Sq.epoch) : Inv { st with sq := st.sq ++ [newSq e st.ks.length] } := by
  have g : GrowS st.sq (st.sq ++ [newSq e st.ks.length]) := fun s hs => ⟨s, List.mem_append_left _ hs, rfl, List.prefix_refl _⟩
  refine ⟨?_, I.wf, fun k kp e a b c d => (I.src k kp e a b c d).mono g, I.wt, fun l hl => (I.lt l hl).mono (Grow.refl _) g, fun q hq => ?_⟩
  · show ((st.sq ++ [newSq e st.ks.length]).map Sq.epoch).Nodup
    rw [List.map_append, List.nodup_append]
    refine ⟨I.ep, by simp, fun a ha b hb => ?_⟩
    simp [newSq] at hb
    subst hb
    intro q
    subst q
    exact h ha
  · rcases List.mem_append.mp hq with hq | hq
    · exact I.sqs q hq
    · simp at hq
      subst hq
      refine ⟨fun _ => ⟨rfl, fun m hm => ?_⟩, by simp [newSq], fun k row hm => by simp [newSq] at hm, fun e => (by cases e), fun e => absurd rfl e, by simp [newSq], fun k m hm p hp => ?_⟩
      · simp [newSq] at hm
        exact hm.2
      · simp [newSq, List.getElem?_replicate] at hm
        omega
theorem SqOk.add {ks : List (Kp E)} {s : Sq E} (ok : SqOk ks s) (h : s.stand = .leading) (x : E) : SqOk ks { s with row := s.row ++ [x] } := by
  have led : Led ks.length { s with row := s.row ++ [x] } := by
    obtain ⟨h1, out, more, h2, h3⟩ := ok.led1 h
    exact ⟨h1, out, more ++ [x], by simp [h2], h3⟩
  refine ⟨fun e => ?_, ok.keys, ok.rows, fun _ => led, fun _ => led, ok.len, ok.tk⟩
  simp only at e
  rw [h] at e
  cases e
theorem SqOk.stop {ks : List (Kp E)} {s : Sq E} (ok : SqOk ks s) : SqOk ks { s with stand := .stopped } :=
  ⟨fun e => (by cases e), ok.keys, ok.rows, fun e => (by cases e), ok.led2, ok.len, ok.tk⟩
def newSt (n : Nat) : Cst E := ⟨List.replicate n ⟨[], [], []⟩, [], []⟩
theorem Inv.new (n : Nat) : Inv (newSt n : Cst E) := by
  have key : ∀ (k : Nat) (kp : Kp E), (newSt n : Cst E).ks[k]? = some kp → kp = ⟨[], [], []⟩ := by
    intro k kp h
    simp [newSt, List.getElem?_replicate] at h
    exact h.2.symm
  refine ⟨by simp [newSt], fun k kp h => ?_, fun k kp h e p x hm => ?_, fun k kp h l hl => ?_, fun l hl => by simp [newSt] at hl, fun s hs => by simp [newSt] at hs⟩
  · rw [key k kp h]; exact .nil
  · rw [key k kp h] at hm; simp [Kp.all] at hm
  · rw [key k kp h] at hl; simp at hl

/-! ### 5. What is settled -/
section
variable [DecidableEq E]
def votes (ks : List (Kp E)) (e : Int) (p : Nat) (x : E) : Nat := (ks.filter fun k => decide (Rec.take e p x ∈ k.recs)).length
def Chosen (ks : List (Kp E)) (e : Int) (p : Nat) (x : E) : Prop := ks.length / 2 + 1 ≤ votes ks e p x
theorem votes_pos {ks : List (Kp E)} {e : Int} {p : Nat} {x : E} (h : 0 < votes ks e p x) : ∃ (k : Nat) (kp : Kp E), ks[k]? = some kp ∧ Rec.take e p x ∈ kp.recs := by
  unfold votes at h
  obtain ⟨kp, hkp⟩ := List.exists_mem_of_length_pos h
  obtain ⟨h1, h2⟩ := List.mem_filter.mp hkp
  obtain ⟨k, hk⟩ := List.getElem?_of_mem h1
  exact ⟨k, kp, hk, of_decide_eq_true h2⟩
/-- two lots of most have one in common -/
theorem meet_aux (P : Nat → Bool) : ∀ (n : Nat) (keys : List Nat), keys.Nodup → (∀ k ∈ keys, k < n ∧ P k = false) → keys.length + ((List.range n).filter P).length ≤ n := by
  intro n
  induction n with
  | zero =>
    intro keys _ h
    cases keys with
    | nil => simp
    | cons k t => exact absurd (h k (by simp)).1 (by omega)
  | succ n ih =>
    intro keys hn h
    rw [List.range_succ, List.filter_append, List.length_append]
    by_cases hm : n ∈ keys
    · have h1 := ih (keys.erase n) (hn.erase n) (fun k hk => by
        have hk' := List.mem_of_mem_erase hk
        have h2 := h k hk'
        have h3 : k ≠ n := fun e => by
          subst e
          exact (List.Nodup.not_mem_erase hn) hk
        exact ⟨by omega, h2.2⟩)
      rw [List.length_erase_of_mem hm] at h1
      have h4 := (h n hm).2
      have h5 : 0 < keys.length := List.length_pos_of_mem hm
      simp [h4]
      omega
    · have h1 := ih keys hn (fun k hk => by
        have h2 := h k hk
        have h3 : k ≠ n := fun e => by
          subst e
          exact hm hk
        exact ⟨by omega, h2.2⟩)
      have h6 : ([n].filter P).length ≤ 1 := by
        have := List.length_filter_le P [n]
        simpa using this
      omega
theorem filter_range {α : Type} (f : α → Bool) : ∀ ks : List α, (ks.filter f).length = ((List.range ks.length).filter fun k => (ks[k]?).any f).length := by
  intro ks
  induction ks using snoc_ind with
  | h0 => simp
  | hs l a ih =>
    rw [List.filter_append, List.length_append, List.length_append, List.length_singleton, List.range_succ, List.filter_append, List.length_append, ih]
    congr 1
    · congr 1
      apply List.filter_congr
      intro k hk
      rw [List.getElem?_append_left (List.mem_range.mp hk)]
    · by_cases h : f a = true
      · simp [h]
      · simp [h]
theorem quorum {ks : List (Kp E)} {e : Int} {p : Nat} {x : E} (h : Chosen ks e p x) {keys : List Nat} (hn : keys.Nodup) (hlt : ∀ k ∈ keys, k < ks.length) (hm : ks.length / 2 + 1 ≤ keys.length) :
    ∃ (k : Nat) (kp : Kp E), k ∈ keys ∧ ks[k]? = some kp ∧ Rec.take e p x ∈ kp.recs := by
  unfold Chosen votes at h
  rw [filter_range] at h
  by_cases q : ∀ k ∈ keys, (ks[k]?).any (fun k => decide (Rec.take e p x ∈ k.recs)) = false
  · have := meet_aux (fun k => (ks[k]?).any (fun k => decide (Rec.take e p x ∈ k.recs))) ks.length keys hn (fun k hk => ⟨hlt k hk, q k hk⟩)
    omega
  · have : ∃ k, k ∈ keys ∧ ¬ (ks[k]?).any (fun k => decide (Rec.take e p x ∈ k.recs)) = false := by
      apply Classical.byContradiction
      intro hno
      apply q
      intro k hk
      apply Classical.byContradiction
      intro hp
      exact hno ⟨k, hk, hp⟩
    obtain ⟨k, hk, hp⟩ := this
    cases hkp : ks[k]? with
    | none => rw [hkp] at hp; exact absurd rfl hp
    | some kp =>
      rw [hkp] at hp
      refine ⟨k, kp, hk, hkp, ?_⟩
      simpa using hp
/-- whoever leads later writes what is settled -/
theorem Inv.later {st : Cst E} (I : Inv st) {e : Int} {p : Nat} {x : E} (h : Chosen st.ks e p x) : ∀ (n : Nat) (s : Sq E), s ∈ st.sq → (s.epoch - e).toNat < n → e < s.epoch → Led st.ks.length s → s.row[p]? = some x := by
  intro n
  induction n with
  | zero => intro s _ h; omega
  | succ n ih =>
    intro s hs hn hlt hled
    have ok := I.sqs s hs
    obtain ⟨hm, out, more, hrow, hnew⟩ := hled
    obtain ⟨k, kp, hk, hkp, htk⟩ := quorum h (keys := s.rows.map (·.1)) ok.keys (fun k hk => by
        obtain ⟨⟨k', row⟩, hr, rfl⟩ := List.mem_map.mp hk
        obtain ⟨kp, hkp, _⟩ := ok.rows k' row hr
        exact (List.getElem?_eq_some_iff.mp hkp).1) (by rw [List.length_map]; exact hm)
    obtain ⟨⟨k', row⟩, hr, rfl⟩ := List.mem_map.mp hk
    obtain ⟨kp', hkp', ⟨a, ha, hka⟩, hep⟩ := ok.rows k' row hr
    simp only at hkp
    rw [hkp] at hkp'
    cases hkp'
    -- the take stands in the part that was told
    obtain ⟨b, hb⟩ := ha
    have hwf : WF kp.recs := (I.wf k' kp hkp).prefix ⟨kp.loose, rfl⟩
    have hin : Rec.take e p x ∈ a := by
      rw [← hb] at htk
      rcases List.mem_append.mp htk with q | q
      · exact q
      · have h1 := later_epoch b a (by rw [hb]; exact hwf) _ q
        rw [hka] at h1
        simp only [Rec.epoch] at h1
        omega
    obtain ⟨e1, x1, q1, q2⟩ := taken_row a (hwf.prefix ⟨b, hb⟩) p e x hin
    rw [hka] at q1
    simp only at q1
    have hpl : p < row.length := (List.getElem?_eq_some_iff.mp q1).1
    have hrm : row ∈ s.rows.map (·.2) := List.mem_map.mpr ⟨(k', row), hr, rfl⟩
    have hpo : p < out.length := Nat.lt_of_lt_of_le hpl (hnew.1 row hrm)
    obtain ⟨y, hy⟩ : ∃ y, out[p]? = some y := ⟨out[p], List.getElem?_eq_getElem hpo⟩
    obtain ⟨row2, hr2, m, hm2, hmax⟩ := hnew.2 p y hy
    have hem : e1 ≤ m := hmax row hrm e1 x1 q1
    obtain ⟨⟨k2, row2'⟩, hr2m, rfl⟩ := List.mem_map.mp hr2
    simp only at hm2
    obtain ⟨kp2, hkp2, ⟨a2, ha2, hka2⟩, hep2⟩ := ok.rows k2 row2' hr2m
    have hmlt : m < s.epoch := hep2 m y (List.mem_of_getElem? hm2)
    have hwf2 : WF a2 := (I.wf k2 kp2 hkp2).prefix (ha2.trans ⟨kp2.loose, rfl⟩)
    have htk2 : Rec.take m p y ∈ kp2.all := List.mem_append_left _ (ha2.subset (row_taken a2 hwf2 p m y (by rw [hka2]; exact hm2)))
    obtain ⟨s2, hs2, he2, hrow2⟩ := I.src k2 kp2 hkp2 m p y htk2
    have hyx : y = x := by
      by_cases q : m = e
      · subst q
        obtain ⟨s3, hs3, he3, hrow3⟩ := I.src k' kp hkp m p x (List.mem_append_left _ (by rw [← hb]; exact List.mem_append_left _ hin))
        have := one_epoch I.ep hs2 hs3 (he2.trans he3.symm)
        subst this
        rw [hrow2] at hrow3
        exact Option.some.inj hrow3
      · have h2 := ih s2 hs2 (by omega) (by omega) ((I.sqs s2 hs2).led2 (by intro h0; rw [h0] at hrow2; simp at hrow2))
        rw [hrow2] at h2
        exact Option.some.inj h2
    subst hyx
    rw [hrow, List.getElem?_append_left hpo]
    exact hy
theorem Chosen.has {st : Cst E} (I : Inv st) {e : Int} {p : Nat} {x : E} (h : Chosen st.ks e p x) : Has st.sq e p x := by
  obtain ⟨k, kp, hk, hm⟩ := votes_pos (Nat.lt_of_lt_of_le (Nat.succ_pos _) h)
  exact I.src k kp hk e p x (List.mem_append_left _ hm)
theorem Inv.agree {st : Cst E} (I : Inv st) {e e' : Int} {p : Nat} {x x' : E} (h : Chosen st.ks e p x) (h' : Chosen st.ks e' p x') : x = x' := by
  obtain ⟨s, hs, he, hr⟩ := h.has I
  obtain ⟨s', hs', he', hr'⟩ := h'.has I
  have nn : ∀ {s : Sq E} {y : E}, s.row[p]? = some y → s.row ≠ [] := by
    intro s y h q
    rw [q] at h
    simp at h
  rcases Int.lt_trichotomy e e' with q | q | q
  · have := I.later h _ s' hs' (Nat.lt_succ_self _) (by omega) ((I.sqs s' hs').led2 (nn hr'))
    rw [hr'] at this
    exact (Option.some.inj this).symm
  · have := one_epoch I.ep hs hs' (by omega)
    subst this
    rw [hr] at hr'
    exact Option.some.inj hr'
  · have := I.later h' _ s hs (Nat.lt_succ_self _) (by omega) ((I.sqs s hs).led2 (nn hr))
    rw [hr] at this
    exact Option.some.inj this
theorem filter_mono {α : Type} (f : α → Bool) : ∀ (a b : List α), b.length = a.length → (∀ (k : Nat) (x : α), a[k]? = some x → f x = true → ∃ y, b[k]? = some y ∧ f y = true) → (a.filter f).length ≤ (b.filter f).length
  | [], [], _, _ => by simp
  | [], _ :: _, h, _ => by simp at h
  | _ :: _, [], h, _ => by simp at h
  | x :: a, y :: b, h, g => by
    have ih := filter_mono f a b (by simpa using h) (fun k z hk hz => by
      have := g (k + 1) z (by simpa using hk) hz
      simpa using this)
    rw [List.filter_cons, List.filter_cons]
    by_cases hx : f x = true
    · obtain ⟨y', hy', hfy⟩ := g 0 x rfl hx
      have : y' = y := (Option.some.inj (show some y = some y' from hy')).symm
      subst this
      rw [if_pos hx, if_pos hfy]
      simp [ih]
    · rw [if_neg hx]
      split
      · simp; omega
      · exact ih
theorem Chosen.mono {ks ks' : List (Kp E)} (g : Grow ks ks') {e : Int} {p : Nat} {x : E} (h : Chosen ks e p x) : Chosen ks' e p x := by
  unfold Chosen at *
  rw [g.1]
  refine Nat.le_trans h (filter_mono _ _ _ g.1 fun k kp hk hf => ?_)
  obtain ⟨kp', hk', hp⟩ := g.2 k kp hk
  exact ⟨kp', hk', decide_eq_true (hp.subset (of_decide_eq_true hf))⟩
/-- the list of the settled entries at a place -/
def SettledAt (ks : List (Kp E)) (p : Nat) (found : List E) : Prop := found.Nodup ∧ ∀ x, x ∈ found ↔ ∃ e, Chosen ks e p x
def SettledRow (ks : List (Kp E)) (row : List E) : Prop := (∀ (p : Nat) (x : E), row[p]? = some x → ∃ e, Chosen ks e p x) ∧ ∀ e x, ¬ Chosen ks e row.length x
theorem SettledRow.at {st : Cst E} (I : Inv st) {row : List E} (h : SettledRow st.ks row) {p : Nat} {found : List E} (g : SettledAt st.ks p found) (hp : p ≤ row.length) : found = (match row[p]? with | some x => [x] | none => []) := by
  obtain ⟨g1, g2⟩ := g
  cases hr : row[p]? with
  | some x =>
    obtain ⟨e, he⟩ := h.1 p x hr
    have hx : x ∈ found := (g2 x).mpr ⟨e, he⟩
    have all : ∀ y ∈ found, y = x := by
      intro y hy
      obtain ⟨e', he'⟩ := (g2 y).mp hy
      exact I.agree he' he
    cases found with
    | nil => simp at hx
    | cons a t =>
      have ha := all a (by simp)
      subst ha
      cases t with
      | nil => rfl
      | cons b t =>
        have hb := all b (by simp)
        subst hb
        simp at g1
  | none =>
    have : p = row.length := by
      have := List.getElem?_eq_none_iff.mp hr
      omega
    subst this
    cases found with
    | nil => rfl
    | cons a t =>
      obtain ⟨e, he⟩ := (g2 a).mp (by simp)
      exact absurd he (h.2 e a)
theorem SettledRow.grow {st : Cst E} (I : Inv st) {ks : List (Kp E)} (g : Grow ks st.ks) {row row' : List E} (h : SettledRow ks row) (h' : SettledRow st.ks row') : row'.take row.length = row := by
  have hlen : row.length ≤ row'.length := by
    apply Classical.byContradiction
    intro hno
    have hlt : row'.length < row.length := by omega
    obtain ⟨e, he⟩ := h.1 row'.length row[row'.length] (List.getElem?_eq_getElem hlt)
    exact h'.2 e _ (he.mono g)
  apply List.ext_getElem?
  intro p
  rw [List.getElem?_take]
  split
  · rename_i hp
    obtain ⟨e, he⟩ := h.1 p row[p] (List.getElem?_eq_getElem hp)
    obtain ⟨e', he'⟩ := h'.1 p row'[p] (List.getElem?_eq_getElem (by omega))
    rw [List.getElem?_eq_getElem hp, List.getElem?_eq_getElem (show p < row'.length by omega), I.agree (he.mono g) he']
  · rename_i hp
    exact (List.getElem?_eq_none (by omega)).symm
/-- what a sequencer knows as settled -/
theorem Inv.knows {st : Cst E} (I : Inv st) {s : Sq E} (hs : s ∈ st.sq) {m : Nat} (hm : st.ks.length / 2 + 1 ≤ (s.taken.filter fun t => decide (m ≤ t)).length) {row : List E} (h : SettledRow st.ks row) : m ≤ s.row.length ∧ row.take m = s.row.take m := by
  have ok := I.sqs s hs
  have key : ∀ p, p < m → ∃ x, s.row[p]? = some x ∧ Chosen st.ks s.epoch p x := by
    intro p hp
    -- each keeper that told m has the take of the row's entry
    have one : ∀ (k t : Nat), s.taken[k]? = some t → m ≤ t → ∃ (kp : Kp E) (x : E), st.ks[k]? = some kp ∧ Rec.take s.epoch p x ∈ kp.recs ∧ s.row[p]? = some x := by
      intro k t hk ht
      obtain ⟨kp, x, h1, h2⟩ := ok.tk k t hk p (by omega)
      obtain ⟨s2, hs2, he2, hr2⟩ := I.src k kp h1 _ p x (List.mem_append_left _ h2)
      have := one_epoch I.ep hs2 hs he2
      subst this
      exact ⟨kp, x, h1, h2, hr2⟩
    have hpos : 0 < (s.taken.filter fun t => decide (m ≤ t)).length := by omega
    obtain ⟨t0, ht0⟩ := List.exists_mem_of_length_pos hpos
    obtain ⟨ht1, ht2⟩ := List.mem_filter.mp ht0
    obtain ⟨k0, hk0⟩ := List.getElem?_of_mem ht1
    obtain ⟨kp0, x, _, _, hx⟩ := one k0 t0 hk0 (of_decide_eq_true ht2)
    refine ⟨x, hx, ?_⟩
    unfold Chosen votes
    refine Nat.le_trans hm ?_
    rw [filter_range (fun t => decide (m ≤ t)) s.taken, filter_range _ st.ks, ok.len]
    have sub : ∀ k : Nat, (s.taken[k]?).any (fun t => decide (m ≤ t)) = true → (st.ks[k]?).any (fun kp => decide (Rec.take s.epoch p x ∈ kp.recs)) = true := by
      intro k hk
      cases ht : s.taken[k]? with
      | none => rw [ht] at hk; cases hk
      | some t =>
        rw [ht] at hk
        obtain ⟨kp, y, h1, h2, h3⟩ := one k t ht (by simpa using hk)
        rw [hx] at h3
        cases h3
        rw [h1]
        simpa using h2
    have cnt : ∀ (f g : Nat → Bool), (∀ k, f k = true → g k = true) → ∀ l : List Nat, (l.filter f).length ≤ (l.filter g).length := by
      intro f g hfg l
      induction l with
      | nil => simp
      | cons a t ih =>
        rw [List.filter_cons, List.filter_cons]
        by_cases ha : f a = true
        · rw [if_pos ha, if_pos (hfg a ha)]
          simp [ih]
        · rw [if_neg ha]
          split
          · simp; omega
          · exact ih
    exact cnt _ _ sub _
  have hml : m ≤ s.row.length := by
    apply Classical.byContradiction
    intro hno
    obtain ⟨x, hx, _⟩ := key s.row.length (by omega)
    simp at hx
  refine ⟨hml, ?_⟩
  have hmr : m ≤ row.length := by
    apply Classical.byContradiction
    intro hno
    obtain ⟨x, _, hc⟩ := key row.length (by omega)
    exact h.2 _ _ hc
  apply List.ext_getElem?
  intro p
  rw [List.getElem?_take, List.getElem?_take]
  split
  · rename_i hp
    obtain ⟨x, hx, hc⟩ := key p hp
    obtain ⟨e', he'⟩ := h.1 p row[p] (List.getElem?_eq_getElem (by omega))
    rw [List.getElem?_eq_getElem (show p < row.length by omega), hx, I.agree hc he']
  · rfl
/-- a place with a settled entry lies within the records -/
theorem Inv.place {st : Cst E} (I : Inv st) {e : Int} {p : Nat} {x : E} (h : Chosen st.ks e p x) : ∃ (k : Nat) (kp : Kp E), st.ks[k]? = some kp ∧ p < kp.recs.length := by
  obtain ⟨k, kp, hk, hm⟩ := votes_pos (Nat.lt_of_lt_of_le (Nat.succ_pos _) h)
  have hwf : WF kp.recs := (I.wf k kp hk).prefix ⟨kp.loose, rfl⟩
  obtain ⟨e1, x1, q1, _⟩ := taken_row kp.recs hwf p e x hm
  have := (List.getElem?_eq_some_iff.mp q1).1
  exact ⟨k, kp, hk, Nat.lt_of_lt_of_le this (known_len_le _)⟩
end
end Mc
/-! Sizes beside what holds. -/
namespace Mc
variable {E : Type}
structure Sz (N : Nat) (st : Cst E) : Prop where
  ks : ∀ (k : Nat) (kp : Kp E), st.ks[k]? = some kp → kp.all.length ≤ N ∧ kp.wait.length ≤ N
  sq : ∀ s ∈ st.sq, s.row.length ≤ N
  ls : st.ls.length ≤ 1000 * N
structure Good (N : Nat) (st : Cst E) : Prop where
  inv : Inv st
  n1 : 1 ≤ st.ks.length
  n5 : st.ks.length ≤ 5
  sz : Sz N st
theorem Good.mono {N N' : Nat} {st : Cst E} (g : Good N st) (h : N ≤ N') : Good N' st :=
  ⟨g.inv, g.n1, g.n5, fun k kp e => by have := g.sz.ks k kp e; omega, fun s hs => by have := g.sz.sq s hs; omega, by have := g.sz.ls; omega⟩
theorem Kp.recs_le (k : Kp E) : k.recs.length ≤ k.all.length := by simp [Kp.all]
theorem snap_len {rs : List (Rec E)} {e : Int} {row : Row E} (h : Snap rs e row) : row.length ≤ rs.length := by
  obtain ⟨a, ha, hk⟩ := h
  have h1 := known_len_le a
  rw [hk] at h1
  exact Nat.le_trans h1 ha.length_le
theorem Good.rows {N : Nat} {st : Cst E} (g : Good N st) {s : Sq E} (hs : s ∈ st.sq) : ∀ q ∈ s.rows, q.1 < st.ks.length ∧ q.2.length ≤ N := by
  rintro ⟨k, row⟩ hq
  obtain ⟨kp, hk, hsn, _⟩ := (g.inv.sqs s hs).rows k row hq
  have h1 := snap_len hsn
  have h2 := (g.sz.ks k kp hk).1
  have h3 := kp.recs_le
  exact ⟨(List.getElem?_eq_some_iff.mp hk).1, by show row.length ≤ N; omega⟩
def rowLenG : Letter E → Nat
  | .told _ _ row => row.length
  | _ => 0
theorem Good.let_ {N : Nat} {st : Cst E} (g : Good N st) {l : Letter E} (hl : LetOk st.ks st.sq l) : l.num < st.ks.length ∧ rowLenG l ≤ N := by
  have key : ∀ l : Letter E, (∃ kp : Kp E, st.ks[l.num]? = some kp ∧ AnsOk l.num kp.recs l) → l.num < st.ks.length ∧ rowLenG l ≤ N := by
    rintro l ⟨kp, hk, ha⟩
    refine ⟨(List.getElem?_eq_some_iff.mp hk).1, ?_⟩
    have h2 := (g.sz.ks _ kp hk).1
    have h3 := kp.recs_le
    cases l with
    | told e k row =>
      have h1 := snap_len ha.2
      show row.length ≤ N
      omega
    | ask e k => exact Nat.zero_le _
    | write e k p x => exact Nat.zero_le _
    | refused e k ke => exact Nat.zero_le _
    | taken e k p => exact Nat.zero_le _
  cases l with
  | ask e k => exact ⟨hl, Nat.zero_le _⟩
  | write e k p x => exact ⟨hl.1, Nat.zero_le _⟩
  | refused e k ke => exact key _ hl
  | told e k row => exact key _ hl
  | taken e k p => exact key _ hl
theorem set_at {α : Type} {xs : List α} {k : Nat} {y : α} {j : Nat} {x : α} (h : (xs.set k y)[j]? = some x) : x = y ∨ xs[j]? = some x := by
  rw [List.getElem?_set] at h
  split at h
  · split at h
    · exact .inl (Option.some.inj h).symm
    · cases h
  · exact .inr h
theorem ite_len {α : Type} {c : Prop} [Decidable c] (l : List α) (a : α) : (if c then l ++ [a] else l).length ≤ l.length + 1 := by
  split
  · simp
  · omega
section
variable [DecidableEq E]
theorem handle_len (n : Nat) (k : Kp E) (l : Letter E) : (handle n k l).all.length ≤ k.all.length + 1 ∧ (handle n k l).wait.length ≤ k.wait.length + 1 := by
  unfold handle
  split
  · simp [Kp.all]
  · cases l with
    | ask e j =>
      simp only
      refine ⟨?_, by simp⟩
      show (k.recs ++ _).length ≤ (k.recs ++ k.loose).length + 1
      rw [List.length_append, List.length_append, Nat.add_assoc]
      exact Nat.add_le_add_left (ite_len _ _) _
    | write e j p x =>
      simp only
      split
      · refine ⟨?_, by simp⟩
        show (k.recs ++ _).length ≤ (k.recs ++ k.loose).length + 1
        rw [List.length_append, List.length_append, Nat.add_assoc]
        exact Nat.add_le_add_left (ite_len _ _) _
      · simp
    | refused e j ke => simp
    | told e j row => simp
    | taken e j p => simp
theorem handle_recs (n : Nat) (k : Kp E) (l : Letter E) : (handle n k l).recs = k.recs := by
  unfold handle
  split
  · rfl
  · cases l with
    | write e j p x => simp only; split <;> rfl
    | ask e j => rfl
    | refused e j ke => rfl
    | told e j row => rfl
    | taken e j p => rfl
theorem Good.handle {N : Nat} {st : Cst E} (g : Good N st) {k : Nat} {kp : Kp E} {l : Letter E} (h : st.ks[k]? = some kp) (hl : LetOk st.ks st.sq l) (hq : l.isReq = true) :
    Good (N + 1) { st with ks := st.ks.set k (handle k kp l) } ∧ Grow st.ks (st.ks.set k (handle k kp l)) := by
  have h1 := handle_len k kp l
  have h2 := g.sz.ks k kp h
  refine ⟨⟨g.inv.handle h hl hq, by simp; exact g.n1, by simp; exact g.n5, fun j q e => ?_, fun s hs => by have := g.sz.sq s hs; omega, by have := g.sz.ls; show st.ls.length ≤ _; omega⟩, Grow.set h (by rw [handle_recs]; exact List.prefix_refl _)⟩
  rcases set_at e with rfl | e
  · omega
  · have := g.sz.ks j q e; omega
end
theorem Good.flush {N : Nat} {st : Cst E} (g : Good N st) {k : Nat} {kp : Kp E} (h : st.ks[k]? = some kp) :
    Good N { st with ks := st.ks.set k (flushK kp) } ∧ Grow st.ks (st.ks.set k (flushK kp)) ∧ (∀ l ∈ kp.wait, LetOk (st.ks.set k (flushK kp)) st.sq l) ∧ (∀ l ∈ kp.wait, l.isReq = false) ∧ kp.wait.length ≤ N := by
  have h2 := g.sz.ks k kp h
  obtain ⟨i1, i2⟩ := g.inv.flush h
  refine ⟨⟨i1, by simp; exact g.n1, by simp; exact g.n5, fun j q e => ?_, g.sz.sq, g.sz.ls⟩, Grow.set h ⟨kp.loose, rfl⟩, i2, fun l hl => ?_, h2.2⟩
  · rcases set_at e with rfl | e
    · simp only [flushK, Kp.all] at *
      simpa using h2.1
    · exact g.sz.ks j q e
  · have := g.inv.wt k kp h l hl
    cases l with
    | ask e k => exact this.elim
    | write e k p x => exact this.elim
    | refused e k ke => rfl
    | told e k row => rfl
    | taken e k p => rfl
theorem Good.fall {N : Nat} {st : Cst E} (g : Good N st) {k : Nat} {kp : Kp E} (m : Nat) (h : st.ks[k]? = some kp) :
    Good N { st with ks := st.ks.set k (fallK kp m) } ∧ Grow st.ks (st.ks.set k (fallK kp m)) := by
  have h2 := g.sz.ks k kp h
  refine ⟨⟨g.inv.fall m h, by simp; exact g.n1, by simp; exact g.n5, fun j q e => ?_, g.sz.sq, g.sz.ls⟩, Grow.set h ⟨kp.loose.take m, rfl⟩⟩
  rcases set_at e with rfl | e
  · have e1 := h2.1
    simp only [Kp.all, List.length_append] at e1
    simp only [fallK, Kp.all, List.length_append, List.length_nil, List.length_take]
    omega
  · exact g.sz.ks j q e
theorem Good.lets {N N' : Nat} {st : Cst E} (g : Good N st) {ls : List (Letter E)} (h : ∀ l ∈ ls, l ∈ st.ls ∨ LetOk st.ks st.sq l) (hN : N ≤ N') (hl : ls.length ≤ 1000 * N') : Good N' { st with ls := ls } :=
  ⟨g.inv.lets h, g.n1, g.n5, (g.mono hN).sz.ks, (g.mono hN).sz.sq, hl⟩
theorem Hear.row {n : Nat} {s s' : Sq E} {l : Letter E} (h : Hear n s l s') {N : Nat} (h1 : s.row.length ≤ N) (h2 : ∀ q ∈ s.rows, q.2.length ≤ N) (h3 : rowLenG l ≤ N) : s'.row.length ≤ N := by
  have same : s' = s → s'.row.length ≤ N := by rintro rfl; exact h1
  unfold Hear at h
  split at h
  · exact same h
  · cases l with
    | ask e k => exact same h
    | write e k p x => exact same h
    | refused e k ke => simp only at h; subst h; exact h1
    | told e k row =>
      simp only at h
      split at h
      · split at h
        · obtain ⟨out, hnew, rfl⟩ := h
          apply Classical.byContradiction
          intro hno
          have hlt : N < out.length := Nat.lt_of_not_le hno
          obtain ⟨r, hr, m, e1, _⟩ := hnew.2 N out[N] (List.getElem?_eq_getElem hlt)
          have hrl := (List.getElem?_eq_some_iff.mp e1).1
          obtain ⟨⟨q1, q2⟩, hq, rfl⟩ := List.mem_map.mp hr
          rcases putRow_mem hq with ⟨rfl, rfl⟩ | hq
          · have h3 : q2.length ≤ N := h3
            simp only at hrl
            omega
          · have := h2 _ hq
            simp only at hrl this
            omega
        · subst h; exact h1
      · exact same h
    | taken e k p =>
      simp only at h
      split at h
      · subst h; exact h1
      · exact same h
theorem Good.hear {N : Nat} {st : Cst E} (g : Good N st) {i : Nat} {s s' : Sq E} {l : Letter E} (hi : st.sq[i]? = some s) (hl : LetOk st.ks st.sq l) (h : Hear st.ks.length s l s') :
    Good N { st with sq := st.sq.set i s' } ∧ GrowS st.sq (st.sq.set i s') ∧ (st.sq.set i s').map Sq.epoch = st.sq.map Sq.epoch := by
  have hs := List.mem_of_getElem? hi
  obtain ⟨e1, p1, ok⟩ := g.inv.hear hs hl h
  refine ⟨⟨g.inv.seq hi e1 p1 ok, g.n1, g.n5, g.sz.ks, fun q hq => ?_, g.sz.ls⟩, GrowS.set hi e1 p1, ?_⟩
  · rcases List.mem_or_eq_of_mem_set hq with hq | rfl
    · exact g.sz.sq q hq
    · exact h.row (g.sz.sq s hs) (fun q hq => (g.rows hs q hq).2) (g.let_ hl).2
  · rw [List.map_set, e1]
    apply List.ext_getElem?
    intro j
    rw [List.getElem?_set]
    split
    · rename_i e2; subst e2
      obtain ⟨hl, _⟩ := List.getElem?_eq_some_iff.mp hi
      rw [List.length_map, if_pos hl, List.getElem?_map, hi]
      rfl
    · rfl
theorem set_epochs {sq : List (Sq E)} {i : Nat} {s s' : Sq E} (hi : sq[i]? = some s) (e1 : s'.epoch = s.epoch) : (sq.set i s').map Sq.epoch = sq.map Sq.epoch := by
  rw [List.map_set, e1]
  apply List.ext_getElem?
  intro j
  rw [List.getElem?_set]
  split
  · rename_i e2; subst e2
    obtain ⟨hl, _⟩ := List.getElem?_eq_some_iff.mp hi
    rw [List.length_map, if_pos hl, List.getElem?_map, hi]
    rfl
  · rfl
theorem Good.add {N : Nat} {st : Cst E} (g : Good N st) {i : Nat} {s : Sq E} (x : E) (hi : st.sq[i]? = some s) (h : s.stand = .leading) : Good (N + 1) { st with sq := st.sq.set i { s with row := s.row ++ [x] } } := by
  have hs := List.mem_of_getElem? hi
  refine ⟨g.inv.seq hi rfl ⟨[x], rfl⟩ ((g.inv.sqs s hs).add h x), g.n1, g.n5, (g.mono (Nat.le_succ N)).sz.ks, fun q hq => ?_, (g.mono (Nat.le_succ N)).sz.ls⟩
  have h1 := g.sz.sq s hs
  rcases List.mem_or_eq_of_mem_set hq with hq | rfl
  · have := g.sz.sq q hq; omega
  · simp only [List.length_append, List.length_singleton]; omega
theorem Good.stop {N : Nat} {st : Cst E} (g : Good N st) {i : Nat} {s : Sq E} (hi : st.sq[i]? = some s) : Good N { st with sq := st.sq.set i { s with stand := .stopped } } := by
  have hs := List.mem_of_getElem? hi
  refine ⟨g.inv.seq hi rfl (List.prefix_refl _) (g.inv.sqs s hs).stop, g.n1, g.n5, g.sz.ks, fun q hq => ?_, g.sz.ls⟩
  rcases List.mem_or_eq_of_mem_set hq with hq | rfl
  · exact g.sz.sq q hq
  · exact g.sz.sq s hs
theorem Good.begin {N : Nat} {st : Cst E} (g : Good N st) {e : Int} (h : e ∉ st.sq.map Sq.epoch) : Good N { st with sq := st.sq ++ [newSq e st.ks.length] } := by
  refine ⟨g.inv.begin h, g.n1, g.n5, g.sz.ks, fun q hq => ?_, g.sz.ls⟩
  rcases List.mem_append.mp hq with hq | hq
  · exact g.sz.sq q hq
  · simp at hq
    subst hq
    exact Nat.zero_le _
theorem Good.new {n : Nat} (h1 : 1 ≤ n) (h5 : n ≤ 5) : Good 0 (newSt n : Cst E) := by
  refine ⟨Inv.new n, by simp [newSt]; omega, by simp [newSt]; omega, fun k kp e => ?_, fun s hs => by simp [newSt] at hs, by simp [newSt]⟩
  simp [newSt, List.getElem?_replicate] at e
  rw [← e.2]
  exact ⟨Nat.le_refl _, Nat.le_refl _⟩
theorem toSend_len (n : Nat) (s : Sq E) : (toSend n s).length ≤ n := by
  unfold toSend
  split
  · rw [List.length_map]
    have := List.length_filter_le (fun k => !(s.rows.map (·.1)).contains k) (List.range n)
    rw [List.length_range] at this
    exact this
  · have := List.length_filterMap_le (wr s) (List.range n)
    rw [List.length_range] at this
    exact this
  · exact Nat.zero_le _
end Mc
/-! The text by places; objects of the program over the abstract heap. -/
namespace K40
open PySem L2 Mc
def top (i : Nat) : Stmt := PySem.Challenge.pw_mastcalls_k40_whole_council.main.body.getD i (.Pass ⟨0, 0, 0, 0⟩)
abbrev sWhole : Stmt := top 4
abbrev sRInit : Stmt := inClass (top 6) 0
abbrev sRPut : Stmt := inClass (top 6) 1
abbrev sRFits : Stmt := inClass (top 6) 2
abbrev sKInit : Stmt := inClass (top 7) 0
abbrev sKKept : Stmt := inClass (top 7) 1
abbrev sKHandle : Stmt := inClass (top 7) 2
abbrev sKTake : Stmt := inClass (top 7) 3
abbrev sKFlush : Stmt := inClass (top 7) 4
abbrev sKFall : Stmt := inClass (top 7) 5
abbrev sMost : Stmt := top 8
abbrev sTakers : Stmt := top 9
abbrev sSetAt : Stmt := top 10
abbrev sSetRow : Stmt := top 11
abbrev sNewest : Stmt := top 16
abbrev sSInit : Stmt := inClass (top 17) 0
abbrev sSSend : Stmt := inClass (top 17) 1
abbrev sSHear : Stmt := inClass (top 17) 2
abbrev sSAdd : Stmt := inClass (top 17) 3
abbrev sSSettled : Stmt := inClass (top 17) 4
abbrev sCInit : Stmt := inClass (top 20) 0
abbrev sCBegin : Stmt := inClass (top 20) 1
abbrev sCSend : Stmt := inClass (top 20) 2
abbrev sCDeliver : Stmt := inClass (top 20) 3
abbrev sCLose : Stmt := inClass (top 20) 4
abbrev sCFlush : Stmt := inClass (top 20) 5
abbrev sCFall : Stmt := inClass (top 20) 6
abbrev sCStop : Stmt := inClass (top 20) 7
abbrev sCExch : Stmt := inClass (top 20) 8
abbrev sCSettled : Stmt := inClass (top 20) 9
abbrev sNumber : Stmt := top 22
abbrev sTake : Stmt := top 23
abbrev sPick : Stmt := top 24
abbrev sStep : Stmt := top 25
abbrev sSome : Stmt := top 26
abbrev sRounds : Stmt := top 27
abbrev sLaw : Stmt := top 28

/-! ### what stands in the heap -/
/-- entries: ints, and texts that the model can hold -/
def kOk : Key → Bool
  | .inl _ => true
  | .inr x => PySem.PyData.strOk x
abbrev Ent := {k : Key // kOk k = true}
def eV (x : Ent) : V := kV x.1
theorem eV_inj {x y : Ent} (h : eV x = eV y) : x = y := Subtype.ext (kV_inj h)
def rf (e : Int) (l : Addr) : List (Str × V) := [("epoch", .int e), ("row", .ref l)]
def kf (n : Nat) (r l w : Addr) : List (Str × V) := [("number", .int n), ("records", .ref r), ("loose", .ref l), ("waiting", .ref w)]
def standS : Stand → Str
  | .asking => "asking"
  | .leading => "leading"
  | .stopped => "stopped"
def sf (e : Int) (n : Nat) (st : Stand) (rd rl td : Addr) : List (Str × V) :=
  [("epoch", .int e), ("many", .int n), ("stand", .str (standS st)), ("rows", .ref rd), ("row", .ref rl), ("taken", .ref td)]
def cf (k s l : Addr) : List (Str × V) := [("keepers", .ref k), ("sequencers", .ref s), ("letters", .ref l)]
def PairA (H : Hp) (v : V) (q : Int × Ent) : Prop := ∃ a, v = .ref a ∧ H a = some (.tup [.int q.1, eV q.2])
def RowA (H : Hp) (v : V) (row : Row Ent) : Prop := ∃ a vs, v = .ref a ∧ H a = some (.tup vs) ∧ Paired (PairA H) vs row
def RecA (H : Hp) (v : V) : Rec Ent → Prop
  | .prom e => ∃ a, v = .ref a ∧ H a = some (.tup [.str "promise", .int e])
  | .take e p x => ∃ a, v = .ref a ∧ H a = some (.tup [.str "take", .int e, .int (p : Nat), eV x])
def LetA (H : Hp) (v : V) : Letter Ent → Prop
  | .ask e k => ∃ a, v = .ref a ∧ H a = some (.tup [.str "ask", .int e, .int (k : Nat)])
  | .write e k p x => ∃ a, v = .ref a ∧ H a = some (.tup [.str "write", .int e, .int (k : Nat), .int (p : Nat), eV x])
  | .refused e k ke => ∃ a, v = .ref a ∧ H a = some (.tup [.str "refused", .int e, .int (k : Nat), .int ke])
  | .told e k row => ∃ a b, v = .ref a ∧ H a = some (.tup [.str "told", .int e, .int (k : Nat), .ref b]) ∧ RowA H (.ref b) row
  | .taken e k p => ∃ a, v = .ref a ∧ H a = some (.tup [.str "taken", .int e, .int (k : Nat), .int (p : Nat)])
def TupX (H H' : Hp) : Prop := ∀ a xs, H a = some (.tup xs) → H' a = some (.tup xs)
theorem TupX.refl (H : Hp) : TupX H H := fun _ _ h => h
theorem TupX.trans {H H1 H2 : Hp} (a : TupX H H1) (b : TupX H1 H2) : TupX H H2 := fun c o h => b c o (a c o h)
theorem TupX.of {H H' : Hp} (h : Same H H') : TupX H H' := fun a xs e => h a _ e
theorem paired_imp {α β : Type} {F G : α → β → Prop} (h : ∀ a b, F a b → G a b) : ∀ {xs : List α} {ys : List β}, Paired F xs ys → Paired G xs ys
  | _, _, .nil => .nil
  | _, _, .cons r t => .cons (h _ _ r) (paired_imp h t)
theorem paired_at {α β : Type} {F : α → β → Prop} : ∀ {xs : List α} {ys : List β} {i : Nat} {y : β}, Paired F xs ys → ys[i]? = some y → ∃ x, xs[i]? = some x ∧ F x y
  | _, _, _, _, .nil, e => by simp at e
  | _, _, 0, y, .cons r _, e => by simp at e; subst e; exact ⟨_, rfl, r⟩
  | _, _, i + 1, y, .cons _ t, e => by
    obtain ⟨u, h1, h2⟩ := paired_at (i := i) (y := y) t (by simpa using e)
    exact ⟨u, by simpa using h1, h2⟩
theorem paired_ta {α β : Type} {F : α → β → Prop} : ∀ {xs : List α} {ys : List β} {i : Nat} {x : α}, Paired F xs ys → xs[i]? = some x → ∃ y, ys[i]? = some y ∧ F x y
  | _, _, _, _, .nil, e => by simp at e
  | _, _, 0, y, .cons r _, e => by simp at e; subst e; exact ⟨_, rfl, r⟩
  | _, _, i + 1, y, .cons _ t, e => by
    obtain ⟨u, h1, h2⟩ := paired_ta (i := i) (x := y) t (by simpa using e)
    exact ⟨u, by simpa using h1, h2⟩
theorem paired_app {α β : Type} {F : α → β → Prop} : ∀ {xs : List α} {ys : List β} {xs' : List α} {ys' : List β}, Paired F xs ys → Paired F xs' ys' → Paired F (xs ++ xs') (ys ++ ys')
  | _, _, _, _, .nil, s => s
  | _, _, _, _, .cons r t, s => .cons r (paired_app t s)
theorem paired_take {α β : Type} {F : α → β → Prop} : ∀ {xs : List α} {ys : List β} (n : Nat), Paired F xs ys → Paired F (xs.take n) (ys.take n)
  | _, _, 0, _ => by simp; exact .nil
  | _, _, _ + 1, .nil => by simp; exact .nil
  | _, _, n + 1, .cons r t => by simp; exact .cons r (paired_take n t)
theorem paired_set {α β : Type} {F : α → β → Prop} {x : α} {y : β} (r : F x y) : ∀ {xs : List α} {ys : List β} (i : Nat), Paired F xs ys → Paired F (xs.set i x) (ys.set i y)
  | _, _, _, .nil => .nil
  | _, _, 0, .cons _ t => .cons r t
  | _, _, i + 1, .cons q t => .cons q (paired_set r i t)
theorem paired_len {α β : Type} {F : α → β → Prop} {xs : List α} {ys : List β} (h : Paired F xs ys) : xs.length = ys.length := Paired.length h
theorem PairA.mono {H H' : Hp} (x : TupX H H') {v : V} {q : Int × Ent} (h : PairA H v q) : PairA H' v q := by
  obtain ⟨a, e, h⟩ := h
  exact ⟨a, e, x _ _ h⟩
theorem RowA.mono {H H' : Hp} (x : TupX H H') {v : V} {q : Row Ent} (h : RowA H v q) : RowA H' v q := by
  obtain ⟨a, vs, e, h, p⟩ := h
  exact ⟨a, vs, e, x _ _ h, paired_imp (fun _ _ => PairA.mono x) p⟩
theorem RecA.mono {H H' : Hp} (x : TupX H H') {v : V} {q : Rec Ent} (h : RecA H v q) : RecA H' v q := by
  cases q with
  | prom e => obtain ⟨a, e, h⟩ := h; exact ⟨a, e, x _ _ h⟩
  | take e p y => obtain ⟨a, e, h⟩ := h; exact ⟨a, e, x _ _ h⟩
theorem LetA.mono {H H' : Hp} (x : TupX H H') {v : V} {q : Letter Ent} (h : LetA H v q) : LetA H' v q := by
  cases q with
  | ask e k => obtain ⟨a, e, h⟩ := h; exact ⟨a, e, x _ _ h⟩
  | write e k p y => obtain ⟨a, e, h⟩ := h; exact ⟨a, e, x _ _ h⟩
  | refused e k ke => obtain ⟨a, e, h⟩ := h; exact ⟨a, e, x _ _ h⟩
  | told e k row => obtain ⟨a, b, e, h, r⟩ := h; exact ⟨a, b, e, x _ _ h, r.mono x⟩
  | taken e k p => obtain ⟨a, e, h⟩ := h; exact ⟨a, e, x _ _ h⟩
/-- all but some addresses is as it was -/
def But (F : List Addr) (H H' : Hp) : Prop := ∀ b o, H b = some o → b ∉ F → H' b = some o
theorem But.refl (F : List Addr) (H : Hp) : But F H H := fun _ _ h _ => h
theorem But.trans {F : List Addr} {H H1 H2 : Hp} (a : But F H H1) (b : But F H1 H2) : But F H H2 := fun c o h n => b c o (a c o h n) n
theorem But.same {F : List Addr} {H H' : Hp} (h : Same H H') : But F H H' := fun b o e _ => h b o e
theorem But.sub {F G : List Addr} {H H' : Hp} (h : But F H H') (s : ∀ b, b ∈ F → b ∈ G) : But G H H' := fun b o e n => h b o e fun q => n (s b q)
theorem But.upd {F : List Addr} {H H' : Hp} {a : Addr} {o : HO} (h : But F H H') (m : a ∈ F ∨ H a = none) : But F H (upd H' a o) := fun b u e n => by
  rw [upd_ne]
  · exact h b u e n
  · rintro rfl
    rcases m with m | m
    · exact n m
    · rw [m] at e; cases e
theorem Same.new {H : Hp} {a : Addr} {o : HO} (h : H a = none) : Same H (upd H a o) := fun b u e => by
  rw [upd_ne (ne_of_none e h)]
  exact e
theorem Same.upd {H H' : Hp} {a : Addr} {o : HO} (h : Same H H') (n : H a = none) : Same H (upd H' a o) := fun b u e => by
  rw [upd_ne (ne_of_none e n)]
  exact h b u e
def isTup : HO → Bool
  | .tup _ => true
  | _ => false
theorem But.tupX {F : List Addr} {H H' : Hp} (h : But F H H') (n : ∀ b ∈ F, ∀ xs, H b ≠ some (.tup xs)) : TupX H H' := fun a xs e =>
  h a _ e fun m => n a m xs e
structure RecordAt (C : Addr) (H : Hp) (p l : Addr) (s : Int × Row Ent) : Prop where
  ob : ∃ dx, H p = some (.ins C dx (rf s.1 l))
  row : ∃ xs, H l = some (.lst xs) ∧ Paired (PairA H) xs s.2
theorem RecordAt.mono {C : Addr} {H H' : Hp} {p l : Addr} {s : Int × Row Ent} (h : RecordAt C H p l s) (e : Same H H') : RecordAt C H' p l s := by
  obtain ⟨⟨dx, h1⟩, xs, h2, h3⟩ := h
  exact ⟨⟨dx, e _ _ h1⟩, xs, e _ _ h2, paired_imp (fun _ _ => PairA.mono (TupX.of e)) h3⟩
structure KeeperAt (C : Addr) (H : Hp) (a : Addr) (n : Nat) (k : Kp Ent) : Prop where
  ob : ∃ dx r l w rs ls ws, H a = some (.ins C dx (kf n r l w)) ∧ H r = some (.tup rs) ∧ Paired (RecA H) rs k.recs ∧ H l = some (.tup ls) ∧ Paired (RecA H) ls k.loose ∧ H w = some (.tup ws) ∧ Paired (LetA H) ws k.wait
theorem KeeperAt.mono {C : Addr} {H H' : Hp} {a : Addr} {n : Nat} {k : Kp Ent} (h : KeeperAt C H a n k) (x : TupX H H') (e : H' a = H a) : KeeperAt C H' a n k := by
  obtain ⟨dx, r, l, w, rs, ls, ws, h1, h2, p2, h3, p3, h4, p4⟩ := h
  exact ⟨dx, r, l, w, rs, ls, ws, by rw [e]; exact h1, x _ _ h2, paired_imp (fun _ _ => RecA.mono x) p2, x _ _ h3, paired_imp (fun _ _ => RecA.mono x) p3, x _ _ h4, paired_imp (fun _ _ => LetA.mono x) p4⟩

/-- what the walk asks of the classes and names as the top has made them -/
structure Txt (K : PySem.W.Frag) (mg : Str → Option Value) (RC KC SC CC : Addr) : Prop where
  clR : Cls K RC
  mgR : mg "Record" = some (.ref RC)
  nRe : NoAttr K RC "epoch"
  nRr : NoAttr K RC "row"
  clK : Cls K KC
  mgK : mg "Keeper" = some (.ref KC)
  nKn : NoAttr K KC "number"
  nKr : NoAttr K KC "records"
  nKl : NoAttr K KC "loose"
  nKw : NoAttr K KC "waiting"
  clS : Cls K SC
  mgS : mg "Sequencer" = some (.ref SC)
  nSe : NoAttr K SC "epoch"
  nSm : NoAttr K SC "many"
  nSs : NoAttr K SC "stand"
  nSo : NoAttr K SC "rows"
  nSr : NoAttr K SC "row"
  nSt : NoAttr K SC "taken"
  clC : Cls K CC
  mgC : mg "Council" = some (.ref CC)
  nCk : NoAttr K CC "keepers"
  nCs : NoAttr K CC "sequencers"
  nCl : NoAttr K CC "letters"
  len : mg "len" = none
  max : mg "max" = none
  isinstance : mg "isinstance" = none
  int : mg "int" = none
  bool : mg "bool" = none
  tuple : mg "tuple" = none
  list : mg "list" = none
  sorted : mg "sorted" = none
  range : mg "range" = none
  all : mg "all" = none
  any : mg "any" = none
  str : mg "str" = none
  abs : mg "abs" = none
  asking : ∃ t, mg "ASKING" = some (.str "asking" t)
  leading : ∃ t, mg "LEADING" = some (.str "leading" t)
  stopped : ∃ t, mg "STOPPED" = some (.str "stopped" t)
  most : ∃ t, mg "MOST_EPOCH" = some (.int 999999999999 t)
/-- a method as it stands: its body, how its arguments bind, where it is found -/
structure DM (K : PySem.W.Frag) (C : Addr) (m qual : Str) (st : Stmt) (ps : List Str) (f : Addr) (fd : FuncData) : Prop where
  F : Fun K m qual st f fd
  b : Binds K fd ps []
  m : Meth K C m f
/-- a def of the top -/
structure DF (K : PySem.W.Frag) (mg : Str → Option Value) (x : Str) (st : Stmt) (ps : List Str) (f : Addr) (fd : FuncData) : Prop where
  F : Fun K x x st f fd
  b : Binds K fd ps []
  g : mg x = some (.ref f)
/-- an __init__ -/
structure DI (K : PySem.W.Frag) (C : Addr) (qual : Str) (st : Stmt) (ps : List Str) (f : Addr) (fd : FuncData) : Prop where
  F : Fun K "__init__" qual st f fd
  b : Binds K fd ps []
  m : Mk K C f
/-- an if by its test's answer -/
theorem if_by {tc : TT} {t u : TS} {D : Ends} {σ : L2.St} {H : Hp} (c : Bool) (hc : ∀ Q : Bool → Hp → Prop, (∀ H1, Same H H1 → Q c H1) → tc σ H Q) (hk : ∀ H1, Same H H1 → if c = true then t D σ H1 else u D σ H1) : tIfS tc t u D σ H := hc _ hk
theorem two_new {H : Hp} {t t2 : Addr} {o1 o2 : HO} (ht : H t = none) (ht2 : (L2.upd H t o1) t2 = none) :
    t ≠ t2 ∧ Same H (L2.upd (L2.upd H t o1) t2 o2) ∧ (L2.upd (L2.upd H t o1) t2 o2) t = some o1 ∧ (L2.upd (L2.upd H t o1) t2 o2) t2 = some o2 := by
  have n : t ≠ t2 := ne_of_none upd_same ht2
  have h2 : H t2 = none := by rw [upd_ne n.symm] at ht2; exact ht2
  exact ⟨n, Same.upd (Same.new ht) h2, by rw [upd_ne n, upd_same], upd_same⟩
end K40
/-! Entries, pairs, records as data that are compared. -/
namespace K40
open PySem L2 Mc
def kD (x : Ent) : PyData := match x.1 with
  | .inl i => .int i
  | .inr s => .str s
theorem kD_dp {K : PySem.W.Frag} {H : Hp} (x : Ent) : Dp K H (eV x) (kD x) := by
  obtain ⟨k, hk⟩ := x
  cases k with
  | inl i => exact .int i
  | inr s => exact .str s
theorem kD_lay (x : Ent) : (kD x).canLay0 = true := by
  obtain ⟨k, hk⟩ := x
  cases k with
  | inl i => simp [kD, PyData.canLay0]
  | inr s => simp only [kD, PyData.canLay0]; exact hk
theorem kD_depth (x : Ent) : (kD x).depth = 0 := by
  obtain ⟨k, hk⟩ := x
  cases k with
  | inl i => simp [kD, PyData.depth]
  | inr s => simp [kD, PyData.depth]
theorem kD_eqv (x y : Ent) : PyData.eqv (kD x) (kD y) = decide (x = y) := by
  obtain ⟨k, hk⟩ := x
  obtain ⟨l, hl⟩ := y
  have e : decide ((⟨k, hk⟩ : Ent) = ⟨l, hl⟩) = decide (k = l) := by
    by_cases h : k = l
    · subst h; simp
    · rw [decide_eq_false h, decide_eq_false (fun q => h (Subtype.ext_iff.mp q))]
  rw [e]
  cases k with
  | inl i =>
    cases l with
    | inl j => simp only [kD, PyData.eqv]; exact (key_ll i j).symm
    | inr t => simp only [kD, PyData.eqv]; exact (key_lr i t).symm
  | inr s =>
    cases l with
    | inl j => simp only [kD, PyData.eqv]; exact (key_rl s j).symm
    | inr t => simp only [kD, PyData.eqv]; rw [key_rr]; rfl
/-- a pair (epoch, entry) -/
def pairD (q : Int × Ent) : PyData := .tuple [.int q.1, kD q.2]
theorem pairD_dp {K : PySem.W.Frag} {H : Hp} {v : V} {q : Int × Ent} (h : PairA H v q) : Dp K H v (pairD q) := by
  obtain ⟨a, rfl, h⟩ := h
  exact .tup (SqT.of h) (.cons (.int _) (.cons (kD_dp _) .nil))
theorem pairD_shaped (q : Int × Ent) : SeqAt.shaped (pairD q) = true := by
  have h1 := kD_lay q.2
  have h2 := kD_depth q.2
  have e1 : (pairD q).canLay0 = true := by simp [pairD, PyData.canLay0, PyData.canLayAll0, h1]
  have e2 : (pairD q).depth ≤ 64 := by simp [pairD, PyData.depth, PyData.depthAll, h2]
  show ((pairD q).canLay0 && decide ((pairD q).depth ≤ 64)) = true
  rw [e1, decide_eq_true e2]
  rfl
theorem pairD_eqv (q r : Int × Ent) : PyData.eqv (pairD q) (pairD r) = decide (q = r) := by
  obtain ⟨a, x⟩ := q
  obtain ⟨b, y⟩ := r
  have e : PyData.eqv (pairD (a, x)) (pairD (b, y)) = ((a == b) && (PyData.eqv (kD x) (kD y) && true)) := by simp only [pairD, PyData.eqv, PyData.eqvAll]
  rw [e, kD_eqv]
  by_cases h1 : a = b
  · by_cases h2 : x = y
    · subst h1 h2; simp
    · simp [h2]
  · simp [h1]
/-- a record -/
def recD : Rec Ent → PyData
  | .prom e => .tuple [.str "promise", .int e]
  | .take e p x => .tuple [.str "take", .int e, .int (p : Nat), kD x]
theorem recD_dp {K : PySem.W.Frag} {H : Hp} {v : V} {r : Rec Ent} (h : RecA H v r) : Dp K H v (recD r) := by
  cases r with
  | prom e =>
    obtain ⟨a, rfl, h⟩ := h
    exact .tup (SqT.of h) (.cons (.str _) (.cons (.int _) .nil))
  | take e p x =>
    obtain ⟨a, rfl, h⟩ := h
    exact .tup (SqT.of h) (.cons (.str _) (.cons (.int _) (.cons (.int _) (.cons (kD_dp _) .nil))))
theorem recD_lay (r : Rec Ent) : (recD r).canLay0 = true := by
  cases r with
  | prom e =>
    have h1 : PyData.strOk ("promise" : Str) = true := by decide +kernel
    simp [recD, PyData.canLay0, PyData.canLayAll0, h1]
  | take e p x =>
    have h1 : PyData.strOk ("take" : Str) = true := by decide +kernel
    have h2 := kD_lay x
    simp [recD, PyData.canLay0, PyData.canLayAll0, h1, h2]
theorem recD_depth (r : Rec Ent) : (recD r).depth = 1 := by
  cases r with
  | prom e => simp [recD, PyData.depth, PyData.depthAll]
  | take e p x =>
    have h2 := kD_depth x
    simp [recD, PyData.depth, PyData.depthAll, h2]
theorem recD_shaped (r : Rec Ent) : SeqAt.shaped (recD r) = true := by
  have e2 : (recD r).depth ≤ 64 := by rw [recD_depth]; decide
  show ((recD r).canLay0 && decide ((recD r).depth ≤ 64)) = true
  rw [recD_lay, decide_eq_true e2]
  rfl
theorem recD_eqv (r s : Rec Ent) : PyData.eqv (recD r) (recD s) = decide (r = s) := by
  have hne : (("promise" : Str) == ("take" : Str)) = false := by decide +kernel
  have hne' : (("take" : Str) == ("promise" : Str)) = false := by decide +kernel
  cases r with
  | prom e =>
    cases s with
    | prom e' => simp [recD, PyData.eqv, PyData.eqvAll]; by_cases h : e = e' <;> simp [h]
    | take e' p' x' => simp [recD, PyData.eqv, PyData.eqvAll, hne]
  | take e p x =>
    cases s with
    | prom e' => simp [recD, PyData.eqv, PyData.eqvAll, hne']
    | take e' p' x' =>
      have e0 : PyData.eqv (recD (.take e p x)) (recD (.take e' p' x')) = ((e == e') && (((p : Int) == (p' : Int)) && (PyData.eqv (kD x) (kD x') && true))) := by simp [recD, PyData.eqv, PyData.eqvAll]
      rw [e0, kD_eqv]
      by_cases h1 : e = e'
      · by_cases h2 : p = p'
        · by_cases h3 : x = x'
          · subst h1 h2 h3; simp
          · simp [h3]
        · have q : ((p : Int) == (p' : Int)) = false := beq_eq_false_iff_ne.mpr (by omega)
          simp [h2, q]
      · simp [h1]
/-- rows of entries -/
theorem ents_dp {K : PySem.W.Frag} {H : Hp} : ∀ xs : List Ent, DpAll K H (xs.map eV) (xs.map kD)
  | [] => .nil
  | x :: xs => .cons (kD_dp x) (ents_dp xs)
theorem ents_lay : ∀ xs : List Ent, PyData.canLayAll0 (xs.map kD) = true
  | [] => by simp [PyData.canLayAll0]
  | x :: xs => by simp [PyData.canLayAll0, kD_lay x, ents_lay xs]
theorem ents_depth : ∀ xs : List Ent, PyData.depthAll (xs.map kD) = 0
  | [] => by simp [PyData.depthAll]
  | x :: xs => by simp [PyData.depthAll, kD_depth x, ents_depth xs]
theorem ents_eqv : ∀ xs ys : List Ent, PyData.eqvAll (xs.map kD) (ys.map kD) = decide (xs = ys)
  | [], [] => by simp [PyData.eqvAll]
  | [], _ :: _ => by simp [PyData.eqvAll]
  | _ :: _, [] => by simp [PyData.eqvAll]
  | x :: xs, y :: ys => by
    have e : PyData.eqvAll ((x :: xs).map kD) ((y :: ys).map kD) = (PyData.eqv (kD x) (kD y) && PyData.eqvAll (xs.map kD) (ys.map kD)) := by simp [PyData.eqvAll]
    rw [e, kD_eqv, ents_eqv xs ys]
    by_cases h1 : x = y
    · by_cases h2 : xs = ys
      · subst h1 h2; simp
      · simp [h2]
    · simp [h1]
theorem entsL_shaped (xs : List Ent) : SeqAt.shaped (.list (xs.map kD)) = true := by
  have e1 : (PyData.list (xs.map kD)).canLay0 = true := by simp only [PyData.canLay0]; exact ents_lay xs
  have e2 : (PyData.list (xs.map kD)).depth ≤ 64 := by simp [PyData.depth, ents_depth xs]
  show ((PyData.list (xs.map kD)).canLay0 && decide ((PyData.list (xs.map kD)).depth ≤ 64)) = true
  rw [e1, decide_eq_true e2]
  rfl
theorem entsT_shaped (xs : List Ent) : SeqAt.shaped (.tuple (xs.map kD)) = true := by
  have e1 : (PyData.tuple (xs.map kD)).canLay0 = true := by simp only [PyData.canLay0]; exact ents_lay xs
  have e2 : (PyData.tuple (xs.map kD)).depth ≤ 64 := by simp [PyData.depth, ents_depth xs]
  show ((PyData.tuple (xs.map kD)).canLay0 && decide ((PyData.tuple (xs.map kD)).depth ≤ 64)) = true
  rw [e1, decide_eq_true e2]
  rfl
/-- a row of records, where one is looked for -/
theorem recs_dp {K : PySem.W.Frag} {H : Hp} : ∀ {vs : List V} {rs : List (Rec Ent)}, Paired (RecA H) vs rs → DpAll K H vs (rs.map recD)
  | _, _, .nil => .nil
  | _, _, .cons h t => .cons (recD_dp h) (recs_dp t)
theorem recs_lay : ∀ rs : List (Rec Ent), PyData.canLayAll0 (rs.map recD) = true
  | [] => by simp [PyData.canLayAll0]
  | x :: xs => by simp [PyData.canLayAll0, recD_lay x, recs_lay xs]
theorem recs_depth : ∀ rs : List (Rec Ent), PyData.depthAll (rs.map recD) ≤ 1
  | [] => by simp [PyData.depthAll]
  | x :: xs => by
    have h1 := recD_depth x
    have h2 := recs_depth xs
    simp only [List.map_cons, PyData.depthAll]
    omega
theorem recs_shaped (rs : List (Rec Ent)) : SeqAt.shaped (.tuple (rs.map recD)) = true := by
  have h := recs_depth rs
  have e1 : (PyData.tuple (rs.map recD)).canLay0 = true := by simp only [PyData.canLay0]; exact recs_lay rs
  have e2 : (PyData.tuple (rs.map recD)).depth ≤ 64 := by simp only [PyData.depth]; omega
  show ((PyData.tuple (rs.map recD)).canLay0 && decide ((PyData.tuple (rs.map recD)).depth ≤ 64)) = true
  rw [e1, decide_eq_true e2]
  rfl
theorem recs_any (r : Rec Ent) (rs : List (Rec Ent)) : ((rs.map recD).any fun z => PyData.eqv z (recD r)) = decide (r ∈ rs) := by
  induction rs with
  | nil => simp
  | cons a t ih =>
    rw [List.map_cons, List.any_cons, ih, recD_eqv]
    by_cases h : a = r
    · subst h; simp
    · have h' : ¬ r = a := fun z => h z.symm
      simp [h, h']
section
variable {X : Cx}
/-- x in t, t a tuple of data of any depth -/
def rInT (K : PySem.W.Frag) : R2 := fun x y H Q => ∃ d ds, Dp K H x d ∧ Dp K H y (.tuple ds) ∧ SeqAt.shaped d = true ∧ SeqAt.shaped (.tuple ds) = true ∧ Q (.bl (ds.any fun z => PyData.eqv z d)) H
theorem op_inT (hu : X.A.units + 65 < cLine) : OpR X (compareOp .In) (rInT X.K) := by
  intro pins s σ H x y v u Q I rx ry h
  obtain ⟨d, ds, hd, he, sd, se, q⟩ := h
  obtain ⟨as, r1⟩ := Dp.reads I d x v hd rx
  obtain ⟨bs, r2⟩ := Dp.reads I (.tuple ds) y u he ry
  exact SeqAt.in_tuple_reads r2 r1 (SeqAt.canLay_of_shaped se) (SeqAt.canLay_of_shaped sd) (PyProof.Rows.room_in_shaped sd hu) ⟨.bl _, H, I, rfl, q⟩
end
end K40
namespace K40
open PySem L2 Mc
section
variable {P : Program} {w : World} {K : PySem.W.Frag} {mg : Str → Option Value} {base : Heap} {RC KC SC CC : Addr}
/-! ### is_whole -/
def spWhole : Sp := fun vs H Q _ => ∃ i lo hi : Int, vs = [.int i, .int lo, .int hi] ∧ Q (.bl (decide (lo ≤ i) && decide (i ≤ hi))) H
theorem scWhole : FnScope ["thing", "low", "high"] ["thing", "low", "high"] (defScope sWhole) := ⟨rfl, rfl, rfl, by decide +kernel, rfl, by decide +kernel, by decide +kernel⟩
theorem ok_whole {f : Addr} {fd : FuncData} (F : Fun K "is_whole" "is_whole" sWhole f fd) (T : Txt K mg RC KC SC CC) : FnOk P w K mg base CX0 1 f fd ["thing", "low", "high"] spWhole := by
  refine F.ok scWhole (fun vs H Q E h => ?_) (fun cdv A outer s H vs Q E hr h => ?_)
  · obtain ⟨i, lo, hi, rfl, _⟩ := h
    rfl
  · obtain ⟨i, lo, hi, rfl, k⟩ := h
    refine ⟨_, pss_one (ps_ret (pe_and (pe_callB call_isi (by rfl) T.isinstance (by decide +kernel) (pa_cons (pv 0) (pa_cons (pe_bltn (v := .ty "int") (by rfl) T.int (by decide +kernel) rfl) pa_nil)))
      (pe_and (pe_not (pe_callB call_isi (by rfl) T.isinstance (by decide +kernel) (pa_cons (pv 0) (pa_cons (pe_bltn (v := .ty "bool") (by rfl) T.bool (by decide +kernel) rfl) pa_nil))))
        (pe_one (pe_chain op_le op_le (pv 1) (pv 0) (pv 2)))))), ?_⟩
    refine ⟨_, rfl, _, _, _, _, true, rfl, .ty _, .base (.int _), kit_ty (by decide +kernel), _, rfl, iteT ?_⟩
    refine ⟨_, rfl, _, _, _, _, false, rfl, .ty _, .base (.int _), kit_ty (by decide +kernel), _, rfl, _, rfl, iteT ?_⟩
    refine ⟨_, rfl, _, rfl, _, _, rfl, rfl, _, rfl, ite2 (fun h1 => ?_) (fun h1 => ?_)⟩
    · refine ⟨_, rfl, _, _, rfl, rfl, ?_⟩
      have e : (decide (lo ≤ i) && decide (i ≤ hi)) = decide (i ≤ hi) := by rw [h1]; rfl
      rw [e] at k
      exact k
    · have e : (decide (lo ≤ i) && decide (i ≤ hi)) = false := by
        cases q : decide (lo ≤ i) with
        | true => exact absurd q h1
        | false => rfl
      rw [e] at k
      exact k
/-! ### Record -/
def spPut (RC : Addr) : Sp := fun vs H Q _ => ∃ (p l : Addr) (v : V) (s : Int × Row Ent) (r : Rec Ent), vs = [.ref p, v] ∧ RecordAt RC H p l s ∧ RecA H v r ∧ s.2.length < sizeLine ∧
  ∀ H', RecordAt RC H' p l (put s r) → But [p, l] H H' → Q .non H'
theorem scPut : FnScope ["self", "record", "pair"] ["self", "record"] (defScope sRPut) := ⟨rfl, rfl, rfl, by decide +kernel, rfl, by decide +kernel, by decide +kernel⟩
theorem max_eq (a b : Int) : (if b > a then b else a) = max a b := by
  by_cases h : b > a
  · rw [if_pos h]; omega
  · rw [if_neg h]; omega
theorem ok_put {f : Addr} {fd : FuncData} (F : Fun K "put" "Record.put" sRPut f fd) (T : Txt K mg RC KC SC CC) : FnOk P w K mg base CX0 1 f fd ["self", "record"] (spPut RC) := by
  refine F.ok scPut (fun vs H Q E h => ?_) (fun cdv A outer s H vs Q E hr h => ?_)
  · obtain ⟨p, l, v, s, r, rfl, _⟩ := h
    rfl
  · obtain ⟨p, l, v, s, r, rfl, ⟨⟨dx, h1⟩, xs, h2, hp⟩, hv, hlen, k⟩ := h
    have hpl : p ≠ l := ne_of h1 h2 (by intro z; cases z)
    have hxl : xs.length = s.2.length := hp.length
    refine ⟨_, pss_cons (ps_fld (pv 0) (pe_callB (call_max2 rfl) (by rfl) T.max (by decide +kernel) (pa_cons (pe_fld (pv 0) rfl) (pa_cons (pe_ix ix_tup (pv 1) pe_int (fun _ _ => rfl)) pa_nil))) rfl)
      (pss_one (ps_if (pt_cmpR op_eq (pe_ix ix_tup (pv 1) pe_int (fun _ _ => rfl)) pe_str (nomark _))
        (pss_cons (ps_set (i := 2) scPut.nd rfl (Or.inl rfl) (pe_tup (pa_cons (pe_ix ix_tup (pv 1) pe_int (fun _ _ => rfl)) (pa_cons (pe_ix ix_tup (pv 1) pe_int (fun _ _ => rfl)) pa_nil))))
          (pss_one (ps_if (pt_cmpR op_lt (pe_ix ix_tup (pv 1) pe_int (fun _ _ => rfl)) (pe_callB call_len_seq (by rfl) T.len PySem.boot_len (pa_cons (pe_fld (pv 0) rfl) pa_nil)) (nomark _))
            (pss_one (ps_asg (pv 2) (pg_sub (pe_fld (pv 0) rfl) (pe_ix ix_tup (pv 1) pe_int (fun _ _ => rfl)) set_list)))
            (pss_one (ps_expr (pe_bm PySem.F.plainAttrs_list PySem.F.slot_list_append PySem.F.type_list_append mt_append (pe_fld (pv 0) rfl) (pa_cons (pv 2) pa_nil)))))))
        pss_nil)), ?_⟩
    cases r with
    | prom e =>
      obtain ⟨a, rfl, ha⟩ := hv
      have hap : a ≠ p := ne_of ha h1 (by intro z; cases z)
      refine ⟨_, rfl, p, RC, dx, _, _, rfl, h1, T.clR, T.nRe, rfl, _, rfl, a, _, _, _, rfl, rfl, SqT.of ha, rfl, _, _, rfl, ?_⟩
      refine ⟨_, rfl, p, RC, dx, _, rfl, h1, T.clR, T.nRe, (by show 2 < 1000; decide), ?_⟩
      refine ⟨_, rfl, a, _, _, _, rfl, rfl, SqT.of (by rw [upd_ne hap]; exact ha), rfl, rfl, _, rfl, ?_⟩
      refine iteF ?_
      have b1 : But [p, l] H (upd H p (.ins RC dx (rf (max s.1 e) l))) := (But.refl _ H).upd (.inl (by simp))
      have t1 : TupX H (upd H p (.ins RC dx (rf (max s.1 e) l))) := fun c ys z => by rw [upd_ne (ne_of z h1 (by intro q; cases q))]; exact z
      have e1 : putF "epoch" (V.int (if e > s.1 then e else s.1)) (rf s.1 l) = rf (max s.1 e) l := by rw [max_eq]; rfl
      rw [e1]
      exact k _ ⟨⟨dx, upd_same⟩, xs, by rw [upd_ne hpl.symm]; exact h2, paired_imp (fun _ _ => PairA.mono t1) hp⟩ b1
    | take e q x =>
      obtain ⟨a, rfl, ha⟩ := hv
      have hap : a ≠ p := ne_of ha h1 (by intro z; cases z)
      have e1 : putF "epoch" (V.int (if e > s.1 then e else s.1)) (rf s.1 l) = rf (max s.1 e) l := by rw [max_eq]; rfl
      refine ⟨_, rfl, p, RC, dx, _, _, rfl, h1, T.clR, T.nRe, rfl, _, rfl, a, _, _, _, rfl, rfl, SqT.of ha, rfl, _, _, rfl, ?_⟩
      refine ⟨_, rfl, p, RC, dx, _, rfl, h1, T.clR, T.nRe, (by show 2 < 1000; decide), ?_⟩
      rw [e1]
      have ha1 : (upd H p (.ins RC dx (rf (max s.1 e) l))) a = some (.tup [.str "take", .int e, .int (q : Nat), eV x]) := by rw [upd_ne hap]; exact ha
      refine ⟨_, rfl, a, _, _, _, rfl, rfl, SqT.of ha1, rfl, rfl, _, rfl, ?_⟩
      refine iteT ?_
      refine ⟨_, rfl, a, _, _, _, rfl, rfl, SqT.of ha1, rfl, _, rfl, a, _, _, _, rfl, rfl, SqT.of ha1, rfl, (by show 2 ≤ sizeLine; decide), fun t ht => ?_⟩
      have hta : a ≠ t := ne_of_none ha1 ht
      have htp : p ≠ t := ne_of_none upd_same ht
      have hl1 : (upd H p (.ins RC dx (rf (max s.1 e) l))) l = some (.lst xs) := by rw [upd_ne hpl.symm]; exact h2
      have htl : l ≠ t := ne_of_none hl1 ht
      have hHt : H t = none := by rw [upd_ne htp.symm] at ht; exact ht
      generalize hH2 : upd (upd H p (.ins RC dx (rf (max s.1 e) l))) t (.tup [.int e, eV x]) = H2
      have ha2 : H2 a = some (.tup [.str "take", .int e, .int (q : Nat), eV x]) := by rw [← hH2, upd_ne hta]; exact ha1
      have hp2 : H2 p = some (.ins RC dx (rf (max s.1 e) l)) := by rw [← hH2, upd_ne htp]; exact upd_same
      have hl2 : H2 l = some (.lst xs) := by rw [← hH2, upd_ne htl]; exact hl1
      have ht2 : H2 t = some (.tup [.int e, eV x]) := by rw [← hH2]; exact upd_same
      have b2 : But [p, l] H H2 := by rw [← hH2]; exact ((But.refl _ H).upd (.inl (by simp))).upd (.inr hHt)
      have t2 : TupX H H2 := b2.tupX fun b hb ys z => by
        simp at hb
        rcases hb with rfl | rfl
        · rw [h1] at z; cases z
        · rw [h2] at z; cases z
      have hpn : PairA H2 (.ref t) (e, x) := ⟨t, rfl, ht2⟩
      have fin : ∀ ys : List V, Paired (PairA H2) ys (put s (.take e q x)).2 → Q .non (upd H2 l (.lst ys)) := by
        intro ys hy
        have t3 : TupX H2 (upd H2 l (.lst ys)) := fun c zs z => by rw [upd_ne (ne_of z hl2 (by intro q; cases q))]; exact z
        exact k _ ⟨⟨dx, by rw [upd_ne hpl]; exact hp2⟩, ys, upd_same, paired_imp (fun _ _ => PairA.mono t3) hy⟩ (b2.upd (.inl (by simp)))
      refine ⟨_, rfl, a, _, _, _, rfl, rfl, SqT.of ha2, rfl, _, rfl, p, RC, dx, _, _, rfl, hp2, T.clR, T.nRr, rfl, l, xs, rfl, .inl (SqL.of hl2), _, _, rfl, rfl, _, rfl, ?_⟩
      have hp3 : Paired (PairA H2) xs s.2 := paired_imp (fun _ _ => PairA.mono t2) hp
      refine ite2 (fun hlt => ?_) (fun hlt => ?_)
      · have hlt' : q < s.2.length := by
          have := of_decide_eq_true hlt
          omega
        refine ⟨_, rfl, _, rfl, p, RC, dx, _, _, rfl, hp2, T.clR, T.nRr, rfl, _, rfl, a, _, _, _, rfl, rfl, SqT.of ha2, rfl, l, xs, _, q, rfl, rfl, hl2, ?_, ?_⟩
        · unfold ixN
          rw [if_pos (by omega), if_pos (by omega)]
          simp
        · refine fin _ ?_
          simp only [put, if_pos hlt']
          exact paired_set hpn q hp3
      · have hlt' : ¬ q < s.2.length := by
          intro z
          exact hlt (decide_eq_true (by omega))
        refine ⟨_, rfl, p, RC, dx, _, _, rfl, hp2, T.clR, T.nRr, rfl, .inl ⟨rfl, _, .inl (.inl hl2)⟩, _, rfl, l, xs, _, rfl, rfl, hl2, by omega, ?_⟩
        refine fin _ ?_
        simp only [put, if_neg hlt']
        exact paired_app hp3 (.cons hpn .nil)
def spRInit (RC : Addr) : Sp := fun vs H Q _ => ∃ (p dx t : Addr) (ts : List V) (rs : List (Rec Ent)), vs = [.ref p, .ref t] ∧ H p = some (.ins RC dx []) ∧ H t = some (.tup ts) ∧ Paired (RecA H) ts rs ∧ rs.length < sizeLine ∧
  ∀ l H', H l = none → RecordAt RC H' p l (known rs) → But [p] H H' → Q .non H'
theorem scRInit : FnScope ["self", "records", "record"] ["self", "records"] (defScope sRInit) := ⟨rfl, rfl, rfl, by decide +kernel, rfl, by decide +kernel, by decide +kernel⟩
theorem ok_rinit {f fp : Addr} {fd fdp : FuncData} (F : Fun K "__init__" "Record.__init__" sRInit f fd) (T : Txt K mg RC KC SC CC) (D : DM K RC "put" "Record.put" sRPut ["self", "record"] fp fdp) : FnOk P w K mg base CX0 2 f fd ["self", "records"] (spRInit RC) := by
  have G : FnOk P w K mg base CX0 1 fp fdp ["self", "record"] (spPut RC) := ok_put D.F T
  refine F.ok scRInit (fun vs H Q E h => ?_) (fun cdv A outer s H vs Q E hr h => ?_)
  · obtain ⟨p, dx, t, ts, rs, rfl, _⟩ := h
    rfl
  · obtain ⟨p, dx, t, ts, rs, rfl, h1, ht, hp, hlen, k⟩ := h
    refine ⟨_, pss_cons (ps_fld (pv 0) (pe_un un_neg pe_int) rfl) (pss_cons (ps_fld (pv 0) (pe_lst pa_nil) rfl)
      (pss_one (ps_for PassesOwn.never rfl (pi_tup (pv 1)) (pg_name (i := 2) scRInit.nd rfl (Or.inl rfl)) (pss_one (ps_expr (pe_meth (pv 0) T.clR D.m G hr D.b .nil pass0 (pa_cons (pv 2) pa_nil))))))), ?_⟩
    refine ⟨_, rfl, _, rfl, p, RC, dx, _, rfl, h1, T.clR, T.nRe, (by show 0 < 1000; decide), ?_⟩
    refine ⟨(by show 0 ≤ sizeLine; decide), fun l hl => ?_⟩
    have hpl : p ≠ l := ne_of_none upd_same hl
    have hHl : H l = none := by rw [upd_ne hpl.symm] at hl; exact hl
    have htp : t ≠ p := ne_of ht h1 (by intro z; cases z)
    refine ⟨_, rfl, p, RC, dx, _, rfl, (by rw [upd_ne hpl]; exact upd_same), T.clR, T.nRr, (by show 1 < 1000; decide), ?_⟩
    generalize hH1 : upd (upd (upd H p (.ins RC dx (putF "epoch" (V.int (-1)) []))) l (.lst [])) p (.ins RC dx (putF "row" (V.ref l) (putF "epoch" (V.int (-1)) []))) = H1
    have b1 : But [p] H H1 := by rw [← hH1]; exact (((But.refl _ H).upd (.inl (by simp))).upd (.inr hHl)).upd (.inl (by simp))
    have r1 : RecordAt RC H1 p l (known []) := ⟨⟨dx, by rw [← hH1, upd_same]; rfl⟩, [], by rw [← hH1, upd_ne hpl.symm, upd_same], .nil⟩
    have np : ∀ b ∈ [p], ∀ xs, H b ≠ some (.tup xs) := by
      intro b hb xs z
      simp at hb
      subst hb
      rw [h1] at z
      cases z
    refine ⟨_, rfl, t, rfl, ⟨_, SqT.of (b1 t _ ht (by simpa using htp))⟩, for_tup (K := K) (a := t) (xs := ts) (fun i σ H2 => ∃ v : Option V, σ = [some (.ref p), some (.ref t), v] ∧ RecordAt RC H2 p l (known (rs.take i)) ∧ But [p] H H2)
      ⟨none, rfl, by simpa using r1, b1⟩ (fun i σ H2 _ ⟨_, _, _, b2⟩ => SqT.of (b2 t _ ht (by simpa using htp))) ?_ ?_⟩
    · rintro i y σ H2 hi ⟨v, rfl, r2, b2⟩
      obtain ⟨r, hr1, hr2⟩ := paired_ta hp hi
      obtain ⟨⟨dx2, o2⟩, _⟩ := id r2
      have hlk : (known (rs.take i)).2.length < sizeLine := by
        have := known_len_le (rs.take i)
        rw [List.length_take] at this
        omega
      refine ⟨_, rfl, p, dx2, _, rfl, o2, rfl, _, rfl, p, l, _, _, r, rfl, r2, hr2.mono (b2.tupX np), hlk, fun H3 r3 b3 => ?_⟩
      have e1 : put (known (rs.take i)) r = known (rs.take (i + 1)) := by
        rw [List.take_succ, hr1, ← known_snoc]
        rfl
      rw [e1] at r3
      refine ⟨_, rfl, r3, fun c o e n => b3 c o (b2 c o e n) ?_⟩
      intro m
      simp at m
      rcases m with rfl | rfl
      · exact n (by simp)
      · rw [hHl] at e; cases e
    · rintro σ H2 ⟨v, rfl, r2, b2⟩
      have e1 : rs.take ts.length = rs := List.take_of_length_le (by rw [hp.length]; exact Nat.le_refl _)
      rw [e1] at r2
      exact k l H2 hHl r2 b2
def spFits (RC : Addr) : Sp := fun vs H Q _ => ∃ (p l : Addr) (s : Int × Row Ent) (e : Int) (q : Nat), vs = [.ref p, .int e, .int (q : Nat)] ∧ RecordAt RC H p l s ∧ Q (.bl (fits s.2 e q)) H
theorem scFits : FnScope ["self", "epoch", "place"] ["self", "epoch", "place"] (defScope sRFits) := ⟨rfl, rfl, rfl, by decide +kernel, rfl, by decide +kernel, by decide +kernel⟩
theorem ok_fits {f : Addr} {fd : FuncData} (F : Fun K "fits" "Record.fits" sRFits f fd) (T : Txt K mg RC KC SC CC) : FnOk P w K mg base CX0 1 f fd ["self", "epoch", "place"] (spFits RC) := by
  refine F.ok scFits (fun vs H Q E h => ?_) (fun cdv A outer s H vs Q E hr h => ?_)
  · obtain ⟨p, l, s, e, q, rfl, _⟩ := h
    rfl
  · obtain ⟨p, l, s, e, q, rfl, ⟨⟨dx, h1⟩, xs, h2, hp⟩, k⟩ := h
    have hxl : xs.length = s.2.length := hp.length
    refine ⟨_, pss_cons (ps_if (pt_cmpR op_gt (pv 2) (pe_callB call_len_seq (by rfl) T.len PySem.boot_len (pa_cons (pe_fld (pv 0) rfl) pa_nil)) (nomark _)) (pss_one (ps_ret pe_bl)) pss_nil)
      (pss_one (ps_ret (pe_or (pe_cmpR op_eq (pv 2) pe_int (nomark _)) (pe_one (pe_cmpR op_eq (pe_ix ix_tup (pe_ix ix_list (pe_fld (pv 0) rfl) (pe_op op_sub (pv 2) pe_int) (fun _ _ => rfl)) pe_int (fun _ _ => rfl)) (pv 1) (nomark _)))))), ?_⟩
    refine ⟨_, rfl, _, rfl, p, RC, dx, _, _, rfl, h1, T.clR, T.nRr, rfl, l, xs, rfl, .inl (SqL.of h2), _, _, rfl, rfl, _, rfl, ?_⟩
    refine ite2 (fun hlt => ?_) (fun hlt => ?_)
    · have hlt' : s.2.length < q := by
        have := of_decide_eq_true hlt
        omega
      have e1 : fits s.2 e q = false := by unfold fits; rw [if_pos hlt']
      rw [e1] at k
      exact k
    · have hlt' : ¬ s.2.length < q := by
        intro z
        exact hlt (decide_eq_true (by omega))
      have e1 : fits s.2 e q = (q == 0 || (s.2[q - 1]?).any (fun q => decide (q.1 = e))) := by unfold fits; rw [if_neg hlt']
      refine ⟨_, rfl, rfl, _, rfl, ite2 (fun hz => ?_) (fun hz => ?_)⟩
      · have hz' : q = 0 := by
          have h0 := of_decide_eq_true hz
          have h1 : ((q : Nat) : Int) = 0 := V.int.inj h0
          omega
        subst hz'
        rw [e1] at k
        exact k
      · have hz' : q ≠ 0 := by
          intro z
          subst z
          exact hz (decide_eq_true rfl)
        obtain ⟨m, rfl⟩ : ∃ m, q = m + 1 := ⟨q - 1, by omega⟩
        have hm : m < s.2.length := by omega
        obtain ⟨y, hy1, b, hb1, hb2⟩ := paired_at hp (List.getElem?_eq_getElem hm)
        subst hb1
        refine ⟨_, rfl, p, RC, dx, _, _, rfl, h1, T.clR, T.nRr, rfl, _, rfl, _, _, rfl, rfl, l, xs, _, _, rfl, rfl, SqL.of h2, at_of (j := m) (by omega) hy1, b, _, _, _, rfl, rfl, SqT.of hb2, rfl, _, rfl, rfl, ?_⟩
        have e2 : (decide (V.int s.2[m].1 = V.int e)) = fits s.2 e (m + 1) := by
          rw [e1]
          simp [hm]
        show Q (.bl (decide (V.int s.2[m].1 = V.int e))) H
        rw [e2]
        exact k
end
end K40
/-! Keepers. -/
namespace K40
open PySem L2 Mc
theorem hu65 {A : Around} {k : Nat} (hr : Room k A) : A.units + 65 < cLine := by have := hr.un; omega
theorem catA_all {K : PySem.W.Frag} {H : Hp} {a b : Addr} {xs ys : List V} {Q : VK} (ha : H a = some (.tup xs)) (hb : H b = some (.tup ys)) (hz : xs.length + ys.length ≤ sizeLine)
    (h : ∀ t H2, Same H H2 → H2 t = some (.tup (xs ++ ys)) → Q (.ref t) H2) : rCatA K (.ref a) (.ref b) H Q := by
  refine ⟨a, b, xs, ys, rfl, rfl, SqT.of ha, SqT.of hb, hz, fun e => ?_, fun _ e => ?_, fun _ _ p hp => ?_⟩
  · subst e
    exact h b H (Same.refl H) hb
  · subst e
    exact h a H (Same.refl H) (by simpa using ha)
  · exact h p _ (Same.new hp) upd_same
theorem slA_all {K : PySem.W.Frag} {H : Hp} {a : Addr} {xs : List V} {n : Nat} {Q : VK} (ha : H a = some (.tup xs))
    (h : ∀ t H2, Same H H2 → H2 t = some (.tup (xs.take n)) → Q (.ref t) H2) : rSlA K (.ref a) none (some (n : Int)) H Q := by
  refine ⟨a, xs, rfl, SqT.of ha, fun e => ?_, fun _ p hp => ?_⟩
  · rw [HT.sIx_nat] at e
    have : xs.take n = xs := List.take_of_length_le (by have := e.2; omega)
    exact h a H (Same.refl H) (by rw [this]; exact ha)
  · have : cutV xs none (some (n : Int)) = xs.take n := by
      unfold cutV
      rw [HT.sIx_nat, HT.sIx_none]
      simp
    rw [this]
    exact h p _ (Same.new hp) upd_same
/-- a keeper's attributes are stored anew -/
theorem KeeperAt.store {KC : Addr} {H : Hp} {a dx : Addr} {fs : List (Str × V)} {n : Nat} {r l w : Addr} {rs ls ws : List V} {k : Kp Ent} (h0 : H a = some (.ins KC dx fs))
    (h1 : H r = some (.tup rs)) (p1 : Paired (RecA H) rs k.recs) (h2 : H l = some (.tup ls)) (p2 : Paired (RecA H) ls k.loose) (h3 : H w = some (.tup ws)) (p3 : Paired (LetA H) ws k.wait) :
    KeeperAt KC (upd H a (.ins KC dx (kf n r l w))) a n k := by
  have t : TupX H (upd H a (.ins KC dx (kf n r l w))) := fun c ys z => by rw [upd_ne (ne_of z h0 (by intro q; cases q))]; exact z
  exact ⟨dx, r, l, w, rs, ls, ws, upd_same, t _ _ h1, paired_imp (fun _ _ => RecA.mono t) p1, t _ _ h2, paired_imp (fun _ _ => RecA.mono t) p2, t _ _ h3, paired_imp (fun _ _ => LetA.mono t) p3⟩
section
variable {P : Program} {w : World} {K : PySem.W.Frag} {mg : Str → Option Value} {base : Heap} {RC KC SC CC : Addr}
def spKInit (KC : Addr) : Sp := fun vs H Q _ => ∃ (p dx : Addr) (n : Nat), vs = [.ref p, .int (n : Nat)] ∧ H p = some (.ins KC dx []) ∧
  ∀ H', KeeperAt KC H' p n ⟨[], [], []⟩ → But [p] H H' → Q .non H'
theorem scKInit : FnScope ["self", "number"] ["self", "number"] (defScope sKInit) := ⟨rfl, rfl, rfl, by decide +kernel, rfl, by decide +kernel, by decide +kernel⟩
theorem ok_kinit {f : Addr} {fd : FuncData} (F : Fun K "__init__" "Keeper.__init__" sKInit f fd) (T : Txt K mg RC KC SC CC) : FnOk P w K mg base CX0 1 f fd ["self", "number"] (spKInit KC) := by
  refine F.ok scKInit (fun vs H Q E h => ?_) (fun cdv A outer s H vs Q E hr h => ?_)
  · obtain ⟨p, dx, n, rfl, _⟩ := h
    rfl
  · obtain ⟨p, dx, n, rfl, h1, k⟩ := h
    refine ⟨_, pss_cons (ps_fld (pv 0) (pv 1) rfl) (pss_cons (ps_fld (pv 0) (pe_tup pa_nil) rfl) (pss_cons (ps_fld (pv 0) (pe_tup pa_nil) rfl) (pss_one (ps_fld (pv 0) (pe_tup pa_nil) rfl)))), ?_⟩
    refine ⟨_, rfl, _, rfl, p, KC, dx, _, rfl, h1, T.clK, T.nKn, (by show 0 < 1000; decide), ?_⟩
    refine ⟨(by show 0 ≤ sizeLine; decide), fun r hr1 => ?_⟩
    have npr : p ≠ r := ne_of_none upd_same hr1
    refine ⟨_, rfl, p, KC, dx, _, rfl, (by rw [upd_ne npr]; exact upd_same), T.clK, T.nKr, (by show 1 < 1000; decide), ?_⟩
    refine ⟨(by show 0 ≤ sizeLine; decide), fun l hl1 => ?_⟩
    have npl : p ≠ l := ne_of_none upd_same hl1
    refine ⟨_, rfl, p, KC, dx, _, rfl, (by rw [upd_ne npl]; exact upd_same), T.clK, T.nKl, (by show 2 < 1000; decide), ?_⟩
    refine ⟨(by show 0 ≤ sizeLine; decide), fun w hw1 => ?_⟩
    have npw : p ≠ w := ne_of_none upd_same hw1
    refine ⟨_, rfl, p, KC, dx, _, rfl, (by rw [upd_ne npw]; exact upd_same), T.clK, T.nKw, (by show 3 < 1000; decide), ?_⟩
    have nrl : r ≠ l := by
      intro e; subst e
      rw [upd_ne npr.symm, upd_same] at hl1; cases hl1
    have nlw : l ≠ w := by
      intro e; subst e
      rw [upd_ne npl.symm, upd_same] at hw1; cases hw1
    have nrw : r ≠ w := by
      intro e; subst e
      rw [upd_ne npw.symm, upd_ne nrl, upd_ne npr.symm, upd_same] at hw1; cases hw1
    have hHr : H r = none := by rw [upd_ne npr.symm] at hr1; exact hr1
    have hHl : H l = none := by rw [upd_ne npl.symm, upd_ne nrl.symm, upd_ne npl.symm] at hl1; exact hl1
    have hHw : H w = none := by rw [upd_ne npw.symm, upd_ne nlw.symm, upd_ne npw.symm, upd_ne nrw.symm, upd_ne npw.symm] at hw1; exact hw1
    refine k _ ?_ (((((((But.refl _ H).upd (.inl (by simp))).upd (.inr hHr)).upd (.inl (by simp))).upd (.inr hHl)).upd (.inl (by simp))).upd (.inr hHw) |>.upd (.inl (by simp)))
    refine KeeperAt.store (r := r) (l := l) (w := w) (rs := []) (ls := []) (ws := []) (by rw [upd_ne npw, upd_same]) ?_ .nil ?_ .nil upd_same .nil
    · rw [upd_ne nrw, upd_ne npr.symm, upd_ne nrl, upd_ne npr.symm, upd_same]
    · rw [upd_ne nlw, upd_ne npl.symm, upd_same]
def spKept (RC KC : Addr) : Sp := fun vs H Q _ => ∃ (a : Addr) (n : Nat) (kp : Kp Ent), vs = [.ref a] ∧ KeeperAt KC H a n kp ∧ kp.all.length < sizeLine ∧
  ∀ q l H', H q = none → H l = none → RecordAt RC H' q l (known kp.all) → Same H H' → Q (.ref q) H'
theorem scKept : FnScope ["self"] ["self"] (defScope sKKept) := ⟨rfl, rfl, rfl, by decide +kernel, rfl, by decide +kernel, by decide +kernel⟩
theorem ok_kept {f fi fp : Addr} {fd fdi fdp : FuncData} (F : Fun K "kept" "Keeper.kept" sKKept f fd) (T : Txt K mg RC KC SC CC) (DR : DI K RC "Record.__init__" sRInit ["self", "records"] fi fdi) (D : DM K RC "put" "Record.put" sRPut ["self", "record"] fp fdp) :
    FnOk P w K mg base CX0 4 f fd ["self"] (spKept RC KC) := by
  have G : FnOk P w K mg base CX0 2 fi fdi ["self", "records"] (spRInit RC) := ok_rinit DR.F T D
  refine F.ok scKept (fun vs H Q E h => ?_) (fun cdv A outer s H vs Q E hr h => ?_)
  · obtain ⟨a, n, kp, rfl, _⟩ := h
    rfl
  · obtain ⟨a, n, kp, rfl, ⟨dx, r, l, w, rs, ls, ws, h1, h2, p2, h3, p3, h4, p4⟩, hlen, k⟩ := h
    refine ⟨_, pss_one (ps_ret (pe_make DR.m G hr rfl T.mgR DR.b .nil pass0 (pa_cons (pe_op op_catA (pe_fld (pv 0) rfl) (pe_fld (pv 0) rfl)) pa_nil))), ?_⟩
    have hl2 : rs.length + ls.length = kp.all.length := by rw [p2.length, p3.length]; simp [Kp.all]
    refine ⟨_, rfl, a, KC, dx, _, _, rfl, h1, T.clK, T.nKr, rfl, _, rfl, a, KC, dx, _, _, rfl, h1, T.clK, T.nKl, rfl, catA_all h2 h3 (by omega) fun t H2 s2 ht => ?_⟩
    intro x d nx nd ne
    refine ⟨x, d, t, rs ++ ls, kp.all, rfl, upd_same, ?_, ?_, hlen, fun l' H3 hl' r3 b3 => ⟨rfl, ?_⟩⟩
    · rw [upd_ne (ne_of_none ht nx), upd_ne (ne_of_none ht nd)]
      exact ht
    · have t2 : TupX H (upd (upd H2 d (.own x)) x (.ins RC d [])) := fun c ys z => by
        rw [upd_ne (ne_of_none (s2 _ _ z) nx), upd_ne (ne_of_none (s2 _ _ z) nd)]
        exact s2 _ _ z
      exact paired_app (paired_imp (fun _ _ => RecA.mono t2) p2) (paired_imp (fun _ _ => RecA.mono t2) p3)
    · have nxl : l' ≠ x := by
        rintro rfl
        rw [upd_same] at hl'; cases hl'
      have ndl : l' ≠ d := by
        rintro rfl
        rw [upd_ne nxl, upd_same] at hl'; cases hl'
      have s3 : Same H2 H3 := fun c o z => b3 c o (by rw [upd_ne (ne_of_none z nx), upd_ne (ne_of_none z nd)]; exact z) (by simpa using ne_of_none z nx)
      rw [upd_ne nxl, upd_ne ndl] at hl'
      exact k x l' H3 (s2.free nx) (s2.free hl') r3 (s2.trans s3)
def takeK (k : Kp Ent) (n : Nat) (e : Int) (p : Nat) (x : Ent) (row : Row Ent) : Kp Ent :=
  if fits row e p then { k with loose := if p = row.length ∨ row[p]? ≠ some (e, x) then k.loose ++ [.take e p x] else k.loose, wait := k.wait ++ [.taken e n p] } else k
def Roomy (k : Kp Ent) : Prop := k.all.length + 2 ≤ sizeLine ∧ k.wait.length + 2 ≤ sizeLine
def spTake (RC KC : Addr) : Sp := fun vs H Q _ => ∃ (a q l : Addr) (n : Nat) (kp : Kp Ent) (s : Int × Row Ent) (e : Int) (p : Nat) (x : Ent), vs = [.ref a, .ref q, .int e, .int (p : Nat), eV x] ∧
  KeeperAt KC H a n kp ∧ RecordAt RC H q l s ∧ Roomy kp ∧ ∀ H', KeeperAt KC H' a n (takeK kp n e p x s.2) → But [a] H H' → Q .non H'
theorem scTake : FnScope ["self", "known", "epoch", "place", "entry"] ["self", "known", "epoch", "place", "entry"] (defScope sKTake) := ⟨rfl, rfl, rfl, by decide +kernel, rfl, by decide +kernel, by decide +kernel⟩
theorem ok_take {f ff : Addr} {fd fdf : FuncData} (F : Fun K "take" "Keeper.take" sKTake f fd) (T : Txt K mg RC KC SC CC) (DFi : DM K RC "fits" "Record.fits" sRFits ["self", "epoch", "place"] ff fdf) :
    FnOk P w K mg base CX0 2 f fd ["self", "known", "epoch", "place", "entry"] (spTake RC KC) := by
  have G : FnOk P w K mg base CX0 1 ff fdf ["self", "epoch", "place"] (spFits RC) := ok_fits DFi.F T
  refine F.ok scTake (fun vs H Q E h => ?_) (fun cdv A outer s H vs Q E hr h => ?_)
  · obtain ⟨a, q, l, n, kp, s, e, p, x, rfl, _⟩ := h
    rfl
  · obtain ⟨a, q, l, n, kp, s, e, p, x, rfl, KA, RA, ⟨hz1, hz2⟩, k⟩ := h
    obtain ⟨dx, r, lo, w, rs, ls, ws, h1, h2, p2, h3, p3, h4, p4⟩ := id KA
    obtain ⟨⟨dq, hq⟩, xs, hl, hp⟩ := id RA
    have hxl : xs.length = s.2.length := hp.length
    have hls : ls.length ≤ kp.all.length := by rw [p3.length]; simp [Kp.all]
    have hws : ws.length = kp.wait.length := p4.length
    refine ⟨_, pss_cons (ps_if (pt_not (pt_val (pe_meth (pv 1) T.clR DFi.m G hr DFi.b .nil pass0 (pa_cons (pv 2) (pa_cons (pv 3) pa_nil))))) (pss_one ps_retN) pss_nil)
      (Evl.pss_cut (ps_if (PW.pt (pw_or (pt_cmpR op_eq (pv 3) (pe_callB call_len_seq (by rfl) T.len PySem.boot_len (pa_cons (pe_fld (pv 1) rfl) pa_nil)) (nomark _))
          (pw_or1 (pt_cmpR (op_neD hr.units) (pe_ix ix_list (pe_fld (pv 1) rfl) (pv 3) (fun _ _ => rfl)) (pe_tup (pa_cons (pv 2) (pa_cons (pv 4) pa_nil))) (nomark _)))))
        (pss_one (ps_fld (pv 0) (pe_tup (StX.pa_star (pe_fld (pv 0) rfl) (pa_cons (pe_tup (pa_cons pe_str (pa_cons (pv 2) (pa_cons (pv 3) (pa_cons (pv 4) pa_nil))))) pa_nil))) rfl)) pss_nil)
      (pss_one (ps_fld (pv 0) (pe_tup (StX.pa_star (pe_fld (pv 0) rfl) (pa_cons (pe_tup (pa_cons pe_str (pa_cons (pv 2) (pa_cons (pe_fld (pv 0) rfl) (pa_cons (pv 3) pa_nil))))) pa_nil))) rfl))), ?_⟩
    refine ⟨_, rfl, q, dq, _, rfl, hq, rfl, _, rfl, _, rfl, q, l, s, e, p, rfl, RA, _, rfl, ?_⟩
    by_cases hf : fits s.2 e p = true
    case neg =>
      have hf' : fits s.2 e p = false := by simpa using hf
      rw [hf']
      refine iteT ?_
      have e1 : takeK kp n e p x s.2 = kp := by unfold takeK; rw [if_neg hf]
      exact k H (by rw [e1]; exact KA) (But.refl _ H)
    rw [hf]
    refine iteF ?_
    have hple : p ≤ s.2.length := by
      unfold fits at hf
      split at hf
      · cases hf
      · omega
    have fresh : ∀ {H2 : Hp} {t : Addr}, But [a] H H2 → (∃ o, H2 a = some o) → H2 t = none → a ≠ t ∧ H t = none := by
      intro H2 t b2 ⟨o, ha2⟩ ht
      have nat : a ≠ t := ne_of_none ha2 ht
      refine ⟨nat, ?_⟩
      cases z : H t with
      | none => rfl
      | some o => rw [b2 t o z (by simpa using nat.symm)] at ht; cases ht
    have tx : ∀ {H2 : Hp}, But [a] H H2 → TupX H H2 := fun b2 => b2.tupX fun b hb ys z => by
      simp at hb
      subst hb
      rw [h1] at z
      cases z
    refine ⟨fun σ' H1 => σ' = [some (.ref a), some (.ref q), some (.int e), some (.int (p : Nat)), some (eV x)] ∧ ∃ (lo2 : Addr) (ls2 : List V) (kp2 : Kp Ent), kp2.recs = kp.recs ∧ takeK kp n e p x s.2 = { kp2 with wait := kp.wait ++ [.taken e n p] } ∧
      But [a] H H1 ∧ H1 a = some (.ins KC dx (kf n r lo2 w)) ∧ H1 lo2 = some (.tup ls2) ∧ Paired (RecA H1) ls2 kp2.loose, ?_, ?_⟩
    · -- whether the entry is written
      refine if_by (decide (p = s.2.length ∨ s.2[p]? ≠ some (e, x))) (fun Q' q' => ?_) (fun H1 s1 => ite2 (fun hc => ?_) (fun hc => ?_))
      · refine ⟨_, rfl, _, rfl, q, RC, dq, _, _, rfl, hq, T.clR, T.nRr, rfl, l, xs, rfl, .inl (SqL.of hl), rfl, _, rfl, ite2 (fun h => ?_) (fun h => ?_)⟩
        · have h' : p = s.2.length := by
            have := V.int.inj (of_decide_eq_true h)
            omega
          have := q' H (Same.refl H)
          rw [decide_eq_true (Or.inl h')] at this
          exact this
        · have h' : ¬ p = s.2.length := fun z => h (decide_eq_true (by rw [hxl, z]))
          have hlt : p < s.2.length := by omega
          obtain ⟨y, hy, hpy⟩ := paired_at hp (List.getElem?_eq_getElem hlt)
          refine ⟨_, rfl, q, RC, dq, _, _, rfl, hq, T.clR, T.nRr, rfl, _, rfl, l, xs, _, _, rfl, rfl, SqL.of hl, at_of (j := p) rfl hy, _, rfl, _, rfl, (by show 2 ≤ sizeLine; decide), fun t ht => ?_⟩
          have s1 : Same H (upd H t (.tup [.int e, eV x])) := Same.new ht
          refine ⟨pairD s.2[p], pairD (e, x), pairD_dp (hpy.mono (TupX.of s1)), pairD_dp ⟨t, rfl, upd_same⟩, pairD_shaped _, pairD_shaped _, _, rfl, ?_⟩
          rw [pairD_eqv]
          have e1 : (!decide (s.2[p] = (e, x))) = decide (p = s.2.length ∨ s.2[p]? ≠ some (e, x)) := by
            rw [List.getElem?_eq_getElem hlt]
            by_cases z : s.2[p] = (e, x)
            · simp [z, h']
            · simp [z]
          rw [e1]
          exact q' _ s1
      · have ha1 : H1 a = some (.ins KC dx (kf n r lo w)) := s1 _ _ h1
        have hlo1 : H1 lo = some (.tup ls) := s1 _ _ h3
        refine ⟨_, rfl, a, KC, dx, _, _, rfl, ha1, T.clK, T.nKl, rfl, lo, ls, rfl, .inl (SqT.of hlo1), _, rfl, _, rfl, _, rfl, (by show 4 ≤ sizeLine; decide), fun t ht => ⟨?_, fun t2 ht2 => ?_⟩⟩
        · rw [List.length_append]
          show ls.length + 1 ≤ sizeLine
          omega
        obtain ⟨nt, s2, ht', ht2'⟩ := two_new (o2 := .tup (ls ++ [.ref t])) ht ht2
        generalize hH3 : upd (upd H1 t (.tup [.str "take", .int e, .int (p : Nat), eV x])) t2 (.tup (ls ++ [.ref t])) = H3 at s2 ht' ht2'
        have s3 : Same H H3 := s1.trans s2
        refine ⟨_, rfl, a, KC, dx, _, rfl, (s3 _ _ h1), T.clK, T.nKl, (by show 4 < 1000; decide), ?_⟩
        have ha3 : H3 a = some (.ins KC dx (kf n r lo w)) := s3 _ _ h1
        have t4 : TupX H3 (upd H3 a (.ins KC dx (kf n r t2 w))) := fun c ys z => by rw [upd_ne (ne_of z ha3 (by intro q; cases q))]; exact z
        refine ⟨rfl, t2, ls ++ [.ref t], { kp with loose := kp.loose ++ [.take e p x] }, rfl, ?_, (But.same s3).upd (.inl (by simp)), upd_same, t4 _ _ ht2', ?_⟩
        · unfold takeK
          rw [if_pos hf, if_pos (of_decide_eq_true hc)]
        · exact paired_app (paired_imp (fun _ _ z => RecA.mono t4 (RecA.mono (TupX.of s3) z)) p3) (.cons ⟨t, rfl, t4 _ _ ht'⟩ .nil)
      · refine ⟨rfl, lo, ls, kp, rfl, ?_, But.same s1, s1 _ _ h1, s1 _ _ h3, paired_imp (fun _ _ => RecA.mono (TupX.of s1)) p3⟩
        unfold takeK
        rw [if_pos hf, if_neg (fun z => hc (decide_eq_true z))]
    · rintro σ' H2 ⟨rfl, lo2, ls2, kp2, e1, e3, b2, ha2, hlo2, hpl2⟩
      have hw2 : H2 w = some (.tup ws) := tx b2 _ _ h4
      refine ⟨_, rfl, a, KC, dx, _, _, rfl, ha2, T.clK, T.nKw, rfl, w, ws, rfl, .inl (SqT.of hw2), _, rfl, _, rfl, a, KC, dx, _, _, rfl, ha2, T.clK, T.nKn, rfl, _, rfl, (by show 4 ≤ sizeLine; decide), fun t ht => ⟨?_, fun t2 ht2 => ?_⟩⟩
      · rw [List.length_append]
        show ws.length + 1 ≤ sizeLine
        omega
      obtain ⟨nt, s2, ht', ht2'⟩ := two_new (o2 := .tup (ws ++ [.ref t])) ht ht2
      generalize hH3 : upd (upd H2 t (.tup [.str "taken", .int e, .int (n : Nat), .int (p : Nat)])) t2 (.tup (ws ++ [.ref t])) = H3 at s2 ht' ht2'
      have b3 : But [a] H H3 := fun c o z nn => s2 _ _ (b2 c o z nn)
      have t3 : TupX H H3 := tx b3
      refine ⟨_, rfl, a, KC, dx, _, rfl, (s2 _ _ ha2), T.clK, T.nKw, (by show 4 < 1000; decide), ?_⟩
      refine k _ ?_ (b3.upd (.inl (by simp)))
      rw [e3]
      refine KeeperAt.store (fs := kf n r lo2 w) (k := { kp2 with wait := kp.wait ++ [.taken e n p] }) (s2 _ _ ha2) (t3 _ _ h2) ?_ (s2 _ _ hlo2) (paired_imp (fun _ _ => RecA.mono (TupX.of s2)) hpl2) ht2' ?_
      · show Paired (RecA H3) rs kp2.recs
        rw [e1]
        exact paired_imp (fun _ _ => RecA.mono t3) p2
      · exact paired_app (paired_imp (fun _ _ => LetA.mono t3) p4) (.cons ⟨t, rfl, ht'⟩ .nil)
/-- one more tuple behind a row, stored in an attribute's place -/
theorem fresh_of {F : List Addr} {H H2 : Hp} {t : Addr} (b2 : But F H H2) (hF : ∀ a ∈ F, ∃ o, H2 a = some o) (ht : H2 t = none) : H t = none := by
  cases z : H t with
  | none => rfl
  | some o =>
    by_cases m : t ∈ F
    · obtain ⟨o', e⟩ := hF t m
      rw [ht] at e; cases e
    · rw [b2 t o z m] at ht; cases ht
def spHandle (KC : Addr) : Sp := fun vs H Q _ => ∃ (a : Addr) (v : V) (n : Nat) (kp : Kp Ent) (l : Letter Ent), vs = [.ref a, v] ∧
  KeeperAt KC H a n kp ∧ LetA H v l ∧ l.isReq = true ∧ Roomy kp ∧ ∀ H', KeeperAt KC H' a n (handle n kp l) → But [a] H H' → Q .non H'
theorem scHandle : FnScope ["self", "letter", "known", "epoch"] ["self", "letter"] (defScope sKHandle) := ⟨rfl, rfl, rfl, by decide +kernel, rfl, by decide +kernel, by decide +kernel⟩
theorem ok_handle {f fk ft fi fp ff : Addr} {fd fdk fdt fdi fdp fdf : FuncData} (F : Fun K "handle" "Keeper.handle" sKHandle f fd) (T : Txt K mg RC KC SC CC)
    (DK : DM K KC "kept" "Keeper.kept" sKKept ["self"] fk fdk) (DT : DM K KC "take" "Keeper.take" sKTake ["self", "known", "epoch", "place", "entry"] ft fdt)
    (DR : DI K RC "Record.__init__" sRInit ["self", "records"] fi fdi) (D : DM K RC "put" "Record.put" sRPut ["self", "record"] fp fdp) (DFi : DM K RC "fits" "Record.fits" sRFits ["self", "epoch", "place"] ff fdf) :
    FnOk P w K mg base CX0 5 f fd ["self", "letter"] (spHandle KC) := by
  have GK : FnOk P w K mg base CX0 4 fk fdk ["self"] (spKept RC KC) := ok_kept DK.F T DR D
  have GT : FnOk P w K mg base CX0 2 ft fdt ["self", "known", "epoch", "place", "entry"] (spTake RC KC) := ok_take DT.F T DFi
  refine F.ok scHandle (fun vs H Q E h => ?_) (fun cdv A outer s H vs Q E hr h => ?_)
  · obtain ⟨a, v, n, kp, l, rfl, _⟩ := h
    rfl
  · obtain ⟨a, v, n, kp, l, rfl, KA, hv, hq, ⟨hz1, hz2⟩, k⟩ := h
    have hr2 : Room 2 _ := hr.mono (by decide)
    refine ⟨_, pss_cons (ps_par (i := 2) (j := 3) rfl scHandle.nd rfl rfl (by decide) rfl rfl (pa_cons (pe_meth0 (pv 0) T.clK DK.m GK hr DK.b .nil pass0) (pa_cons (pe_ix ix_tup (pv 1) pe_int (fun _ _ => rfl)) pa_nil)) (by rfl))
      (pss_one (ps_if (pt_cmpR op_lt (pv 3) (pe_fld (pv 2) rfl) (nomark _))
        (pss_one (ps_fld (pv 0) (pe_tup (StX.pa_star (pe_fld (pv 0) rfl) (pa_cons (pe_tup (pa_cons pe_str (pa_cons (pv 3) (pa_cons (pe_fld (pv 0) rfl) (pa_cons (pe_fld (pv 2) rfl) pa_nil))))) pa_nil))) rfl))
        (pss_one (ps_if (pt_cmpR op_eq (pe_ix ix_tup (pv 1) pe_int (fun _ _ => rfl)) pe_str (nomark _))
          (Evl.pss_cut (ps_if (pt_cmpR op_gt (pv 3) (pe_fld (pv 2) rfl) (nomark _))
              (pss_one (ps_fld (pv 0) (pe_tup (StX.pa_star (pe_fld (pv 0) rfl) (pa_cons (pe_tup (pa_cons pe_str (pa_cons (pv 3) pa_nil))) pa_nil))) rfl)) pss_nil)
            (pss_one (ps_fld (pv 0) (pe_tup (StX.pa_star (pe_fld (pv 0) rfl) (pa_cons (pe_tup (pa_cons pe_str (pa_cons (pv 3) (pa_cons (pe_fld (pv 0) rfl) (pa_cons (pe_callTy call_tuple_of (by rfl) T.tuple (by decide +kernel) (pa_cons (pe_fld (pv 2) rfl) pa_nil)) pa_nil))))) pa_nil))) rfl)))
          (pss_one (ps_expr (pe_meth (pv 0) T.clK DT.m GT hr2 DT.b .nil pass0 (pa_cons (pv 2) (pa_cons (pv 3) (pa_cons (pe_ix ix_tup (pv 1) pe_int (fun _ _ => rfl)) (pa_cons (pe_ix ix_tup (pv 1) pe_int (fun _ _ => rfl)) pa_nil))))))))))), ?_⟩
    obtain ⟨dx0, r0, lo0, w0, rs0, ls0, ws0, h10, _⟩ := id KA
    refine ⟨_, rfl, a, dx0, _, rfl, h10, rfl, a, n, kp, rfl, KA, by omega, fun q l' H1 nq nl RA s1 => ?_⟩
    have tx1 := TupX.of s1
    have KA1 : KeeperAt KC H1 a n kp := KA.mono tx1 (by rw [s1 _ _ h10, h10])
    have hv1 : LetA H1 v l := hv.mono tx1
    have naq : a ≠ q := ne_of_none h10 nq
    obtain ⟨dx, r, lo, w, rs, ls, ws, h1, h2, p2, h3, p3, h4, p4⟩ := id KA1
    obtain ⟨⟨dq, hq1⟩, xs, hl, hp⟩ := id RA
    have hxl : xs.length = (known kp.all).2.length := hp.length
    have hkl := known_len_le kp.all
    have hls : ls.length ≤ kp.all.length := by rw [p3.length]; simp [Kp.all]
    have hws : ws.length = kp.wait.length := p4.length
    -- the letter's tuple: its epoch and its kind
    obtain ⟨b, its, rfl, hb, he, h0⟩ : ∃ b its, v = .ref b ∧ H1 b = some (.tup its) ∧ atI its 1 = some (.int l.epoch) ∧ atI its 0 = some (.str (match l with | .ask _ _ => "ask" | _ => "write")) := by
      cases l with
      | ask e k' => obtain ⟨b, e1, e2⟩ := hv1; exact ⟨b, _, e1, e2, rfl, rfl⟩
      | write e k' p x => obtain ⟨b, e1, e2⟩ := hv1; exact ⟨b, _, e1, e2, rfl, rfl⟩
      | refused e k' ke => cases hq
      | told e k' row => cases hq
      | taken e k' p => cases hq
    refine ⟨_, rfl, b, _, _, _, rfl, rfl, SqT.of hb, he, _, _, rfl, ?_⟩
    refine ⟨_, rfl, _, rfl, q, RC, dq, _, _, rfl, hq1, T.clR, T.nRe, rfl, _, _, rfl, rfl, _, rfl, ite2 (fun hlt => ?_) (fun hlt => ?_)⟩
    · have hlt' : l.epoch < (known kp.all).1 := of_decide_eq_true hlt
      refine ⟨_, rfl, a, KC, dx, _, _, rfl, h1, T.clK, T.nKw, rfl, w, ws, rfl, .inl (SqT.of h4), _, rfl, _, rfl, a, KC, dx, _, _, rfl, h1, T.clK, T.nKn, rfl, _, rfl, q, RC, dq, _, _, rfl, hq1, T.clR, T.nRe, rfl, (by show 4 ≤ sizeLine; decide), fun t ht => ⟨?_, fun t2 ht2 => ?_⟩⟩
      · rw [List.length_append]
        show ws.length + 1 ≤ sizeLine
        omega
      obtain ⟨nt, s2, ht', ht2'⟩ := two_new (o2 := .tup (ws ++ [.ref t])) ht ht2
      generalize hH3 : upd (upd H1 t _) t2 (.tup (ws ++ [.ref t])) = H3 at s2 ht' ht2'
      have t3 := TupX.of s2
      refine ⟨_, rfl, a, KC, dx, _, rfl, s2 _ _ h1, T.clK, T.nKw, (by show 4 < 1000; decide), ?_⟩
      refine k _ ?_ ((But.same (s1.trans s2)).upd (.inl (by simp)))
      unfold handle
      rw [if_pos hlt']
      exact KeeperAt.store (fs := kf n r lo w) (s2 _ _ h1) (s2 _ _ h2) (paired_imp (fun _ _ => RecA.mono t3) p2) (s2 _ _ h3) (paired_imp (fun _ _ => RecA.mono t3) p3) ht2' (paired_app (paired_imp (fun _ _ => LetA.mono t3) p4) (.cons ⟨t, rfl, ht'⟩ .nil))
    have hlt' : ¬ l.epoch < (known kp.all).1 := fun z => hlt (decide_eq_true z)
    refine ⟨_, rfl, b, _, _, _, rfl, rfl, SqT.of hb, h0, rfl, _, rfl, ?_⟩
    cases l with
    | refused e k' ke => cases hq
    | told e k' row => cases hq
    | taken e k' p => cases hq
    | write e k' p x =>
      obtain ⟨b', e1, hb2⟩ := hv1
      cases e1
      rw [hb] at hb2
      cases hb2
      refine iteF ?_
      refine ⟨_, rfl, a, dx, _, rfl, h1, rfl, _, rfl, _, rfl, _, rfl, b, _, _, _, rfl, rfl, SqT.of hb, rfl, _, rfl, b, _, _, _, rfl, rfl, SqT.of hb, rfl, a, q, l', n, kp, known kp.all, e, p, x, rfl, KA1, RA, ⟨hz1, hz2⟩, fun H2 K2 b2 => ?_⟩
      refine k H2 ?_ (fun c o z nn => b2 c o (s1 c o z) nn)
      unfold handle
      rw [if_neg hlt']
      exact K2
    | ask e k' =>
      refine iteT ?_
      refine ⟨fun σ' H2 => σ' = [some (.ref a), some (.ref b), some (.ref q), some (.int e)] ∧ ∃ (lo2 : Addr) (ls2 : List V), But [a] H1 H2 ∧ H2 a = some (.ins KC dx (kf n r lo2 w)) ∧ H2 lo2 = some (.tup ls2) ∧
        Paired (RecA H2) ls2 (if (known kp.all).1 < e then kp.loose ++ [.prom e] else kp.loose), ?_, ?_⟩
      · refine ⟨_, rfl, _, rfl, q, RC, dq, _, _, rfl, hq1, T.clR, T.nRe, rfl, _, _, rfl, rfl, _, rfl, ite2 (fun hgt => ?_) (fun hgt => ?_)⟩
        · have hgt' : (known kp.all).1 < e := of_decide_eq_true hgt
          refine ⟨_, rfl, a, KC, dx, _, _, rfl, h1, T.clK, T.nKl, rfl, lo, ls, rfl, .inl (SqT.of h3), _, rfl, (by show 2 ≤ sizeLine; decide), fun t ht => ⟨?_, fun t2 ht2 => ?_⟩⟩
          · rw [List.length_append]
            show ls.length + 1 ≤ sizeLine
            omega
          obtain ⟨nt, s2, ht', ht2'⟩ := two_new (o2 := .tup (ls ++ [.ref t])) ht ht2
          generalize hH3 : upd (upd H1 t _) t2 (.tup (ls ++ [.ref t])) = H3 at s2 ht' ht2'
          have ha3 : H3 a = some (.ins KC dx (kf n r lo w)) := s2 _ _ h1
          have t4 : TupX H3 (upd H3 a (.ins KC dx (kf n r t2 w))) := fun c ys z => by rw [upd_ne (ne_of z ha3 (by intro q; cases q))]; exact z
          refine ⟨_, rfl, a, KC, dx, _, rfl, ha3, T.clK, T.nKl, (by show 4 < 1000; decide), ?_⟩
          refine ⟨rfl, t2, ls ++ [.ref t], (But.same s2).upd (.inl (by simp)), upd_same, t4 _ _ ht2', ?_⟩
          rw [if_pos hgt']
          exact paired_app (paired_imp (fun _ _ z => RecA.mono t4 (RecA.mono (TupX.of s2) z)) p3) (.cons ⟨t, rfl, t4 _ _ ht'⟩ .nil)
        · have hgt' : ¬ (known kp.all).1 < e := fun z => hgt (decide_eq_true z)
          refine ⟨rfl, lo, ls, But.refl _ _, h1, h3, ?_⟩
          rw [if_neg hgt']
          exact p3
      · rintro σ' H2 ⟨rfl, lo2, ls2, b2, ha2, hlo2, hpl2⟩
        have np : ∀ c ∈ [a], ∀ ys, H1 c ≠ some (.tup ys) := by
          intro c hc ys z
          simp at hc
          subst hc
          rw [h1] at z
          cases z
        have tx2 : TupX H1 H2 := b2.tupX np
        have hq2 : H2 q = some (.ins RC dq (rf (known kp.all).1 l')) := b2 _ _ hq1 (by simpa using naq.symm)
        have nla : l' ≠ a := ne_of hl h1 (by intro q; cases q)
        have hl2 : H2 l' = some (.lst xs) := b2 _ _ hl (by simpa using nla)
        have hw2 : H2 w = some (.tup ws) := tx2 _ _ h4
        refine ⟨_, rfl, a, KC, dx, _, _, rfl, ha2, T.clK, T.nKw, rfl, w, ws, rfl, .inl (SqT.of hw2), _, rfl, _, rfl, a, KC, dx, _, _, rfl, ha2, T.clK, T.nKn, rfl, _, rfl, q, RC, dq, _, _, rfl, hq2, T.clR, T.nRr, rfl, l', xs, rfl, .inl ⟨SqL.of hl2, fun t0 ht0 => ⟨(by show 4 ≤ sizeLine; decide), fun t ht => ⟨?_, fun t2 ht2 => ?_⟩⟩⟩⟩
        · rw [List.length_append]
          show ws.length + 1 ≤ sizeLine
          omega
        have s0 : Same H2 (upd H2 t0 (.tup xs)) := Same.new ht0
        obtain ⟨nt, s2, ht', ht2'⟩ := two_new (o2 := .tup (ws ++ [.ref t])) ht ht2
        have h0' := s2 _ _ (upd_same (H := H2) (a := t0) (o := .tup xs))
        have s3 := s0.trans s2
        generalize hH3 : upd (upd (upd H2 t0 _) t _) t2 (.tup (ws ++ [.ref t])) = H3 at s2 ht' ht2' s3 h0'
        have b3 : But [a] H1 H3 := fun c o z nn => s3 _ _ (b2 c o z nn)
        have t3 : TupX H1 H3 := b3.tupX np
        refine ⟨_, rfl, a, KC, dx, _, rfl, s3 _ _ ha2, T.clK, T.nKw, (by show 4 < 1000; decide), ?_⟩
        refine k _ ?_ (((But.same s1).trans b3).upd (.inl (by simp)))
        unfold handle
        rw [if_neg hlt']
        refine KeeperAt.store (fs := kf n r lo2 w) (s3 _ _ ha2) (t3 _ _ h2) (paired_imp (fun _ _ => RecA.mono t3) p2) (s3 _ _ hlo2) (paired_imp (fun _ _ => RecA.mono (TupX.of s3)) hpl2) ht2' ?_
        exact paired_app (paired_imp (fun _ _ => LetA.mono t3) p4) (.cons ⟨t, t0, rfl, ht', t0, xs, rfl, h0', paired_imp (fun _ _ => PairA.mono t3) hp⟩ .nil)
def spFlush (KC : Addr) : Sp := fun vs H Q _ => ∃ (a : Addr) (n : Nat) (kp : Kp Ent), vs = [.ref a] ∧ KeeperAt KC H a n kp ∧ Roomy kp ∧
  ∀ t ts H', H' t = some (.tup ts) → Paired (LetA H') ts kp.wait → KeeperAt KC H' a n (flushK kp) → But [a] H H' → Q (.ref t) H'
theorem scFlush : FnScope ["self", "found"] ["self"] (defScope sKFlush) := ⟨rfl, rfl, rfl, by decide +kernel, rfl, by decide +kernel, by decide +kernel⟩
theorem ok_flush {f : Addr} {fd : FuncData} (F : Fun K "flush" "Keeper.flush" sKFlush f fd) (T : Txt K mg RC KC SC CC) : FnOk P w K mg base CX0 1 f fd ["self"] (spFlush KC) := by
  refine F.ok scFlush (fun vs H Q E h => ?_) (fun cdv A outer s H vs Q E hr h => ?_)
  · obtain ⟨a, n, kp, rfl, _⟩ := h
    rfl
  · obtain ⟨a, n, kp, rfl, ⟨dx, r, lo, w, rs, ls, ws, h1, h2, p2, h3, p3, h4, p4⟩, ⟨hz1, hz2⟩, k⟩ := h
    have hl2 : rs.length + ls.length = kp.all.length := by rw [p2.length, p3.length]; simp [Kp.all]
    refine ⟨_, pss_cons (ps_fld (pv 0) (pe_op op_catA (pe_fld (pv 0) rfl) (pe_fld (pv 0) rfl)) rfl) (pss_cons (ps_set (i := 1) scFlush.nd rfl (Or.inl rfl) (pe_fld (pv 0) rfl))
      (pss_cons (ps_fld (pv 0) (pe_tup pa_nil) rfl) (pss_cons (ps_fld (pv 0) (pe_tup pa_nil) rfl) (pss_one (ps_ret (pv 1)))))), ?_⟩
    refine ⟨_, rfl, a, KC, dx, _, _, rfl, h1, T.clK, T.nKr, rfl, _, rfl, a, KC, dx, _, _, rfl, h1, T.clK, T.nKl, rfl, catA_all h2 h3 (by omega) fun t H2 s2 ht => ?_⟩
    refine ⟨_, rfl, a, KC, dx, _, rfl, s2 _ _ h1, T.clK, T.nKr, (by show 4 < 1000; decide), ?_⟩
    refine ⟨_, rfl, a, KC, dx, _, _, rfl, upd_same, T.clK, T.nKw, rfl, ?_⟩
    have b1 : But [a] H (upd H2 a (.ins KC dx (kf n t lo w))) := (But.same s2).upd (.inl (by simp))
    refine ⟨(by show 0 ≤ sizeLine; decide), fun e1 he1 => ?_⟩
    have na1 : a ≠ e1 := ne_of_none upd_same he1
    refine ⟨_, rfl, a, KC, dx, _, rfl, (by rw [upd_ne na1]; exact upd_same), T.clK, T.nKl, (by show 4 < 1000; decide), ?_⟩
    refine ⟨(by show 0 ≤ sizeLine; decide), fun e2 he2 => ?_⟩
    have na2 : a ≠ e2 := ne_of_none upd_same he2
    refine ⟨_, rfl, a, KC, dx, _, rfl, (by rw [upd_ne na2]; exact upd_same), T.clK, T.nKw, (by show 4 < 1000; decide), ?_⟩
    refine ⟨_, rfl, ?_⟩
    have hF : ∀ {H' : Hp}, (∃ o, H' a = some o) → ∀ c ∈ [a], ∃ o, H' c = some o := by
      intro H' h c hc
      simp at hc
      subst hc
      exact h
    have f1 : H e1 = none := fresh_of b1 (hF ⟨_, upd_same⟩) he1
    have b2 := b1.upd (a := e1) (o := .tup []) (.inr f1)
    have b3 : But [a] H (upd (upd (upd H2 a (.ins KC dx (kf n t lo w))) e1 (.tup [])) a (.ins KC dx (kf n t e1 w))) := b2.upd (.inl (by simp))
    have f2 : H e2 = none := fresh_of b3 (hF ⟨_, upd_same⟩) he2
    have b4 := b3.upd (a := e2) (o := .tup []) (.inr f2)
    have np : ∀ c ∈ [a], ∀ ys, H c ≠ some (.tup ys) := by
      intro c hc ys z
      simp at hc
      subst hc
      rw [h1] at z
      cases z
    have t4 := b4.tupX np
    have n12 : e1 ≠ e2 := by
      rintro rfl
      rw [upd_ne na1.symm, upd_same] at he2
      cases he2
    have nt1 : t ≠ e1 := by
      rintro rfl
      rw [upd_ne na1.symm] at he1
      rw [ht] at he1; cases he1
    have nt2 : t ≠ e2 := by
      rintro rfl
      rw [upd_ne na2.symm, upd_ne nt1, upd_ne na2.symm, ht] at he2
      cases he2
    have nta : t ≠ a := by
      rintro rfl
      rw [s2 _ _ h1] at ht; cases ht
    have b5 := b4.upd (a := a) (o := .ins KC dx (kf n t e1 e2)) (.inl (by simp))
    have t5 := b5.tupX np
    refine k w ws _ (t5 _ _ h4) (paired_imp (fun _ _ => LetA.mono t5) p4) ?_ b5
    refine KeeperAt.store (fs := kf n t e1 w) (rs := rs ++ ls) (ls := []) (ws := []) (by rw [upd_ne na2, upd_same]; rfl) ?_ ?_ ?_ .nil upd_same .nil
    · rw [upd_ne nt2, upd_ne nta, upd_ne nt1, upd_ne nta, ht]
    · exact paired_app (paired_imp (fun _ _ => RecA.mono t4) p2) (paired_imp (fun _ _ => RecA.mono t4) p3)
    · rw [upd_ne n12, upd_ne na1.symm, upd_same]
def spFall (KC : Addr) : Sp := fun vs H Q _ => ∃ (a : Addr) (n : Nat) (kp : Kp Ent) (m : Nat), vs = [.ref a, .int (m : Nat)] ∧ KeeperAt KC H a n kp ∧ Roomy kp ∧ m ≤ kp.loose.length ∧
  ∀ H', KeeperAt KC H' a n (fallK kp m) → But [a] H H' → Q .non H'
theorem scFall : FnScope ["self", "many"] ["self", "many"] (defScope sKFall) := ⟨rfl, rfl, rfl, by decide +kernel, rfl, by decide +kernel, by decide +kernel⟩
theorem ok_fall {f fw : Addr} {fd fdw : FuncData} (F : Fun K "fall" "Keeper.fall" sKFall f fd) (T : Txt K mg RC KC SC CC) (DW : DF K mg "is_whole" sWhole ["thing", "low", "high"] fw fdw) : FnOk P w K mg base CX0 2 f fd ["self", "many"] (spFall KC) := by
  have G : FnOk P w K mg base CX0 1 fw fdw ["thing", "low", "high"] spWhole := ok_whole DW.F T
  refine F.ok scFall (fun vs H Q E h => ?_) (fun cdv A outer s H vs Q E hr h => ?_)
  · obtain ⟨a, n, kp, m, rfl, _⟩ := h
    rfl
  · obtain ⟨a, n, kp, m, rfl, ⟨dx, r, lo, w, rs, ls, ws, h1, h2, p2, h3, p3, h4, p4⟩, ⟨hz1, hz2⟩, hm, k⟩ := h
    have hl2 : rs.length + ls.length = kp.all.length := by rw [p2.length, p3.length]; simp [Kp.all]
    have hls : ls.length = kp.loose.length := p3.length
    refine ⟨_, pss_cons (ps_if (pt_not (pt_val (pe_call G hr rfl DW.g DW.F.kp DW.b .nil pass0 (pa_cons (pv 1) (pa_cons pe_int (pa_cons (pe_callB call_len_seq (by rfl) T.len PySem.boot_len (pa_cons (pe_fld (pv 0) rfl) pa_nil)) pa_nil)))))) (pss_one ps_never) pss_nil)
      (pss_cons (ps_fld (pv 0) (pe_op op_catA (pe_fld (pv 0) rfl) (pe_slice sl_tupA (pe_fld (pv 0) rfl) po_none (po_some (pv 1)))) rfl)
      (pss_cons (ps_fld (pv 0) (pe_tup pa_nil) rfl) (pss_one (ps_fld (pv 0) (pe_tup pa_nil) rfl)))), ?_⟩
    refine ⟨_, rfl, _, rfl, a, KC, dx, _, _, rfl, h1, T.clK, T.nKl, rfl, lo, ls, rfl, .inr (SqT.of h3), (m : Int), 0, (ls.length : Int), rfl, _, rfl, ?_⟩
    rw [decide_eq_true (by omega : (0 : Int) ≤ (m : Int)), decide_eq_true (by omega : (m : Int) ≤ (ls.length : Int))]
    refine iteF ?_
    refine ⟨_, rfl, a, KC, dx, _, _, rfl, h1, T.clK, T.nKr, rfl, _, rfl, a, KC, dx, _, _, rfl, h1, T.clK, T.nKl, rfl, _, rfl, (m : Int), rfl, ?_⟩
    refine slA_all (n := m) h3 fun t0 H0 s0 ht0 => ?_
    refine catA_all (s0 _ _ h2) ht0 (by rw [List.length_take]; omega) fun t H2 s2' ht => ?_
    have s2 := s0.trans s2'
    refine ⟨_, rfl, a, KC, dx, _, rfl, s2 _ _ h1, T.clK, T.nKr, (by show 4 < 1000; decide), ?_⟩
    have b1 : But [a] H (upd H2 a (.ins KC dx (kf n t lo w))) := (But.same s2).upd (.inl (by simp))
    refine ⟨(by show 0 ≤ sizeLine; decide), fun e1 he1 => ?_⟩
    have na1 : a ≠ e1 := ne_of_none upd_same he1
    refine ⟨_, rfl, a, KC, dx, _, rfl, (by rw [upd_ne na1]; exact upd_same), T.clK, T.nKl, (by show 4 < 1000; decide), ?_⟩
    refine ⟨(by show 0 ≤ sizeLine; decide), fun e2 he2 => ?_⟩
    have na2 : a ≠ e2 := ne_of_none upd_same he2
    refine ⟨_, rfl, a, KC, dx, _, rfl, (by rw [upd_ne na2]; exact upd_same), T.clK, T.nKw, (by show 4 < 1000; decide), ?_⟩
    have hF : ∀ {H' : Hp}, (∃ o, H' a = some o) → ∀ c ∈ [a], ∃ o, H' c = some o := by
      intro H' h c hc
      simp at hc
      subst hc
      exact h
    have f1 : H e1 = none := fresh_of b1 (hF ⟨_, upd_same⟩) he1
    have b2 := b1.upd (a := e1) (o := .tup []) (.inr f1)
    have b3 : But [a] H (upd (upd (upd H2 a (.ins KC dx (kf n t lo w))) e1 (.tup [])) a (.ins KC dx (kf n t e1 w))) := b2.upd (.inl (by simp))
    have f2 : H e2 = none := fresh_of b3 (hF ⟨_, upd_same⟩) he2
    have b4 := b3.upd (a := e2) (o := .tup []) (.inr f2)
    have np : ∀ c ∈ [a], ∀ ys, H c ≠ some (.tup ys) := by
      intro c hc ys z
      simp at hc
      subst hc
      rw [h1] at z
      cases z
    have t4 := b4.tupX np
    have n12 : e1 ≠ e2 := by
      rintro rfl
      rw [upd_ne na1.symm, upd_same] at he2
      cases he2
    have nt1 : t ≠ e1 := by
      rintro rfl
      rw [upd_ne na1.symm] at he1
      rw [ht] at he1; cases he1
    have nt2 : t ≠ e2 := by
      rintro rfl
      rw [upd_ne na2.symm, upd_ne nt1, upd_ne na2.symm, ht] at he2
      cases he2
    have nta : t ≠ a := by
      rintro rfl
      rw [s2 _ _ h1] at ht; cases ht
    have b5 := b4.upd (a := a) (o := .ins KC dx (kf n t e1 e2)) (.inl (by simp))
    refine k _ ?_ b5
    refine KeeperAt.store (fs := kf n t e1 w) (rs := rs ++ ls.take m) (ls := []) (ws := []) (by rw [upd_ne na2, upd_same]; rfl) ?_ ?_ ?_ .nil upd_same .nil
    · rw [upd_ne nt2, upd_ne nta, upd_ne nt1, upd_ne nta, ht]
    · exact paired_app (paired_imp (fun _ _ => RecA.mono t4) p2) (paired_take m (paired_imp (fun _ _ => RecA.mono t4) p3))
    · rw [upd_ne n12, upd_ne na1.symm, upd_same]
end
end K40
/-! What is settled: most_of, takers, settled_at, settled_row. -/
namespace K40
open PySem L2 Mc
instance decMem (x : Ent) (xs : List Ent) : Decidable (x ∈ xs) := @List.instDecidableMemOfLawfulBEq Ent instBEqOfDecidableEq inferInstance x xs
theorem flat_eV (x : Ent) : flatV (eV x) = true := by
  obtain ⟨k, hk⟩ := x
  cases k <;> rfl
theorem flat_ents (xs : List Ent) : (xs.map eV).all flatV = true := by
  rw [List.all_eq_true]
  intro v hv
  obtain ⟨x, _, rfl⟩ := List.mem_map.mp hv
  exact flat_eV x
theorem eqV_eV (x y : Ent) : eqV (eV x) (eV y) = decide (x = y) := by
  have h := kD_eqv x y
  rw [← h]
  obtain ⟨k, hk⟩ := x
  obtain ⟨l, hl⟩ := y
  cases k <;> cases l <;> simp [eqV, eV, kV, kD, PyData.eqv]
theorem inV_ents (x : Ent) (xs : List Ent) : inV (eV x) (xs.map eV) = decide (x ∈ xs) := by
  unfold inV
  induction xs with
  | nil => simp
  | cons a t ih =>
    rw [List.map_cons, List.any_cons, ih, eqV_eV]
    by_cases h : a = x
    · subst h; simp
    · have h' : ¬ x = a := fun z => h z.symm
      simp [h, h']
/-- the keepers' list -/
structure KsAt (KC : Addr) (H : Hp) (kl : Addr) (as : List Addr) (ks : List (Kp Ent)) : Prop where
  lst : H kl = some (.lst (as.map V.ref))
  len : as.length = ks.length
  at_ : ∀ (i : Nat) (a : Addr), as[i]? = some a → ∃ kp, ks[i]? = some kp ∧ KeeperAt KC H a i kp
theorem KeeperAt.same {C : Addr} {H H' : Hp} {a : Addr} {n : Nat} {k : Kp Ent} (h : KeeperAt C H a n k) (e : Same H H') : KeeperAt C H' a n k := by
  obtain ⟨dx, r, l, w, rs, ls, ws, h1, _⟩ := id h
  exact h.mono (TupX.of e) (by rw [e _ _ h1, h1])
theorem KsAt.same {KC : Addr} {H H' : Hp} {kl : Addr} {as : List Addr} {ks : List (Kp Ent)} (h : KsAt KC H kl as ks) (e : Same H H') : KsAt KC H' kl as ks :=
  ⟨e _ _ h.lst, h.len, fun i a q => by
    obtain ⟨kp, h1, h2⟩ := h.at_ i a q
    exact ⟨kp, h1, h2.same e⟩⟩
section
variable {P : Program} {w : World} {K : PySem.W.Frag} {mg : Str → Option Value} {base : Heap} {RC KC SC CC : Addr}
def spMost : Sp := fun vs H Q _ => ∃ n : Nat, vs = [.int (n : Nat)] ∧ Q (.int ((n / 2 + 1 : Nat) : Int)) H
theorem scMost : FnScope ["many"] ["many"] (defScope sMost) := ⟨rfl, rfl, rfl, by decide +kernel, rfl, by decide +kernel, by decide +kernel⟩
theorem ok_most {f : Addr} {fd : FuncData} (F : Fun K "most_of" "most_of" sMost f fd) : FnOk P w K mg base CX0 1 f fd ["many"] spMost := by
  refine F.ok scMost (fun vs H Q E h => ?_) (fun cdv A outer s H vs Q E hr h => ?_)
  · obtain ⟨n, rfl, _⟩ := h
    rfl
  · obtain ⟨n, rfl, k⟩ := h
    refine ⟨_, pss_one (ps_ret (pe_op op_add (pe_op op_fdiv (pv 0) pe_int) pe_int)), ?_⟩
    refine ⟨_, rfl, _, _, rfl, rfl, ⟨by decide, by decide⟩, _, _, rfl, rfl, ?_⟩
    have e : ((n : Int) / 2 + 1) = ((n / 2 + 1 : Nat) : Int) := by omega
    show Q (.int ((n : Int) / 2 + 1)) H
    rw [e]
    exact k
def spTakers (KC : Addr) : Sp := fun vs H Q _ => ∃ (kl : Addr) (as : List Addr) (ks : List (Kp Ent)) (e : Int) (p : Nat) (x : Ent), vs = [.ref kl, .int e, .int (p : Nat), eV x] ∧ KsAt KC H kl as ks ∧ ks.length ≤ 1000 ∧
  ∀ H', Same H H' → Q (.int ((votes ks e p x : Nat) : Int)) H'
theorem scTakers : FnScope ["keepers", "epoch", "place", "entry", "record", "keeper"] ["keepers", "epoch", "place", "entry"] (defScope sTakers) := ⟨rfl, rfl, rfl, by decide +kernel, rfl, by decide +kernel, by decide +kernel⟩
theorem ok_takers {f : Addr} {fd : FuncData} (F : Fun K "takers" "takers" sTakers f fd) (T : Txt K mg RC KC SC CC) : FnOk P w K mg base CX0 1 f fd ["keepers", "epoch", "place", "entry"] (spTakers KC) := by
  refine F.ok scTakers (fun vs H Q E h => ?_) (fun cdv A outer s H vs Q E hr h => ?_)
  · obtain ⟨kl, as, ks, e, p, x, rfl, _⟩ := h
    rfl
  · obtain ⟨kl, as, ks, e, p, x, rfl, KA, hn, k⟩ := h
    refine ⟨_, pss_cons (ps_set (i := 4) scTakers.nd rfl (Or.inr rfl) (pe_tup (pa_cons pe_str (pa_cons (pv 1) (pa_cons (pv 2) (pa_cons (pv 3) pa_nil))))))
      (pss_one (ps_ret (pe_callB call_len_seq (by rfl) T.len PySem.boot_len (pa_cons
        (pe_lc (own := [("keeper", 5)]) (g := gName 5) (tt := tTest (tOp (rInT K) (tVar 4) (tFld K (tVar 5) "records"))) (te := tVar 5) rfl scTakers.nd (pi_list (pv 0)) (blkOk_by (own := [("keeper", 5)]) (N := ["keepers", "epoch", "place", "entry", "record", "keeper"]) (sc := defScope sTakers) (by decide +kernel))
          (fun _ _ _ _ _ => pg_name (i := 5) scTakers.nd rfl (Or.inl rfl)) (fun _ _ _ _ _ => pts_one (pt_cmpR (op_inT (hu65 hr)) (pv 4) (pe_fld (pv 5) rfl) (by rfl))) (fun _ _ _ _ _ => pv 5)) pa_nil)))), ?_⟩
    refine ⟨_, rfl, _, rfl, _, rfl, (by show 4 ≤ sizeLine; decide), fun t ht => ?_⟩
    have s1 : Same H (upd H t (.tup [.str "take", .int e, .int (p : Nat), eV x])) := Same.new ht
    have KA1 := KA.same s1
    have hrec : RecA (upd H t (.tup [.str "take", .int e, .int (p : Nat), eV x])) (.ref t) (.take e p x) := ⟨t, rfl, upd_same⟩
    generalize upd H t (.tup [.str "take", .int e, .int (p : Nat), eV x]) = H1 at s1 KA1 hrec
    have hlen : as.length = ks.length := KA.len
    refine ⟨_, rfl, kl, rfl, ⟨_, SqL.of KA1.lst⟩, fun D hD => lc_list (K := K) (a := kl) (xs := as.map V.ref)
      (Evl.Cw H1 (fun i => (ks[i]?).any (fun k => decide (Rec.take e p x ∈ k.recs))) (fun i => (as[i]?.map V.ref).getD .non) D) ⟨hD, Same.new hD, upd_same⟩ (fun i H' _ p => SqL.of (p.2.1 _ _ KA1.lst)) (fun i v H' hi pw => ⟨rfl, ?_⟩) (fun H2 pw => ?_)⟩
    · have hi' : i < as.length := by
        have := (List.getElem?_eq_some_iff.mp hi).1
        rw [List.length_map] at this
        exact this
      have ha : as[i]? = some as[i] := List.getElem?_eq_getElem hi'
      have hv : v = V.ref as[i] := by
        rw [List.getElem?_map, ha] at hi
        exact (Option.some.inj hi).symm
      subst hv
      refine Evl.cw_turn (t := tTest (tOp (rInT K) (tVar 4) (tFld K (tVar 5) "records"))) (te := tVar 5) (σ2 := [some (.ref kl), some (.int e), some (.int (p : Nat)), some (eV x), some (.ref t), some (.ref as[i])]) pw (by omega) ?_ ?_
      · intro H3 e3 Q3 q3
        obtain ⟨kp, hk, dx, r, lo, wt, rs, ls, ws, h1, h2, p2, _⟩ := (KA1.same e3).at_ i _ ha
        refine ⟨_, rfl, _, rfl, as[i], KC, dx, _, _, rfl, h1, T.clK, T.nKr, rfl, recD (.take e p x), kp.recs.map recD, recD_dp (hrec.mono (TupX.of e3)), .tup (SqT.of h2) (recs_dp p2), recD_shaped _, recs_shaped _, _, rfl, ?_⟩
        rw [recs_any]
        simp only [hk, Option.any] at q3
        exact q3 H3 (Same.refl _)
      · intro _
        refine Evl.ev_var ?_
        simp only [ha, Option.map, Option.getD]
        rfl
    · refine ⟨D, _, rfl, .inl (SqL.of pw.2.2), ?_⟩
      have ec : (Evl.given (as.map V.ref).length (fun i => (ks[i]?).any (fun k => decide (Rec.take e p x ∈ k.recs))) (fun i => (as[i]?.map V.ref).getD .non)).length = votes ks e p x := by
        unfold Evl.given votes
        rw [List.length_map, List.length_map, KA.len]
        exact (filter_range _ ks).symm
      rw [ec]
      exact k H2 (s1.trans pw.2.1)
def spSetAt (KC : Addr) : Sp := fun vs H Q _ => ∃ (kl : Addr) (as : List Addr) (ks : List (Kp Ent)) (p : Nat), vs = [.ref kl, .int (p : Nat)] ∧ KsAt KC H kl as ks ∧ ks.length ≤ 1000 ∧ (∀ (k : Nat) (kp : Kp Ent), ks[k]? = some kp → kp.recs.length ≤ 10000) ∧
  ∀ (l : Addr) (found : List Ent) (H' : Hp), H l = none → H' l = some (.lst (found.map eV)) → SettledAt ks p found → Same H H' → Q (.ref l) H'
theorem scSetAt : FnScope ["keepers", "place", "found", "keeper", "record"] ["keepers", "place"] (defScope sSetAt) := ⟨rfl, rfl, rfl, by decide +kernel, rfl, by decide +kernel, by decide +kernel⟩
theorem ok_setAt {f ft fm : Addr} {fd fdt fdm : FuncData} (F : Fun K "settled_at" "settled_at" sSetAt f fd) (T : Txt K mg RC KC SC CC) (DT : DF K mg "takers" sTakers ["keepers", "epoch", "place", "entry"] ft fdt) (DM' : DF K mg "most_of" sMost ["many"] fm fdm) :
    FnOk P w K mg base CX0 2 f fd ["keepers", "place"] (spSetAt KC) := by
  have GT : FnOk P w K mg base CX0 1 ft fdt ["keepers", "epoch", "place", "entry"] (spTakers KC) := ok_takers DT.F T
  have GM : FnOk P w K mg base CX0 1 fm fdm ["many"] spMost := ok_most DM'.F
  refine F.ok scSetAt (fun vs H Q E h => ?_) (fun cdv A outer s H vs Q E hr h => ?_)
  · obtain ⟨kl, as, ks, p, rfl, _⟩ := h
    rfl
  · obtain ⟨kl, as, ks, p, rfl, KA, hn, hsz, k⟩ := h
    have hlen : as.length = ks.length := KA.len
    refine ⟨_, pss_cons (ps_set (i := 2) scSetAt.nd rfl (Or.inl rfl) (pe_lst pa_nil))
      (pss_cons (ps_for PassesOwn.never rfl (pi_list (pv 0)) (pg_name (i := 3) scSetAt.nd rfl (Or.inl rfl))
        (pss_one (ps_for PassesOwn.never rfl (pi_tup (pe_fld (pv 3) rfl)) (pg_name (i := 4) scSetAt.nd rfl (Or.inl rfl))
          (pss_one (ps_if (PW.pt (pw_and (pt_cmpR op_eq (pe_ix ix_tup (pv 4) pe_int (fun _ _ => rfl)) pe_str (nomark _))
              (pw_and (pt_cmpR op_eq (pe_ix ix_tup (pv 4) pe_int (fun _ _ => rfl)) (pv 1) (nomark _))
                (pw_and1 (pt_cmpR op_notIn_seq (pe_ix ix_tup (pv 4) pe_int (fun _ _ => rfl)) (pv 2) (by rfl))))))
            (pss_one (ps_if (pt_cmpR op_ge (pe_call GT hr rfl DT.g DT.F.kp DT.b .nil pass0 (pa_cons (pv 0) (pa_cons (pe_ix ix_tup (pv 4) pe_int (fun _ _ => rfl)) (pa_cons (pv 1) (pa_cons (pe_ix ix_tup (pv 4) pe_int (fun _ _ => rfl)) pa_nil)))))
                (pe_call GM hr rfl DM'.g DM'.F.kp DM'.b .nil pass0 (pa_cons (pe_callB call_len_seq (by rfl) T.len PySem.boot_len (pa_cons (pv 0) pa_nil)) pa_nil)) (nomark _))
              (pss_one (ps_expr (pe_bm PySem.F.plainAttrs_list PySem.F.slot_list_append PySem.F.type_list_append mt_append (pv 2) (pa_cons (pe_ix ix_tup (pv 4) pe_int (fun _ _ => rfl)) pa_nil)))) pss_nil)) pss_nil)))))
      (pss_one (ps_ret (pv 2)))), ?_⟩
    refine ⟨(by show 0 ≤ sizeLine; decide), fun D hD => ?_⟩
    have s1 : Same H (upd H D (.lst [])) := Same.new hD
    have nk : kl ≠ D := ne_of_none KA.lst hD
    -- what is found behind some keepers, and some records of the next one
    refine ⟨_, rfl, kl, rfl, ⟨_, SqL.of (s1 _ _ KA.lst)⟩, for_list (K := K) (a := kl) (xs := as.map V.ref)
      (fun i σ H2 => ∃ (fs : List Ent) (v3 v4 : Option V), σ = [some (.ref kl), some (.int (p : Nat)), some (.ref D), v3, v4] ∧ Same H H2 ∧ H2 D = some (.lst (fs.map eV)) ∧ fs.Nodup ∧ (∀ x ∈ fs, ∃ e, Chosen ks e p x) ∧ fs.length ≤ i * 10000 ∧
        ∀ j kp e x, j < i → ks[j]? = some kp → Rec.take e p x ∈ kp.recs → Chosen ks e p x → x ∈ fs) ⟨[], none, none, rfl, s1, upd_same, List.nodup_nil, by simp, by simp, fun j _ _ _ h => absurd h (by omega)⟩
      (fun i σ H2 _ ⟨_, _, _, _, s2, _⟩ => SqL.of (s2 _ _ KA.lst)) ?_ ?_⟩
    · rintro i v σ H2 hi ⟨fs, v3, v4, rfl, s2, hD2, nd, hch, hfl, hall⟩
      have hi' : i < as.length := by
        have := (List.getElem?_eq_some_iff.mp hi).1
        rw [List.length_map] at this
        exact this
      have ha : as[i]? = some as[i] := List.getElem?_eq_getElem hi'
      have hv : v = V.ref as[i] := by
        rw [List.getElem?_map, ha] at hi
        exact (Option.some.inj hi).symm
      subst hv
      obtain ⟨kp, hk, dx, r, lo, wt, rs, ls, ws, h1, h2, p2, _⟩ := KA.at_ i _ ha
      have hkr : kp.recs.length ≤ 10000 := hsz i kp hk
      have hrl : rs.length = kp.recs.length := p2.length
      refine ⟨_, rfl, as[i], KC, dx, _, _, rfl, s2 _ _ h1, T.clK, T.nKr, rfl, r, rfl, ⟨_, SqT.of (s2 _ _ h2)⟩, for_tup (K := K) (a := r) (xs := rs)
        (fun j σ H3 => ∃ (fs : List Ent) (v4 : Option V), σ = [some (.ref kl), some (.int (p : Nat)), some (.ref D), some (.ref as[i]), v4] ∧ Same H H3 ∧ H3 D = some (.lst (fs.map eV)) ∧ fs.Nodup ∧ (∀ x ∈ fs, ∃ e, Chosen ks e p x) ∧ fs.length ≤ i * 10000 + j ∧
          (∀ j kp e x, j < i → ks[j]? = some kp → Rec.take e p x ∈ kp.recs → Chosen ks e p x → x ∈ fs) ∧ ∀ e x, Rec.take e p x ∈ kp.recs.take j → Chosen ks e p x → x ∈ fs)
        ⟨fs, v4, rfl, s2, hD2, nd, hch, by omega, hall, by simp⟩ (fun j σ H3 _ ⟨_, _, _, s3, _⟩ => SqT.of (s3 _ _ h2)) ?_ ?_⟩
      · rintro j y σ H3 hj ⟨fs, v4, rfl, s3, hD3, nd, hch, hfl, hall, hin⟩
        obtain ⟨rc, hr1, hr2⟩ := paired_ta p2 hj
        have htk : kp.recs.take (j + 1) = kp.recs.take j ++ [rc] := by rw [List.take_succ, hr1]; rfl
        have hjl : j < kp.recs.length := (List.getElem?_eq_some_iff.mp hr1).1
        have hr3 := hr2.mono (TupX.of s3)
        -- nothing new
        have skip : (∀ e x, rc = Rec.take e p x → Chosen ks e p x → x ∈ fs) → ∀ v4 : Option V, ∃ (fs : List Ent) (v4' : Option V), [some (V.ref kl), some (.int (p : Nat)), some (.ref D), some (.ref as[i]), v4] = [some (.ref kl), some (.int (p : Nat)), some (.ref D), some (.ref as[i]), v4'] ∧ Same H H3 ∧ H3 D = some (.lst (fs.map eV)) ∧ fs.Nodup ∧ (∀ x ∈ fs, ∃ e, Chosen ks e p x) ∧ fs.length ≤ i * 10000 + (j + 1) ∧
          (∀ j kp e x, j < i → ks[j]? = some kp → Rec.take e p x ∈ kp.recs → Chosen ks e p x → x ∈ fs) ∧ ∀ e x, Rec.take e p x ∈ kp.recs.take (j + 1) → Chosen ks e p x → x ∈ fs := by
          intro hno v4
          refine ⟨fs, v4, rfl, s3, hD3, nd, hch, by omega, hall, fun e x hm hc => ?_⟩
          rw [htk] at hm
          rcases List.mem_append.mp hm with hm | hm
          · exact hin e x hm hc
          · exact hno e x (by simpa using (List.mem_singleton.mp hm).symm) hc
        cases rc with
        | prom e0 =>
          obtain ⟨b, rfl, hb⟩ := hr3
          refine ⟨_, rfl, b, _, _, _, rfl, rfl, SqT.of hb, rfl, rfl, _, rfl, iteF ?_⟩
          exact skip (fun e x q => by cases q) _
        | take e0 p0 x0 =>
          obtain ⟨b, rfl, hb⟩ := hr3
          refine ⟨_, rfl, b, _, _, _, rfl, rfl, SqT.of hb, rfl, rfl, _, rfl, iteT ?_⟩
          refine ⟨_, rfl, b, _, _, _, rfl, rfl, SqT.of hb, rfl, _, rfl, rfl, _, rfl, ite2 (fun hp => ?_) (fun hp => ?_)⟩
          case _ =>
            have hp' : p0 = p := by
              have := V.int.inj (of_decide_eq_true hp)
              omega
            subst hp'
            refine ⟨_, rfl, b, _, _, _, rfl, rfl, SqT.of hb, rfl, _, rfl, D, _, rfl, .inl (SqL.of hD3), flat_eV _, flat_ents _, _, rfl, ?_⟩
            rw [inV_ents]
            show if (if true = true then !decide (x0 ∈ fs) else decide (x0 ∈ fs)) = true then _ else _
            rw [if_pos rfl]
            refine ite2 (fun hin0 => ?_) (fun hin0 => ?_)
            · have hnot : x0 ∉ fs := by simpa using hin0
              refine ⟨_, rfl, _, rfl, b, _, _, _, rfl, rfl, SqT.of hb, rfl, _, rfl, _, rfl, b, _, _, _, rfl, rfl, SqT.of hb, rfl, kl, as, ks, e0, p0, x0, rfl, KA.same s3, hn, fun H4 s4 => ?_⟩
              have s4' : Same H H4 := s3.trans s4
              refine ⟨_, rfl, kl, _, rfl, .inl (SqL.of (s4' _ _ KA.lst)), ks.length, ?_, _, _, rfl, rfl, _, rfl, ite2 (fun hv => ?_) (fun hv => ?_)⟩
              · rw [List.length_map, hlen]
                rfl
              · have hv' : Chosen ks e0 p0 x0 := by
                  have := of_decide_eq_true hv
                  unfold Chosen
                  omega
                have hD4 : H4 D = some (.lst (fs.map eV)) := s4 _ _ hD3
                refine ⟨_, rfl, .inl ⟨rfl, _, .inl (.inl hD4)⟩, _, rfl, b, _, _, _, rfl, rfl, SqT.of (s4 _ _ hb), rfl, D, _, _, rfl, rfl, hD4, ?_, ?_⟩
                · rw [List.length_map]
                  have : fs.length ≤ i * 10000 + j := hfl
                  have : sizeLine = 2 ^ 24 := rfl
                  have : i < 1000 := by omega
                  omega
                · refine ⟨fs ++ [x0], _, rfl, Same.upd s4' hD, by rw [upd_same, List.map_append]; rfl, ?_, ?_, ?_, ?_, ?_⟩
                  · rw [List.nodup_append]
                    refine ⟨nd, by simp, fun a ha b hb => ?_⟩
                    simp at hb
                    subst hb
                    rintro rfl
                    exact hnot ha
                  · intro x hx
                    rcases List.mem_append.mp hx with hx | hx
                    · exact hch x hx
                    · simp at hx
                      subst hx
                      exact ⟨e0, hv'⟩
                  · rw [List.length_append, List.length_singleton]; omega
                  · exact fun j kp e x a b c d => List.mem_append_left _ (hall j kp e x a b c d)
                  · intro e x hm hc
                    rw [htk] at hm
                    rcases List.mem_append.mp hm with hm | hm
                    · exact List.mem_append_left _ (hin e x hm hc)
                    · simp at hm
                      obtain ⟨rfl, rfl⟩ := hm
                      simp
              · have hv' : ¬ Chosen ks e0 p0 x0 := by
                  intro z
                  apply hv
                  apply decide_eq_true
                  unfold Chosen at z
                  omega
                obtain ⟨fs', v', q1, _, _, q4, q5, q6, q7, q8⟩ := skip (fun e x q hc => by cases q; exact absurd hc hv') (some (.ref b))
                exact ⟨fs, _, rfl, s4', s4 _ _ hD3, nd, hch, by omega, hall, fun e x hm hc => by
                  rw [htk] at hm
                  rcases List.mem_append.mp hm with hm | hm
                  · exact hin e x hm hc
                  · simp at hm
                    obtain ⟨rfl, rfl⟩ := hm
                    exact absurd hc hv'⟩
            · have hyes : x0 ∈ fs := by simpa using hin0
              exact skip (fun e x q _ => by cases q; exact hyes) _
          case _ =>
            refine iteF ?_
            exact skip (fun e x q _ => by cases q; exact absurd (decide_eq_true rfl) hp) _
      · rintro σ H3 ⟨fs, v4, rfl, s3, hD3, nd, hch, hfl, hall, hin⟩
        refine ⟨fs, _, v4, rfl, s3, hD3, nd, hch, ?_, fun j kp' e x hj hkj hm hc => ?_⟩
        · omega
        · by_cases q : j = i
          · subst q
            rw [hk] at hkj
            cases hkj
            exact hin e x (by rw [List.take_of_length_le (by omega)]; exact hm) hc
          · exact hall j kp' e x (by omega) hkj hm hc
    · rintro σ H2 ⟨fs, v3, v4, rfl, s2, hD2, nd, hch, hfl, hall⟩
      refine ⟨_, rfl, k D fs H2 hD hD2 ⟨nd, fun x => ⟨hch x, fun ⟨e, hc⟩ => ?_⟩⟩ s2⟩
      obtain ⟨j, kp, hkj, hm⟩ := votes_pos (Nat.lt_of_lt_of_le (Nat.succ_pos _) hc)
      refine hall j kp e x ?_ hkj hm hc
      rw [List.length_map, hlen]
      exact (List.getElem?_eq_some_iff.mp hkj).1
def spSetRow (KC : Addr) : Sp := fun vs H Q _ => ∃ (kl : Addr) (as : List Addr) (ks : List (Kp Ent)) (N : Nat), vs = [.ref kl] ∧ KsAt KC H kl as ks ∧ ks.length ≤ 1000 ∧ (∀ (k : Nat) (kp : Kp Ent), ks[k]? = some kp → kp.recs.length ≤ 10000) ∧
  (∀ e p x, Chosen ks e p x → p < N) ∧ N ≤ 100000 ∧ ∀ (t : Addr) (row : List Ent) (H' : Hp), H t = none → H' t = some (.tup (row.map eV)) → SettledRow ks row → row.length ≤ N → Same H H' → Q (.ref t) H'
theorem scSetRow : FnScope ["keepers", "found"] ["keepers"] (defScope sSetRow) := ⟨rfl, rfl, rfl, by decide +kernel, rfl, by decide +kernel, by decide +kernel⟩
theorem ok_setRow {f fs ft fm : Addr} {fd fds fdt fdm : FuncData} (F : Fun K "settled_row" "settled_row" sSetRow f fd) (T : Txt K mg RC KC SC CC) (DS : DF K mg "settled_at" sSetAt ["keepers", "place"] fs fds)
    (DT : DF K mg "takers" sTakers ["keepers", "epoch", "place", "entry"] ft fdt) (DM' : DF K mg "most_of" sMost ["many"] fm fdm) :
    FnOk P w K mg base CX0 3 f fd ["keepers"] (spSetRow KC) := by
  have G : FnOk P w K mg base CX0 2 fs fds ["keepers", "place"] (spSetAt KC) := ok_setAt DS.F T DT DM'
  refine F.ok scSetRow (fun vs H Q E h => ?_) (fun cdv A outer s H vs Q E hr h => ?_)
  · obtain ⟨kl, as, ks, N, rfl, _⟩ := h
    rfl
  · obtain ⟨kl, as, ks, N, rfl, KA, hn, hsz, hN, hN2, k⟩ := h
    refine ⟨_, pss_cons (ps_set (i := 1) scSetRow.nd rfl (Or.inl rfl) (pe_lst pa_nil))
      (pss_cons (ps_while PassesOwn.never (pt_cmpR (op_neD hr.units) (pe_call G hr rfl DS.g DS.F.kp DS.b .nil pass0 (pa_cons (pv 0) (pa_cons (pe_callB call_len_seq (by rfl) T.len PySem.boot_len (pa_cons (pv 1) pa_nil)) pa_nil))) (pe_lst pa_nil) (nomark _))
        (pss_one (ps_expr (pe_bm PySem.F.plainAttrs_list PySem.F.slot_list_append PySem.F.type_list_append mt_append (pv 1)
          (pa_cons (pe_ix ix_list (pe_call G hr rfl DS.g DS.F.kp DS.b .nil pass0 (pa_cons (pv 0) (pa_cons (pe_callB call_len_seq (by rfl) T.len PySem.boot_len (pa_cons (pv 1) pa_nil)) pa_nil))) pe_int (fun _ _ => rfl)) pa_nil)))))
      (pss_one (ps_ret (pe_callTy call_tuple_of (by rfl) T.tuple (by decide +kernel) (pa_cons (pv 1) pa_nil))))), ?_⟩
    refine ⟨(by show 0 ≤ sizeLine; decide), fun D hD => ?_⟩
    have s1 : Same H (upd H D (.lst [])) := Same.new hD
    refine ⟨fun m σ H2 => ∃ row : List Ent, σ = [some (.ref kl), some (.ref D)] ∧ Same H H2 ∧ H2 D = some (.lst (row.map eV)) ∧ (∀ (p : Nat) (x : Ent), row[p]? = some x → ∃ e, Chosen ks e p x) ∧ m + row.length = N ∧ row.length ≤ N,
      ⟨N, [], rfl, s1, upd_same, by simp, by simp, by simp⟩, ?_⟩
    rintro m σ H2 ⟨row, rfl, s2, hD2, hrow, hm, hle⟩
    have KA2 := KA.same s2
    refine ⟨_, rfl, _, rfl, D, _, rfl, .inl (SqL.of hD2), kl, as, ks, row.length, ?_, KA2, hn, hsz, fun l found H3 nl hl hset s3 => ?_⟩
    · rw [List.length_map]
      rfl
    refine ⟨(by show 0 ≤ sizeLine; decide), fun D0 hD0 => ?_⟩
    have s4 : Same H3 (upd H3 D0 (.lst [])) := Same.new hD0
    refine ⟨.list (found.map kD), .list (([] : List Ent).map kD), .lst (SqL.of (s4 _ _ hl)) (ents_dp found), .lst (SqL.of upd_same) .nil, entsL_shaped _, entsL_shaped _, _, rfl, ?_⟩
    have ee : PyData.eqv (.list (found.map kD)) (.list (([] : List Ent).map kD)) = decide (found = []) := by
      rw [← ents_eqv found []]
      simp only [PyData.eqv]
    rw [ee]
    have s24 : Same H2 (upd H3 D0 (.lst [])) := s3.trans s4
    generalize upd H3 D0 (.lst []) = H4 at s24
    refine ite2 (fun hne => ?_) (fun hne => ?_)
    · have hne' : found ≠ [] := by
        intro z
        rw [z] at hne
        simp at hne
      obtain ⟨x0, hx0⟩ := List.exists_mem_of_ne_nil _ hne'
      obtain ⟨e0, he0⟩ := (hset.2 x0).mp hx0
      have hlt : row.length < N := hN _ _ _ he0
      refine ⟨fun σ' H' => ∃ row' : List Ent, σ' = [some (.ref kl), some (.ref D)] ∧ Same H H' ∧ H' D = some (.lst (row'.map eV)) ∧ (∀ (p : Nat) (x : Ent), row'[p]? = some x → ∃ e, Chosen ks e p x) ∧ row'.length = row.length + 1, ?_, ?_⟩
      · rintro σ' H' ⟨row', rfl, a, b, c, d⟩
        exact ⟨m - 1, by omega, row', rfl, a, b, c, by omega, by omega⟩
      · have hD4 : H4 D = some (.lst (row.map eV)) := s24 _ _ hD2
        refine ⟨_, rfl, .inl ⟨rfl, _, .inl (.inl hD4)⟩, ?_⟩
        refine ⟨_, rfl, _, rfl, D, _, rfl, .inl (SqL.of hD4), kl, as, ks, row.length, ?_, KA2.same s24, hn, hsz, fun l2 found2 H5 nl2 hl2 hset2 s5 => ?_⟩
        · rw [List.length_map]
          rfl
        obtain ⟨y, t, rfl⟩ : ∃ y t, found2 = y :: t := by
          cases found2 with
          | nil => exact absurd ((hset2.2 x0).mpr ⟨e0, he0⟩) (by simp)
          | cons y t => exact ⟨y, t, rfl⟩
        obtain ⟨e1, he1⟩ := (hset2.2 y).mp (by simp)
        refine ⟨l2, _, _, _, rfl, rfl, SqL.of hl2, at_of (j := 0) rfl rfl, D, _, _, rfl, rfl, s5 _ _ hD4, ?_, ?_⟩
        · rw [List.length_map]
          have : sizeLine = 2 ^ 24 := rfl
          omega
        · refine ⟨row ++ [y], rfl, Same.upd (s2.trans (s24.trans s5)) hD, by rw [upd_same, List.map_append]; rfl, fun p x hp => ?_, by simp⟩
          rw [List.getElem?_append] at hp
          split at hp
          · exact hrow p x hp
          · rename_i hpl
            have e3 : p - row.length = 0 := by
              by_cases q : p - row.length = 0
              · exact q
              · rw [List.getElem?_eq_none (by simp; omega)] at hp; cases hp
            rw [e3] at hp
            simp at hp
            subst hp
            have : p = row.length := by omega
            subst this
            exact ⟨e1, he1⟩
    · have hnil : found = [] := by simpa using hne
      subst hnil
      have s := s2.trans s24
      refine ⟨_, rfl, D, row.map eV, rfl, .inl ⟨SqL.of (s24 _ _ hD2), fun t ht => ?_⟩⟩
      exact k t row _ (s.free ht) upd_same ⟨hrow, fun e x hc => by have := (hset.2 x).mpr ⟨e, hc⟩; simp at this⟩ hle (s.trans (Same.new ht))
end
end K40
/-! newest_row. -/
namespace K40
open PySem L2 Mc
abbrev rLenS (K : PySem.W.Frag) : List V → Hp → VK → Prop := fun xs H Q => ∃ p ys, xs = [V.ref p] ∧ (SqL K H p ys ∨ SqT K H p ys) ∧ Q (.int ys.length) H
theorem filterMap_snoc {α β : Type} (f : α → Option β) (xs : List α) (i : Nat) (x : α) (h : xs[i]? = some x) : (xs.take (i + 1)).filterMap f = (xs.take i).filterMap f ++ (match f x with | some y => [y] | none => []) := by
  rw [List.take_succ, h, List.filterMap_append]
  congr 1
  simp [List.filterMap_cons]
  cases f x <;> rfl
section
variable {P : Program} {w : World} {K : PySem.W.Frag} {mg : Str → Option Value} {base : Heap} {RC KC SC CC : Addr}
def spNewest : Sp := fun vs H Q _ => ∃ (L : Addr) (us : List V) (rws : List (Row Ent)), vs = [.ref L] ∧ H L = some (.lst us) ∧ Paired (RowA H) us rws ∧ rws.length ≤ 1000 ∧ (∀ row ∈ rws, row.length ≤ 100000) ∧
  ∀ (l : Addr) (out : List Ent) (H' : Hp), H l = none → H' l = some (.lst (out.map eV)) → Newest rws out → out.length ≤ 100000 → (∀ N : Nat, (∀ row ∈ rws, row.length ≤ N) → out.length ≤ N) → Same H H' → Q (.ref l) H'
abbrev nNewest : List Str := ["rows", "found", "longest", "place", "known", "most", "row", "epoch", "entry"]
theorem scNewest : FnScope nNewest ["rows"] (defScope sNewest) := ⟨rfl, rfl, rfl, by decide +kernel, rfl, by decide +kernel, by decide +kernel⟩
theorem ok_newest {f : Addr} {fd : FuncData} (F : Fun K "newest_row" "newest_row" sNewest f fd) (T : Txt K mg RC KC SC CC) : FnOk P w K mg base CX0 1 f fd ["rows"] spNewest := by
  refine F.ok scNewest (fun vs H Q E h => ?_) (fun cdv A outer s H vs Q E hr h => ?_)
  · obtain ⟨L, us, rws, rfl, _⟩ := h
    rfl
  · obtain ⟨L, us, rws, rfl, hL, hp, hn, hz, k⟩ := h
    have hul : us.length = rws.length := hp.length
    refine ⟨_, pss_cons (ps_par (i := 1) (j := 2) rfl scNewest.nd rfl rfl (by decide) rfl rfl (pa_cons (pe_lst pa_nil) (pa_cons (pe_callB (cr_max rfl) (by rfl) T.max (by decide +kernel) (pa_cons (pe_lst (pa_cons pe_int (StX.pa_star
        (pe_lc (own := [("row", 6)]) (g := gName 6) (tt := tYes) (te := tCB (rLenS K) (tCons (tVar 6) tNil)) rfl scNewest.nd (pi_list (pv 0)) (blkOk_by (own := [("row", 6)]) (N := nNewest) (sc := defScope sNewest) (by decide +kernel))
          (fun _ _ _ _ _ => pg_name (i := 6) scNewest.nd rfl (Or.inl rfl)) (fun _ _ _ _ _ => pts_nil) (fun _ _ _ _ _ => pe_callB call_len_seq (by rfl) T.len PySem.boot_len (pa_cons (pv 6) pa_nil))) pa_nil))) pa_nil)) pa_nil)) (by rfl))
      (pss_cons (ps_for PassesOwn.never rfl (pi_range1 (by rfl) T.range (pa_cons (pv 2) pa_nil)) (pg_name (i := 3) scNewest.nd rfl (Or.inr rfl))
        (pss_cons (ps_setLc (i := 4) (own := [("row", 6)]) (g := gName 6) (tt := tTest (tOp (rI0 fun i j => .bl (decide (j < i))) (tCB (rLenS K) (tCons (tVar 6) tNil)) (tVar 3))) (te := tOp (rIxT K) (tVar 6) (tVar 3)) rfl scNewest.nd rfl rfl (sw_true rfl rfl rfl (by decide +kernel)) (pi_list (pv 0))
            (blkOk_by (own := [("row", 6)]) (N := nNewest) (sc := defScope sNewest) (by decide +kernel))
            (fun _ _ _ _ _ => pg_name (i := 6) scNewest.nd rfl (Or.inl rfl)) (fun _ _ _ _ _ => pts_one (pt_cmpR op_gt (pe_callB call_len_seq (by rfl) T.len PySem.boot_len (pa_cons (pv 6) pa_nil)) (pv 3) (nomark _))) (fun _ _ _ _ _ => pe_ix ix_tup (pv 6) (pv 3) (fun _ _ => rfl)))
        (pss_cons (ps_set (i := 5) scNewest.nd rfl (Or.inr rfl) (pe_callB (cr_max rfl) (by rfl) T.max (by decide +kernel) (pa_cons
            (pe_lc (own := [("epoch", 7), ("entry", 8)]) (g := gTup K 2 (gCons (gName 7) (gCons (gName 8) gNil))) (tt := tYes) (te := tVar 7) rfl scNewest.nd (pi_list (pv 4)) (blkOk_by (own := [("epoch", 7), ("entry", 8)]) (N := nNewest) (sc := defScope sNewest) (by decide +kernel))
              (fun _ _ _ _ _ => pg_tup (by rfl) (pgs_cons (pg_name (i := 7) scNewest.nd rfl (Or.inl rfl)) (pgs_cons (pg_name (i := 8) scNewest.nd rfl (Or.inl rfl)) pgs_nil))) (fun _ _ _ _ _ => pts_nil) (fun _ _ _ _ _ => pv 7)) pa_nil)))
          (pss_one (ps_expr (pe_bm PySem.F.plainAttrs_list PySem.F.slot_list_append PySem.F.type_list_append mt_append (pv 1) (pa_cons
            (pe_ix ix_list (pe_lc (own := [("epoch", 7), ("entry", 8)]) (g := gTup K 2 (gCons (gName 7) (gCons (gName 8) gNil))) (tt := tTest (tOp rEq (tVar 7) (tVar 5))) (te := tVar 8) rfl scNewest.nd (pi_list (pv 4)) (blkOk_by (own := [("epoch", 7), ("entry", 8)]) (N := nNewest) (sc := defScope sNewest) (by decide +kernel))
              (fun _ _ _ _ _ => pg_tup (by rfl) (pgs_cons (pg_name (i := 7) scNewest.nd rfl (Or.inl rfl)) (pgs_cons (pg_name (i := 8) scNewest.nd rfl (Or.inl rfl)) pgs_nil))) (fun _ _ _ _ _ => pts_one (pt_cmpR op_eq (pv 7) (pv 5) (nomark _))) (fun _ _ _ _ _ => pv 8)) pe_int (fun _ _ => rfl)) pa_nil)))))))
      (pss_one (ps_ret (pv 1)))), ?_⟩
    refine ⟨(by show 0 ≤ sizeLine; decide), fun O hO => ?_⟩
    have s1 : Same H (upd H O (.lst [])) := Same.new hO
    have hp1 : Paired (RowA (upd H O (.lst []))) us rws := paired_imp (fun _ _ => RowA.mono (TupX.of s1)) hp
    have hL1 := s1 _ _ hL
    have hO1 : (upd H O (.lst [])) O = some (.lst []) := upd_same
    generalize upd H O (.lst []) = H1 at s1 hp1 hL1 hO1
    -- the lengths
    refine ⟨_, rfl, L, rfl, ⟨_, SqL.of hL1⟩, fun D hD => lc_list (K := K) (a := L) (xs := us)
      (fun i H' => Same H1 H' ∧ H' D = some (.lst (((rws.take i).map (fun r => ((r.length : Nat) : Int))).map V.int))) ⟨Same.new hD, by simp [upd_same]⟩ (fun i H' _ p => SqL.of (p.1 _ _ hL1)) (fun i v H' hi pw => ⟨rfl, ?_⟩) (fun H2 pw => ?_)⟩
    · obtain ⟨row, hrow, a, ps, rfl, ha, hpr⟩ := paired_ta hp1 hi
      refine ⟨_, rfl, a, ps, rfl, .inr (SqT.of (pw.1 _ _ ha)), _, pw.2, ?_, Same.upd pw.1 hD, ?_⟩
      · rw [List.length_map, List.length_map, List.length_take]
        have : sizeLine = 2 ^ 24 := rfl
        omega
      · rw [upd_same, List.take_succ, hrow, hpr.length]
        simp
    obtain ⟨s2, hD2⟩ := pw
    have ht : rws.take us.length = rws := List.take_of_length_le (by rw [hul]; exact Nat.le_refl _)
    rw [ht] at hD2
    refine ⟨D, _, rfl, .inr (SqL.of hD2), ?_, fun M hM => ?_⟩
    · simp only [List.append_nil, List.length_cons, List.length_map]
      have : sizeLine = 2 ^ 24 := rfl
      omega
    refine ⟨M, 0 :: rws.map (fun r => ((r.length : Nat) : Int)), rfl, ?_, by simp, fun m hm1 hm2 => ?_⟩
    · refine SqL.of ?_
      rw [upd_same]
      simp
    have sM : Same H2 (upd H2 M (.lst (.int 0 :: (List.map V.int (List.map (fun r => ((r.length : Nat) : Int)) rws) ++ [])))) := Same.new hM
    have s3 : Same H1 (upd H2 M (.lst (.int 0 :: (List.map V.int (List.map (fun r => ((r.length : Nat) : Int)) rws) ++ [])))) := s2.trans sM
    refine ⟨_, _, rfl, ?_⟩
    generalize upd H2 M (.lst (.int 0 :: (List.map V.int (List.map (fun r => ((r.length : Nat) : Int)) rws) ++ []))) = H3 at s3
    clear hM sM hD2
    -- the longest
    have hm0 : 0 ≤ m := hm2 0 (by simp)
    obtain ⟨n, rfl⟩ : ∃ n : Nat, m = (n : Int) := ⟨m.toNat, by omega⟩
    have hmax : ∀ row ∈ rws, row.length ≤ n := fun row hr => by
      have := hm2 (row.length : Int) (by simp; exact .inr ⟨row, hr, rfl⟩)
      omega
    have hn1 : n = 0 ∨ ∃ row ∈ rws, row.length = n := by
      rcases List.mem_cons.mp hm1 with h | h
      · exact .inl (by omega)
      · obtain ⟨row, hr, e⟩ := List.mem_map.mp h
        exact .inr ⟨row, hr, by omega⟩
    have hnz : n ≤ 100000 := by
      rcases hn1 with h | ⟨row, hr, h⟩
      · omega
      · have := hz row hr; omega
    have hex : ∀ p, p < n → ∃ row ∈ rws, p < row.length := by
      intro p hpn
      rcases hn1 with h | ⟨row, hr, h⟩
      · omega
      · exact ⟨row, hr, by omega⟩
    have hO3 : H3 O = some (.lst []) := s3 _ _ hO1
    have sH : Same H H3 := s1.trans s3
    refine ⟨_, rfl, _, rfl, by omega, by omega, for_range (lo := 0) (n := (n : Int).toNat)
      (fun i σ H4 => ∃ (out : List Ent) (v3 v4 v5 : Option V), σ = [some (.ref L), some (.ref O), some (.int (n : Nat)), v3, v4, v5, none, none, none] ∧ Same H H4 ∧ H4 O = some (.lst (out.map eV)) ∧ out.length = i ∧
        ∀ (p : Nat) (x : Ent), out[p]? = some x → ∃ row ∈ rws, ∃ e : Int, row[p]? = some (e, x) ∧ ∀ row' ∈ rws, ∀ (e' : Int) (x' : Ent), row'[p]? = some (e', x') → e' ≤ e)
      ⟨[], none, none, none, rfl, sH, hO3, rfl, by simp⟩ ?_ ?_⟩
    · rintro i σ H4 hi ⟨out, v3, v4, v5, rfl, s4, hO4, hol, hout⟩
      have hi' : i < n := by omega
      have hL4 := s4 _ _ hL
      have hp4 : Paired (RowA H4) us rws := paired_imp (fun _ _ => RowA.mono (TupX.of s4)) hp
      have e0 : (0 : Int) + (i : Int) = (i : Int) := Int.zero_add _
      rw [e0]
      -- known
      refine ⟨_, rfl, L, rfl, ⟨_, SqL.of hL4⟩, fun D hD => lc_list (K := K) (a := L) (xs := us)
        (fun j H' => Same H4 H' ∧ ∃ ws, H' D = some (.lst ws) ∧ Paired (PairA H') ws ((rws.take j).filterMap (fun r => r[i]?))) ⟨Same.new hD, [], upd_same, .nil⟩ (fun j H' _ p => SqL.of (p.1 _ _ hL4)) (fun j v H' hj pw => ⟨rfl, ?_⟩) (fun H5 pw => ?_)⟩
      · obtain ⟨row, hrow, a, ps, rfl, ha, hpr⟩ := paired_ta hp4 hj
        obtain ⟨sw, ws, hD', hpw⟩ := pw
        have hj' : j < rws.length := (List.getElem?_eq_some_iff.mp hrow).1
        have hfm := filterMap_snoc (fun r : Row Ent => r[i]?) rws j row hrow
        refine ⟨_, rfl, a, ps, rfl, .inr (SqT.of (sw _ _ ha)), _, rfl, _, _, rfl, rfl, _, rfl, ite2 (fun hlt => ?_) (fun hlt => ?_)⟩
        · have hlt' : i < row.length := by
            have := of_decide_eq_true hlt
            rw [hpr.length] at this
            omega
          obtain ⟨y, hy, hpy⟩ := paired_at hpr (List.getElem?_eq_getElem hlt')
          refine ⟨_, rfl, _, rfl, a, ps, _, _, rfl, rfl, SqT.of (sw _ _ ha), atI_nat hy, ws, hD', ?_, Same.upd sw hD, ws ++ [y], upd_same, ?_⟩
          · rw [hpw.length]
            have := List.length_filterMap_le (fun r : Row Ent => r[i]?) (rws.take j)
            rw [List.length_take] at this
            have : sizeLine = 2 ^ 24 := rfl
            omega
          · have tx : TupX H' (upd H' D (.lst (ws ++ [y]))) := fun c zs z => by rw [upd_ne (ne_of z hD' (by intro q; cases q))]; exact z
            rw [hfm, List.getElem?_eq_getElem hlt']
            exact paired_app (paired_imp (fun _ _ => PairA.mono tx) hpw) (.cons ((hpy.mono (TupX.of sw)).mono tx) .nil)
        · have hlt' : ¬ i < row.length := by
            intro z
            apply hlt
            apply decide_eq_true
            rw [hpr.length]
            omega
          refine ⟨sw, ws, hD', ?_⟩
          rw [hfm, List.getElem?_eq_none (by omega)]
          simpa using hpw
      obtain ⟨s5, ws, hD5, hpw⟩ := pw
      rw [hul] at hpw
      rw [List.take_length] at hpw
      generalize hps : rws.filterMap (fun r => r[i]?) = ps at hpw
      have hmem : ∀ q, q ∈ ps ↔ ∃ row ∈ rws, row[i]? = some q := by
        intro q
        rw [← hps, List.mem_filterMap]
      have hpl : ps.length ≤ rws.length := by rw [← hps]; exact List.length_filterMap_le _ _
      have hpne : ps ≠ [] := by
        obtain ⟨row, hr, hlt⟩ := hex i hi'
        intro z
        have := (hmem row[i]).mpr ⟨row, hr, List.getElem?_eq_getElem hlt⟩
        rw [z] at this
        cases this
      have s45 : Same H H5 := s4.trans s5
      have hO5 := s5 _ _ hO4
      -- most
      refine ⟨_, rfl, D, rfl, ⟨_, SqL.of hD5⟩, fun M hM => lc_list (K := K) (a := D) (xs := ws)
        (fun j H' => Same H5 H' ∧ H' M = some (.lst (((ps.take j).map (·.1)).map V.int))) ⟨Same.new hM, by simp [upd_same]⟩ (fun j H' _ p => SqL.of (p.1 _ _ hD5)) (fun j v H' hj pw => ?_) (fun H6 pw => ?_)⟩
      · obtain ⟨q, hq, a, rfl, ha⟩ := paired_ta hpw hj
        obtain ⟨sw, hM'⟩ := pw
        have hj' : j < ps.length := (List.getElem?_eq_some_iff.mp hq).1
        refine ⟨a, _, rfl, SqT.of (sw _ _ ha), rfl, _, _, rfl, _, _, rfl, rfl, rfl, _, rfl, _, hM', ?_, Same.upd sw hM, ?_⟩
        · rw [List.length_map, List.length_map, List.length_take]
          have : sizeLine = 2 ^ 24 := rfl
          omega
        · rw [upd_same, List.take_succ, hq]
          simp
      obtain ⟨s6, hM6⟩ := pw
      rw [hpw.length, List.take_length] at hM6
      refine ⟨M, ps.map (·.1), rfl, SqL.of hM6, ?_, fun m hmm hmx => ?_⟩
      · rw [List.length_map]
        exact List.length_pos_iff.mpr hpne
      have hD6 := s6 _ _ hD5
      have hO6 := s6 _ _ hO5
      have s46 : Same H H6 := s45.trans s6
      have hpw6 : Paired (PairA H6) ws ps := paired_imp (fun _ _ => PairA.mono (TupX.of s6)) hpw
      refine ⟨_, rfl, .inl ⟨rfl, _, .inl (.inl hO6)⟩, ?_⟩
      -- the entries of most
      refine ⟨_, rfl, D, rfl, ⟨_, SqL.of hD6⟩, fun B hB => lc_list (K := K) (a := D) (xs := ws)
        (fun j H' => Same H6 H' ∧ H' B = some (.lst (((ps.take j).filter (fun q => decide (q.1 = m))).map (fun q => eV q.2)))) ⟨Same.new hB, by simp [upd_same]⟩ (fun j H' _ p => SqL.of (p.1 _ _ hD6)) (fun j v H' hj pw => ?_) (fun H7 pw => ?_)⟩
      · obtain ⟨q, hq, a, rfl, ha⟩ := paired_ta hpw6 hj
        obtain ⟨sw, hB'⟩ := pw
        have hj' : j < ps.length := (List.getElem?_eq_some_iff.mp hq).1
        refine ⟨a, _, rfl, SqT.of (sw _ _ ha), rfl, _, _, rfl, _, _, rfl, rfl, rfl, _, rfl, _, rfl, rfl, _, rfl, ite2 (fun he => ?_) (fun he => ?_)⟩
        · have he' : q.1 = m := V.int.inj (of_decide_eq_true he)
          refine ⟨_, rfl, _, hB', ?_, Same.upd sw hB, ?_⟩
          · rw [List.length_map]
            have := List.length_filter_le (fun q : Int × Ent => decide (q.1 = m)) (ps.take j)
            rw [List.length_take] at this
            have : sizeLine = 2 ^ 24 := rfl
            omega
          · rw [upd_same, List.take_succ, hq, List.filter_append, List.map_append]
            simp [he']
        · have he' : ¬ q.1 = m := fun z => he (decide_eq_true (by rw [z]))
          refine ⟨sw, ?_⟩
          rw [hB', List.take_succ, hq, List.filter_append, List.map_append]
          simp [he']
      obtain ⟨s7, hB7⟩ := pw
      rw [hpw6.length, List.take_length] at hB7
      obtain ⟨q0, hq0, hq0m⟩ : ∃ q ∈ ps, q.1 = m := by
        obtain ⟨q, hq, e⟩ := List.mem_map.mp hmm
        exact ⟨q, hq, e⟩
      obtain ⟨y, t, hyt⟩ : ∃ y t, ps.filter (fun q => decide (q.1 = m)) = y :: t := by
        cases hf : ps.filter (fun q => decide (q.1 = m)) with
        | nil =>
          have : q0 ∈ ps.filter (fun q => decide (q.1 = m)) := List.mem_filter.mpr ⟨hq0, decide_eq_true hq0m⟩
          rw [hf] at this
          cases this
        | cons y t => exact ⟨y, t, rfl⟩
      have hy : y ∈ ps.filter (fun q => decide (q.1 = m)) := by rw [hyt]; simp
      obtain ⟨hy1, hy2⟩ := List.mem_filter.mp hy
      have hym : y.1 = m := of_decide_eq_true hy2
      rw [hyt] at hB7
      have hO7 := s7 _ _ hO6
      refine ⟨B, _, _, _, rfl, rfl, SqL.of hB7, at_of (j := 0) rfl rfl, O, _, _, rfl, rfl, hO7, ?_, ?_⟩
      · rw [List.length_map]
        have : sizeLine = 2 ^ 24 := rfl
        omega
      · refine ⟨out ++ [y.2], _, _, _, rfl, Same.upd (s46.trans s7) hO, by rw [upd_same, List.map_append]; rfl, by simp [hol], fun p x hpx => ?_⟩
        rw [List.getElem?_append] at hpx
        split at hpx
        · exact hout p x hpx
        · rename_i hpl
          have e3 : p - out.length = 0 := by
            by_cases q : p - out.length = 0
            · exact q
            · rw [List.getElem?_eq_none (by simp; omega)] at hpx; cases hpx
          rw [e3] at hpx
          simp at hpx
          subst hpx
          have : p = i := by omega
          subst this
          obtain ⟨row, hr, hri⟩ := (hmem y).mp hy1
          refine ⟨row, hr, m, by rw [hri, ← hym], fun row' hr' e' x' he' => ?_⟩
          have := (hmem (e', x')).mpr ⟨row', hr', he'⟩
          exact hmx e' (List.mem_map.mpr ⟨(e', x'), this, rfl⟩)
    · rintro σ H4 ⟨out, v3, v4, v5, rfl, s4, hO4, hol, hout⟩
      have hol' : out.length = n := by omega
      refine ⟨_, rfl, k O out H4 hO hO4 ⟨fun row hr => by rw [hol']; exact hmax row hr, hout⟩ (by omega) (fun N hN => ?_) s4⟩
      rcases hn1 with h | ⟨row, hr, h⟩
      · omega
      · have := hN row hr; omega
end
end K40
/-! Rules of our own: list(d.values()), a dict comprehension over a range, xs[i] op= e, == of a list with another length. -/
namespace K40V
open PySem PySem.Spec PyProof.Rows L2
theorem kv_vals {kvs : List (Key × V)} {vs : List (Key × Value)} (h : KV kvs vs) : Vals (kvs.map (·.2)) (vs.map (·.2)) := by
  induction h with
  | nil => exact .nil
  | cons r t ih => exact .cons r.2 ih
def tListVals (te : TE) : TE := fun σ H Q => te σ H fun x H1 => ∃ (d : Addr) (kvs : List (Key × V)), x = .ref d ∧ H1 d = some (.dK kvs) ∧ ∀ p, H1 p = none → Q (.ref p) (upd H1 p (.lst (kvs.map (·.2))))
section
variable {X : Cx} {e : Expr} {te : TE} {p apos cpos pos : Pos}
/-- list(e.values()) -/
theorem pe_listVals (hc : X.calm = true) (he : PE X e te) (hg : Gl X "list") (hm : X.mg "list" = none) (hv : bootBuiltins "list" = some (.type "list")) (hbase : attributeBase e "values" X.env (eval e X.env) = eval e X.env := by rfl) (hline : (apos.endLine == cpos.line) = true := by rfl)
    (hs : starEach [.Call (.Attribute e "values" apos) [] [] cpos] X.env = (false, eval (.Call (.Attribute e "values" apos) [] [] cpos) X.env) :: starEach [] X.env := by rfl) :
    PE X (.Call (.Name "list" p) [.Call (.Attribute e "values" apos) [] [] cpos] [] pos) (tListVals te) := by
  refine ⟨fun pins s σ H Q I hq => ?_⟩
  refine wpAny_Call_Name_kw (ld_blt I hg hm hv ?_)
  refine PyProof.Rows.callWith_type1 ?_ hs rfl
  rw [hs]
  show wpAny _ _ (spliced ((false, eval (.Call (.Attribute e "values" apos) [] [] cpos) X.env) :: backTo pos (starEach [] X.env))) _ _ s
  refine Calls.spliced_cons ?_
  refine wpAny_Call_method (T := "dict") (id := "dict.values") hbase rfl hline F.plainAttrs_dict F.slot_dict_values F.type_dict_values (thn (he.run pins s σ H _ I hq) fun u s1 ⟨x, H1, I1, rx, d, kvs, ex, hd, q⟩ => ?_)
  subst ex
  obtain rfl : u = Value.ref d := rx
  obtain ⟨hz, hs0, vs, kv, hdo⟩ := I1.hok d _ hd
  obtain ⟨ep, hat⟩ := hdo.dictAt
  have lk : kvs.length = vs.length := Paired.length kv
  have I2 : Inv X pins σ H1 { s1 with heap := s1.heap.push { cls := .type "dict_values", data := .fields #[.ref d] } } := I1.kept (t' := s1.toks) fun b ob q => Heap.get?_push_of_some _ q
  refine ⟨hdo.typeIs, hdo.mapOf.noDict, ?_⟩
  show wpAny _ _ (callWith cpos (.builtin "dict.values") [.ref d] [] []) _ X.xe s1
  refine method_meetsIn F.slot_dict_values F.entry_dict_values rfl (PySem.evalArgs_none ⟨rfl, hdo.typeIs, F.args_dict_values_1 _, _, meets_dict_values (mixKind X.prog X.w) d hs0, ⟨vs, hdo⟩, ?_⟩)
  refine Calls.spliced_nil ?_
  refine PySem.W.kdl_call (PySem.W.kdl_values (prog := X.prog) (w := X.w) (knd := mixKind X.prog X.w) (kvs := vs) (ep := ep) (r := s1.heap.objs.size) (d := d)) (I1.ok.hd hc) ⟨⟨_, Heap.get?_push_size _ rfl, rfl, rfl⟩, hat.push _⟩ (by omega) fun h' tk acc c hk hS hacc => ?_
  have e1 : acc.toList = vs.map (·.2) := PySem.W.kdl_vals_eq acc.toList (by rw [Array.length_toList]; exact hacc.1) fun j v e => hacc.2 j v (by rw [← Array.getElem?_toList]; exact e)
  refine ⟨.ref _, _, I2.laid (t' := tk) (o := .lst (kvs.map (·.2))) hk (Nat.le_refl _) ?_, rfl, q _ (I2.hok.fresh (Nat.le_refl _))⟩
  refine ⟨by rw [List.length_map]; omega, acc.toList, c, by rw [e1]; exact kv_vals kv, ?_⟩
  rw [Array.toArray_toList]
  exact hS
/-- xs[j], by values, for xs[j] op= e -/
def rGetL : V → V → Hp → VK → Prop := fun o i H Q => ∃ p xs j v, o = V.ref p ∧ i = V.int ((j : Nat) : Int) ∧ H p = some (.lst xs) ∧ xs[j]? = some v ∧ Q v H
theorem get_list : PGet X rGetL := by
  intro pins s σ H o i ov iv Q I ro ri h
  obtain ⟨p, xs, j, v, rfl, rfl, hp, hv, q⟩ := h
  cases ro
  obtain ⟨t, rfl⟩ := ri
  obtain ⟨its, n, r, ho, hz⟩ := I.lst hp
  obtain ⟨w, ew, rw'⟩ := r.get hv
  have hj := (List.getElem?_eq_some_iff.mp hv).1
  have hsl : sizeLine = 2 ^ 24 := rfl
  exact wpAny_getItem_list ⟨_, ho, rfl, n, rfl⟩ (by omega) (by omega) (by simpa using ew) ⟨v, H, I, rw', q⟩
/-- xs == [], xs != [] (xs a list of anything) -/
def rEqE (neg : Bool) : R2 := fun x y H Q => ∃ a b xs, x = V.ref a ∧ y = V.ref b ∧ H a = some (.lst xs) ∧ H b = some (.lst []) ∧ Q (.bl (if neg then !xs.isEmpty else xs.isEmpty)) H
theorem op_eqE (hu : X.A.units + 64 < cLine) : OpR X (compareOp .Eq) (rEqE false) := by
  intro pins s σ H x y v u Q I rx ry h
  obtain ⟨a, b, xs, rfl, rfl, ha, hb, q⟩ := h
  cases rx
  cases ry
  obtain ⟨its, n, r, ho, hz⟩ := I.lst ha
  obtain ⟨its2, n2, r2, ho2, hz2⟩ := I.lst hb
  cases r2
  have hu' : X.A.units < cLine := by omega
  cases r with
  | nil => exact SeqAt.eq_listAt (e := fun _ => true) ⟨_, ho, rfl, n, rfl⟩ ⟨_, ho2, rfl, n2, rfl⟩ rfl hu' (fun j h1 => absurd h1 (by simp)) ⟨.bl _, H, I, rfl, q⟩
  | cons p t => exact SeqAt.eq_list_lengthsAt ⟨_, ho, rfl, n, rfl⟩ ⟨_, ho2, rfl, n2, rfl⟩ (by simp) hu' ⟨.bl _, H, I, rfl, q⟩
theorem op_neE (hu : X.A.units + 64 < cLine) : OpR X (compareOp .NotEq) (rEqE true) := by
  intro pins s σ H x y v u Q I rx ry h
  obtain ⟨a, b, xs, rfl, rfl, ha, hb, q⟩ := h
  cases rx
  cases ry
  obtain ⟨its, n, r, ho, hz⟩ := I.lst ha
  obtain ⟨its2, n2, r2, ho2, hz2⟩ := I.lst hb
  cases r2
  have hu' : X.A.units < cLine := by omega
  cases r with
  | nil => exact SeqAt.RcNeAt.lists (e := fun _ => true) ⟨_, ho, rfl, n, rfl⟩ ⟨_, ho2, rfl, n2, rfl⟩ rfl hu' (fun j h1 => absurd h1 (by simp)) X.prog X.w _ _ ⟨.bl _, H, I, rfl, q⟩
  | cons p t => exact SeqAt.RcNeAt.lists_lengths ⟨_, ho, rfl, n, rfl⟩ ⟨_, ho2, rfl, n2, rfl⟩ (by simp) hu' X.prog X.w _ _ ⟨.bl _, H, I, rfl, q⟩
end
/-- a dict comprehension over a range -/
theorem dc_range {lo : Int} {n : Nat} {g : TG} {tt : TT} {tk tv : TE} {vs : List Nat} {σ : L2.St} {H1 : Hp} {D : Addr} {Qd : Hp → Prop} (Pv : Nat → Hp → Prop) (h0 : Pv 0 (upd H1 D (.dK [])))
    (hs : ∀ i H, i < n → Pv i H → g (.int (lo + i)) (wipe σ vs) H fun σ2 H2 => wipe σ2 vs = wipe σ vs ∧ tt σ2 H2 fun b H3 =>
      if b = true then tk σ2 H3 fun y H4 => tv σ2 H4 fun z H5 => ∃ kvs k, y = kV k ∧ H5 D = some (.dK kvs) ∧ kvs.length < sizeLine ∧ Pv (i + 1) (upd H5 D (.dK (putK kvs k z))) else Pv (i + 1) H3) (hd : ∀ H, Pv n H → Qd H) :
    ∃ W : Nat → Nat → Hp → Prop, (∃ m, W 0 m (upd H1 D (.dK []))) ∧ ∀ i m H, W i m H →
      ((Itr lo n).stop i H ∧ Qd H) ∨ ((Itr lo n).go i H ∧ ∃ Nx : Hp → Prop, (∀ H', Nx H' → ∃ m', m' < m ∧ W (i + 1) m' H') ∧ ∀ x H', (Itr lo n).yld i H x H' → g x (wipe σ vs) H' fun σ2 H2 => wipe σ2 vs = wipe σ vs ∧ tt σ2 H2 fun b H3 =>
        if b = true then tk σ2 H3 fun y H4 => tv σ2 H4 fun z H5 => ∃ kvs k, y = kV k ∧ H5 D = some (.dK kvs) ∧ kvs.length < sizeLine ∧ Nx (upd H5 D (.dK (putK kvs k z))) else Nx H3) := by
  refine ⟨fun i m H => m = n - i ∧ i ≤ n ∧ Pv i H, ⟨n, by simp, Nat.zero_le _, h0⟩, ?_⟩
  rintro i m H ⟨rfl, hi, p⟩
  by_cases hlt : i < n
  · refine .inr ⟨hlt, Pv (i + 1), fun H' p' => ⟨n - (i + 1), by omega, rfl, hlt, p'⟩, fun x H' y => ?_⟩
    obtain ⟨e, y⟩ := y
    subst e y
    exact hs i _ hlt p
  · have e : i = n := by omega
    subst e
    exact .inl ⟨Nat.le_refl _, hd H p⟩
end K40V
/-! Sequencers. -/
namespace K40
open PySem L2 Mc
/-! ### the dict of counts -/
def tkF : Nat → List Nat → List (Key × V)
  | _, [] => []
  | i, m :: t => (Sum.inl ((i : Nat) : Int), V.int ((m : Nat) : Int)) :: tkF (i + 1) t
theorem tkF_len : ∀ (t : List Nat) (i : Nat), (tkF i t).length = t.length
  | [], _ => rfl
  | _ :: t, i => by simp [tkF, tkF_len t (i + 1)]
theorem inl_ne {a b : Nat} (h : a ≠ b) : ¬ (Sum.inl ((a : Nat) : Int) : Key) = Sum.inl ((b : Nat) : Int) := by
  intro e
  have := Sum.inl.inj e
  omega
theorem tkF_val : ∀ (t : List Nat) (i k : Nat), valV (tkF i t) (Sum.inl ((i + k : Nat) : Int)) = (t[k]?).map (fun m => V.int ((m : Nat) : Int))
  | [], i, k => by simp [tkF, valV_nil]
  | m :: t, i, 0 => by
    show valV ((Sum.inl ((i : Nat) : Int), V.int ((m : Nat) : Int)) :: tkF (i + 1) t) (Sum.inl ((i : Nat) : Int)) = _
    rw [valV_pos rfl]
    rfl
  | m :: t, i, k + 1 => by
    show valV ((Sum.inl ((i : Nat) : Int), V.int ((m : Nat) : Int)) :: tkF (i + 1) t) (Sum.inl ((i + (k + 1) : Nat) : Int)) = _
    rw [valV_neg (inl_ne (by omega))]
    have := tkF_val t (i + 1) k
    rw [show i + 1 + k = i + (k + 1) by omega] at this
    rw [this]
    rfl
theorem tkF_val0 (t : List Nat) (k : Nat) : valV (tkF 0 t) (Sum.inl ((k : Nat) : Int)) = (t[k]?).map (fun m => V.int ((m : Nat) : Int)) := by
  have := tkF_val t 0 k
  rw [Nat.zero_add] at this
  exact this
theorem tkF_same (v : V) : ∀ (t : List Nat) (i j : Nat), j < i → (tkF i t).map (fun kv => if kv.1 = (Sum.inl ((j : Nat) : Int) : Key) then (kv.1, v) else kv) = tkF i t
  | [], _, _, _ => rfl
  | m :: t, i, j, h => by
    show (if (Sum.inl ((i : Nat) : Int) : Key) = Sum.inl ((j : Nat) : Int) then _ else _) :: (tkF (i + 1) t).map _ = _
    rw [if_neg (inl_ne (by omega)), tkF_same v t (i + 1) j (by omega)]
    rfl
theorem tkF_set (m' : Nat) : ∀ (t : List Nat) (i k : Nat), (tkF i t).map (fun kv => if kv.1 = (Sum.inl ((i + k : Nat) : Int) : Key) then (kv.1, V.int ((m' : Nat) : Int)) else kv) = tkF i (t.set k m')
  | [], _, _ => rfl
  | m :: t, i, 0 => by
    show (if (Sum.inl ((i : Nat) : Int) : Key) = Sum.inl ((i : Nat) : Int) then _ else _) :: (tkF (i + 1) t).map (fun kv => if kv.1 = (Sum.inl ((i : Nat) : Int) : Key) then (kv.1, V.int ((m' : Nat) : Int)) else kv) = _
    rw [if_pos rfl, tkF_same _ t (i + 1) i (by omega)]
    rfl
  | m :: t, i, k + 1 => by
    show (if (Sum.inl ((i : Nat) : Int) : Key) = Sum.inl ((i + (k + 1) : Nat) : Int) then _ else _) :: (tkF (i + 1) t).map _ = _
    rw [if_neg (inl_ne (by omega))]
    have := tkF_set m' t (i + 1) k
    rw [show i + 1 + k = i + (k + 1) by omega] at this
    rw [this]
    rfl
theorem tkF_put (t : List Nat) (k m' : Nat) (h : k < t.length) : putK (tkF 0 t) (Sum.inl ((k : Nat) : Int)) (V.int ((m' : Nat) : Int)) = tkF 0 (t.set k m') := by
  have e := tkF_set m' t 0 k
  rw [Nat.zero_add] at e
  unfold putK
  rw [valV_any, tkF_val0, List.getElem?_eq_getElem h]
  exact (if_pos rfl).trans e
theorem tkF_snoc : ∀ (t : List Nat) (i m : Nat), tkF i (t ++ [m]) = tkF i t ++ [(Sum.inl ((i + t.length : Nat) : Int), V.int ((m : Nat) : Int))]
  | [], _, _ => rfl
  | a :: t, i, m => by
    show (Sum.inl ((i : Nat) : Int), V.int ((a : Nat) : Int)) :: tkF (i + 1) (t ++ [m]) = _
    rw [tkF_snoc t (i + 1) m, show i + 1 + t.length = i + (a :: t).length by simp; omega]
    rfl
theorem tkF_new (t : List Nat) (m : Nat) : putK (tkF 0 t) (Sum.inl ((t.length : Nat) : Int)) (V.int ((m : Nat) : Int)) = tkF 0 (t ++ [m]) := by
  rw [putK_new _ (by rw [tkF_val0, List.getElem?_eq_none (Nat.le_refl _)]; rfl), tkF_snoc, Nat.zero_add]
theorem tkF_vals : ∀ (t : List Nat) (i : Nat), (tkF i t).map (·.2) = (t.map (fun m : Nat => (m : Int))).map V.int
  | [], _ => rfl
  | m :: t, i => by simp [tkF, tkF_vals t (i + 1)]
/-! ### the dict of rows -/
def RowKv (H : Hp) (kv : Key × V) (q : Nat × Row Ent) : Prop := kv.1 = Sum.inl ((q.1 : Nat) : Int) ∧ RowA H kv.2 q.2
theorem RowKv.mono {H H' : Hp} (x : TupX H H') {kv : Key × V} {q : Nat × Row Ent} (h : RowKv H kv q) : RowKv H' kv q := ⟨h.1, h.2.mono x⟩
theorem rows_val {H : Hp} : ∀ {kvs : List (Key × V)} {rows : List (Nat × Row Ent)} (k : Nat), Paired (RowKv H) kvs rows →
    (k ∉ rows.map (·.1) ∧ valV kvs (Sum.inl ((k : Nat) : Int)) = none) ∨ ∃ v row, (k, row) ∈ rows ∧ valV kvs (Sum.inl ((k : Nat) : Int)) = some v ∧ RowA H v row
  | _, _, k, .nil => .inl ⟨by simp, rfl⟩
  | _, _, k, .cons (a := kv) (b := q) (l₁ := kvs) (l₂ := rows) h t => by
    by_cases e : q.1 = k
    · refine .inr ⟨kv.2, q.2, ?_, valV_pos (by rw [h.1, e]), h.2⟩
      rw [← e]
      exact List.mem_cons_self
    · have hne : ¬ kv.1 = Sum.inl ((k : Nat) : Int) := by rw [h.1]; exact inl_ne e
      rw [valV_neg hne]
      rcases rows_val k t with ⟨h1, h2⟩ | ⟨v, row, h1, h2, h3⟩
      · refine .inl ⟨?_, h2⟩
        simp only [List.map_cons, List.mem_cons, not_or]
        exact ⟨fun z => e z.symm, h1⟩
      · exact .inr ⟨v, row, List.mem_cons_of_mem _ h1, h2, h3⟩
theorem rows_put {H : Hp} {kvs : List (Key × V)} {rows : List (Nat × Row Ent)} (k : Nat) {v : V} {row : Row Ent} (hp : Paired (RowKv H) kvs rows) (hr : RowA H v row) : Paired (RowKv H) (putK kvs (Sum.inl ((k : Nat) : Int)) v) (putRow rows k row) := by
  have aux : ∀ {kvs : List (Key × V)} {rows : List (Nat × Row Ent)}, Paired (RowKv H) kvs rows →
      Paired (RowKv H) (kvs.map (fun kv => if kv.1 = (Sum.inl ((k : Nat) : Int) : Key) then (kv.1, v) else kv)) (rows.map (fun q => if q.1 = k then (q.1, row) else q)) := by
    intro kvs rows h
    induction h with
    | nil => exact .nil
    | @cons kv q l1 l2 h t ih =>
      refine .cons ?_ ih
      show RowKv H (if kv.1 = (Sum.inl ((k : Nat) : Int) : Key) then (kv.1, v) else kv) (if q.1 = k then (q.1, row) else q)
      by_cases e : q.1 = k
      · rw [if_pos e, if_pos (by rw [h.1, e])]
        exact ⟨h.1, hr⟩
      · rw [if_neg e, if_neg (by rw [h.1]; exact inl_ne e)]
        exact h
  unfold putK putRow
  rw [valV_any]
  rcases rows_val k hp with ⟨h1, h2⟩ | ⟨v', row', h1, h2, h3⟩
  · rw [h2, if_neg h1]
    show Paired (RowKv H) (kvs ++ [(Sum.inl ((k : Nat) : Int), v)]) (rows ++ [(k, row)])
    exact paired_app hp (.cons ⟨rfl, hr⟩ .nil)
  · have hm : k ∈ rows.map (·.1) := List.mem_map.mpr ⟨(k, row'), h1, rfl⟩
    rw [h2, if_pos hm]
    exact aux hp
theorem rows_keys {H : Hp} {kvs : List (Key × V)} {rows : List (Nat × Row Ent)} (hp : Paired (RowKv H) kvs rows) : (kvs.map fun kv => kV kv.1) = (rows.map (fun q : Nat × Row Ent => ((q.1 : Nat) : Int))).map V.int := by
  induction hp with
  | nil => rfl
  | @cons kv q l1 l2 h t ih =>
    rw [List.map_cons, ih, h.1]
    rfl
theorem Newest.congr {a b : List (Row Ent)} {out : List Ent} (h : Newest a out) (e : ∀ row, row ∈ b ↔ row ∈ a) : Newest b out := by
  refine ⟨fun row hr => h.1 row ((e row).mp hr), fun p x hx => ?_⟩
  obtain ⟨row, hr, m, h1, h2⟩ := h.2 p x hx
  exact ⟨row, (e row).mpr hr, m, h1, fun row' hr' => h2 row' ((e row').mp hr')⟩
theorem Newest.bound {a : List (Row Ent)} {out : List Ent} (h : Newest a out) {N : Nat} (hN : ∀ row ∈ a, row.length ≤ N) : out.length ≤ N := by
  apply Classical.byContradiction
  intro hno
  have hlt : N < out.length := by omega
  obtain ⟨row, hr, m, h1, _⟩ := h.2 N out[N] (List.getElem?_eq_getElem hlt)
  have := (List.getElem?_eq_some_iff.mp h1).1
  have := hN row hr
  omega
theorem one_key : ∀ {rows : List (Nat × Row Ent)}, (rows.map (·.1)).Nodup → ∀ {k : Nat} {r r' : Row Ent}, (k, r) ∈ rows → (k, r') ∈ rows → r = r'
  | [], _, _, _, _, h, _ => by cases h
  | (k0, r0) :: t, hn, k, r, r', h, h' => by
    rw [List.map_cons, List.nodup_cons] at hn
    rcases List.mem_cons.mp h with e | e
    · rcases List.mem_cons.mp h' with e' | e'
      · exact (Prod.mk.inj e).2.trans (Prod.mk.inj e').2.symm
      · exact absurd (List.mem_map.mpr ⟨(k, r'), e', (Prod.mk.inj e).1⟩) hn.1
    · rcases List.mem_cons.mp h' with e' | e'
      · exact absurd (List.mem_map.mpr ⟨(k, r), e, (Prod.mk.inj e').1⟩) hn.1
      · exact one_key hn.2 e e'
/-! ### a sequencer in the heap -/
structure SqAd where
  a : Addr
  rd : Addr
  rl : Addr
  td : Addr
structure SqAt (SC : Addr) (H : Hp) (n : Nat) (ad : SqAd) (s : Sq Ent) : Prop where
  ob : ∃ dx, H ad.a = some (.ins SC dx (sf s.epoch n s.stand ad.rd ad.rl ad.td))
  rows : ∃ kvs, H ad.rd = some (.dK kvs) ∧ Paired (RowKv H) kvs s.rows
  row : H ad.rl = some (.lst (s.row.map eV))
  tk : H ad.td = some (.dK (tkF 0 s.taken))
theorem SqAt.same {SC : Addr} {H H' : Hp} {n : Nat} {ad : SqAd} {s : Sq Ent} (h : SqAt SC H n ad s) (e : Same H H') : SqAt SC H' n ad s := by
  obtain ⟨⟨dx, h1⟩, ⟨kvs, h2, h3⟩, h4, h5⟩ := h
  exact ⟨⟨dx, e _ _ h1⟩, ⟨kvs, e _ _ h2, paired_imp (fun _ _ => RowKv.mono (TupX.of e)) h3⟩, e _ _ h4, e _ _ h5⟩
theorem stand_eq (a b : Stand) : decide (V.str (standS a) = V.str (standS b)) = decide (a = b) := by
  have h1 : ¬ ("asking" : Str) = "leading" := by decide +kernel
  have h2 : ¬ ("asking" : Str) = "stopped" := by decide +kernel
  have h3 : ¬ ("leading" : Str) = "stopped" := by decide +kernel
  have k : ∀ {x y : Str}, ¬ x = y → decide (V.str x = V.str y) = false := fun h => decide_eq_false fun z => h (V.str.inj z)
  cases a <;> cases b <;> first
    | (rw [decide_eq_true rfl, decide_eq_true rfl])
    | (rw [show decide (V.str (standS _) = V.str (standS _)) = false from k (by first | exact h1 | exact h2 | exact h3 | exact fun z => h1 z.symm | exact fun z => h2 z.symm | exact fun z => h3 z.symm)]; rfl)
end K40
/-! Sequencers: their methods. -/
namespace K40
open PySem L2 Mc
section
variable {P : Program} {w : World} {K : PySem.W.Frag} {mg : Str → Option Value} {base : Heap} {RC KC SC CC : Addr}
def spSInit (SC : Addr) : Sp := fun vs H Q _ => ∃ (p dx : Addr) (e : Int) (n : Nat), vs = [.ref p, .int e, .int (n : Nat)] ∧ H p = some (.ins SC dx []) ∧ n ≤ 60 ∧
  ∀ (ad : SqAd) (H' : Hp), ad.a = p → H ad.rd = none → H ad.rl = none → H ad.td = none → ad.rd ≠ ad.td → SqAt SC H' n ad (newSq e n) → But [p] H H' → Q .non H'
abbrev nSInit : List Str := ["self", "epoch", "many", "number"]
theorem scSInit : FnScope nSInit ["self", "epoch", "many"] (defScope sSInit) := ⟨rfl, rfl, rfl, by decide +kernel, rfl, by decide +kernel, by decide +kernel⟩
theorem ok_sinit {f : Addr} {fd : FuncData} (F : Fun K "__init__" "Sequencer.__init__" sSInit f fd) (T : Txt K mg RC KC SC CC) : FnOk P w K mg base CX0 1 f fd ["self", "epoch", "many"] (spSInit SC) := by
  obtain ⟨ta, hta⟩ := T.asking
  refine F.ok scSInit (fun vs H Q E h => ?_) (fun cdv A outer s H vs Q E hr h => ?_)
  · obtain ⟨p, dx, e, n, rfl, _⟩ := h
    rfl
  · obtain ⟨p, dx, e, n, rfl, h1, hn, k⟩ := h
    refine ⟨_, pss_cons (ps_fld (pv 0) (pv 1) rfl) (pss_cons (ps_fld (pv 0) (pv 2) rfl) (pss_cons (ps_fld (pv 0) (pe_glob (v := .str "asking") rfl hta ⟨_, rfl⟩) rfl) (pss_cons (ps_fld (pv 0) pe_dnewK rfl) (pss_cons (ps_fld (pv 0) (pe_lst pa_nil) rfl)
      (pss_one (ps_fld (pv 0) (pe_dc (own := [("number", 3)]) (g := gName 3) (tt := tYes) (tk := tVar 3) (tv := tC (.int 0)) rfl scSInit.nd (pi_range1 (by rfl) T.range (pa_cons (pv 2) pa_nil)) (blkOk_by (own := [("number", 3)]) (N := nSInit) (sc := defScope sSInit) (by decide +kernel))
        (fun _ _ _ _ _ => pg_name (i := 3) scSInit.nd rfl (Or.inl rfl)) (fun _ _ _ _ _ => pts_nil) (fun _ _ _ _ _ => pv 3) (fun _ _ _ _ _ => pe_int)) rfl)))))), ?_⟩
    refine ⟨_, rfl, _, rfl, p, SC, dx, _, rfl, h1, T.clS, T.nSe, (by show 0 < 1000; decide), ?_⟩
    refine ⟨_, rfl, _, rfl, p, SC, dx, _, rfl, upd_same, T.clS, T.nSm, (by show 1 < 1000; decide), ?_⟩
    refine ⟨_, rfl, p, SC, dx, _, rfl, upd_same, T.clS, T.nSs, (by show 2 < 1000; decide), ?_⟩
    intro rd hrd
    have n1 : p ≠ rd := ne_of_none upd_same hrd
    refine ⟨_, rfl, p, SC, dx, _, rfl, (by rw [upd_ne n1]; exact upd_same), T.clS, T.nSo, (by show 3 < 1000; decide), ?_⟩
    refine ⟨(by show 0 ≤ sizeLine; decide), fun rl hrl => ?_⟩
    have n2 : p ≠ rl := ne_of_none upd_same hrl
    refine ⟨_, rfl, p, SC, dx, _, rfl, (by rw [upd_ne n2]; exact upd_same), T.clS, T.nSr, (by show 4 < 1000; decide), ?_⟩
    have hF : ∀ {H' : Hp}, (∃ o, H' p = some o) → ∀ c ∈ [p], ∃ o, H' c = some o := by
      intro H' h c hc
      simp at hc
      subst hc
      exact h
    have b1 : But [p] H _ := (((But.refl [p] H).upd (a := p) (o := .ins SC dx (putF "epoch" (.int e) [])) (.inl (by simp))).upd (a := p) (o := .ins SC dx (putF "many" (.int (n : Nat)) (putF "epoch" (.int e) []))) (.inl (by simp))).upd (a := p) (o := .ins SC dx (putF "stand" (.str "asking") (putF "many" (.int (n : Nat)) (putF "epoch" (.int e) [])))) (.inl (by simp))
    have f1 : H rd = none := fresh_of b1 (hF ⟨_, upd_same⟩) hrd
    have b2 := (b1.upd (a := rd) (o := .dK []) (.inr f1)).upd (a := p) (o := .ins SC dx (putF "rows" (.ref rd) (putF "stand" (.str "asking") (putF "many" (.int (n : Nat)) (putF "epoch" (.int e) []))))) (.inl (by simp))
    have f2 : H rl = none := fresh_of b2 (hF ⟨_, upd_same⟩) hrl
    have b3 := (b2.upd (a := rl) (o := .lst []) (.inr f2)).upd (a := p) (o := .ins SC dx (putF "row" (.ref rl) (putF "rows" (.ref rd) (putF "stand" (.str "asking") (putF "many" (.int (n : Nat)) (putF "epoch" (.int e) [])))))) (.inl (by simp))
    have n12 : rd ≠ rl := by
      rintro rfl
      rw [upd_ne n1.symm, upd_same] at hrl
      cases hrl
    generalize hH1 : upd (upd (upd (upd (upd (upd (upd H p (.ins SC dx (putF "epoch" (.int e) []))) p (.ins SC dx (putF "many" (.int (n : Nat)) (putF "epoch" (.int e) [])))) p (.ins SC dx (putF "stand" (.str "asking") (putF "many" (.int (n : Nat)) (putF "epoch" (.int e) []))))) rd (.dK [])) p (.ins SC dx (putF "rows" (.ref rd) (putF "stand" (.str "asking") (putF "many" (.int (n : Nat)) (putF "epoch" (.int e) [])))))) rl (.lst [])) p (.ins SC dx (putF "row" (.ref rl) (putF "rows" (.ref rd) (putF "stand" (.str "asking") (putF "many" (.int (n : Nat)) (putF "epoch" (.int e) [])))))) = H1 at b3
    have hp1 : H1 p = some (.ins SC dx (putF "row" (.ref rl) (putF "rows" (.ref rd) (putF "stand" (.str "asking") (putF "many" (.int (n : Nat)) (putF "epoch" (.int e) [])))))) := by rw [← hH1]; exact upd_same
    have hrl1 : H1 rl = some (.lst []) := by rw [← hH1, upd_ne n2.symm]; exact upd_same
    have hrd1 : H1 rd = some (.dK []) := by rw [← hH1, upd_ne n1.symm, upd_ne n12, upd_ne n1.symm]; exact upd_same
    have sLine : sizeLine = 2 ^ 24 := rfl
    refine ⟨_, rfl, _, rfl, by omega, by omega, fun D hD => K40V.dc_range (lo := 0) (n := ((n : Nat) : Int).toNat)
      (fun i H' => Same H1 H' ∧ H' D = some (.dK (tkF 0 (List.replicate i 0)))) ⟨Same.new hD, upd_same⟩ (fun i H' hi pw => ⟨rfl, ?_⟩) (fun H2 pw => ?_)⟩
    · obtain ⟨sw, hD'⟩ := pw
      refine ⟨_, rfl, tkF 0 (List.replicate i 0), Sum.inl ((i : Nat) : Int), ?_, hD', ?_, Same.upd sw hD, ?_⟩
      · show V.int (0 + (i : Int)) = V.int ((i : Nat) : Int)
        rw [Int.zero_add]
      · rw [tkF_len, List.length_replicate]
        omega
      · rw [upd_same]
        have := tkF_new (List.replicate i 0) 0
        rw [List.length_replicate] at this
        have e1 : putK (tkF 0 (List.replicate i 0)) (Sum.inl ((i : Nat) : Int)) (V.int 0) = tkF 0 (List.replicate (i + 1) 0) := by
          rw [List.replicate_succ']
          exact this
        rw [e1]
    obtain ⟨s2, hD2⟩ := pw
    have hD2' : H2 D = some (.dK (tkF 0 (List.replicate n 0))) := by rw [hD2, Int.toNat_natCast]
    have hp2 := s2 _ _ hp1
    have npD : p ≠ D := ne_of_none hp1 hD
    have nrdD : rd ≠ D := ne_of_none hrd1 hD
    have fD : H D = none := fresh_of b3 (hF ⟨_, hp1⟩) hD
    refine ⟨_, rfl, p, SC, dx, _, rfl, hp2, T.clS, T.nSt, (by show 5 < 1000; decide), ?_⟩
    refine k ⟨p, rd, rl, D⟩ _ rfl f1 f2 fD nrdD ⟨⟨dx, ?_⟩, ⟨[], ?_, .nil⟩, ?_, ?_⟩ (But.upd (fun c o z nn => s2 _ _ (b3 c o z nn)) (.inl (by simp)))
    · rw [upd_same]
      rfl
    · rw [upd_ne n1.symm]
      exact s2 _ _ hrd1
    · rw [upd_ne n2.symm]
      exact s2 _ _ hrl1
    · rw [upd_ne npD.symm]
      exact hD2'
def spSAdd (SC : Addr) : Sp := fun vs H Q _ => ∃ (n : Nat) (ad : SqAd) (s : Sq Ent) (x : Ent), vs = [.ref ad.a, eV x] ∧ SqAt SC H n ad s ∧ s.stand = .leading ∧ s.row.length < 100000 ∧
  ∀ H', SqAt SC H' n ad { s with row := s.row ++ [x] } → But [ad.rl] H H' → Q .non H'
theorem scSAdd : FnScope ["self", "entry"] ["self", "entry"] (defScope sSAdd) := ⟨rfl, rfl, rfl, by decide +kernel, rfl, by decide +kernel, by decide +kernel⟩
theorem ok_sadd {f : Addr} {fd : FuncData} (F : Fun K "add" "Sequencer.add" sSAdd f fd) (T : Txt K mg RC KC SC CC) : FnOk P w K mg base CX0 1 f fd ["self", "entry"] (spSAdd SC) := by
  obtain ⟨ta, hta⟩ := T.leading
  refine F.ok scSAdd (fun vs H Q E h => ?_) (fun cdv A outer s H vs Q E hr h => ?_)
  · obtain ⟨n, ad, s, x, rfl, _⟩ := h
    rfl
  · obtain ⟨n, ad, s, x, rfl, SA, hs, hz, k⟩ := h
    obtain ⟨⟨dx, h1⟩, ⟨kvs, h2, h3⟩, h4, h5⟩ := id SA
    refine ⟨_, pss_cons (ps_if (pt_cmpR op_ne (pe_fld (pv 0) rfl) (pe_glob (v := .str "leading") rfl hta ⟨_, rfl⟩) (nomark _)) (pss_one ps_never) pss_nil)
      (pss_one (ps_expr (pe_bm PySem.F.plainAttrs_list PySem.F.slot_list_append PySem.F.type_list_append mt_append (pe_fld (pv 0) rfl) (pa_cons (pv 1) pa_nil)))), ?_⟩
    refine ⟨_, rfl, ad.a, SC, dx, _, _, rfl, h1, T.clS, T.nSs, rfl, rfl, _, rfl, ?_⟩
    have e1 := stand_eq s.stand .leading
    rw [hs, decide_eq_true rfl] at e1
    have e2 : decide (V.str (standS s.stand) = V.str ("leading" : Str)) = true := by rw [hs]; exact e1
    rw [e2]
    refine iteF ?_
    have sLine : sizeLine = 2 ^ 24 := rfl
    refine ⟨_, rfl, ad.a, SC, dx, _, _, rfl, h1, T.clS, T.nSr, rfl, .inl ⟨rfl, _, .inl (.inl h4)⟩, _, rfl, ad.rl, _, _, rfl, rfl, h4, by rw [List.length_map]; omega, ?_⟩
    have na : ad.a ≠ ad.rl := ne_of h1 h4 (by intro q; cases q)
    have nrd : ad.rd ≠ ad.rl := ne_of h2 h4 (by intro q; cases q)
    have ntd : ad.td ≠ ad.rl := ne_of h5 h4 (by intro q; cases q)
    have tx : TupX H (upd H ad.rl (.lst (s.row.map eV ++ [eV x]))) := fun c ys z => by rw [upd_ne (ne_of z h4 (by intro q; cases q))]; exact z
    refine k _ ⟨⟨dx, by rw [upd_ne na]; exact h1⟩, ⟨kvs, by rw [upd_ne nrd]; exact h2, paired_imp (fun _ _ => RowKv.mono tx) h3⟩, by rw [upd_same]; simp, by rw [upd_ne ntd]; exact h5⟩ ((But.refl _ H).upd (.inl (by simp)))
theorem sorted_most {c : List Int} (h : c.Pairwise (· ≤ ·)) {i : Nat} {m : Int} (hi : c[i]? = some m) : c.length - i ≤ (c.filter fun t => decide (m ≤ t)).length := by
  have e : c.drop i = m :: c.drop (i + 1) := by
    obtain ⟨hl, e⟩ := List.getElem?_eq_some_iff.mp hi
    rw [List.drop_eq_getElem_cons hl, e]
  have hp : (c.drop i).Pairwise (· ≤ ·) := h.sublist (List.drop_sublist i c)
  have all : ∀ t ∈ c.drop i, decide (m ≤ t) = true := by
    intro t ht
    rw [e] at ht hp
    rcases List.mem_cons.mp ht with rfl | ht
    · exact decide_eq_true (Int.le_refl _)
    · exact decide_eq_true ((List.pairwise_cons.mp hp).1 t ht)
  have e2 : (c.drop i).filter (fun t => decide (m ≤ t)) = c.drop i := List.filter_eq_self.mpr all
  have h2 : ((c.drop i).filter (fun t => decide (m ≤ t))).length ≤ (c.filter fun t => decide (m ≤ t)).length := ((List.drop_sublist i c).filter _).length_le
  rw [e2, List.length_drop] at h2
  exact h2
theorem sorted_over {c : List Int} (h : c.Pairwise (· ≤ ·)) {i : Nat} {m : Int} (hi : c[i]? = some m) : (c.filter fun t => decide (m < t)).length + i + 1 ≤ c.length := by
  obtain ⟨hl, e⟩ := List.getElem?_eq_some_iff.mp hi
  have hd : c.drop i = m :: c.drop (i + 1) := by rw [List.drop_eq_getElem_cons hl, e]
  have ht : (c.take (i + 1)).filter (fun t => decide (m < t)) = [] := by
    rw [List.filter_eq_nil_iff]
    intro t hm z
    have z' := of_decide_eq_true z
    obtain ⟨j, hj, ej⟩ := List.mem_iff_getElem.mp hm
    rw [List.length_take] at hj
    rw [List.getElem_take] at ej
    by_cases q : j = i
    · subst q
      omega
    · have := List.pairwise_iff_getElem.mp h j i (by omega) hl (by omega)
      omega
  have hs : c.filter (fun t => decide (m < t)) = (c.drop (i + 1)).filter (fun t => decide (m < t)) := by
    conv => lhs; rw [← List.take_append_drop (i + 1) c]
    rw [List.filter_append, ht, List.nil_append]
  have h2 := List.length_filter_le (fun t => decide (m < t)) (c.drop (i + 1))
  rw [hs]
  rw [List.length_drop] at h2
  omega
/-- how far is settled is told by the counts alone -/
theorem far_same {l : List Nat} {m m' q : Nat} (h1 : q ≤ (l.filter fun t => decide (m ≤ t)).length) (h2 : (l.filter fun t => decide (m < t)).length < q) (h3 : q ≤ (l.filter fun t => decide (m' ≤ t)).length) (h4 : (l.filter fun t => decide (m' < t)).length < q) : m = m' := by
  have key : ∀ a b : Nat, a < b → (l.filter fun t => decide (b ≤ t)).length ≤ (l.filter fun t => decide (a < t)).length := by
    intro a b hab
    rw [← List.countP_eq_length_filter, ← List.countP_eq_length_filter]
    refine List.countP_mono_left fun x _ hx => ?_
    have := of_decide_eq_true hx
    exact decide_eq_true (by omega)
  rcases Nat.lt_trichotomy m m' with h | h | h
  · have := key m m' h
    omega
  · exact h
  · have := key m' m h
    omega
def spSSettled (SC : Addr) : Sp := fun vs H Q _ => ∃ (n : Nat) (ad : SqAd) (s : Sq Ent), vs = [.ref ad.a] ∧ SqAt SC H n ad s ∧ s.taken.length = n ∧ 1 ≤ n ∧ n ≤ 60 ∧ s.row.length ≤ 100000 ∧
  ∀ (t : Addr) (m : Nat) (H' : Hp), H t = none → H' t = some (.tup ((s.row.take m).map eV)) → n / 2 + 1 ≤ (s.taken.filter fun t => decide (m ≤ t)).length → (s.taken.filter fun t => decide (m < t)).length < n / 2 + 1 → Same H H' → Q (.ref t) H'
theorem scSSettled : FnScope ["self", "counts"] ["self"] (defScope sSSettled) := ⟨rfl, rfl, rfl, by decide +kernel, rfl, by decide +kernel, by decide +kernel⟩
theorem ok_ssettled {f fm : Addr} {fd fdm : FuncData} (F : Fun K "settled" "Sequencer.settled" sSSettled f fd) (T : Txt K mg RC KC SC CC) (DM' : DF K mg "most_of" sMost ["many"] fm fdm) : FnOk P w K mg base CX0 2 f fd ["self"] (spSSettled SC) := by
  have GM : FnOk P w K mg base CX0 1 fm fdm ["many"] spMost := ok_most DM'.F
  refine F.ok scSSettled (fun vs H Q E h => ?_) (fun cdv A outer s H vs Q E hr h => ?_)
  · obtain ⟨n, ad, s, rfl, _⟩ := h
    rfl
  · obtain ⟨n, ad, s, rfl, SA, htl, hn1, hn, hz, k⟩ := h
    obtain ⟨⟨dx, h1⟩, ⟨kvs, h2, h3⟩, h4, h5⟩ := id SA
    refine ⟨_, pss_cons (ps_set (i := 1) scSSettled.nd rfl (Or.inl rfl) (pe_callB cr_sorted (by rfl) T.sorted (by decide +kernel) (pa_cons (K40V.pe_listVals rfl (pe_fld (pv 0) rfl) (by rfl) T.list (by decide +kernel)) pa_nil)))
      (pss_one (ps_ret (pe_callTy call_tuple_of (by rfl) T.tuple (by decide +kernel) (pa_cons (pe_slice sl_list (pe_fld (pv 0) rfl) po_none (po_some (pe_ix ix_list (pv 1)
        (pe_op op_sub (pe_fld (pv 0) rfl) (pe_call GM hr rfl DM'.g DM'.F.kp DM'.b .nil pass0 (pa_cons (pe_fld (pv 0) rfl) pa_nil))) (fun _ _ => rfl)))) pa_nil)))), ?_⟩
    refine ⟨_, rfl, ad.a, SC, dx, _, _, rfl, h1, T.clS, T.nSt, rfl, ad.td, _, rfl, h5, fun l hl => ?_⟩
    rw [tkF_vals]
    have s1 : Same H (upd H l (.lst ((s.taken.map (fun m : Nat => (m : Int))).map V.int))) := Same.new hl
    refine ⟨l, s.taken.map (fun m : Nat => (m : Int)), rfl, SqL.of upd_same, by rw [List.length_map]; omega, fun c q hperm hsort hq => ?_⟩
    have s2 : Same H (upd (upd H l (.lst ((s.taken.map (fun m : Nat => (m : Int))).map V.int))) q (.lst (c.map V.int))) := s1.trans (Same.new hq)
    have hq2 : (upd (upd H l (.lst ((s.taken.map (fun m : Nat => (m : Int))).map V.int))) q (.lst (c.map V.int))) q = some (.lst (c.map V.int)) := upd_same
    generalize upd (upd H l (.lst ((s.taken.map (fun m : Nat => (m : Int))).map V.int))) q (.lst (c.map V.int)) = H2 at s2 hq2
    have hcl : c.length = n := by rw [hperm.length_eq, List.length_map, htl]
    obtain ⟨m', hm'⟩ : ∃ m', c[n - (n / 2 + 1)]? = some m' := ⟨_, List.getElem?_eq_getElem (by omega : n - (n / 2 + 1) < c.length)⟩
    have hmem : m' ∈ s.taken.map (fun m : Nat => (m : Int)) := hperm.mem_iff.mp (List.mem_of_getElem? hm')
    obtain ⟨m, hm, rfl⟩ := List.mem_map.mp hmem
    have h12 := s2 _ _ h1
    refine ⟨_, rfl, ad.a, SC, dx, _, _, rfl, h12, T.clS, T.nSr, rfl, _, rfl, _, rfl, ad.a, SC, dx, _, _, rfl, h12, T.clS, T.nSm, rfl, _, rfl, ad.a, SC, dx, _, _, rfl, h12, T.clS, T.nSm, rfl, n, rfl, _, _, rfl, rfl, q, _, _, _, rfl, rfl, SqL.of hq2, at_of (j := n - (n / 2 + 1)) (by omega) (by rw [List.getElem?_map, hm']; rfl), _, rfl, ad.rl, _, rfl, SqL.of (s2 _ _ h4), fun u hu => ?_⟩
    have s3 : Same H2 (upd H2 u (.lst (cutV (s.row.map eV) none (some ((m : Nat) : Int))))) := Same.new hu
    refine ⟨u, _, rfl, .inl ⟨SqL.of upd_same, fun t ht => ?_⟩⟩
    have s23 := s2.trans (s3.trans (Same.new (o := .tup (cutV (s.row.map eV) none (some ((m : Nat) : Int)))) ht))
    refine k t m _ ((s2.trans s3).free ht) ?_ ?_ ?_ s23
    · rw [upd_same]
      have : cutV (s.row.map eV) none (some ((m : Nat) : Int)) = (s.row.take m).map eV := by
        unfold cutV
        rw [HT.sIx_nat, HT.sIx_none]
        simp [List.map_take]
      rw [this]
    · have h6 := sorted_most hsort hm'
      rw [hcl] at h6
      have h7 : (c.filter fun t => decide (((m : Nat) : Int) ≤ t)).length = (s.taken.filter fun t => decide (m ≤ t)).length := by
        rw [(hperm.filter _).length_eq, List.filter_map, List.length_map]
        congr 1
        apply List.filter_congr
        intro x _
        simp
      omega
    · have h6 := sorted_over hsort hm'
      have h7 : (c.filter fun t => decide (((m : Nat) : Int) < t)).length = (s.taken.filter fun t => decide (m < t)).length := by
        rw [(hperm.filter _).length_eq, List.filter_map, List.length_map]
        congr 1
        apply List.filter_congr
        intro x _
        simp
      omega
end
end K40
/-! Sequencers: to_send. -/
namespace K40
open PySem L2 Mc
section
variable {P : Program} {w : World} {K : PySem.W.Frag} {mg : Str → Option Value} {base : Heap} {RC KC SC CC : Addr}
theorem rows_has {H : Hp} {kvs : List (Key × V)} {rows : List (Nat × Row Ent)} (k : Nat) (hp : Paired (RowKv H) kvs rows) : (valV kvs (Sum.inl ((k : Nat) : Int))).isSome = (rows.map (·.1)).contains k := by
  rcases rows_val k hp with ⟨h1, h2⟩ | ⟨v, row, h1, h2, h3⟩
  · rw [h2]
    simp only [Option.isSome_none]
    exact (by simpa using h1 : (rows.map (·.1)).contains k = false).symm
  · rw [h2]
    simp only [Option.isSome_some]
    exact (by
      rw [List.contains_iff_mem]
      exact List.mem_map.mpr ⟨(k, row), h1, rfl⟩ : (rows.map (·.1)).contains k = true).symm
theorem filterMap_range {α : Type} (f : Nat → Option α) (i : Nat) : (List.range (i + 1)).filterMap f = (List.range i).filterMap f ++ (match f i with | some y => [y] | none => []) := by
  rw [List.range_succ, List.filterMap_append]
  congr 1
  simp [List.filterMap_cons]
  cases f i <;> rfl
def spSend (SC : Addr) : Sp := fun vs H Q _ => ∃ (n : Nat) (ad : SqAd) (s : Sq Ent), vs = [.ref ad.a] ∧ SqAt SC H n ad s ∧ s.taken.length = n ∧ n ≤ 60 ∧ s.row.length ≤ 100000 ∧
  ∀ (t : Addr) (ts : List V) (H' : Hp), H t = none → H' t = some (.tup ts) → Paired (LetA H') ts (toSend n s) → Same H H' → Q (.ref t) H'
abbrev nSend : List Str := ["self", "number", "found", "place"]
theorem scSend : FnScope nSend ["self"] (defScope sSSend) := ⟨rfl, rfl, rfl, by decide +kernel, rfl, by decide +kernel, by decide +kernel⟩
theorem ok_send {f : Addr} {fd : FuncData} (F : Fun K "to_send" "Sequencer.to_send" sSSend f fd) (T : Txt K mg RC KC SC CC) : FnOk P w K mg base CX0 1 f fd ["self"] (spSend SC) := by
  obtain ⟨ta, hta⟩ := T.asking
  obtain ⟨tl, htl⟩ := T.leading
  refine F.ok scSend (fun vs H Q E h => ?_) (fun cdv A outer s H vs Q E hr h => ?_)
  · obtain ⟨n, ad, s, rfl, _⟩ := h
    rfl
  · obtain ⟨n, ad, s, rfl, SA, hn, hn6, hz, k⟩ := h
    obtain ⟨⟨dx, h1⟩, ⟨kvs, h2, h3⟩, h4, h5⟩ := id SA
    have sLine : sizeLine = 2 ^ 24 := rfl
    refine ⟨_, pss_cons (ps_if (pt_cmpR op_eq (pe_fld (pv 0) rfl) (pe_glob (v := .str "asking") rfl hta ⟨_, rfl⟩) (nomark _))
        (pss_one (ps_ret (pe_callTy call_tuple_of (by rfl) T.tuple (by decide +kernel) (pa_cons
          (pe_lc (own := [("number", 1)]) (g := gName 1) (tt := tB (tDNotIn (tVar 1) (tFld K (tVar 0) "rows"))) (te := tTup (tCons (tC (.str "ask")) (tCons (tFld K (tVar 0) "epoch") (tCons (tVar 1) tNil)))) rfl scSend.nd
            (pi_range1 (by rfl) T.range (pa_cons (pe_fld (pv 0) rfl) pa_nil)) (blkOk_by (own := [("number", 1)]) (N := nSend) (sc := defScope sSSend) (by decide +kernel))
            (fun _ _ _ _ _ => pg_name (i := 1) scSend.nd rfl (Or.inl rfl)) (fun _ _ _ _ _ => pts_one (pt_cmp (pc_dnotin (hu_of hr) (pv 1) (pe_fld (pv 0) rfl)))) (fun _ _ _ _ _ => pe_tup (pa_cons pe_str (pa_cons (pe_fld (pv 0) rfl) (pa_cons (pv 1) pa_nil))))) pa_nil)))) pss_nil)
      (pss_cons (ps_set (i := 2) scSend.nd rfl (Or.inl rfl) (pe_lst pa_nil))
      (pss_cons (ps_if (pt_cmpR op_eq (pe_fld (pv 0) rfl) (pe_glob (v := .str "leading") rfl htl ⟨_, rfl⟩) (nomark _))
        (pss_one (ps_for PassesOwn.never rfl (pi_range1 (by rfl) T.range (pa_cons (pe_fld (pv 0) rfl) pa_nil)) (pg_name (i := 1) scSend.nd rfl (Or.inl rfl))
          (pss_cons (ps_set (i := 3) scSend.nd rfl (Or.inl rfl) (pe_dget (hu_of hr) (pe_fld (pv 0) rfl) (pv 1) (fun _ _ => rfl)))
          (pss_one (ps_if (pt_cmpR op_lt (pv 3) (pe_callB call_len_seq (by rfl) T.len PySem.boot_len (pa_cons (pe_fld (pv 0) rfl) pa_nil)) (nomark _))
            (pss_one (ps_expr (pe_bm PySem.F.plainAttrs_list PySem.F.slot_list_append PySem.F.type_list_append mt_append (pv 2)
              (pa_cons (pe_tup (pa_cons pe_str (pa_cons (pe_fld (pv 0) rfl) (pa_cons (pv 1) (pa_cons (pv 3) (pa_cons (pe_ix ix_list (pe_fld (pv 0) rfl) (pv 3) (fun _ _ => rfl)) pa_nil)))))) pa_nil)))) pss_nil))))) pss_nil)
      (pss_one (ps_ret (pe_callTy call_tuple_of (by rfl) T.tuple (by decide +kernel) (pa_cons (pv 2) pa_nil)))))), ?_⟩
    refine ⟨_, rfl, ad.a, SC, dx, _, _, rfl, h1, T.clS, T.nSs, rfl, rfl, _, rfl, ?_⟩
    have e1 : decide (V.str (standS s.stand) = V.str ("asking" : Str)) = decide (s.stand = .asking) := stand_eq s.stand .asking
    rw [e1]
    refine ite2 (fun hs => ?_) (fun hs => ?_)
    · have hs' : s.stand = .asking := of_decide_eq_true hs
      refine ⟨_, rfl, ad.a, SC, dx, _, _, rfl, h1, T.clS, T.nSm, rfl, _, rfl, by omega, by omega, fun D hD => lc_range (lo := 0) (n := ((n : Nat) : Int).toNat)
        (fun i H' => Same H H' ∧ ∃ ws, H' D = some (.lst ws) ∧ Paired (LetA H') ws (((List.range i).filter (fun k => !(s.rows.map (·.1)).contains k)).map (fun k => Letter.ask s.epoch k))) ⟨Same.new hD, [], upd_same, .nil⟩ (fun i H' hi pw => ⟨rfl, ?_⟩) (fun H2 pw => ?_)⟩
      · obtain ⟨sw, ws, hD', hpw⟩ := pw
        have e0 : (0 : Int) + (i : Int) = ((i : Nat) : Int) := Int.zero_add _
        rw [e0]
        have h1' := sw _ _ h1
        have h2' := sw _ _ h2
        refine ⟨_, rfl, _, rfl, ad.a, SC, dx, _, _, rfl, h1', T.clS, T.nSo, rfl, ad.rd, _, rfl, DGet.k (k := Sum.inl ((i : Nat) : Int)) h2', _, rfl, ?_⟩
        rw [rows_has i h3]
        have er : (List.range (i + 1)).filter (fun k => !(s.rows.map (·.1)).contains k) = (List.range i).filter (fun k => !(s.rows.map (·.1)).contains k) ++ (if (!(s.rows.map (·.1)).contains i) = true then [i] else []) := by
          rw [List.range_succ, List.filter_append]
          congr 1
          rw [List.filter_cons]
          rfl
        refine ite2 (fun hc => ?_) (fun hc => ?_)
        · refine ⟨_, rfl, ad.a, SC, dx, _, _, rfl, h1', T.clS, T.nSe, rfl, _, rfl, (by show 3 ≤ sizeLine; decide), fun t ht => ?_⟩
          have st : Same H' (upd H' t (.tup [.str "ask", .int s.epoch, .int ((i : Nat) : Int)])) := Same.new ht
          have hDt := st _ _ hD'
          refine ⟨ws, hDt, ?_, Same.upd (sw.trans st) hD, ws ++ [.ref t], upd_same, ?_⟩
          · rw [hpw.length, List.length_map]
            have := List.length_filter_le (fun k => !(s.rows.map (·.1)).contains k) (List.range i)
            rw [List.length_range] at this
            omega
          · rw [er, if_pos hc, List.map_append]
            have tx : TupX H' (upd (upd H' t (.tup [.str "ask", .int s.epoch, .int ((i : Nat) : Int)])) D (.lst (ws ++ [.ref t]))) := fun c ys z => by
              rw [upd_ne (ne_of (st _ _ z) hDt (by intro q; cases q))]
              exact st _ _ z
            refine paired_app (paired_imp (fun _ _ => LetA.mono tx) hpw) (.cons ⟨t, rfl, ?_⟩ .nil)
            rw [upd_ne (ne_of (upd_same (H := H') (a := t)) hDt (by intro q; cases q)), upd_same]
        · refine ⟨sw, ws, hD', ?_⟩
          rw [er, if_neg hc, List.append_nil]
          exact hpw
      · obtain ⟨s2, ws, hD2, hpw⟩ := pw
        refine ⟨D, ws, rfl, .inl ⟨SqL.of hD2, fun t ht => ?_⟩⟩
        have s3 : Same H2 (upd H2 t (.tup ws)) := Same.new ht
        refine k t ws _ (s2.free ht) upd_same ?_ (s2.trans s3)
        unfold toSend
        rw [hs']
        exact paired_imp (fun _ _ => LetA.mono (TupX.of s3)) hpw
    · have hs' : ¬ s.stand = .asking := fun z => hs (decide_eq_true z)
      refine ⟨(by show 0 ≤ sizeLine; decide), fun D hD => ?_⟩
      have sD : Same H (upd H D (.lst [])) := Same.new hD
      have hD1 : (upd H D (.lst [])) D = some (.lst []) := upd_same
      generalize upd H D (.lst []) = H1 at sD hD1
      refine ⟨_, rfl, ad.a, SC, dx, _, _, rfl, sD _ _ h1, T.clS, T.nSs, rfl, rfl, _, rfl, ?_⟩
      have e2 : decide (V.str (standS s.stand) = V.str ("leading" : Str)) = decide (s.stand = .leading) := stand_eq s.stand .leading
      rw [e2]
      refine ite2 (fun hl => ?_) (fun hl => ?_)
      · have hl' : s.stand = .leading := of_decide_eq_true hl
        refine ⟨_, rfl, ad.a, SC, dx, _, _, rfl, sD _ _ h1, T.clS, T.nSm, rfl, _, rfl, by omega, by omega, for_range (lo := 0) (n := ((n : Nat) : Int).toNat)
          (fun i σ H' => ∃ v1 v3 : Option V, σ = [some (.ref ad.a), v1, some (.ref D), v3] ∧ Same H H' ∧ ∃ ws, H' D = some (.lst ws) ∧ Paired (LetA H') ws ((List.range i).filterMap (wr s))) ⟨none, none, rfl, sD, [], hD1, .nil⟩ ?_ ?_⟩
        · rintro i σ H' hi ⟨v1, v3, rfl, sw, ws, hD', hpw⟩
          have e0 : (0 : Int) + (i : Int) = ((i : Nat) : Int) := Int.zero_add _
          rw [e0]
          have hi' : i < s.taken.length := by omega
          have ht : s.taken[i]? = some s.taken[i] := List.getElem?_eq_getElem hi'
          have h1' := sw _ _ h1
          have h4' := sw _ _ h4
          have hwl : ws.length ≤ i := by
            rw [hpw.length]
            have := List.length_filterMap_le (wr s) (List.range i)
            rw [List.length_range] at this
            exact this
          have er := filterMap_range (wr s) i
          refine ⟨_, rfl, ad.a, SC, dx, _, _, rfl, h1', T.clS, T.nSt, rfl, _, rfl, ad.td, V.int ((s.taken[i] : Nat) : Int), rfl, ?_, ?_⟩
          · have := DGet.k (k := Sum.inl ((i : Nat) : Int)) (sw _ _ h5)
            rw [tkF_val0, ht] at this
            exact this
          refine ⟨_, rfl, _, rfl, ad.a, SC, dx, _, _, rfl, h1', T.clS, T.nSr, rfl, ad.rl, _, rfl, .inl (SqL.of h4'), _, _, rfl, rfl, _, rfl, ite2 (fun hlt => ?_) (fun hlt => ?_)⟩
          · have hlt' : s.taken[i] < s.row.length := by
              have := of_decide_eq_true hlt
              rw [List.length_map] at this
              omega
            have hx : s.row[s.taken[i]]? = some s.row[s.taken[i]] := List.getElem?_eq_getElem hlt'
            refine ⟨_, rfl, .inl ⟨rfl, _, .inl (.inl hD')⟩, _, rfl, ad.a, SC, dx, _, _, rfl, h1', T.clS, T.nSe, rfl, _, rfl, _, rfl, _, rfl, ad.a, SC, dx, _, _, rfl, h1', T.clS, T.nSr, rfl, _, rfl, ad.rl, _, _, _, rfl, rfl, SqL.of h4', atI_nat (by rw [List.getElem?_map, hx]; rfl), (by show 5 ≤ sizeLine; decide), fun t ht2 => ?_⟩
            have st : Same H' (upd H' t (.tup [.str "write", .int s.epoch, .int ((i : Nat) : Int), .int ((s.taken[i] : Nat) : Int), eV s.row[s.taken[i]]])) := Same.new ht2
            have hDt := st _ _ hD'
            refine ⟨D, ws, _, rfl, rfl, hDt, by omega, _, _, rfl, Same.upd (sw.trans st) hD, ws ++ [.ref t], upd_same, ?_⟩
            have hw : wr s i = some (Letter.write s.epoch i s.taken[i] s.row[s.taken[i]]) := by
              unfold wr
              simp only [ht, hx]
            rw [er, hw]
            have tx : TupX H' (upd (upd H' t (.tup [.str "write", .int s.epoch, .int ((i : Nat) : Int), .int ((s.taken[i] : Nat) : Int), eV s.row[s.taken[i]]])) D (.lst (ws ++ [.ref t]))) := fun c ys z => by
              rw [upd_ne (ne_of (st _ _ z) hDt (by intro q; cases q))]
              exact st _ _ z
            refine paired_app (paired_imp (fun _ _ => LetA.mono tx) hpw) (.cons ⟨t, rfl, ?_⟩ .nil)
            rw [upd_ne (ne_of (upd_same (H := H') (a := t)) hDt (by intro q; cases q)), upd_same]
          · have hlt' : s.row[s.taken[i]]? = none := by
              rw [List.getElem?_eq_none]
              apply Nat.le_of_not_lt
              intro z
              apply hlt
              apply decide_eq_true
              rw [List.length_map]
              omega
            refine ⟨_, _, rfl, sw, ws, hD', ?_⟩
            have hw : wr s i = none := by
              unfold wr
              simp only [ht, hlt']
            rw [er, hw]
            simp only [List.append_nil]
            exact hpw
        · rintro σ H' ⟨v1, v3, rfl, sw, ws, hD', hpw⟩
          refine ⟨_, rfl, D, ws, rfl, .inl ⟨SqL.of hD', fun t ht => ?_⟩⟩
          have s3 : Same H' (upd H' t (.tup ws)) := Same.new ht
          refine k t ws _ (sw.free ht) upd_same ?_ (sw.trans s3)
          unfold toSend
          rw [hl']
          rw [Int.toNat_natCast] at hpw
          exact paired_imp (fun _ _ => LetA.mono (TupX.of s3)) hpw
      · have hl' : ¬ s.stand = .leading := fun z => hl (decide_eq_true z)
        have hst : s.stand = .stopped := by
          cases q : s.stand with
          | asking => exact absurd q hs'
          | leading => exact absurd q hl'
          | stopped => rfl
        refine ⟨_, rfl, D, [], rfl, .inl ⟨SqL.of hD1, fun t ht => ?_⟩⟩
        refine k t [] _ (sD.free ht) upd_same ?_ (sD.trans (Same.new ht))
        unfold toSend
        rw [hst]
        exact .nil
end
end K40
/-! Sequencers: hear. -/
namespace K40
open PySem L2 Mc
section
variable {P : Program} {w : World} {K : PySem.W.Frag} {mg : Str → Option Value} {base : Heap} {RC KC SC CC : Addr}
def rowLen : Letter Ent → Nat
  | .told _ _ row => row.length
  | _ => 0
def spHear (SC : Addr) : Sp := fun vs H Q _ => ∃ (n : Nat) (ad : SqAd) (s : Sq Ent) (v : V) (l : Letter Ent), vs = [.ref ad.a, v] ∧ SqAt SC H n ad s ∧ LetA H v l ∧ l.isReq = false ∧ l.num < n ∧ s.taken.length = n ∧ n ≤ 60 ∧
  (s.rows.map (·.1)).Nodup ∧ (∀ q ∈ s.rows, q.1 < n ∧ q.2.length ≤ 100000) ∧ rowLen l ≤ 100000 ∧ ad.rd ≠ ad.td ∧
  ∀ (rl' : Addr) (s' : Sq Ent) (H' : Hp), (rl' = ad.rl ∨ H rl' = none) → Hear n s l s' → SqAt SC H' n ⟨ad.a, ad.rd, rl', ad.td⟩ s' → But [ad.a, ad.rd, ad.td] H H' → Q .non H'
abbrev nHear : List Str := ["self", "letter", "number"]
theorem scHear : FnScope nHear ["self", "letter"] (defScope sSHear) := ⟨rfl, rfl, rfl, by decide +kernel, rfl, by decide +kernel, by decide +kernel⟩
theorem nd_len : ∀ (n : Nat) (l : List Nat), l.Nodup → (∀ k ∈ l, k < n) → l.length ≤ n := by
  intro n l h1 h2
  have := meet_aux (fun _ => false) n l h1 (fun k hk => ⟨h2 k hk, rfl⟩)
  omega
theorem putRow_len (rows : List (Nat × Row Ent)) (k : Nat) (row : Row Ent) : (putRow rows k row).length ≤ rows.length + 1 := by
  unfold putRow
  split <;> simp
theorem ok_hear {f fm fn : Addr} {fd fdm fdn : FuncData} (F : Fun K "hear" "Sequencer.hear" sSHear f fd) (T : Txt K mg RC KC SC CC) (DM' : DF K mg "most_of" sMost ["many"] fm fdm) (DN : DF K mg "newest_row" sNewest ["rows"] fn fdn) :
    FnOk P w K mg base CX0 2 f fd ["self", "letter"] (spHear SC) := by
  obtain ⟨ta, hta⟩ := T.asking
  obtain ⟨tl, htl⟩ := T.leading
  obtain ⟨ts, hts⟩ := T.stopped
  have GM : FnOk P w K mg base CX0 1 fm fdm ["many"] spMost := ok_most DM'.F
  have GN : FnOk P w K mg base CX0 1 fn fdn ["rows"] spNewest := ok_newest DN.F T
  refine F.ok scHear (fun vs H Q E h => ?_) (fun cdv A outer s0 H vs Q E hr h => ?_)
  · obtain ⟨n, ad, s, v, l, rfl, _⟩ := h
    rfl
  · obtain ⟨n, ad, s, v, l, rfl, SA, hv, hq, hnum, htk, hn6, hnd, hrows, hrl, hne, k⟩ := h
    obtain ⟨⟨dx, h1⟩, ⟨kvs, h2, h3⟩, h4, h5⟩ := id SA
    have sLine : sizeLine = 2 ^ 24 := rfl
    have hkl : kvs.length = s.rows.length := h3.length
    have hrn : s.rows.length ≤ n := by
      have := nd_len n (s.rows.map (·.1)) hnd (fun k hk => by
        obtain ⟨q, hq, rfl⟩ := List.mem_map.mp hk
        exact (hrows q hq).1)
      rw [List.length_map] at this
      exact this
    refine ⟨_, pss_cons (ps_if (PW.pt (pw_or (pt_cmpR op_ne (pe_ix ix_tup (pv 1) pe_int (fun _ _ => rfl)) (pe_fld (pv 0) rfl) (nomark _)) (pw_or1 (pt_cmpR op_eq (pe_fld (pv 0) rfl) (pe_glob (v := .str "stopped") rfl hts ⟨_, rfl⟩) (nomark _))))) (pss_one ps_retN) pss_nil)
      (pss_one (ps_if (pt_cmpR op_eq (pe_ix ix_tup (pv 1) pe_int (fun _ _ => rfl)) pe_str (nomark _))
        (pss_one (ps_fld (pv 0) (pe_glob (v := .str "stopped") rfl hts ⟨_, rfl⟩) rfl))
        (pss_one (ps_if (PW.pt (pw_and (pt_cmpR op_eq (pe_ix ix_tup (pv 1) pe_int (fun _ _ => rfl)) pe_str (nomark _)) (pw_and1 (pt_cmpR op_eq (pe_fld (pv 0) rfl) (pe_glob (v := .str "asking") rfl hta ⟨_, rfl⟩) (nomark _)))))
          (pss_cons (ps_dput (hu_of hr) (pe_fld (pv 0) rfl) (pe_ix ix_tup (pv 1) pe_int (fun _ _ => rfl)) (pe_ix ix_tup (pv 1) pe_int (fun _ _ => rfl)) rfl)
            (pss_one (ps_if (pt_cmpR op_ge (pe_callB call_lenD (by rfl) T.len PySem.boot_len (pa_cons (pe_fld (pv 0) rfl) pa_nil)) (pe_call GM hr rfl DM'.g DM'.F.kp DM'.b .nil pass0 (pa_cons (pe_fld (pv 0) rfl) pa_nil)) (nomark _))
              (pss_cons (ps_fld (pv 0) (pe_call GN hr rfl DN.g DN.F.kp DN.b .nil pass0 (pa_cons
                  (pe_lc (own := [("number", 2)]) (g := gName 2) (tt := tYes) (te := tDGet (tFld K (tVar 0) "rows") (tVar 2)) rfl scHear.nd
                    (pi_list (pe_callB cr_sorted (by rfl) T.sorted (by decide +kernel) (pa_cons (pe_callTy (call_list_dK rfl) (by rfl) T.list (by decide +kernel) (pa_cons (pe_fld (pv 0) rfl) pa_nil)) pa_nil)))
                    (blkOk_by (own := [("number", 2)]) (N := nHear) (sc := defScope sSHear) (by decide +kernel))
                    (fun _ _ _ _ _ => pg_name (i := 2) scHear.nd rfl (Or.inl rfl)) (fun _ _ _ _ _ => pts_nil) (fun _ _ _ _ _ => pe_dget (hu_of hr) (pe_fld (pv 0) rfl) (pv 2) (fun _ _ => rfl))) pa_nil)) rfl)
                (pss_one (ps_fld (pv 0) (pe_glob (v := .str "leading") rfl htl ⟨_, rfl⟩) rfl))) pss_nil)))
          (pss_one (ps_if (PW.pt (pw_and (pt_cmpR op_eq (pe_ix ix_tup (pv 1) pe_int (fun _ _ => rfl)) pe_str (nomark _)) (pw_and (pt_cmpR op_eq (pe_fld (pv 0) rfl) (pe_glob (v := .str "leading") rfl htl ⟨_, rfl⟩) (nomark _))
              (pw_and1 (pt_cmpR op_eq (pe_ix ix_tup (pv 1) pe_int (fun _ _ => rfl)) (pe_dget (hu_of hr) (pe_fld (pv 0) rfl) (pe_ix ix_tup (pv 1) pe_int (fun _ _ => rfl)) (fun _ _ => rfl)) (nomark _))))))
            (pss_one (ps_daug (hu_of hr) (pe_fld (pv 0) rfl) (pe_ix ix_tup (pv 1) pe_int (fun _ _ => rfl)) pe_int in_add (fun _ _ _ => rfl))) pss_nil)))))), ?_⟩
    -- the letter's tuple
    obtain ⟨b, its, rfl, hb, he, h0⟩ : ∃ b its, v = .ref b ∧ H b = some (.tup its) ∧ atI its 1 = some (.int l.epoch) ∧ atI its 0 = some (.str (match l with | .refused _ _ _ => "refused" | .told _ _ _ => "told" | _ => "taken")) := by
      cases l with
      | ask e k' => cases hq
      | write e k' p x => cases hq
      | refused e k' ke => obtain ⟨b, e1, e2⟩ := hv; exact ⟨b, _, e1, e2, rfl, rfl⟩
      | told e k' row => obtain ⟨b, c, e1, e2, _⟩ := hv; exact ⟨b, _, e1, e2, rfl, rfl⟩
      | taken e k' p => obtain ⟨b, e1, e2⟩ := hv; exact ⟨b, _, e1, e2, rfl, rfl⟩
    have nothing : ∀ H' : Hp, H' = H → Hear n s l s → Q .non H' := by
      rintro H' rfl hh
      exact k ad.rl s H' (.inl rfl) hh SA (But.refl _ _)
    have stS : decide (V.str (standS s.stand) = V.str ("stopped" : Str)) = decide (s.stand = .stopped) := stand_eq s.stand .stopped
    have stA : decide (V.str (standS s.stand) = V.str ("asking" : Str)) = decide (s.stand = .asking) := stand_eq s.stand .asking
    have stL : decide (V.str (standS s.stand) = V.str ("leading" : Str)) = decide (s.stand = .leading) := stand_eq s.stand .leading
    refine ⟨_, rfl, b, _, _, _, rfl, rfl, SqT.of hb, he, _, rfl, ad.a, SC, dx, _, _, rfl, h1, T.clS, T.nSe, rfl, rfl, _, rfl, ite2 (fun hep => ?_) (fun hep => ?_)⟩
    · have hep' : l.epoch ≠ s.epoch := by
        intro z
        rw [z] at hep
        simp at hep
      refine iteT ?_
      exact nothing H rfl (by unfold Hear; rw [if_pos (Or.inl hep')])
    have hep' : l.epoch = s.epoch := by
      by_cases z : l.epoch = s.epoch
      · exact z
      · exfalso
        apply hep
        rw [decide_eq_false (fun q => z (V.int.inj q))]
        rfl
    refine ⟨_, rfl, ad.a, SC, dx, _, _, rfl, h1, T.clS, T.nSs, rfl, rfl, _, rfl, ?_⟩
    rw [stS]
    refine ite2 (fun hst => ?_) (fun hst => ?_)
    · have hst' : s.stand = .stopped := of_decide_eq_true hst
      exact nothing H rfl (by unfold Hear; rw [if_pos (Or.inr hst')])
    have hst' : ¬ s.stand = .stopped := fun z => hst (decide_eq_true z)
    have hgo : ¬ (l.epoch ≠ s.epoch ∨ s.stand = .stopped) := by
      rintro (z | z)
      · exact z hep'
      · exact hst' z
    refine ⟨_, rfl, b, _, _, _, rfl, rfl, SqT.of hb, h0, rfl, _, rfl, ?_⟩
    cases l with
    | ask e k' => cases hq
    | write e k' p x => cases hq
    | refused e k' ke =>
      refine iteT ?_
      refine ⟨_, rfl, ad.a, SC, dx, _, rfl, h1, T.clS, T.nSs, (by show 6 < 1000; decide), ?_⟩
      have tx : TupX H (upd H ad.a (.ins SC dx (sf s.epoch n .stopped ad.rd ad.rl ad.td))) := fun c ys z => by rw [upd_ne (ne_of z h1 (by intro q; cases q))]; exact z
      refine k ad.rl { s with stand := .stopped } _ (.inl rfl) (by unfold Hear; rw [if_neg hgo]) ⟨⟨dx, upd_same⟩, ⟨kvs, ?_, paired_imp (fun _ _ => RowKv.mono tx) h3⟩, ?_, ?_⟩ ((But.refl _ H).upd (.inl (by simp)))
      · rw [upd_ne (ne_of h2 h1 (by intro q; cases q))]; exact h2
      · rw [upd_ne (ne_of h4 h1 (by intro q; cases q))]; exact h4
      · rw [upd_ne (ne_of h5 h1 (by intro q; cases q))]; exact h5
    | told e k' row =>
      obtain ⟨b', c', ee, hb', hrow⟩ := hv
      cases ee
      rw [hb] at hb'
      cases hb'
      refine iteF ?_
      refine ⟨_, rfl, b, _, _, _, rfl, rfl, SqT.of hb, rfl, rfl, _, rfl, iteT ?_⟩
      refine ⟨_, rfl, ad.a, SC, dx, _, _, rfl, h1, T.clS, T.nSs, rfl, rfl, _, rfl, ?_⟩
      rw [stA]
      refine ite2 (fun hA => ?_) (fun hA => ?_)
      · have hA' : s.stand = .asking := of_decide_eq_true hA
        -- the row is kept
        refine ⟨_, rfl, b, _, _, _, rfl, rfl, SqT.of hb, rfl, _, rfl, ad.a, SC, dx, _, _, rfl, h1, T.clS, T.nSo, rfl, _, rfl, b, _, _, _, rfl, rfl, SqT.of hb, rfl, ad.rd, _, rfl, DPut.k (k := Sum.inl ((k' : Nat) : Int)) h2 (by omega), ?_⟩
        generalize hH1 : upd H ad.rd (.dK (putK kvs (Sum.inl ((k' : Nat) : Int)) (.ref c'))) = H1
        have tx1 : TupX H H1 := fun c ys z => by rw [← hH1, upd_ne (ne_of z h2 (by intro q; cases q))]; exact z
        have b1 : But [ad.a, ad.rd, ad.td] H H1 := by rw [← hH1]; exact (But.refl _ H).upd (.inl (by simp))
        have g1 : H1 ad.a = some (.ins SC dx (sf s.epoch n s.stand ad.rd ad.rl ad.td)) := by rw [← hH1, upd_ne (ne_of h1 h2 (by intro q; cases q))]; exact h1
        have g4 : H1 ad.rl = some (.lst (s.row.map eV)) := by rw [← hH1, upd_ne (ne_of h4 h2 (by intro q; cases q))]; exact h4
        have g5 : H1 ad.td = some (.dK (tkF 0 s.taken)) := by rw [← hH1, upd_ne hne.symm]; exact h5
        have g2 : H1 ad.rd = some (.dK (putK kvs (Sum.inl ((k' : Nat) : Int)) (.ref c'))) := by rw [← hH1]; exact upd_same
        have g3 : Paired (RowKv H1) (putK kvs (Sum.inl ((k' : Nat) : Int)) (.ref c')) (putRow s.rows k' row) := rows_put k' (paired_imp (fun _ _ => RowKv.mono tx1) h3) (hrow.mono tx1)
        have gl : (putK kvs (Sum.inl ((k' : Nat) : Int)) (.ref c')).length = (putRow s.rows k' row).length := g3.length
        have gnd := putRow_nodup (row := row) (k := k') hnd
        have gsz : ∀ q ∈ putRow s.rows k' row, q.1 < n ∧ q.2.length ≤ 100000 := by
          rintro ⟨q1, q2⟩ hq
          rcases putRow_mem hq with ⟨rfl, rfl⟩ | hq
          · exact ⟨hnum, hrl⟩
          · exact hrows _ hq
        have gn := putRow_len s.rows k' row
        generalize putK kvs (Sum.inl ((k' : Nat) : Int)) (.ref c') = kvs1 at g2 g3 gl
        refine ⟨_, rfl, ad.a, SC, dx, _, _, rfl, g1, T.clS, T.nSo, rfl, ad.rd, _, rfl, g2, _, rfl, ad.a, SC, dx, _, _, rfl, g1, T.clS, T.nSm, rfl, n, rfl, _, _, rfl, rfl, _, rfl, ?_⟩
        refine ite2 (fun hm => ?_) (fun hm => ?_)
        · have hm' : n / 2 + 1 ≤ (putRow s.rows k' row).length := by
            have := of_decide_eq_true hm
            omega
          -- the rows in turn
          refine ⟨_, rfl, ad.a, SC, dx, _, _, rfl, g1, T.clS, T.nSo, rfl, ad.rd, _, rfl, g2, fun l1 hl1 => ?_⟩
          rw [rows_keys g3]
          have s1 : Same H1 (upd H1 l1 (.lst (((putRow s.rows k' row).map (fun q : Nat × Row Ent => ((q.1 : Nat) : Int))).map V.int))) := Same.new hl1
          refine ⟨l1, _, rfl, SqL.of upd_same, by rw [List.length_map]; omega, fun c l2 hperm hsort hl2 => ?_⟩
          have s2 : Same H1 (upd (upd H1 l1 (.lst (((putRow s.rows k' row).map (fun q : Nat × Row Ent => ((q.1 : Nat) : Int))).map V.int))) l2 (.lst (c.map V.int))) := s1.trans (Same.new hl2)
          have hc2 : (upd (upd H1 l1 (.lst (((putRow s.rows k' row).map (fun q : Nat × Row Ent => ((q.1 : Nat) : Int))).map V.int))) l2 (.lst (c.map V.int))) l2 = some (.lst (c.map V.int)) := upd_same
          generalize upd (upd H1 l1 (.lst (((putRow s.rows k' row).map (fun q : Nat × Row Ent => ((q.1 : Nat) : Int))).map V.int))) l2 (.lst (c.map V.int)) = H2 at s2 hc2
          have hcl : c.length = (putRow s.rows k' row).length := by rw [hperm.length_eq, List.length_map]
          refine ⟨l2, rfl, ⟨_, SqL.of hc2⟩, fun D hD => lc_list (K := K) (a := l2) (xs := c.map V.int)
            (fun i H' => Same H2 H' ∧ ∃ (us : List V) (rws : List (Row Ent)), H' D = some (.lst us) ∧ Paired (RowA H') us rws ∧ us.length = i ∧ (∀ r ∈ rws, ∃ q, (q, r) ∈ putRow s.rows k' row) ∧ ∀ (q : Nat) (r : Row Ent), (q, r) ∈ putRow s.rows k' row → ((q : Nat) : Int) ∈ c.take i → r ∈ rws)
            ⟨Same.new hD, [], [], upd_same, .nil, rfl, by simp, by simp⟩ (fun i H' _ p => SqL.of (p.1 _ _ hc2)) (fun i y H' hi pw => ⟨rfl, ?_⟩) (fun H3 pw => ?_)⟩
          · obtain ⟨sw, us, rws, hD', hpw, hul, hw1, hw2⟩ := pw
            rw [List.getElem?_map] at hi
            obtain ⟨z, hz, rfl⟩ : ∃ z, c[i]? = some z ∧ y = V.int z := by
              cases e : c[i]? with
              | none => rw [e] at hi; cases hi
              | some z => rw [e] at hi; exact ⟨z, rfl, (Option.some.inj hi).symm⟩
            obtain ⟨⟨q0, r0⟩, hq0, rfl⟩ := List.mem_map.mp (hperm.mem_iff.mp (List.mem_of_getElem? hz))
            have s3 := s2.trans sw
            obtain ⟨v0, r1, hr1, hv1, hra⟩ : ∃ v0 r1, (q0, r1) ∈ putRow s.rows k' row ∧ valV kvs1 (Sum.inl ((q0 : Nat) : Int)) = some v0 ∧ RowA H1 v0 r1 := by
              rcases rows_val q0 g3 with ⟨z1, _⟩ | z
              · exact absurd (List.mem_map.mpr ⟨(q0, r0), hq0, rfl⟩) z1
              · exact z
            have hil : i < c.length := (List.getElem?_eq_some_iff.mp hz).1
            refine ⟨_, rfl, ad.a, SC, dx, _, _, rfl, s3 _ _ g1, T.clS, T.nSo, rfl, _, rfl, ad.rd, v0, rfl, ?_, us, hD', by omega, Same.upd sw hD, us ++ [v0], rws ++ [r1], upd_same, ?_, by simp [hul], ?_, ?_⟩
            · have := DGet.k (k := Sum.inl ((q0 : Nat) : Int)) (s3 _ _ g2)
              rw [hv1] at this
              exact this
            · have tx : TupX H' (upd H' D (.lst (us ++ [v0]))) := fun c ys z => by rw [upd_ne (ne_of z hD' (by intro q; cases q))]; exact z
              exact paired_app (paired_imp (fun _ _ => RowA.mono tx) hpw) (.cons ((hra.mono (TupX.of s3)).mono tx) .nil)
            · intro r hr
              rcases List.mem_append.mp hr with hr | hr
              · exact hw1 r hr
              · simp at hr
                subst hr
                exact ⟨q0, hr1⟩
            · intro q r hqr hqc
              rw [List.take_succ, hz] at hqc
              rcases List.mem_append.mp hqc with hqc | hqc
              · exact List.mem_append_left _ (hw2 q r hqr hqc)
              · have hqc : ((q : Nat) : Int) = ((q0 : Nat) : Int) := by simpa using hqc
                have hqc : q = q0 := by omega
                subst hqc
                have := one_key gnd hqr hr1
                subst this
                simp
          · obtain ⟨sw, us, rws, hD3, hpw, hul, hw1, hw2⟩ := pw
            have s3 := s2.trans sw
            have hmem : ∀ r, r ∈ (putRow s.rows k' row).map (·.2) ↔ r ∈ rws := by
              intro r
              constructor
              · intro hr
                obtain ⟨⟨q, r'⟩, hq, rfl⟩ := List.mem_map.mp hr
                refine hw2 q r' hq ?_
                rw [List.length_map, List.take_length]
                exact hperm.mem_iff.mpr (List.mem_map.mpr ⟨(q, r'), hq, rfl⟩)
              · intro hr
                obtain ⟨q, hq⟩ := hw1 r hr
                exact List.mem_map.mpr ⟨(q, r), hq, rfl⟩
            refine ⟨D, us, rws, rfl, hD3, hpw, ?_, ?_, fun l3 out H4 hl3 hout hnew hob hob2 s4 => ?_⟩
            · rw [← hpw.length, hul, List.length_map, hcl]
              omega
            · intro r hr
              obtain ⟨q, hq⟩ := hw1 r hr
              exact (gsz _ hq).2
            have s5 := s3.trans s4
            refine ⟨_, rfl, ad.a, SC, dx, _, rfl, s5 _ _ g1, T.clS, T.nSr, (by show 6 < 1000; decide), ?_⟩
            refine ⟨_, rfl, ad.a, SC, dx, _, rfl, upd_same, T.clS, T.nSs, (by show 6 < 1000; decide), ?_⟩
            have f3 : H l3 = none := by
              have z1 : H1 l3 = none := s3.free hl3
              rw [← hH1] at z1
              by_cases q : l3 = ad.rd
              · rw [q, upd_same] at z1; cases z1
              · rw [upd_ne q] at z1; exact z1
            have b5 : But [ad.a, ad.rd, ad.td] H H4 := fun c o z nn => s5 _ _ (b1 c o z nn)
            have ga4 : H4 ad.a = _ := s5 _ _ g1
            have tx4 : TupX H1 (upd (upd H4 ad.a (.ins SC dx (sf s.epoch n s.stand ad.rd l3 ad.td))) ad.a (.ins SC dx (sf s.epoch n .leading ad.rd l3 ad.td))) := fun c ys z => by
              rw [upd_ne (ne_of z g1 (by intro q; cases q)), upd_ne (ne_of z g1 (by intro q; cases q))]
              exact s5 _ _ z
            refine k l3 { s with rows := putRow s.rows k' row, row := out, stand := .leading } _ (.inr f3) ?_ ⟨⟨dx, upd_same⟩, ⟨kvs1, ?_, paired_imp (fun _ _ => RowKv.mono tx4) g3⟩, ?_, ?_⟩ ((b5.upd (.inl (by simp))).upd (.inl (by simp)))
            · unfold Hear
              rw [if_neg hgo]
              simp only [if_pos hA', if_pos hm']
              exact ⟨out, Newest.congr hnew (fun r => hmem r), rfl⟩
            · rw [upd_ne (ne_of g2 g1 (by intro q; cases q)), upd_ne (ne_of g2 g1 (by intro q; cases q))]
              exact s5 _ _ g2
            · have nl3 : l3 ≠ ad.a := by
                rintro rfl
                rw [ga4] at hout; cases hout
              rw [upd_ne nl3, upd_ne nl3]
              exact hout
            · rw [upd_ne (ne_of g5 g1 (by intro q; cases q)), upd_ne (ne_of g5 g1 (by intro q; cases q))]
              exact s5 _ _ g5
        · have hm' : ¬ n / 2 + 1 ≤ (putRow s.rows k' row).length := by
            intro z
            apply hm
            apply decide_eq_true
            omega
          refine k ad.rl { s with rows := putRow s.rows k' row } _ (.inl rfl) ?_ ⟨⟨dx, g1⟩, ⟨kvs1, g2, g3⟩, g4, g5⟩ b1
          unfold Hear
          rw [if_neg hgo]
          simp only [if_pos hA', if_neg hm']
      · have hA' : ¬ s.stand = .asking := fun z => hA (decide_eq_true z)
        refine ⟨_, rfl, b, _, _, _, rfl, rfl, SqT.of hb, rfl, rfl, _, rfl, iteF ?_⟩
        exact nothing H rfl (by unfold Hear; rw [if_neg hgo]; simp only [if_neg hA'])
    | taken e k' p =>
      obtain ⟨b', ee, hb'⟩ := hv
      cases ee
      rw [hb] at hb'
      cases hb'
      have hk' : k' < s.taken.length := by rw [htk]; exact hnum
      have htt : s.taken[k']? = some s.taken[k'] := List.getElem?_eq_getElem hk'
      refine iteF ?_
      refine ⟨_, rfl, b, _, _, _, rfl, rfl, SqT.of hb, rfl, rfl, _, rfl, iteF ?_⟩
      refine ⟨_, rfl, b, _, _, _, rfl, rfl, SqT.of hb, rfl, rfl, _, rfl, iteT ?_⟩
      refine ⟨_, rfl, ad.a, SC, dx, _, _, rfl, h1, T.clS, T.nSs, rfl, rfl, _, rfl, ?_⟩
      rw [stL]
      have hget : DGet H ad.td (.int ((k' : Nat) : Int)) (some (V.int ((s.taken[k'] : Nat) : Int))) := by
        have := DGet.k (k := Sum.inl ((k' : Nat) : Int)) h5
        rw [tkF_val0, htt] at this
        exact this
      refine ite2 (fun hL => ?_) (fun hL => ?_)
      · have hL' : s.stand = .leading := of_decide_eq_true hL
        refine ⟨_, rfl, b, _, _, _, rfl, rfl, SqT.of hb, rfl, _, rfl, ad.a, SC, dx, _, _, rfl, h1, T.clS, T.nSt, rfl, _, rfl, b, _, _, _, rfl, rfl, SqT.of hb, rfl, ad.td, _, rfl, hget, rfl, _, rfl, ite2 (fun hp => ?_) (fun hp => ?_)⟩
        · have hp' : p = s.taken[k'] := by
            have := V.int.inj (of_decide_eq_true hp)
            omega
          refine ⟨_, rfl, ad.a, SC, dx, _, _, rfl, h1, T.clS, T.nSt, rfl, _, rfl, b, _, _, _, rfl, rfl, SqT.of hb, rfl, ad.td, _, rfl, hget, _, _, rfl, rfl, _, DPut.k (k := Sum.inl ((k' : Nat) : Int)) h5 (by rw [tkF_len]; omega), ?_⟩
          have e1 : putK (tkF 0 s.taken) (Sum.inl ((k' : Nat) : Int)) (V.int (((s.taken[k'] : Nat) : Int) + 1)) = tkF 0 (s.taken.set k' (p + 1)) := by
            have := tkF_put s.taken k' (s.taken[k'] + 1) hk'
            rw [← hp'] at this ⊢
            exact this
          rw [e1]
          have tx : TupX H (upd H ad.td (.dK (tkF 0 (s.taken.set k' (p + 1))))) := fun c ys z => by rw [upd_ne (ne_of z h5 (by intro q; cases q))]; exact z
          refine k ad.rl { s with taken := s.taken.set k' (p + 1) } _ (.inl rfl) ?_ ⟨⟨dx, ?_⟩, ⟨kvs, ?_, paired_imp (fun _ _ => RowKv.mono tx) h3⟩, ?_, upd_same⟩ ((But.refl _ H).upd (.inl (by simp)))
          · unfold Hear
            rw [if_neg hgo]
            simp only [if_pos (And.intro hL' (show s.taken[k']? = some p by rw [htt, hp']))]
          · rw [upd_ne (ne_of h1 h5 (by intro q; cases q))]; exact h1
          · rw [upd_ne hne]; exact h2
          · rw [upd_ne (ne_of h4 h5 (by intro q; cases q))]; exact h4
        · have hp' : ¬ s.taken[k']? = some p := by
            intro z
            rw [htt] at z
            apply hp
            rw [Option.some.inj z]
            exact decide_eq_true rfl
          exact nothing H rfl (by unfold Hear; rw [if_neg hgo]; simp only [if_neg (fun z : _ ∧ _ => hp' z.2)])
      · have hL' : ¬ s.stand = .leading := fun z => hL (decide_eq_true z)
        exact nothing H rfl (by unfold Hear; rw [if_neg hgo]; simp only [if_neg (fun z : _ ∧ _ => hL' z.1)])
end
end K40
/-! A council in the heap; how its parts change. -/
namespace K40
open PySem L2 Mc
structure CnAd where
  p : Addr
  kl : Addr
  sl : Addr
  ll : Addr
  ks : List Addr
  sq : List SqAd
def CnAd.foot (c : CnAd) : List Addr := c.p :: c.kl :: c.sl :: c.ll :: (c.ks ++ c.sq.flatMap fun d => [d.a, d.rd, d.rl, d.td])
theorem CnAd.mem_ks {c : CnAd} {a : Addr} (h : a ∈ c.ks) : a ∈ c.foot := by
  simp only [CnAd.foot, List.mem_cons, List.mem_append]
  exact .inr (.inr (.inr (.inr (.inl h))))
theorem CnAd.mem_sq {c : CnAd} {d : SqAd} {b : Addr} (h : d ∈ c.sq) (hb : b ∈ [d.a, d.rd, d.rl, d.td]) : b ∈ c.foot := by
  simp only [CnAd.foot, List.mem_cons, List.mem_append]
  exact .inr (.inr (.inr (.inr (.inr (List.mem_flatMap.mpr ⟨d, h, hb⟩)))))
theorem CnAd.mem_cases {c : CnAd} {b : Addr} (h : b ∈ c.foot) : b = c.p ∨ b = c.kl ∨ b = c.sl ∨ b = c.ll ∨ b ∈ c.ks ∨ ∃ d ∈ c.sq, b ∈ [d.a, d.rd, d.rl, d.td] := by
  simp only [CnAd.foot, List.mem_cons, List.mem_append] at h
  rcases h with h | h | h | h | h | h
  · exact .inl h
  · exact .inr (.inl h)
  · exact .inr (.inr (.inl h))
  · exact .inr (.inr (.inr (.inl h)))
  · exact .inr (.inr (.inr (.inr (.inl h))))
  · obtain ⟨d, h1, h2⟩ := List.mem_flatMap.mp h
    exact .inr (.inr (.inr (.inr (.inr ⟨d, h1, h2⟩))))
/-- all that is not the council's stays, and stays not the council's -/
def Keep (c : CnAd) (H : Hp) (c' : CnAd) (H' : Hp) : Prop := ∀ b o, H b = some o → b ∉ c.foot → H' b = some o ∧ b ∉ c'.foot
theorem Keep.refl (c : CnAd) (H : Hp) : Keep c H c H := fun _ _ h n => ⟨h, n⟩
theorem Keep.trans {c c1 c2 : CnAd} {H H1 H2 : Hp} (a : Keep c H c1 H1) (b : Keep c1 H1 c2 H2) : Keep c H c2 H2 := fun x o h n => by
  obtain ⟨h1, n1⟩ := a x o h n
  exact b x o h1 n1
theorem Keep.same {c : CnAd} {H H' : Hp} (s : Same H H') : Keep c H c H' := fun b o h n => ⟨s b o h, n⟩
def hoLen : HO → Nat
  | .ins _ _ fs => fs.length
  | .lst _ => 100
  | .dK _ => 101
  | .tup _ => 102
  | _ => 103
theorem ne_len {H : Hp} {a b : Addr} {o u : HO} (h : H a = some o) (h' : H b = some u) (d : hoLen o ≠ hoLen u) : a ≠ b := ne_of h h' (fun e => d (by rw [e]))
structure CnAt (KC SC CC : Addr) (H : Hp) (c : CnAd) (st : Cst Ent) : Prop where
  ob : ∃ dx, H c.p = some (.ins CC dx (cf c.kl c.sl c.ll))
  kl : H c.kl = some (.lst (c.ks.map V.ref))
  klen : c.ks.length = st.ks.length
  ks : ∀ (i : Nat) (a : Addr), c.ks[i]? = some a → ∃ kp, st.ks[i]? = some kp ∧ KeeperAt KC H a i kp
  sl : H c.sl = some (.lst (c.sq.map fun d => V.ref d.a))
  slen : c.sq.length = st.sq.length
  sq : ∀ (i : Nat) (d : SqAd), c.sq[i]? = some d → ∃ s, st.sq[i]? = some s ∧ SqAt SC H st.ks.length d s
  ll : ∃ ls, H c.ll = some (.lst ls) ∧ Paired (LetA H) ls st.ls
  nd1 : c.ks.Nodup
  sep : ∀ (i j : Nat) (d e : SqAd), c.sq[i]? = some d → c.sq[j]? = some e → i ≠ j → d.a ≠ e.a ∧ d.rl ≠ e.rl ∧ d.rd ≠ e.rd ∧ d.rd ≠ e.td ∧ d.td ≠ e.rd ∧ d.td ≠ e.td
  own : ∀ d ∈ c.sq, d.rd ≠ d.td ∧ d.rl ≠ c.kl ∧ d.rl ≠ c.sl ∧ d.rl ≠ c.ll
  l1 : c.kl ≠ c.sl
  l2 : c.kl ≠ c.ll
  l3 : c.sl ≠ c.ll
section
variable {KC SC CC : Addr} {H H' : Hp} {c : CnAd} {st : Cst Ent}
theorem CnAt.ksAt (h : CnAt KC SC CC H c st) : KsAt KC H c.kl c.ks st.ks := ⟨h.kl, h.klen, h.ks⟩
theorem CnAt.same (h : CnAt KC SC CC H c st) (e : Same H H') : CnAt KC SC CC H' c st := by
  obtain ⟨⟨dx, h1⟩, h2, h3, h4, h5, h6, h7, ⟨ls, h8, h8'⟩, h9, h10, h11, h12, h13, h14⟩ := h
  refine ⟨⟨dx, e _ _ h1⟩, e _ _ h2, h3, fun i a q => ?_, e _ _ h5, h6, fun i d q => ?_, ⟨ls, e _ _ h8, paired_imp (fun _ _ => LetA.mono (TupX.of e)) h8'⟩, h9, h10, h11, h12, h13, h14⟩
  · obtain ⟨kp, a1, a2⟩ := h4 i a q
    exact ⟨kp, a1, a2.same e⟩
  · obtain ⟨s, a1, a2⟩ := h7 i d q
    exact ⟨s, a1, a2.same e⟩
/-- what the council has is tracked, and no tuple -/
theorem CnAt.dom (h : CnAt KC SC CC H c st) : ∀ b ∈ c.foot, ∃ o, H b = some o ∧ ∀ xs, o ≠ .tup xs := by
  intro b hb
  rcases CnAd.mem_cases hb with rfl | rfl | rfl | rfl | hb | ⟨d, hd, hb⟩
  · obtain ⟨dx, h1⟩ := h.ob
    exact ⟨_, h1, fun xs q => by cases q⟩
  · exact ⟨_, h.kl, fun xs q => by cases q⟩
  · exact ⟨_, h.sl, fun xs q => by cases q⟩
  · obtain ⟨ls, h1, _⟩ := h.ll
    exact ⟨_, h1, fun xs q => by cases q⟩
  · obtain ⟨i, hi⟩ := List.getElem?_of_mem hb
    obtain ⟨kp, _, dx, r, l, w, rs, ls, ws, h1, _⟩ := h.ks i b hi
    exact ⟨_, h1, fun xs q => by cases q⟩
  · obtain ⟨i, hi⟩ := List.getElem?_of_mem hd
    obtain ⟨s, _, ⟨dx, h1⟩, ⟨kvs, h2, _⟩, h3, h4⟩ := h.sq i d hi
    simp at hb
    rcases hb with rfl | rfl | rfl | rfl
    · exact ⟨_, h1, fun xs q => by cases q⟩
    · exact ⟨_, h2, fun xs q => by cases q⟩
    · exact ⟨_, h3, fun xs q => by cases q⟩
    · exact ⟨_, h4, fun xs q => by cases q⟩
theorem CnAt.off_none (h : CnAt KC SC CC H c st) {b : Addr} (n : H b = none) : b ∉ c.foot := fun m => by
  obtain ⟨o, e, _⟩ := h.dom b m
  rw [n] at e; cases e
theorem CnAt.off_tup (h : CnAt KC SC CC H c st) {b : Addr} {xs : List V} (n : H b = some (.tup xs)) : b ∉ c.foot := fun m => by
  obtain ⟨o, e, q⟩ := h.dom b m
  rw [n] at e; cases e
  exact q xs rfl
theorem CnAt.tupX {F : List Addr} (h : CnAt KC SC CC H c st) (b : But F H H') (s : ∀ x ∈ F, x ∈ c.foot) : TupX H H' := b.tupX fun x hx xs e => h.off_tup e (s x hx)
theorem SqAt.move {SC : Addr} {H H' : Hp} {n : Nat} {ad : SqAd} {s : Sq Ent} (h : SqAt SC H n ad s) (t : TupX H H') (e : ∀ b ∈ [ad.a, ad.rd, ad.rl, ad.td], ∀ o, H b = some o → H' b = some o) : SqAt SC H' n ad s := by
  obtain ⟨⟨dx, h1⟩, ⟨kvs, h2, h3⟩, h4, h5⟩ := h
  exact ⟨⟨dx, e _ (by simp) _ h1⟩, ⟨kvs, e _ (by simp) _ h2, paired_imp (fun _ _ => RowKv.mono t) h3⟩, e _ (by simp) _ h4, e _ (by simp) _ h5⟩
theorem KeeperAt.move {KC : Addr} {H H' : Hp} {a : Addr} {n : Nat} {k : Kp Ent} (h : KeeperAt KC H a n k) (t : TupX H H') (e : ∀ o, H a = some o → H' a = some o) : KeeperAt KC H' a n k := by
  obtain ⟨dx, r, l, w, rs, ls, ws, h1, _⟩ := id h
  exact h.mono t (by rw [e _ h1, h1])
/-- a keeper changes -/
theorem CnAt.keeper (h : CnAt KC SC CC H c st) {i : Nat} {a : Addr} {kp' : Kp Ent} (hi : c.ks[i]? = some a) (b : But [a] H H') (ha : KeeperAt KC H' a i kp') :
    CnAt KC SC CC H' c { st with ks := st.ks.set i kp' } ∧ Keep c H c H' := by
  have ham : a ∈ c.ks := List.mem_of_getElem? hi
  have tx : TupX H H' := h.tupX b (fun x hx => by simp at hx; subst hx; exact CnAd.mem_ks ham)
  obtain ⟨kp, hk0, dx0, r0, l0, w0, rs0, ls0, ws0, ha0, _⟩ := h.ks i a hi
  have st_ : ∀ {x : Addr} {o : HO}, H x = some o → x ≠ a → H' x = some o := fun e n => b _ _ e (by simpa using n)
  obtain ⟨dx, h1⟩ := h.ob
  obtain ⟨ls, h8, h8'⟩ := h.ll
  refine ⟨⟨⟨dx, st_ h1 (ne_len h1 ha0 (show (3 : Nat) ≠ 4 by decide))⟩, st_ h.kl (ne_len h.kl ha0 (show (100 : Nat) ≠ 4 by decide)), by simp [h.klen], fun j a' hj => ?_, st_ h.sl (ne_len h.sl ha0 (show (100 : Nat) ≠ 4 by decide)), h.slen, fun j d hj => ?_,
    ⟨ls, st_ h8 (ne_len h8 ha0 (show (100 : Nat) ≠ 4 by decide)), paired_imp (fun _ _ => LetA.mono tx) h8'⟩, h.nd1, h.sep, h.own, h.l1, h.l2, h.l3⟩, fun x o e n => ⟨b x o e (fun m => n (by simp at m; subst m; exact CnAd.mem_ks ham)), n⟩⟩
  · by_cases q : j = i
    · subst q
      rw [hi] at hj
      cases hj
      exact ⟨kp', List.getElem?_set_self (List.getElem?_eq_some_iff.mp hk0).1, ha⟩
    · obtain ⟨kp2, e1, e2⟩ := h.ks j a' hj
      have na : a' ≠ a := fun z => q (nd_ix h.nd1 hj (by rw [z]; exact hi))
      exact ⟨kp2, by rw [List.getElem?_set_ne (fun z => q z.symm)]; exact e1, e2.move tx fun o e => st_ e na⟩
  · obtain ⟨s, e1, e2⟩ := h.sq j d hj
    refine ⟨s, e1, ?_⟩
    show SqAt SC H' (st.ks.set i kp').length d s
    rw [List.length_set]
    obtain ⟨⟨dx, g1⟩, ⟨kvs, g2, _⟩, g3, g4⟩ := id e2
    refine e2.move tx fun x hx o e => ?_
    simp at hx
    rcases hx with rfl | rfl | rfl | rfl
    · exact st_ e (ne_len g1 ha0 (show (6 : Nat) ≠ 4 by decide))
    · exact st_ e (ne_len g2 ha0 (show (101 : Nat) ≠ 4 by decide))
    · exact st_ e (ne_len g3 ha0 (show (100 : Nat) ≠ 4 by decide))
    · exact st_ e (ne_len g4 ha0 (show (101 : Nat) ≠ 4 by decide))
/-- a sequencer changes -/
theorem CnAt.seq (h : CnAt KC SC CC H c st) {i : Nat} {d : SqAd} {rl' : Addr} {s' : Sq Ent} (hi : c.sq[i]? = some d) (hr : rl' = d.rl ∨ H rl' = none) (b : But [d.a, d.rd, d.rl, d.td] H H') (ha : SqAt SC H' st.ks.length ⟨d.a, d.rd, rl', d.td⟩ s') :
    CnAt KC SC CC H' { c with sq := c.sq.set i ⟨d.a, d.rd, rl', d.td⟩ } { st with sq := st.sq.set i s' } ∧ Keep c H { c with sq := c.sq.set i ⟨d.a, d.rd, rl', d.td⟩ } H' := by
  have hdm : d ∈ c.sq := List.mem_of_getElem? hi
  have hil : i < c.sq.length := (List.getElem?_eq_some_iff.mp hi).1
  have tx : TupX H H' := h.tupX b (fun x hx => CnAd.mem_sq hdm hx)
  obtain ⟨s0, hs0, ⟨dx0, a1⟩, ⟨kvs0, a2, _⟩, a3, a4⟩ := h.sq i d hi
  obtain ⟨o1, o2, o3, o4⟩ := h.own d hdm
  have st_ : ∀ {x : Addr} {o : HO}, H x = some o → x ≠ d.a → x ≠ d.rd → x ≠ d.rl → x ≠ d.td → H' x = some o := fun e n1 n2 n3 n4 => b _ _ e (by simp [n1, n2, n3, n4])
  obtain ⟨dx, h1⟩ := h.ob
  obtain ⟨ls, h8, h8'⟩ := h.ll
  have new : ∀ {x : Addr} {o : HO}, H x = some o → x ≠ d.rl → x ≠ rl' := by
    intro x o e n z
    rcases hr with hr | hr
    · exact n (z.trans hr)
    · rw [← z, e] at hr; cases hr
  have at_ : ∀ (j : Nat) (e : SqAd), (c.sq.set i ⟨d.a, d.rd, rl', d.td⟩)[j]? = some e → (j = i ∧ e = ⟨d.a, d.rd, rl', d.td⟩) ∨ (j ≠ i ∧ c.sq[j]? = some e) := by
    intro j e hj
    by_cases q : j = i
    · subst q
      rw [List.getElem?_set_self hil] at hj
      exact .inl ⟨rfl, (Option.some.inj hj).symm⟩
    · rw [List.getElem?_set_ne (fun z => q z.symm)] at hj
      exact .inr ⟨q, hj⟩
  refine ⟨⟨⟨dx, st_ h1 (ne_len h1 a1 (show (3 : Nat) ≠ 6 by decide)) (ne_len h1 a2 (show (3 : Nat) ≠ 101 by decide)) (ne_len h1 a3 (show (3 : Nat) ≠ 100 by decide)) (ne_len h1 a4 (show (3 : Nat) ≠ 101 by decide))⟩,
    st_ h.kl (ne_len h.kl a1 (show (100 : Nat) ≠ 6 by decide)) (ne_len h.kl a2 (show (100 : Nat) ≠ 101 by decide)) o2.symm (ne_len h.kl a4 (show (100 : Nat) ≠ 101 by decide)), h.klen, fun j a hj => ?_,
    ?_, by simp [h.slen], fun j e hj => ?_,
    ⟨ls, st_ h8 (ne_len h8 a1 (show (100 : Nat) ≠ 6 by decide)) (ne_len h8 a2 (show (100 : Nat) ≠ 101 by decide)) o4.symm (ne_len h8 a4 (show (100 : Nat) ≠ 101 by decide)), paired_imp (fun _ _ => LetA.mono tx) h8'⟩, h.nd1, ?_, ?_, h.l1, h.l2, h.l3⟩, ?_⟩
  · obtain ⟨kp, e1, e2⟩ := h.ks j a hj
    obtain ⟨dx2, r2, l2, w2, rs2, ls2, ws2, g1, _⟩ := id e2
    exact ⟨kp, e1, e2.move tx fun o e => st_ e (ne_len g1 a1 (show (4 : Nat) ≠ 6 by decide)) (ne_len g1 a2 (show (4 : Nat) ≠ 101 by decide)) (ne_len g1 a3 (show (4 : Nat) ≠ 100 by decide)) (ne_len g1 a4 (show (4 : Nat) ≠ 101 by decide))⟩
  · have e1 : (c.sq.set i ⟨d.a, d.rd, rl', d.td⟩).map (fun d => V.ref d.a) = c.sq.map (fun d => V.ref d.a) := by
      apply List.ext_getElem?
      intro j
      rw [List.getElem?_map, List.getElem?_map]
      by_cases q : j = i
      · subst q
        rw [List.getElem?_set_self hil, hi]
        rfl
      · rw [List.getElem?_set_ne (fun z => q z.symm)]
    show H' c.sl = some (.lst ((c.sq.set i ⟨d.a, d.rd, rl', d.td⟩).map (fun d => V.ref d.a)))
    rw [e1]
    exact st_ h.sl (ne_len h.sl a1 (show (100 : Nat) ≠ 6 by decide)) (ne_len h.sl a2 (show (100 : Nat) ≠ 101 by decide)) o3.symm (ne_len h.sl a4 (show (100 : Nat) ≠ 101 by decide))
  · rcases at_ j e hj with ⟨rfl, rfl⟩ | ⟨q, hj⟩
    · exact ⟨s', List.getElem?_set_self (List.getElem?_eq_some_iff.mp hs0).1, ha⟩
    · obtain ⟨s, e1, e2⟩ := h.sq j e hj
      obtain ⟨p1, p2, p3, p4, p5, p6⟩ := h.sep j i e d hj hi q
      refine ⟨s, by rw [List.getElem?_set_ne (fun z => q z.symm)]; exact e1, ?_⟩
      obtain ⟨⟨dx2, g1⟩, ⟨kvs2, g2, _⟩, g3, g4⟩ := id e2
      refine e2.move tx fun x hx o eo => ?_
      simp at hx
      rcases hx with rfl | rfl | rfl | rfl
      · exact st_ eo p1 (ne_len g1 a2 (show (6 : Nat) ≠ 101 by decide)) (ne_len g1 a3 (show (6 : Nat) ≠ 100 by decide)) (ne_len g1 a4 (show (6 : Nat) ≠ 101 by decide))
      · exact st_ eo (ne_len g2 a1 (show (101 : Nat) ≠ 6 by decide)) p3 (ne_len g2 a3 (show (101 : Nat) ≠ 100 by decide)) p4
      · exact st_ eo (ne_len g3 a1 (show (100 : Nat) ≠ 6 by decide)) (ne_len g3 a2 (show (100 : Nat) ≠ 101 by decide)) p2 (ne_len g3 a4 (show (100 : Nat) ≠ 101 by decide))
      · exact st_ eo (ne_len g4 a1 (show (101 : Nat) ≠ 6 by decide)) p5 (ne_len g4 a3 (show (101 : Nat) ≠ 100 by decide)) p6
  · intro j k e f hj hk hjk
    rcases at_ j e hj with ⟨rfl, rfl⟩ | ⟨q, hj2⟩
    · rcases at_ k f hk with ⟨rfl, rfl⟩ | ⟨q2, hk⟩
      · exact absurd rfl hjk
      · obtain ⟨p1, p2, p3, p4, p5, p6⟩ := h.sep j k d f hi hk hjk
        obtain ⟨s, _, _, _, g3, _⟩ := h.sq k f hk
        exact ⟨p1, (new g3 p2.symm).symm, p3, p4, p5, p6⟩
    · have hj' := hj2
      rcases at_ k f hk with ⟨rfl, rfl⟩ | ⟨q2, hk2⟩
      · obtain ⟨p1, p2, p3, p4, p5, p6⟩ := h.sep j k e d hj' hi hjk
        obtain ⟨s, _, _, _, g3, _⟩ := h.sq j e hj'
        exact ⟨p1, new g3 p2, p3, p4, p5, p6⟩
      · exact h.sep j k e f hj' hk2 hjk
  · intro e he
    obtain ⟨j, hj⟩ := List.getElem?_of_mem he
    rcases at_ j e hj with ⟨rfl, rfl⟩ | ⟨q, hj⟩
    · exact ⟨o1, (new h.kl o2.symm).symm, (new h.sl o3.symm).symm, (new h8 o4.symm).symm⟩
    · exact h.own e (List.mem_of_getElem? hj)
  · intro x o e n
    have n' : x ∉ [d.a, d.rd, d.rl, d.td] := fun m => n (CnAd.mem_sq hdm m)
    refine ⟨b x o e n', fun m => ?_⟩
    rcases CnAd.mem_cases m with z | z | z | z | z | ⟨f, hf, z⟩
    · exact n (by rw [z]; simp [CnAd.foot])
    · exact n (by rw [z]; simp [CnAd.foot])
    · exact n (by rw [z]; simp [CnAd.foot])
    · exact n (by rw [z]; simp [CnAd.foot])
    · exact n (CnAd.mem_ks z)
    · obtain ⟨j, hj⟩ := List.getElem?_of_mem hf
      rcases at_ j f hj with ⟨rfl, rfl⟩ | ⟨q, hj⟩
      · simp at z n'
        rcases z with z | z | z | z
        · exact n'.1 z
        · exact n'.2.1 z
        · exact new e n'.2.2.1 z
        · exact n'.2.2.2 z
      · exact n (CnAd.mem_sq (List.mem_of_getElem? hj) z)
/-- the letters change -/
theorem CnAt.lets (h : CnAt KC SC CC H c st) {vs : List V} {ls' : List (Letter Ent)} (b : But [c.ll] H H') (e : H' c.ll = some (.lst vs)) (p : Paired (LetA H') vs ls') : CnAt KC SC CC H' c { st with ls := ls' } ∧ Keep c H c H' := by
  have hm : c.ll ∈ c.foot := by simp [CnAd.foot]
  have tx : TupX H H' := h.tupX b (fun x hx => by simp at hx; subst hx; exact hm)
  have st_ : ∀ {x : Addr} {o : HO}, H x = some o → x ≠ c.ll → H' x = some o := fun e n => b _ _ e (by simpa using n)
  obtain ⟨dx, h1⟩ := h.ob
  obtain ⟨ls, h8, h8'⟩ := h.ll
  refine ⟨⟨⟨dx, st_ h1 (ne_len h1 h8 (show (3 : Nat) ≠ 100 by decide))⟩, st_ h.kl h.l2, h.klen, fun j a hj => ?_, st_ h.sl h.l3, h.slen, fun j d hj => ?_, ⟨vs, e, p⟩, h.nd1, h.sep, h.own, h.l1, h.l2, h.l3⟩, fun x o e n => ⟨st_ e (fun z => n (by rw [z]; exact hm)), n⟩⟩
  · obtain ⟨kp, e1, e2⟩ := h.ks j a hj
    obtain ⟨dx2, r2, l2, w2, rs2, ls2, ws2, g1, _⟩ := id e2
    exact ⟨kp, e1, e2.move tx fun o e => st_ e (ne_len g1 h8 (show (4 : Nat) ≠ 100 by decide))⟩
  · obtain ⟨s, e1, e2⟩ := h.sq j d hj
    obtain ⟨o1, o2, o3, o4⟩ := h.own d (List.mem_of_getElem? hj)
    obtain ⟨⟨dx2, g1⟩, ⟨kvs2, g2, _⟩, g3, g4⟩ := id e2
    refine ⟨s, e1, e2.move tx fun x hx o eo => ?_⟩
    simp at hx
    rcases hx with rfl | rfl | rfl | rfl
    · exact st_ eo (ne_len g1 h8 (show (6 : Nat) ≠ 100 by decide))
    · exact st_ eo (ne_len g2 h8 (show (101 : Nat) ≠ 100 by decide))
    · exact st_ eo o4
    · exact st_ eo (ne_len g4 h8 (show (101 : Nat) ≠ 100 by decide))
end
end K40
/-! A council's methods, the simple ones. -/
namespace K40
open PySem L2 Mc
def Post (KC SC CC : Addr) (c : CnAd) (H : Hp) (N : Nat) (st : Cst Ent) (eps : List Int) (Q : Hp → Prop) : Prop :=
  ∀ c' st' H', CnAt KC SC CC H' c' st' → Good (N + 10) st' → Grow st.ks st'.ks → st'.sq.map Sq.epoch = eps → Keep c H c' H' → c'.p = c.p → Q H'
theorem Good.roomy {N : Nat} {st : Cst Ent} (g : Good N st) (hN : N ≤ 100000) {k : Nat} {kp : Kp Ent} (h : st.ks[k]? = some kp) : Roomy kp := by
  obtain ⟨h1, h2⟩ := g.sz.ks k kp h
  have : sizeLine = 2 ^ 24 := rfl
  exact ⟨by omega, by omega⟩
section
variable {P : Program} {w : World} {K : PySem.W.Frag} {mg : Str → Option Value} {base : Heap} {RC KC SC CC : Addr}
def spCInit (KC SC CC : Addr) : Sp := fun vs H Q _ => ∃ (p dx : Addr) (n : Nat), vs = [.ref p, .int (n : Nat)] ∧ H p = some (.ins CC dx []) ∧ n ≤ 5 ∧
  ∀ c H', c.p = p → CnAt KC SC CC H' c (newSt n) → (∀ b o, H b = some o → b ≠ p → H' b = some o ∧ b ∉ c.foot) → Q .non H'
abbrev nCInit : List Str := ["self", "many", "number"]
theorem scCInit : FnScope nCInit ["self", "many"] (defScope sCInit) := ⟨rfl, rfl, rfl, by decide +kernel, rfl, by decide +kernel, by decide +kernel⟩
theorem ok_cinit {f fk : Addr} {fd fdk : FuncData} (F : Fun K "__init__" "Council.__init__" sCInit f fd) (T : Txt K mg RC KC SC CC) (DK : DI K KC "Keeper.__init__" sKInit ["self", "number"] fk fdk) : FnOk P w K mg base CX0 3 f fd ["self", "many"] (spCInit KC SC CC) := by
  have G : FnOk P w K mg base CX0 1 fk fdk ["self", "number"] (spKInit KC) := ok_kinit DK.F T
  refine F.ok scCInit (fun vs H Q E h => ?_) (fun cdv A outer s H vs Q E hr h => ?_)
  · obtain ⟨p, dx, n, rfl, _⟩ := h
    rfl
  · obtain ⟨p, dx, n, rfl, h1, hn, k⟩ := h
    have sLine : sizeLine = 2 ^ 24 := rfl
    refine ⟨_, pss_cons (ps_fld (pv 0) (pe_lc (own := [("number", 2)]) (g := gName 2) (tt := tYes) (te := tMake KC (spKInit KC) [] E0 (tCons (tVar 2) tNil)) rfl scCInit.nd (pi_range1 (by rfl) T.range (pa_cons (pv 1) pa_nil))
        (blkOk_by (own := [("number", 2)]) (N := nCInit) (sc := defScope sCInit) (by decide +kernel)) (fun _ _ _ _ _ => pg_name (i := 2) scCInit.nd rfl (Or.inl rfl)) (fun _ _ _ _ _ => pts_nil) (fun _ _ _ _ _ => pe_make DK.m G hr rfl T.mgK DK.b .nil pass0 (pa_cons (pv 2) pa_nil))) rfl)
      (pss_cons (ps_fld (pv 0) (pe_lst pa_nil) rfl) (pss_one (ps_fld (pv 0) (pe_lst pa_nil) rfl))), ?_⟩
    refine ⟨_, rfl, _, rfl, by omega, by omega, fun D hD => lc_range (lo := 0) (n := ((n : Nat) : Int).toNat)
      (fun i H' => Same H H' ∧ ∃ as : List Addr, H' D = some (.lst (as.map V.ref)) ∧ as.length = i ∧ as.Nodup ∧ (∀ a ∈ as, H a = none ∧ a ≠ D) ∧ ∀ (j : Nat) (a : Addr), as[j]? = some a → KeeperAt KC H' a j ⟨[], [], []⟩)
      ⟨Same.new hD, [], upd_same, rfl, List.nodup_nil, by simp, by simp⟩ (fun i H' hi pw => ⟨rfl, ?_⟩) (fun H2 pw => ?_)⟩
    · obtain ⟨sw, as, hD', hal, hnd, hfr, hka⟩ := pw
      have e0 : (0 : Int) + (i : Int) = ((i : Nat) : Int) := Int.zero_add _
      rw [e0]
      refine ⟨_, rfl, fun x d nx nd ne => ?_⟩
      refine ⟨x, d, i, rfl, upd_same, fun H3 K3 b3 => ⟨rfl, ?_⟩⟩
      have s3 : Same H' H3 := fun c o z => b3 c o (by rw [upd_ne (ne_of_none z nx), upd_ne (ne_of_none z nd)]; exact z) (by simpa using ne_of_none z nx)
      have hD3 := s3 _ _ hD'
      have hx : x ∉ as := fun m => by
        obtain ⟨j, hj⟩ := List.getElem?_of_mem m
        obtain ⟨dx', r, l, w, rs, ls, ws, g1, _⟩ := hka j x hj
        rw [nx] at g1; cases g1
      have nxD : x ≠ D := by
        rintro rfl
        rw [nx] at hD'; cases hD'
      have tx : TupX H3 (upd H3 D (.lst (as.map V.ref ++ [.ref x]))) := fun c ys z => by rw [upd_ne (ne_of z hD3 (by intro q; cases q))]; exact z
      refine ⟨_, hD3, by rw [List.length_map, hal]; omega, Same.upd (sw.trans s3) hD, as ++ [x], by rw [upd_same, List.map_append]; rfl, by simp [hal], ?_, ?_, ?_⟩
      · rw [List.nodup_append]
        refine ⟨hnd, by simp, fun a ha b hb => ?_⟩
        simp at hb
        subst hb
        rintro rfl
        exact hx ha
      · intro a ha
        rcases List.mem_append.mp ha with ha | ha
        · exact hfr a ha
        · simp at ha
          subst ha
          exact ⟨sw.free nx, nxD⟩
      · intro j a hj
        have mv : ∀ {j : Nat} {a : Addr} {kp : Kp Ent}, KeeperAt KC H3 a j kp → a ≠ D → KeeperAt KC (upd H3 D (.lst (as.map V.ref ++ [.ref x]))) a j kp := fun h n => h.move tx fun o e => by rw [upd_ne n]; exact e
        rw [List.getElem?_append] at hj
        split at hj
        · exact mv ((hka j a hj).same s3) (hfr a (List.mem_of_getElem? hj)).2
        · rename_i hjl
          have e3 : j - as.length = 0 := by
            by_cases q : j - as.length = 0
            · exact q
            · rw [List.getElem?_eq_none (by simp; omega)] at hj; cases hj
          rw [e3] at hj
          simp at hj
          subst hj
          have : j = i := by omega
          subst this
          exact mv K3 nxD
    obtain ⟨s2, as, hD2, hal, hnd, hfr, hka⟩ := pw
    rw [Int.toNat_natCast] at hal
    have hp2 := s2 _ _ h1
    have npD : p ≠ D := ne_of_none h1 hD
    refine ⟨_, rfl, p, CC, dx, _, rfl, hp2, T.clC, T.nCk, (by show 0 < 1000; decide), ?_⟩
    refine ⟨(by show 0 ≤ sizeLine; decide), fun S hS => ?_⟩
    have npS : p ≠ S := ne_of_none upd_same hS
    refine ⟨_, rfl, p, CC, dx, _, rfl, (by rw [upd_ne npS]; exact upd_same), T.clC, T.nCs, (by show 1 < 1000; decide), ?_⟩
    refine ⟨(by show 0 ≤ sizeLine; decide), fun L hL => ?_⟩
    have npL : p ≠ L := ne_of_none upd_same hL
    refine ⟨_, rfl, p, CC, dx, _, rfl, (by rw [upd_ne npL]; exact upd_same), T.clC, T.nCl, (by show 2 < 1000; decide), ?_⟩
    have hS2 : H2 S = none := by rw [upd_ne npS.symm] at hS; exact hS
    have nSL : S ≠ L := by
      rintro rfl
      rw [upd_ne npL.symm, upd_same] at hL; cases hL
    have hL2 : H2 L = none := by rw [upd_ne npL.symm, upd_ne nSL.symm, upd_ne npL.symm] at hL; exact hL
    have nDS : D ≠ S := ne_of_none hD2 hS2
    have nDL : D ≠ L := ne_of_none hD2 hL2
    generalize hH4 : upd (upd (upd (upd (upd H2 p (.ins CC dx (putF "keepers" (.ref D) []))) S (.lst [])) p (.ins CC dx (putF "sequencers" (.ref S) (putF "keepers" (.ref D) [])))) L (.lst [])) p (.ins CC dx (putF "letters" (.ref L) (putF "sequencers" (.ref S) (putF "keepers" (.ref D) [])))) = H4
    have b4 : But [p] H2 H4 := by rw [← hH4]; exact (((((But.refl _ H2).upd (.inl (by simp))).upd (.inr hS2)).upd (.inl (by simp))).upd (.inr hL2)).upd (.inl (by simp))
    have off : ∀ {x : Addr} {o : HO}, H2 x = some o → x ≠ p → H4 x = some o := fun e n => b4 _ _ e (by simpa using n)
    have tx : TupX H2 H4 := b4.tupX fun x hx xs e => by simp at hx; subst hx; rw [hp2] at e; cases e
    have hp4 : H4 p = some (.ins CC dx (cf D S L)) := by rw [← hH4, upd_same]; rfl
    have hS4 : H4 S = some (.lst []) := by rw [← hH4, upd_ne npS.symm, upd_ne nSL, upd_ne npS.symm, upd_same]
    have hL4 : H4 L = some (.lst []) := by rw [← hH4, upd_ne npL.symm, upd_same]
    have hap : ∀ a ∈ as, a ≠ p := fun a ha z => by
      have := (hfr a ha).1
      rw [z, h1] at this; cases this
    refine k ⟨p, D, S, L, as, []⟩ H4 rfl ⟨⟨dx, hp4⟩, off hD2 npD.symm, by simp [newSt, hal], fun j a hj => ?_, hS4, rfl, fun j d hj => by simp at hj, ⟨[], hL4, .nil⟩, hnd, fun i j d e hi => by simp at hi, fun d hd => by simp at hd, nDS, nDL, nSL⟩ ?_
    · have hjl : j < as.length := (List.getElem?_eq_some_iff.mp hj).1
      refine ⟨⟨[], [], []⟩, by simp only [newSt]; rw [List.getElem?_replicate, if_pos (by omega)], ?_⟩
      exact (hka j a hj).move tx fun o e => off e (hap a (List.mem_of_getElem? hj))
    · intro b o e n
      refine ⟨off (s2 _ _ e) n, fun m => ?_⟩
      rcases CnAd.mem_cases m with z | z | z | z | z | ⟨d, hd, z⟩
      · exact n z
      · simp only at z; rw [z, hD] at e; cases e
      · simp only at z; rw [z, s2.free hS2] at e; cases e
      · simp only at z; rw [z, s2.free hL2] at e; cases e
      · rw [(hfr b z).1] at e; cases e
      · simp at hd
def spCBegin (KC SC CC : Addr) : Sp := fun vs H Q _ => ∃ (c : CnAd) (st : Cst Ent) (e : Int), vs = [.ref c.p, .int e] ∧ CnAt KC SC CC H c st ∧ st.ks.length ≤ 5 ∧ 0 ≤ e ∧ e ≤ 999999999999 ∧ e ∉ st.sq.map Sq.epoch ∧ st.sq.length ≤ 1000 ∧
  ∀ c' H', CnAt KC SC CC H' c' { st with sq := st.sq ++ [newSq e st.ks.length] } → Keep c H c' H' → c'.p = c.p → Q (.int ((st.sq.length : Nat) : Int)) H'
abbrev nCBegin : List Str := ["self", "epoch", "one"]
theorem scCBegin : FnScope nCBegin ["self", "epoch"] (defScope sCBegin) := ⟨rfl, rfl, rfl, by decide +kernel, rfl, by decide +kernel, by decide +kernel⟩
theorem ok_cbegin {f fw fi : Addr} {fd fdw fdi : FuncData} (F : Fun K "begin" "Council.begin" sCBegin f fd) (T : Txt K mg RC KC SC CC) (DW : DF K mg "is_whole" sWhole ["thing", "low", "high"] fw fdw) (DS : DI K SC "Sequencer.__init__" sSInit ["self", "epoch", "many"] fi fdi) :
    FnOk P w K mg base CX0 3 f fd ["self", "epoch"] (spCBegin KC SC CC) := by
  obtain ⟨tm, htm⟩ := T.most
  have GW : FnOk P w K mg base CX0 1 fw fdw ["thing", "low", "high"] spWhole := ok_whole DW.F T
  have GS : FnOk P w K mg base CX0 1 fi fdi ["self", "epoch", "many"] (spSInit SC) := ok_sinit DS.F T
  refine F.ok scCBegin (fun vs H Q E h => ?_) (fun cdv A outer s H vs Q E hr h => ?_)
  · obtain ⟨c, st, e, rfl, _⟩ := h
    rfl
  · obtain ⟨c, st, e, rfl, CA, h5, he0, he1, hne, hsl, k⟩ := h
    have sLine : sizeLine = 2 ^ 24 := rfl
    have hr1 : Room 1 _ := hr.mono (by decide)
    obtain ⟨dx, h1⟩ := CA.ob
    refine ⟨_, pss_cons (ps_if (PW.pt (pw_or (pt_not (pt_val (pe_call GW hr1 rfl DW.g DW.F.kp DW.b .nil pass0 (pa_cons (pv 1) (pa_cons pe_int (pa_cons (pe_glob (v := .int 999999999999) rfl htm ⟨_, rfl⟩) pa_nil))))))
        (pw_or1 (pt_cmpR op_in_seq (pv 1) (pe_lc (own := [("one", 2)]) (g := gName 2) (tt := tYes) (te := tFld K (tVar 2) "epoch") rfl scCBegin.nd (pi_list (pe_fld (pv 0) rfl)) (blkOk_by (own := [("one", 2)]) (N := nCBegin) (sc := defScope sCBegin) (by decide +kernel))
          (fun _ _ _ _ _ => pg_name (i := 2) scCBegin.nd rfl (Or.inl rfl)) (fun _ _ _ _ _ => pts_nil) (fun _ _ _ _ _ => pe_fld (pv 2) rfl)) (by rfl))))) (pss_one ps_never) pss_nil)
      (pss_cons (ps_expr (pe_bm PySem.F.plainAttrs_list PySem.F.slot_list_append PySem.F.type_list_append mt_append (pe_fld (pv 0) rfl) (pa_cons (pe_make DS.m GS hr rfl T.mgS DS.b .nil pass0 (pa_cons (pv 1) (pa_cons (pe_callB call_len_seq (by rfl) T.len PySem.boot_len (pa_cons (pe_fld (pv 0) rfl) pa_nil)) pa_nil))) pa_nil)))
      (pss_one (ps_ret (pe_op op_sub (pe_callB call_len_seq (by rfl) T.len PySem.boot_len (pa_cons (pe_fld (pv 0) rfl) pa_nil)) pe_int)))), ?_⟩
    refine ⟨_, rfl, e, 0, 999999999999, rfl, _, rfl, ?_⟩
    rw [decide_eq_true he0, decide_eq_true he1]
    refine iteF ?_
    refine ⟨_, rfl, _, rfl, c.p, CC, dx, _, _, rfl, h1, T.clC, T.nCs, rfl, c.sl, rfl, ⟨_, SqL.of CA.sl⟩, fun D hD => lc_list (K := K) (a := c.sl) (xs := c.sq.map fun d => V.ref d.a)
      (fun i H' => Same H H' ∧ H' D = some (.lst (((st.sq.take i).map Sq.epoch).map V.int))) ⟨Same.new hD, by simp [upd_same]⟩ (fun i H' _ p => SqL.of (p.1 _ _ CA.sl)) (fun i v H' hi pw => ⟨rfl, ?_⟩) (fun H2 pw => ?_)⟩
    · obtain ⟨sw, hD'⟩ := pw
      rw [List.getElem?_map] at hi
      obtain ⟨d, hd, rfl⟩ : ∃ d, c.sq[i]? = some d ∧ v = V.ref d.a := by
        cases q : c.sq[i]? with
        | none => rw [q] at hi; cases hi
        | some d => rw [q] at hi; exact ⟨d, rfl, (Option.some.inj hi).symm⟩
      obtain ⟨s1, hs1, SA⟩ := CA.sq i d hd
      obtain ⟨⟨ds, g1⟩, _⟩ := SA.same sw
      have hil := (List.getElem?_eq_some_iff.mp hs1).1
      refine ⟨_, rfl, d.a, SC, ds, _, _, rfl, g1, T.clS, T.nSe, rfl, _, hD', ?_, Same.upd sw hD, ?_⟩
      · rw [List.length_map, List.length_map, List.length_take]
        omega
      · rw [upd_same, List.take_succ, hs1]
        simp
    obtain ⟨s2, hD2⟩ := pw
    rw [List.length_map, CA.slen, List.take_length] at hD2
    refine ⟨D, _, rfl, .inl (SqL.of hD2), rfl, ?_, _, rfl, ?_⟩
    · rw [List.all_eq_true]
      intro v hv
      obtain ⟨x, _, rfl⟩ := List.mem_map.mp hv
      rfl
    have hin : inV (V.int e) ((st.sq.map Sq.epoch).map V.int) = false := by
      unfold inV
      rw [List.any_eq_false]
      intro v hv
      obtain ⟨x, hx, rfl⟩ := List.mem_map.mp hv
      simp only [eqV, beq_iff_eq]
      intro z
      exact hne (z ▸ hx)
    rw [hin]
    refine iteF ?_
    have CA2 := CA.same s2
    have h12 := s2 _ _ h1
    refine ⟨_, rfl, c.p, CC, dx, _, _, rfl, h12, T.clC, T.nCs, rfl, .inl ⟨rfl, _, .inl (.inl CA2.sl)⟩, _, rfl, _, rfl, c.p, CC, dx, _, _, rfl, h12, T.clC, T.nCk, rfl, c.kl, _, rfl, .inl (SqL.of CA2.kl), fun x d nx nd ne => ?_⟩
    refine ⟨x, d, e, st.ks.length, ?_, upd_same, by omega, fun ad H3 ha0 f1 f2 f3 f4 SA b3 => ⟨rfl, ?_⟩⟩
    · rw [List.length_map, CA.klen]
      rfl
    have s3 : Same H2 H3 := fun c o z => b3 c o (by rw [upd_ne (ne_of_none z nx), upd_ne (ne_of_none z nd)]; exact z) (by simpa using ne_of_none z nx)
    have hnew : ∀ b ∈ [ad.rd, ad.rl, ad.td], H2 b = none := by
      intro b hb
      have key : ∀ b, (upd (upd H2 d (.own x)) x (.ins SC d [])) b = none → H2 b = none := by
        intro b hb
        by_cases q : b = x
        · rw [q]; exact nx
        · rw [upd_ne q] at hb
          by_cases q2 : b = d
          · rw [q2]; exact nd
          · rw [upd_ne q2] at hb; exact hb
      simp at hb
      rcases hb with rfl | rfl | rfl
      · exact key _ f1
      · exact key _ f2
      · exact key _ f3
    have CA3 := CA2.same s3
    have hsl3 := CA3.sl
    refine ⟨c.sl, _, _, rfl, rfl, hsl3, by rw [List.length_map, CA.slen]; omega, ?_⟩
    have h13 := s3 _ _ h12
    have npsl : c.p ≠ c.sl := ne_len h13 hsl3 (show (3 : Nat) ≠ 100 by decide)
    refine ⟨_, rfl, c.p, CC, dx, _, _, rfl, (by rw [upd_ne npsl]; exact h13), T.clC, T.nCs, rfl, c.sl, _, rfl, .inl (SqL.of upd_same), _, _, rfl, rfl, ?_⟩
    have el : ((((c.sq.map fun d => V.ref d.a) ++ [V.ref x]).length : Nat) : Int) - 1 = ((st.sq.length : Nat) : Int) := by
      rw [List.length_append, List.length_map, CA.slen]
      simp
    show Q (V.int ((((c.sq.map fun d => V.ref d.a) ++ [V.ref x]).length : Nat) - 1)) _
    rw [el]
    -- the council behind it
    obtain ⟨⟨dxs, a1⟩, ⟨kvs, a2, a2'⟩, a3, a4⟩ := id SA
    have hm : c.sl ∈ c.foot := by simp [CnAd.foot]
    have tx : TupX H3 (upd H3 c.sl (.lst ((c.sq.map fun d => V.ref d.a) ++ [V.ref x]))) := fun b ys z => by rw [upd_ne (ne_of z hsl3 (by intro q; cases q))]; exact z
    have off : ∀ {b : Addr} {o : HO}, H3 b = some o → b ≠ c.sl → (upd H3 c.sl (.lst ((c.sq.map fun d => V.ref d.a) ++ [V.ref x]))) b = some o := fun z n => by rw [upd_ne n]; exact z
    have old : ∀ {b b' : Addr} {o : HO}, H2 b = some o → H2 b' = none → b ≠ b' := fun z n => ne_of_none z n
    have hx2 : H2 ad.a = none := by rw [ha0]; exact nx
    have hrd2 := hnew ad.rd (by simp)
    have hrl2 := hnew ad.rl (by simp)
    have htd2 := hnew ad.td (by simp)
    have at_ : ∀ (j : Nat) (f : SqAd), (c.sq ++ [ad])[j]? = some f → c.sq[j]? = some f ∨ (j = c.sq.length ∧ f = ad) := by
      intro j f hj
      rw [List.getElem?_append] at hj
      split at hj
      · exact .inl hj
      · rename_i hjl
        have e3 : j - c.sq.length = 0 := by
          by_cases q : j - c.sq.length = 0
          · exact q
          · rw [List.getElem?_eq_none (by simp; omega)] at hj; cases hj
        rw [e3] at hj
        simp at hj
        exact .inr ⟨by omega, hj.symm⟩
    refine k { c with sq := c.sq ++ [ad] } _ ⟨⟨dx, off h13 npsl⟩, off CA3.kl CA.l1, CA.klen, fun j a hj => ?_, ?_, by simp [CA.slen], fun j f hj => ?_, ?_, CA.nd1, ?_, ?_, CA.l1, CA.l2, CA.l3⟩ ?_ rfl
    · obtain ⟨kp, e1, e2⟩ := CA3.ks j a hj
      obtain ⟨dx2, r2, l2, w2, rs2, ls2, ws2, g1, _⟩ := id e2
      exact ⟨kp, e1, e2.move tx fun o z => off z (ne_len g1 hsl3 (show (4 : Nat) ≠ 100 by decide))⟩
    · rw [upd_same, List.map_append]
      show some (HO.lst ((c.sq.map fun d => V.ref d.a) ++ [V.ref x])) = some (HO.lst ((c.sq.map fun d => V.ref d.a) ++ [V.ref ad.a]))
      rw [ha0]
    · rcases at_ j f hj with hj | ⟨rfl, rfl⟩
      · obtain ⟨s1, e1, e2⟩ := CA3.sq j f hj
        obtain ⟨⟨dx2, g1⟩, ⟨kvs2, g2, _⟩, g3, g4⟩ := id e2
        obtain ⟨o1, o2, o3, o4⟩ := CA.own f (List.mem_of_getElem? hj)
        refine ⟨s1, by rw [List.getElem?_append_left (List.getElem?_eq_some_iff.mp e1).1]; exact e1, e2.move tx fun b hb o z => ?_⟩
        simp at hb
        rcases hb with rfl | rfl | rfl | rfl
        · exact off z (ne_len g1 hsl3 (show (6 : Nat) ≠ 100 by decide))
        · exact off z (ne_len g2 hsl3 (show (101 : Nat) ≠ 100 by decide))
        · exact off z o3
        · exact off z (ne_len g4 hsl3 (show (101 : Nat) ≠ 100 by decide))
      · refine ⟨newSq e st.ks.length, by rw [CA.slen]; simp, SA.move tx fun b hb o z => ?_⟩
        simp at hb
        rcases hb with rfl | rfl | rfl | rfl
        · exact off z (old CA2.sl hx2).symm
        · exact off z (old CA2.sl hrd2).symm
        · exact off z (old CA2.sl hrl2).symm
        · exact off z (old CA2.sl htd2).symm
    · obtain ⟨ls, z1, z2⟩ := CA3.ll
      exact ⟨ls, off z1 CA.l3.symm, paired_imp (fun _ _ => LetA.mono tx) z2⟩
    · intro i j f g hi hj hij
      rcases at_ i f hi with hi2 | ⟨rfl, rfl⟩
      · rcases at_ j g hj with hj | ⟨rfl, rfl⟩
        · exact CA.sep i j f g hi2 hj hij
        · obtain ⟨s1, e1, ⟨dx2, g1⟩, ⟨kvs2, g2, _⟩, g3, g4⟩ := CA2.sq i f hi2
          exact ⟨old g1 hx2, old g3 hrl2, old g2 hrd2, old g2 htd2, old g4 hrd2, old g4 htd2⟩
      · rcases at_ j g hj with hj2 | ⟨rfl, rfl⟩
        · obtain ⟨s1, e1, ⟨dx2, g1⟩, ⟨kvs2, g2, _⟩, g3, g4⟩ := CA2.sq j g hj2
          exact ⟨(old g1 hx2).symm, (old g3 hrl2).symm, (old g2 hrd2).symm, (old g4 hrd2).symm, (old g2 htd2).symm, (old g4 htd2).symm⟩
        · exact absurd rfl hij
    · intro f hf
      rcases List.mem_append.mp hf with hf | hf
      · exact CA.own f hf
      · simp at hf
        subst hf
        obtain ⟨ls, z1, _⟩ := CA2.ll
        exact ⟨f4, (old CA2.kl hrl2).symm, (old CA2.sl hrl2).symm, (old z1 hrl2).symm⟩
    · intro b o z n
      have nb : b ≠ c.sl := fun q => n (by rw [q]; exact hm)
      refine ⟨off (s3 _ _ (s2 _ _ z)) nb, fun m => ?_⟩
      rcases CnAd.mem_cases m with q | q | q | q | q | ⟨f, hf, q⟩
      · exact n (by rw [q]; simp [CnAd.foot])
      · exact n (by rw [q]; simp [CnAd.foot])
      · exact n (by rw [q]; simp [CnAd.foot])
      · exact n (by rw [q]; simp [CnAd.foot])
      · exact n (CnAd.mem_ks q)
      · rcases List.mem_append.mp hf with hf | hf
        · exact n (CnAd.mem_sq hf q)
        · simp at hf
          subst hf
          have z2 := s2 _ _ z
          simp at q
          rcases q with q | q | q | q
          · exact old z2 hx2 q
          · exact old z2 hrd2 q
          · exact old z2 hrl2 q
          · exact old z2 htd2 q
end
end K40
/-! A council's methods: send, lose, flush, fall, stop, settled. -/
namespace K40
open PySem L2 Mc
section
variable {P : Program} {w : World} {K : PySem.W.Frag} {mg : Str → Option Value} {base : Heap} {RC KC SC CC : Addr}
theorem CnAt.sqv {KC SC CC : Addr} {H : Hp} {c : CnAd} {st : Cst Ent} (h : CnAt KC SC CC H c st) {i : Nat} (hi : i < st.sq.length) : ∃ d s, c.sq[i]? = some d ∧ st.sq[i]? = some s ∧ SqAt SC H st.ks.length d s ∧ (c.sq.map fun d => V.ref d.a)[i]? = some (V.ref d.a) := by
  have hl : i < c.sq.length := by rw [h.slen]; exact hi
  have hd : c.sq[i]? = some c.sq[i] := List.getElem?_eq_getElem hl
  obtain ⟨s, h1, h2⟩ := h.sq i _ hd
  exact ⟨_, s, hd, h1, h2, by rw [List.getElem?_map, hd]; rfl⟩
theorem CnAt.ksv {KC SC CC : Addr} {H : Hp} {c : CnAd} {st : Cst Ent} (h : CnAt KC SC CC H c st) {i : Nat} (hi : i < st.ks.length) : ∃ a kp, c.ks[i]? = some a ∧ st.ks[i]? = some kp ∧ KeeperAt KC H a i kp ∧ (c.ks.map V.ref)[i]? = some (V.ref a) := by
  have hl : i < c.ks.length := by rw [h.klen]; exact hi
  have hd : c.ks[i]? = some c.ks[i] := List.getElem?_eq_getElem hl
  obtain ⟨s, h1, h2⟩ := h.ks i _ hd
  exact ⟨_, s, hd, h1, h2, by rw [List.getElem?_map, hd]; rfl⟩
def spCSend (KC SC CC : Addr) : Sp := fun vs H Q _ => ∃ (c : CnAd) (st : Cst Ent) (N i : Nat), vs = [.ref c.p, .int (i : Nat)] ∧ CnAt KC SC CC H c st ∧ Good N st ∧ N ≤ 5000 ∧ i < st.sq.length ∧
  Post KC SC CC c H N st (st.sq.map Sq.epoch) (Q .non)
theorem scCSend : FnScope ["self", "number"] ["self", "number"] (defScope sCSend) := ⟨rfl, rfl, rfl, by decide +kernel, rfl, by decide +kernel, by decide +kernel⟩
theorem ok_csend {f fs : Addr} {fd fds : FuncData} (F : Fun K "send" "Council.send" sCSend f fd) (T : Txt K mg RC KC SC CC) (DS : DM K SC "to_send" "Sequencer.to_send" sSSend ["self"] fs fds) : FnOk P w K mg base CX0 2 f fd ["self", "number"] (spCSend KC SC CC) := by
  have GS : FnOk P w K mg base CX0 1 fs fds ["self"] (spSend SC) := ok_send DS.F T
  refine F.ok scCSend (fun vs H Q E h => ?_) (fun cdv A outer s0 H vs Q E hr h => ?_)
  · obtain ⟨c, st, N, i, rfl, _⟩ := h
    rfl
  · obtain ⟨c, st, N, i, rfl, CA, g, hN, hi, k⟩ := h
    have sLine : sizeLine = 2 ^ 24 := rfl
    obtain ⟨dx, h1⟩ := CA.ob
    obtain ⟨ls, hll, hlp⟩ := CA.ll
    obtain ⟨d, s, hd, hs, SA, hv⟩ := CA.sqv hi
    obtain ⟨⟨ds, g1⟩, _⟩ := id SA
    have hsm := List.mem_of_getElem? hs
    have hn5 := g.n5
    have hrow := g.sz.sq s hsm
    have hll2 := g.sz.ls
    have hlen : ls.length = st.ls.length := hlp.length
    refine ⟨_, pss_one (ps_expr (pe_bm PySem.F.plainAttrs_list PySem.F.slot_list_extend PySem.F.type_list_extend mt_extend (pe_fld (pv 0) rfl) (pa_cons (pe_callTy call_list_of (by rfl) T.list (by decide +kernel)
      (pa_cons (pe_meth0 (pe_ix ix_list (pe_fld (pv 0) rfl) (pv 1) (fun _ _ => rfl)) T.clS DS.m GS hr DS.b .nil pass0) pa_nil)) pa_nil))), ?_⟩
    refine ⟨_, rfl, c.p, CC, dx, _, _, rfl, h1, T.clC, T.nCl, rfl, .inl ⟨rfl, _, .inl (.inl hll)⟩, _, rfl, c.p, CC, dx, _, _, rfl, h1, T.clC, T.nCs, rfl, _, rfl, c.sl, _, _, _, rfl, rfl, SqL.of CA.sl, atI_nat hv, d.a, ds, _, rfl, g1, rfl,
      st.ks.length, d, s, rfl, SA, (g.inv.sqs s hsm).len, by omega, by omega, fun t ts H2 nt ht hp s2 => ?_⟩
    have htl : ts.length ≤ 5 := by
      rw [hp.length]
      have := toSend_len st.ks.length s
      omega
    refine ⟨t, ts, rfl, .inr (SqT.of ht), fun l hl => ?_⟩
    have s3 : Same H2 (upd H2 l (.lst ts)) := Same.new hl
    have s23 := s2.trans s3
    have hl3 : (upd H2 l (.lst ts)) l = some (.lst ts) := upd_same
    generalize upd H2 l (.lst ts) = H3 at s3 s23 hl3
    have hll3 := s23 _ _ hll
    refine ⟨c.ll, l, ls, ts, rfl, rfl, hll3, hl3, by omega, ?_⟩
    have b4 : But [c.ll] H (upd H3 c.ll (.lst (ls ++ ts))) := (But.same s23).upd (.inl (by simp))
    have tx : TupX H3 (upd H3 c.ll (.lst (ls ++ ts))) := fun b ys z => by rw [upd_ne (ne_of z hll3 (by intro q; cases q))]; exact z
    have hpp : Paired (LetA (upd H3 c.ll (.lst (ls ++ ts)))) (ls ++ ts) (st.ls ++ toSend st.ks.length s) :=
      paired_app (paired_imp (fun _ _ z => LetA.mono tx (LetA.mono (TupX.of s23) z)) hlp) (paired_imp (fun _ _ z => LetA.mono tx (LetA.mono (TupX.of s3) z)) hp)
    obtain ⟨C1, K1⟩ := CA.lets b4 upd_same hpp
    refine k c _ _ C1 (g.lets (fun l hl => ?_) (by omega) ?_) (Grow.refl _) rfl K1 rfl
    · rcases List.mem_append.mp hl with hl | hl
      · exact .inl hl
      · exact .inr (g.inv.toSend hsm hl).1
    · rw [List.length_append]
      have := toSend_len st.ks.length s
      omega
def spCLose (KC SC CC : Addr) : Sp := fun vs H Q _ => ∃ (c : CnAd) (st : Cst Ent) (N i : Nat), vs = [.ref c.p, .int (i : Nat)] ∧ CnAt KC SC CC H c st ∧ Good N st ∧ N ≤ 5000 ∧ i < st.ls.length ∧
  Post KC SC CC c H N st (st.sq.map Sq.epoch) (Q .non)
theorem paired_erase {α β : Type} {F : α → β → Prop} : ∀ {xs : List α} {ys : List β} (i : Nat), Paired F xs ys → Paired F (xs.eraseIdx i) (ys.eraseIdx i)
  | _, _, _, .nil => by simp; exact .nil
  | _, _, 0, .cons _ t => t
  | _, _, i + 1, .cons r t => .cons r (paired_erase i t)
theorem scCLose : FnScope ["self", "at"] ["self", "at"] (defScope sCLose) := ⟨rfl, rfl, rfl, by decide +kernel, rfl, by decide +kernel, by decide +kernel⟩
theorem ok_close {f fw : Addr} {fd fdw : FuncData} (F : Fun K "lose" "Council.lose" sCLose f fd) (T : Txt K mg RC KC SC CC) (DW : DF K mg "is_whole" sWhole ["thing", "low", "high"] fw fdw) : FnOk P w K mg base CX0 2 f fd ["self", "at"] (spCLose KC SC CC) := by
  have GW : FnOk P w K mg base CX0 1 fw fdw ["thing", "low", "high"] spWhole := ok_whole DW.F T
  refine F.ok scCLose (fun vs H Q E h => ?_) (fun cdv A outer s0 H vs Q E hr h => ?_)
  · obtain ⟨c, st, N, i, rfl, _⟩ := h
    rfl
  · obtain ⟨c, st, N, i, rfl, CA, g, hN, hi, k⟩ := h
    have sLine : sizeLine = 2 ^ 24 := rfl
    obtain ⟨dx, h1⟩ := CA.ob
    obtain ⟨ls, hll, hlp⟩ := CA.ll
    have hll2 := g.sz.ls
    have hlen : ls.length = st.ls.length := hlp.length
    refine ⟨_, pss_cons (ps_if (pt_not (pt_val (pe_call GW hr rfl DW.g DW.F.kp DW.b .nil pass0 (pa_cons (pv 1) (pa_cons pe_int (pa_cons (pe_op op_sub (pe_callB call_len_seq (by rfl) T.len PySem.boot_len (pa_cons (pe_fld (pv 0) rfl) pa_nil)) pe_int) pa_nil)))))) (pss_one ps_never) pss_nil)
      (pss_one (ps_expr (pe_bm PySem.F.plainAttrs_list PySem.F.slot_list_pop PySem.F.type_list_pop mt_popAt (pe_fld (pv 0) rfl) (pa_cons (pv 1) pa_nil)))), ?_⟩
    refine ⟨_, rfl, _, rfl, c.p, CC, dx, _, _, rfl, h1, T.clC, T.nCl, rfl, c.ll, _, rfl, .inl (SqL.of hll), _, _, rfl, rfl, ((i : Nat) : Int), 0, (ls.length : Int) - 1, rfl, _, rfl, ?_⟩
    rw [decide_eq_true (by omega : (0 : Int) ≤ ((i : Nat) : Int)), decide_eq_true (by omega : ((i : Nat) : Int) ≤ (ls.length : Int) - 1)]
    refine iteF ?_
    have hil : i < ls.length := by omega
    refine ⟨_, rfl, c.p, CC, dx, _, _, rfl, h1, T.clC, T.nCl, rfl, .inl ⟨rfl, _, .inl (.inl hll)⟩, _, rfl, c.ll, ls, ((i : Nat) : Int), i, ls[i], rfl, rfl, hll, by omega, by omega, ?_, List.getElem?_eq_getElem hil, ?_⟩
    · rw [seqIndex_of (by omega) (by omega)]
      simp
    · have b4 : But [c.ll] H (upd H c.ll (.lst (ls.eraseIdx i))) := (But.refl _ H).upd (.inl (by simp))
      have tx : TupX H (upd H c.ll (.lst (ls.eraseIdx i))) := fun b ys z => by rw [upd_ne (ne_of z hll (by intro q; cases q))]; exact z
      obtain ⟨C1, K1⟩ := CA.lets b4 upd_same (paired_erase i (paired_imp (fun _ _ => LetA.mono tx) hlp))
      refine k c _ _ C1 (g.lets (fun l hl => .inl (List.mem_of_mem_eraseIdx hl)) (by omega) ?_) (Grow.refl _) rfl K1 rfl
      have := List.length_eraseIdx_le st.ls i
      omega
def spCFlush (KC SC CC : Addr) : Sp := fun vs H Q _ => ∃ (c : CnAd) (st : Cst Ent) (N i : Nat), vs = [.ref c.p, .int (i : Nat)] ∧ CnAt KC SC CC H c st ∧ Good N st ∧ N ≤ 5000 ∧ i < st.ks.length ∧
  Post KC SC CC c H N st (st.sq.map Sq.epoch) (Q .non)
theorem scCFlush : FnScope ["self", "number"] ["self", "number"] (defScope sCFlush) := ⟨rfl, rfl, rfl, by decide +kernel, rfl, by decide +kernel, by decide +kernel⟩
theorem ok_cflush {f fs : Addr} {fd fds : FuncData} (F : Fun K "flush" "Council.flush" sCFlush f fd) (T : Txt K mg RC KC SC CC) (DF' : DM K KC "flush" "Keeper.flush" sKFlush ["self"] fs fds) : FnOk P w K mg base CX0 2 f fd ["self", "number"] (spCFlush KC SC CC) := by
  have GF : FnOk P w K mg base CX0 1 fs fds ["self"] (spFlush KC) := ok_flush DF'.F T
  refine F.ok scCFlush (fun vs H Q E h => ?_) (fun cdv A outer s0 H vs Q E hr h => ?_)
  · obtain ⟨c, st, N, i, rfl, _⟩ := h
    rfl
  · obtain ⟨c, st, N, i, rfl, CA, g, hN, hi, k⟩ := h
    have sLine : sizeLine = 2 ^ 24 := rfl
    obtain ⟨dx, h1⟩ := CA.ob
    obtain ⟨ls, hll, hlp⟩ := CA.ll
    obtain ⟨a, kp, ha, hk, KA, hv⟩ := CA.ksv hi
    obtain ⟨da, r0, l0, w0, rs0, ls0, ws0, g1, _⟩ := id KA
    have hll2 := g.sz.ls
    have hlen : ls.length = st.ls.length := hlp.length
    obtain ⟨g2, gr, hok, _, hwl⟩ := g.flush hk
    refine ⟨_, pss_one (ps_expr (pe_bm PySem.F.plainAttrs_list PySem.F.slot_list_extend PySem.F.type_list_extend mt_extend (pe_fld (pv 0) rfl) (pa_cons (pe_callTy call_list_of (by rfl) T.list (by decide +kernel)
      (pa_cons (pe_meth0 (pe_ix ix_list (pe_fld (pv 0) rfl) (pv 1) (fun _ _ => rfl)) T.clK DF'.m GF hr DF'.b .nil pass0) pa_nil)) pa_nil))), ?_⟩
    refine ⟨_, rfl, c.p, CC, dx, _, _, rfl, h1, T.clC, T.nCl, rfl, .inl ⟨rfl, _, .inl (.inl hll)⟩, _, rfl, c.p, CC, dx, _, _, rfl, h1, T.clC, T.nCk, rfl, _, rfl, c.kl, _, _, _, rfl, rfl, SqL.of CA.kl, atI_nat hv, a, da, _, rfl, g1, rfl,
      a, i, kp, rfl, KA, Good.roomy g (by omega) hk, fun t ts H2 ht hp K2 b2 => ?_⟩
    have htl : ts.length ≤ N := by rw [hp.length]; exact hwl
    obtain ⟨C2, K2'⟩ := CA.keeper ha b2 K2
    refine ⟨t, ts, rfl, .inr (SqT.of ht), fun l hl => ?_⟩
    have s3 : Same H2 (upd H2 l (.lst ts)) := Same.new hl
    have hl3 : (upd H2 l (.lst ts)) l = some (.lst ts) := upd_same
    generalize upd H2 l (.lst ts) = H3 at s3 hl3
    have C3 := C2.same s3
    obtain ⟨ls3, hll3, hlp3⟩ := C3.ll
    have hll3' : H3 c.ll = some (.lst ls) := s3 _ _ (b2 _ _ hll (by simpa using (ne_len hll g1 (show (100 : Nat) ≠ 4 by decide))))
    rw [hll3'] at hll3
    cases hll3
    refine ⟨c.ll, l, ls, ts, rfl, rfl, hll3', hl3, by omega, ?_⟩
    have b4 : But [c.ll] H3 (upd H3 c.ll (.lst (ls ++ ts))) := (But.refl _ H3).upd (.inl (by simp))
    have tx : TupX H3 (upd H3 c.ll (.lst (ls ++ ts))) := fun b ys z => by rw [upd_ne (ne_of z hll3' (by intro q; cases q))]; exact z
    obtain ⟨C4, K4⟩ := C3.lets b4 upd_same (paired_app (paired_imp (fun _ _ => LetA.mono tx) hlp3) (paired_imp (fun _ _ z => LetA.mono tx (LetA.mono (TupX.of s3) z)) hp))
    refine k c _ _ C4 (g2.lets (fun l hl => ?_) (by omega) ?_) gr rfl (K2'.trans ((Keep.same s3).trans K4)) rfl
    · rcases List.mem_append.mp hl with hl | hl
      · exact .inl hl
      · exact .inr (hok l hl)
    · show (st.ls ++ kp.wait).length ≤ _
      rw [List.length_append]
      omega
def spCFall (KC SC CC : Addr) : Sp := fun vs H Q _ => ∃ (c : CnAd) (st : Cst Ent) (N i m : Nat) (kp : Kp Ent), vs = [.ref c.p, .int (i : Nat), .int (m : Nat)] ∧ CnAt KC SC CC H c st ∧ Good N st ∧ N ≤ 5000 ∧ st.ks[i]? = some kp ∧ m ≤ kp.loose.length ∧
  Post KC SC CC c H N st (st.sq.map Sq.epoch) (Q .non)
theorem scCFall : FnScope ["self", "number", "many"] ["self", "number", "many"] (defScope sCFall) := ⟨rfl, rfl, rfl, by decide +kernel, rfl, by decide +kernel, by decide +kernel⟩
theorem ok_cfall {f fs fw : Addr} {fd fds fdw : FuncData} (F : Fun K "fall" "Council.fall" sCFall f fd) (T : Txt K mg RC KC SC CC) (DF' : DM K KC "fall" "Keeper.fall" sKFall ["self", "many"] fs fds) (DW : DF K mg "is_whole" sWhole ["thing", "low", "high"] fw fdw) :
    FnOk P w K mg base CX0 3 f fd ["self", "number", "many"] (spCFall KC SC CC) := by
  have GF : FnOk P w K mg base CX0 2 fs fds ["self", "many"] (spFall KC) := ok_fall DF'.F T DW
  refine F.ok scCFall (fun vs H Q E h => ?_) (fun cdv A outer s0 H vs Q E hr h => ?_)
  · obtain ⟨c, st, N, i, m, kp, rfl, _⟩ := h
    rfl
  · obtain ⟨c, st, N, i, m, kp, rfl, CA, g, hN, hk, hm, k⟩ := h
    obtain ⟨dx, h1⟩ := CA.ob
    obtain ⟨a, kp', ha, hk', KA, hv⟩ := CA.ksv (List.getElem?_eq_some_iff.mp hk).1
    rw [hk] at hk'
    cases hk'
    obtain ⟨da, r0, l0, w0, rs0, ls0, ws0, g1, _⟩ := id KA
    obtain ⟨g2, gr⟩ := g.fall m hk
    refine ⟨_, pss_one (ps_expr (pe_meth (pe_ix ix_list (pe_fld (pv 0) rfl) (pv 1) (fun _ _ => rfl)) T.clK DF'.m GF hr DF'.b .nil pass0 (pa_cons (pv 2) pa_nil))), ?_⟩
    refine ⟨_, rfl, c.p, CC, dx, _, _, rfl, h1, T.clC, T.nCk, rfl, _, rfl, c.kl, _, _, _, rfl, rfl, SqL.of CA.kl, atI_nat hv, a, da, _, rfl, g1, rfl, _, rfl,
      a, i, kp, m, rfl, KA, Good.roomy g (by omega) hk, hm, fun H2 K2 b2 => ?_⟩
    obtain ⟨C2, K2'⟩ := CA.keeper ha b2 K2
    exact k c _ _ C2 (g2.mono (by omega)) gr rfl K2' rfl
def spCStop (KC SC CC : Addr) : Sp := fun vs H Q _ => ∃ (c : CnAd) (st : Cst Ent) (N i : Nat), vs = [.ref c.p, .int (i : Nat)] ∧ CnAt KC SC CC H c st ∧ Good N st ∧ N ≤ 5000 ∧ i < st.sq.length ∧
  Post KC SC CC c H N st (st.sq.map Sq.epoch) (Q .non)
theorem scCStop : FnScope ["self", "number"] ["self", "number"] (defScope sCStop) := ⟨rfl, rfl, rfl, by decide +kernel, rfl, by decide +kernel, by decide +kernel⟩
theorem ok_cstop {f : Addr} {fd : FuncData} (F : Fun K "stop" "Council.stop" sCStop f fd) (T : Txt K mg RC KC SC CC) : FnOk P w K mg base CX0 1 f fd ["self", "number"] (spCStop KC SC CC) := by
  refine F.ok scCStop (fun vs H Q E h => ?_) (fun cdv A outer s0 H vs Q E hr h => ?_)
  · obtain ⟨c, st, N, i, rfl, _⟩ := h
    rfl
  · obtain ⟨c, st, N, i, rfl, CA, g, hN, hi, k⟩ := h
    obtain ⟨dx, h1⟩ := CA.ob
    obtain ⟨d, s, hd, hs, SA, hv⟩ := CA.sqv hi
    obtain ⟨⟨ds, g1⟩, ⟨kvs, g2, g2'⟩, g3, g4⟩ := id SA
    refine ⟨_, pss_one (ps_fld (pe_ix ix_list (pe_fld (pv 0) rfl) (pv 1) (fun _ _ => rfl)) pe_str rfl), ?_⟩
    refine ⟨_, rfl, c.p, CC, dx, _, _, rfl, h1, T.clC, T.nCs, rfl, _, rfl, c.sl, _, _, _, rfl, rfl, SqL.of CA.sl, atI_nat hv, d.a, SC, ds, _, rfl, g1, T.clS, T.nSs, (by show 6 < 1000; decide), ?_⟩
    have tx : TupX H (upd H d.a (.ins SC ds (sf s.epoch st.ks.length .stopped d.rd d.rl d.td))) := fun b ys z => by rw [upd_ne (ne_of z g1 (by intro q; cases q))]; exact z
    have SA2 : SqAt SC (upd H d.a (.ins SC ds (sf s.epoch st.ks.length .stopped d.rd d.rl d.td))) st.ks.length ⟨d.a, d.rd, d.rl, d.td⟩ { s with stand := .stopped } := by
      refine ⟨⟨ds, upd_same⟩, ⟨kvs, ?_, paired_imp (fun _ _ => RowKv.mono tx) g2'⟩, ?_, ?_⟩
      · rw [upd_ne (ne_of g2 g1 (by intro q; cases q))]; exact g2
      · rw [upd_ne (ne_of g3 g1 (by intro q; cases q))]; exact g3
      · rw [upd_ne (ne_of g4 g1 (by intro q; cases q))]; exact g4
    obtain ⟨C2, K2⟩ := CA.seq hd (.inl rfl) ((But.refl _ H).upd (.inl (by simp))) SA2
    exact k _ _ _ C2 ((g.stop hs).mono (by omega)) (Grow.refl _) (set_epochs hs rfl) K2 rfl
def spCSettled (KC SC CC : Addr) : Sp := fun vs H Q _ => ∃ (c : CnAd) (st : Cst Ent) (N : Nat), vs = [.ref c.p] ∧ CnAt KC SC CC H c st ∧ Good N st ∧ N ≤ 10000 ∧
  ∀ (t : Addr) (row : List Ent) (H' : Hp), H t = none → H' t = some (.tup (row.map eV)) → SettledRow st.ks row → row.length ≤ N → Same H H' → Q (.ref t) H'
theorem scCSettled : FnScope ["self"] ["self"] (defScope sCSettled) := ⟨rfl, rfl, rfl, by decide +kernel, rfl, by decide +kernel, by decide +kernel⟩
theorem ok_csettled {f fr : Addr} {fd fdr : FuncData} (F : Fun K "settled" "Council.settled" sCSettled f fd) (T : Txt K mg RC KC SC CC) (DR : DF K mg "settled_row" sSetRow ["keepers"] fr fdr) (GR : FnOk P w K mg base CX0 3 fr fdr ["keepers"] (spSetRow KC)) :
    FnOk P w K mg base CX0 4 f fd ["self"] (spCSettled KC SC CC) := by
  refine F.ok scCSettled (fun vs H Q E h => ?_) (fun cdv A outer s0 H vs Q E hr h => ?_)
  · obtain ⟨c, st, N, rfl, _⟩ := h
    rfl
  · obtain ⟨c, st, N, rfl, CA, g, hN, k⟩ := h
    obtain ⟨dx, h1⟩ := CA.ob
    have hn5 := g.n5
    refine ⟨_, pss_one (ps_ret (pe_call GR hr rfl DR.g DR.F.kp DR.b .nil pass0 (pa_cons (pe_fld (pv 0) rfl) pa_nil))), ?_⟩
    refine ⟨_, rfl, c.p, CC, dx, _, _, rfl, h1, T.clC, T.nCk, rfl, c.kl, c.ks, st.ks, N, rfl, CA.ksAt, by omega, fun k kp e => ?_, fun e p x hc => ?_, by omega, k⟩
    · have h1 := (g.sz.ks k kp e).1
      have h2 := kp.recs_le
      omega
    · obtain ⟨k, kp, e1, e2⟩ := g.inv.place hc
      have h1 := (g.sz.ks k kp e1).1
      have h2 := kp.recs_le
      omega
end
end K40
/-! A council's methods: deliver, exchange. -/
namespace K40
open PySem L2 Mc
section
variable {P : Program} {w : World} {K : PySem.W.Frag} {mg : Str → Option Value} {base : Heap} {RC KC SC CC : Addr}
theorem rowLen_eq (l : Letter Ent) : rowLen l = rowLenG l := by cases l <;> rfl
theorem set_map_eq {α β : Type} {f : α → β} {xs : List α} {i : Nat} {x y : α} (h : xs[i]? = some x) (e : f y = f x) : (xs.set i y).map f = xs.map f := by
  rw [List.map_set, e]
  apply List.ext_getElem?
  intro j
  rw [List.getElem?_set]
  split
  · rename_i e2; subst e2
    obtain ⟨hl, _⟩ := List.getElem?_eq_some_iff.mp h
    rw [List.length_map, if_pos hl, List.getElem?_map, h]
    rfl
  · rfl
/-- an answer comes to all sequencers -/
theorem hear_loop (T : Txt K mg RC KC SC CC) {D : Ends} {σ : L2.St} {H : Hp} {c : CnAd} {st : Cst Ent} {N : Nat} {v : V} {l : Letter Ent} {j vi : Nat} (CA : CnAt KC SC CC H c st) (g : Good N st) (hN : N ≤ 100000) (hl : LetOk st.ks st.sq l) (hq : l.isReq = false) (hv : LetA H v l)
    (h0 : σ[0]? = some (some (.ref c.p))) (hvi : σ[vi]? = some (some v)) (hj0 : j ≠ 0) (hjv : j ≠ vi) (hjl : j < σ.length)
    (k : ∀ σ' c' sq' H', (∀ i, i ≠ j → σ'[i]? = σ[i]?) → σ'.length = σ.length → CnAt KC SC CC H' c' { st with sq := sq' } → Good N { st with sq := sq' } → sq'.map Sq.epoch = st.sq.map Sq.epoch → GrowS st.sq sq' → Keep c H c' H' → c'.p = c.p → c'.sl = c.sl → c'.kl = c.kl → c'.ll = c.ll → c'.ks = c.ks → TupX H H' → D.nx σ' H') :
    tFor (iList K (tFld K (tVar 0) "sequencers")) (gName j) (tDrop (tMeth SC "hear" (spHear SC) [] E0 (tVar j) (tCons (tVar vi) tNil))) D σ H := by
  obtain ⟨dx, h1⟩ := CA.ob
  refine ⟨_, h0, c.p, CC, dx, _, _, rfl, h1, T.clC, T.nCs, rfl, c.sl, rfl, ⟨_, SqL.of CA.sl⟩, for_list (K := K) (a := c.sl) (xs := c.sq.map fun d => V.ref d.a)
    (fun _ σ' H' => (∀ i, i ≠ j → σ'[i]? = σ[i]?) ∧ σ'.length = σ.length ∧ ∃ c' sq', CnAt KC SC CC H' c' { st with sq := sq' } ∧ Good N { st with sq := sq' } ∧ sq'.map Sq.epoch = st.sq.map Sq.epoch ∧ GrowS st.sq sq' ∧ Keep c H c' H' ∧ c'.p = c.p ∧ c'.sl = c.sl ∧ c'.kl = c.kl ∧ c'.ll = c.ll ∧ c'.ks = c.ks ∧ TupX H H' ∧
      c'.sq.map (fun d => V.ref d.a) = c.sq.map (fun d => V.ref d.a))
    ⟨fun _ _ => rfl, rfl, c, st.sq, CA, g, rfl, GrowS.refl _, Keep.refl _ _, rfl, rfl, rfl, rfl, rfl, TupX.refl _, rfl⟩ (fun i σ' H' _ ⟨_, _, c', sq', C', _, _, _, _, _, esl, _, _, _, _, em⟩ => SqL.of (by have := C'.sl; rw [em, esl] at this; exact this)) ?_ ?_⟩
  · rintro i y σ' H' hi ⟨hs, hsl, c', sq', C', g', ep, gs, kk, e1, e2, e3, e4, e5, tx, em⟩
    rw [← em, List.getElem?_map] at hi
    obtain ⟨d, hd, rfl⟩ : ∃ d, c'.sq[i]? = some d ∧ y = V.ref d.a := by
      cases q : c'.sq[i]? with
      | none => rw [q] at hi; cases hi
      | some d => rw [q] at hi; exact ⟨d, rfl, (Option.some.inj hi).symm⟩
    obtain ⟨s, hs1, SA⟩ := C'.sq i d hd
    obtain ⟨⟨ds, g1⟩, _⟩ := id SA
    have hsm : s ∈ sq' := List.mem_of_getElem? hs1
    have ok := g'.inv.sqs s hsm
    have hl' : LetOk st.ks sq' l := hl.mono (Grow.refl _) gs
    have hlt := Good.let_ g' (l := l) hl'
    have hn5 : st.ks.length ≤ 5 := g.n5
    have hrows := g'.rows hsm
    show tMeth SC "hear" (spHear SC) [] E0 (tVar j) (tCons (tVar vi) tNil) (σ'.set j (some (V.ref d.a))) H' _
    refine ⟨_, List.getElem?_set_self (by rw [hsl]; exact hjl), d.a, ds, _, rfl, g1, rfl, _, (by rw [List.getElem?_set_ne hjv, hs vi hjv.symm]; exact hvi), st.ks.length, d, s, v, l, rfl, SA, hv.mono tx, hq, hlt.1, ok.len, by omega, ok.keys, fun q hq => ⟨(hrows q hq).1, by have := (hrows q hq).2; omega⟩, by rw [rowLen_eq]; have := hlt.2; omega, (C'.own d (List.mem_of_getElem? hd)).1, fun rl' s' H2 hrl hh SA2 b2 => ?_⟩
    obtain ⟨C2, K2⟩ := C'.seq hd hrl (b2.sub fun b hb => by simp at hb ⊢; rcases hb with h | h | h <;> simp [h]) SA2
    obtain ⟨g2, gs2, ep2⟩ := g'.hear hs1 hl' hh
    have tx2 : TupX H' H2 := C'.tupX b2 fun b hb => CnAd.mem_sq (List.mem_of_getElem? hd) (by simp at hb ⊢; rcases hb with h | h | h <;> simp [h])
    refine ⟨fun i hij => ?_, by simp [hsl], _, _, C2, g2, ep2.trans ep, gs.trans gs2, kk.trans K2, e1, e2, e3, e4, e5, tx.trans tx2, ?_⟩
    · rw [List.getElem?_set_ne (fun z => hij z.symm)]
      exact hs i hij
    · rw [← em]
      exact set_map_eq hd rfl
  · rintro σ' H' ⟨hs, hsl, c', sq', C', g', ep, gs, kk, e1, e2, e3, e4, e5, tx, em⟩
    exact k σ' c' sq' H' hs hsl C' g' ep gs kk e1 e2 e3 e4 e5 tx
def kindS : Letter Ent → Str
  | .ask _ _ => "ask"
  | .write _ _ _ _ => "write"
  | .refused _ _ _ => "refused"
  | .told _ _ _ => "told"
  | .taken _ _ _ => "taken"
theorem kind_in (l : Letter Ent) : inV (.str (kindS l)) [.str "ask", .str "write"] = l.isReq := by
  cases l with
  | ask e k => show inV (.str "ask") [.str "ask", .str "write"] = true; decide +kernel
  | write e k p x => show inV (.str "write") [.str "ask", .str "write"] = true; decide +kernel
  | refused e k ke => show inV (.str "refused") [.str "ask", .str "write"] = false; decide +kernel
  | told e k row => show inV (.str "told") [.str "ask", .str "write"] = false; decide +kernel
  | taken e k p => show inV (.str "taken") [.str "ask", .str "write"] = false; decide +kernel
theorem let_tup {H : Hp} {v : V} {l : Letter Ent} (h : LetA H v l) : ∃ b its, v = .ref b ∧ H b = some (.tup its) ∧ atI its 0 = some (.str (kindS l)) ∧ atI its 2 = some (.int ((l.num : Nat) : Int)) := by
  cases l with
  | ask e k => obtain ⟨b, e1, e2⟩ := h; exact ⟨b, _, e1, e2, rfl, rfl⟩
  | write e k p x => obtain ⟨b, e1, e2⟩ := h; exact ⟨b, _, e1, e2, rfl, rfl⟩
  | refused e k ke => obtain ⟨b, e1, e2⟩ := h; exact ⟨b, _, e1, e2, rfl, rfl⟩
  | told e k row => obtain ⟨b, c, e1, e2, _⟩ := h; exact ⟨b, _, e1, e2, rfl, rfl⟩
  | taken e k p => obtain ⟨b, e1, e2⟩ := h; exact ⟨b, _, e1, e2, rfl, rfl⟩
def spCDeliver (KC SC CC : Addr) : Sp := fun vs H Q _ => ∃ (c : CnAd) (st : Cst Ent) (N i : Nat) (kept : Bool), vs = [.ref c.p, .int (i : Nat), .bl kept] ∧ CnAt KC SC CC H c st ∧ Good N st ∧ N ≤ 5000 ∧ i < st.ls.length ∧
  Post KC SC CC c H N st (st.sq.map Sq.epoch) (Q .non)
abbrev nDeliver : List Str := ["self", "at", "is_kept", "letter", "sequencer"]
theorem scCDeliver : FnScope nDeliver ["self", "at", "is_kept"] (defScope sCDeliver) := ⟨rfl, rfl, rfl, by decide +kernel, rfl, by decide +kernel, by decide +kernel⟩
theorem ok_cdeliver {f fw fh fr : Addr} {fd fdw fdh fdr : FuncData} (F : Fun K "deliver" "Council.deliver" sCDeliver f fd) (T : Txt K mg RC KC SC CC) (DW : DF K mg "is_whole" sWhole ["thing", "low", "high"] fw fdw)
    (DH : DM K KC "handle" "Keeper.handle" sKHandle ["self", "letter"] fh fdh) (GH : FnOk P w K mg base CX0 5 fh fdh ["self", "letter"] (spHandle KC))
    (DR : DM K SC "hear" "Sequencer.hear" sSHear ["self", "letter"] fr fdr) (GR : FnOk P w K mg base CX0 2 fr fdr ["self", "letter"] (spHear SC)) :
    FnOk P w K mg base CX0 6 f fd ["self", "at", "is_kept"] (spCDeliver KC SC CC) := by
  have GW : FnOk P w K mg base CX0 1 fw fdw ["thing", "low", "high"] spWhole := ok_whole DW.F T
  refine F.ok scCDeliver (fun vs H Q E h => ?_) (fun cdv A outer s0 H vs Q E hr h => ?_)
  · obtain ⟨c, st, N, i, kept, rfl, _⟩ := h
    rfl
  · obtain ⟨c, st, N, i, kept, rfl, CA, g, hN, hi, k⟩ := h
    have sLine : sizeLine = 2 ^ 24 := rfl
    have hr1 : Room 1 _ := hr.mono (by decide)
    have hr2 : Room 2 _ := hr.mono (by decide)
    obtain ⟨dx, h1⟩ := CA.ob
    obtain ⟨ls, hll, hlp⟩ := CA.ll
    have hll2 := g.sz.ls
    have hlen : ls.length = st.ls.length := hlp.length
    refine ⟨_, pss_cons (ps_if (pt_not (pt_val (pe_call GW hr1 rfl DW.g DW.F.kp DW.b .nil pass0 (pa_cons (pv 1) (pa_cons pe_int (pa_cons (pe_op op_sub (pe_callB call_len_seq (by rfl) T.len PySem.boot_len (pa_cons (pe_fld (pv 0) rfl) pa_nil)) pe_int) pa_nil)))))) (pss_one ps_never) pss_nil)
      (pss_cons (ps_set (i := 3) scCDeliver.nd rfl (Or.inl rfl) (pe_ix ix_list (pe_fld (pv 0) rfl) (pv 1) (fun _ _ => rfl)))
      (Evl.pss_cut (ps_if (pt_not (pt_val (pv 2))) (pss_one (ps_expr (pe_bm PySem.F.plainAttrs_list PySem.F.slot_list_pop PySem.F.type_list_pop mt_popAt (pe_fld (pv 0) rfl) (pa_cons (pv 1) pa_nil)))) pss_nil)
      (pss_one (ps_if (pt_cmpR op_in_seq (pe_ix ix_tup (pv 3) pe_int (fun _ _ => rfl)) (pe_tup (pa_cons pe_str (pa_cons pe_str pa_nil))) (by rfl))
        (pss_one (ps_expr (pe_meth (pe_ix ix_list (pe_fld (pv 0) rfl) (pe_ix ix_tup (pv 3) pe_int (fun _ _ => rfl)) (fun _ _ => rfl)) T.clK DH.m GH hr DH.b .nil pass0 (pa_cons (pv 3) pa_nil))))
        (pss_one (ps_for PassesOwn.never rfl (pi_list (pe_fld (pv 0) rfl)) (pg_name (i := 4) scCDeliver.nd rfl (Or.inl rfl)) (pss_one (ps_expr (pe_meth (pv 4) T.clS DR.m GR hr2 DR.b .nil pass0 (pa_cons (pv 3) pa_nil)))))))))), ?_⟩
    refine ⟨_, rfl, _, rfl, c.p, CC, dx, _, _, rfl, h1, T.clC, T.nCl, rfl, c.ll, _, rfl, .inl (SqL.of hll), _, _, rfl, rfl, ((i : Nat) : Int), 0, (ls.length : Int) - 1, rfl, _, rfl, ?_⟩
    rw [decide_eq_true (by omega : (0 : Int) ≤ ((i : Nat) : Int)), decide_eq_true (by omega : ((i : Nat) : Int) ≤ (ls.length : Int) - 1)]
    refine iteF ?_
    have hil : i < ls.length := by omega
    have hv : ls[i]? = some ls[i] := List.getElem?_eq_getElem hil
    obtain ⟨l, hl, hla⟩ := paired_ta hlp hv
    have hlm := List.mem_of_getElem? hl
    have hlok := g.inv.lt l hlm
    generalize ls[i] = v at hv hla
    refine ⟨_, rfl, c.p, CC, dx, _, _, rfl, h1, T.clC, T.nCl, rfl, _, rfl, c.ll, _, _, _, rfl, rfl, SqL.of hll, atI_nat hv, ?_⟩
    -- perhaps it goes
    refine ⟨fun σ' H1 => σ' = [some (.ref c.p), some (.int ((i : Nat) : Int)), some (.bl kept), some v, none] ∧ ∃ ls' : List (Letter Ent), CnAt KC SC CC H1 c { st with ls := ls' } ∧ Good N { st with ls := ls' } ∧ Keep c H c H1 ∧ TupX H H1, ?_, ?_⟩
    · refine ⟨_, rfl, kept, rfl, ?_⟩
      cases kept with
      | true =>
        refine iteF ?_
        exact ⟨rfl, st.ls, CA, g, Keep.refl _ _, TupX.refl _⟩
      | false =>
        refine iteT ?_
        refine ⟨_, rfl, c.p, CC, dx, _, _, rfl, h1, T.clC, T.nCl, rfl, .inl ⟨rfl, _, .inl (.inl hll)⟩, _, rfl, c.ll, ls, ((i : Nat) : Int), i, v, rfl, rfl, hll, by omega, by omega, ?_, hv, ?_⟩
        · rw [seqIndex_of (by omega) (by omega)]
          simp
        · have b4 : But [c.ll] H (upd H c.ll (.lst (ls.eraseIdx i))) := (But.refl _ H).upd (.inl (by simp))
          have tx : TupX H (upd H c.ll (.lst (ls.eraseIdx i))) := fun b ys z => by rw [upd_ne (ne_of z hll (by intro q; cases q))]; exact z
          obtain ⟨C1, K1⟩ := CA.lets b4 upd_same (paired_erase i (paired_imp (fun _ _ => LetA.mono tx) hlp))
          refine ⟨rfl, _, C1, g.lets (fun l hl => .inl (List.mem_of_mem_eraseIdx hl)) (Nat.le_refl _) ?_, K1, tx⟩
          have := List.length_eraseIdx_le st.ls i
          omega
    · rintro σ' H1 ⟨rfl, ls', C1, g1, K1, tx1⟩
      have hla1 := hla.mono tx1
      obtain ⟨b, its, rfl, hb, hk0, hk2⟩ := let_tup hla1
      refine ⟨_, rfl, b, _, _, _, rfl, rfl, SqT.of hb, hk0, (by show 2 ≤ sizeLine; decide), fun t ht => ?_⟩
      have s2 : Same H1 (upd H1 t (.tup [.str "ask", .str "write"])) := Same.new ht
      refine ⟨t, _, rfl, .inr (SqT.of upd_same), rfl, rfl, _, rfl, ?_⟩
      rw [kind_in]
      have C2 := C1.same s2
      have hla2 := hla1.mono (TupX.of s2)
      have hb2 := s2 _ _ hb
      have K2 : Keep c H c (upd H1 t (.tup [.str "ask", .str "write"])) := K1.trans (Keep.same s2)
      have tx2 : TupX H (upd H1 t (.tup [.str "ask", .str "write"])) := tx1.trans (TupX.of s2)
      generalize upd H1 t (.tup [.str "ask", .str "write"]) = H2 at s2 C2 hla2 hb2 K2 tx2
      obtain ⟨dx2, h12⟩ := C2.ob
      refine ite2 (fun hq => ?_) (fun hq => ?_)
      · have hnum : l.num < st.ks.length := (g.let_ hlok).1
        obtain ⟨a, kp, ha, hk, KA, hv2⟩ := C2.ksv (st := { st with ls := ls' }) hnum
        obtain ⟨da, r0, l0, w0, rs0, ls0, ws0, q1, _⟩ := id KA
        have hk : st.ks[l.num]? = some kp := hk
        refine ⟨_, rfl, c.p, CC, dx2, _, _, rfl, h12, T.clC, T.nCk, rfl, _, rfl, b, _, _, _, rfl, rfl, SqT.of hb2, hk2, c.kl, _, _, _, rfl, rfl, SqL.of C2.kl, atI_nat hv2, a, da, _, rfl, q1, rfl, _, rfl, a, .ref b, l.num, kp, l, rfl, KA, hla2, hq, Good.roomy g (by omega) hk, fun H3 K3 b3 => ?_⟩
        obtain ⟨C3, K3'⟩ := C2.keeper ha b3 K3
        obtain ⟨g3, gr⟩ := g1.handle hk hlok hq
        exact k c _ _ C3 (g3.mono (by omega)) gr rfl (K2.trans K3') rfl
      · have hq' : l.isReq = false := by simpa using hq
        refine hear_loop T (σ := [some (.ref c.p), some (.int ((i : Nat) : Int)), some (.bl kept), some (.ref b), none]) (j := 4) (vi := 3) C2 g1 (by omega) hlok hq' hla2 rfl rfl (by decide) (by decide) (by show 4 < 5; decide) fun σ' c' sq' H3 _ _ C3 g3 ep gs K3 e1 _ _ _ _ _ => ?_
        exact k c' _ _ C3 (g3.mono (by omega)) (Grow.refl _) ep (K2.trans K3) e1
def spCExch (KC SC CC : Addr) (K : PySem.W.Frag) : Sp := fun vs H Q _ => ∃ (c : CnAd) (st : Cst Ent) (N i : Nat) (u : Addr) (up : List Nat), vs = [.ref c.p, .int (i : Nat), .ref u] ∧ CnAt KC SC CC H c st ∧ Good N st ∧ N ≤ 5000 ∧ i < st.sq.length ∧
  H u = some (.lst ((up.map (fun k : Nat => (k : Int))).map V.int)) ∧ u ∉ c.foot ∧ (∀ k ∈ up, k < st.ks.length) ∧
  Post KC SC CC c H N st (st.sq.map Sq.epoch) (Q .non)
abbrev nExch : List Str := ["self", "number", "up", "letter", "keeper", "answer", "sequencer"]
theorem scCExch : FnScope nExch ["self", "number", "up"] (defScope sCExch) := ⟨rfl, rfl, rfl, by decide +kernel, rfl, by decide +kernel, by decide +kernel⟩
theorem ok_cexch {f fs fh fl fr : Addr} {fd fds fdh fdl fdr : FuncData} (F : Fun K "exchange" "Council.exchange" sCExch f fd) (T : Txt K mg RC KC SC CC) (DS : DM K SC "to_send" "Sequencer.to_send" sSSend ["self"] fs fds)
    (DH : DM K KC "handle" "Keeper.handle" sKHandle ["self", "letter"] fh fdh) (GH : FnOk P w K mg base CX0 5 fh fdh ["self", "letter"] (spHandle KC))
    (DL : DM K KC "flush" "Keeper.flush" sKFlush ["self"] fl fdl) (DR : DM K SC "hear" "Sequencer.hear" sSHear ["self", "letter"] fr fdr) (GR : FnOk P w K mg base CX0 2 fr fdr ["self", "letter"] (spHear SC)) :
    FnOk P w K mg base CX0 6 f fd ["self", "number", "up"] (spCExch KC SC CC K) := by
  have GS : FnOk P w K mg base CX0 1 fs fds ["self"] (spSend SC) := ok_send DS.F T
  have GL : FnOk P w K mg base CX0 1 fl fdl ["self"] (spFlush KC) := ok_flush DL.F T
  refine F.ok scCExch (fun vs H Q E h => ?_) (fun cdv A outer s0 H vs Q E hr h => ?_)
  · obtain ⟨c, st, N, i, u, up, rfl, _⟩ := h
    rfl
  · obtain ⟨c, st, N, i, u, up, rfl, CA, g, hN, hi, hu, hun, hup, k⟩ := h
    have sLine : sizeLine = 2 ^ 24 := rfl
    have hr1 : Room 1 _ := hr.mono (by decide)
    have hr2 : Room 2 _ := hr.mono (by decide)
    obtain ⟨dx, h1⟩ := CA.ob
    obtain ⟨d, s, hd, hs, SA, hv⟩ := CA.sqv hi
    obtain ⟨⟨ds, g1⟩, _⟩ := id SA
    have hsm := List.mem_of_getElem? hs
    have hn5 := g.n5
    have hrow := g.sz.sq s hsm
    refine ⟨_, pss_cons (ps_for PassesOwn.never rfl (pi_tup (pe_meth0 (pe_ix ix_list (pe_fld (pv 0) rfl) (pv 1) (fun _ _ => rfl)) T.clS DS.m GS hr1 DS.b .nil pass0)) (pg_name (i := 3) scCExch.nd rfl (Or.inl rfl))
        (pss_one (ps_if (pt_cmpR op_in_seq (pe_ix ix_tup (pv 3) pe_int (fun _ _ => rfl)) (pv 2) (by rfl))
          (pss_one (ps_expr (pe_meth (pe_ix ix_list (pe_fld (pv 0) rfl) (pe_ix ix_tup (pv 3) pe_int (fun _ _ => rfl)) (fun _ _ => rfl)) T.clK DH.m GH hr DH.b .nil pass0 (pa_cons (pv 3) pa_nil)))) pss_nil)))
      (pss_one (ps_for PassesOwn.never rfl (pi_list (pv 2)) (pg_name (i := 4) scCExch.nd rfl (Or.inl rfl))
        (pss_one (ps_for PassesOwn.never rfl (pi_tup (pe_meth0 (pe_ix ix_list (pe_fld (pv 0) rfl) (pv 4) (fun _ _ => rfl)) T.clK DL.m GL hr1 DL.b .nil pass0)) (pg_name (i := 5) scCExch.nd rfl (Or.inl rfl))
          (pss_one (ps_for PassesOwn.never rfl (pi_list (pe_fld (pv 0) rfl)) (pg_name (i := 6) scCExch.nd rfl (Or.inl rfl)) (pss_one (ps_expr (pe_meth (pv 6) T.clS DR.m GR hr2 DR.b .nil pass0 (pa_cons (pv 5) pa_nil)))))))))), ?_⟩
    refine ⟨_, rfl, c.p, CC, dx, _, _, rfl, h1, T.clC, T.nCs, rfl, _, rfl, c.sl, _, _, _, rfl, rfl, SqL.of CA.sl, atI_nat hv, d.a, ds, _, rfl, g1, rfl,
      st.ks.length, d, s, rfl, SA, (g.inv.sqs s hsm).len, by omega, by omega, fun t ts H1 nt ht hp s1 => ?_⟩
    have htl : ts.length ≤ 5 := by
      rw [hp.length]
      have := toSend_len st.ks.length s
      omega
    have C1 := CA.same s1
    have htf : t ∉ c.foot := C1.off_tup ht
    have hu1 := s1 _ _ hu
    -- the letters come to the keepers
    refine ⟨t, rfl, ⟨_, SqT.of ht⟩, for_tup (K := K) (a := t) (xs := ts)
      (fun j σ' H' => ∃ v3 : Option V, σ' = [some (.ref c.p), some (.int ((i : Nat) : Int)), some (.ref u), v3, none, none, none] ∧ ∃ ks', CnAt KC SC CC H' c { st with ks := ks' } ∧ Good (N + j) { st with ks := ks' } ∧ Grow st.ks ks' ∧ Keep c H1 c H')
      ⟨none, rfl, st.ks, C1, g, Grow.refl _, Keep.refl _ _⟩ (fun j σ' H' _ ⟨_, _, ks', _, _, _, kk⟩ => SqT.of (kk _ _ ht htf).1) ?_ ?_⟩
    · rintro j y σ' H' hj ⟨v3, rfl, ks', C', g', gr, kk⟩
      have hj5 : j < 5 := Nat.lt_of_lt_of_le (List.getElem?_eq_some_iff.mp hj).1 htl
      obtain ⟨l, hl, hla⟩ := paired_ta hp hj
      obtain ⟨hlok, hlq⟩ := g.inv.toSend hsm (List.mem_of_getElem? hl)
      have tx : TupX H1 H' := fun b xs e => (kk b _ e (C1.off_tup e)).1
      have hla' := hla.mono tx
      obtain ⟨b, its, rfl, hb, hk0, hk2⟩ := let_tup hla'
      have hlok' : LetOk ks' st.sq l := hlok.mono gr (GrowS.refl _)
      obtain ⟨dx2, h12⟩ := C'.ob
      have hu' := (kk _ _ hu1 hun).1
      refine ⟨_, rfl, b, _, _, _, rfl, rfl, SqT.of hb, hk2, _, rfl, u, _, rfl, .inl (SqL.of hu'), rfl, ?_, _, rfl, ?_⟩
      · rw [List.all_eq_true]
        intro v hv
        obtain ⟨x, _, rfl⟩ := List.mem_map.mp hv
        rfl
      refine ite2 (fun _ => ?_) (fun _ => ?_)
      · have hnum : l.num < ks'.length := (g'.let_ hlok').1
        obtain ⟨a, kp, ha, hk, KA, hv2⟩ := C'.ksv (st := { st with ks := ks' }) hnum
        obtain ⟨da, r0, l0, w0, rs0, ls0, ws0, q1, _⟩ := id KA
        have hk : ks'[l.num]? = some kp := hk
        refine ⟨_, rfl, c.p, CC, dx2, _, _, rfl, h12, T.clC, T.nCk, rfl, _, rfl, b, _, _, _, rfl, rfl, SqT.of hb, hk2, c.kl, _, _, _, rfl, rfl, SqL.of C'.kl, atI_nat hv2, a, da, _, rfl, q1, rfl, _, rfl, a, .ref b, l.num, kp, l, rfl, KA, hla', hlq, Good.roomy g' (by omega) hk, fun H3 K3 b3 => ?_⟩
        obtain ⟨C3, K3'⟩ := C'.keeper ha b3 K3
        obtain ⟨g3, gr3⟩ := g'.handle hk hlok' hlq
        exact ⟨_, rfl, _, C3, g3, gr.trans gr3, kk.trans K3'⟩
      · exact ⟨_, rfl, ks', C', g'.mono (by omega), gr, kk⟩
    · rintro σ' H2 ⟨v3, rfl, ks2, C2, g2, gr2, kk2⟩
      have g2 : Good (N + 5) { st with ks := ks2 } := g2.mono (by omega)
      have hu2 := (kk2 _ _ hu1 hun).1
      have hup2 : ∀ k ∈ up, k < ks2.length := fun k hk => by rw [gr2.1]; exact hup k hk
      -- the keepers settle and answer
      refine ⟨_, rfl, u, rfl, ⟨_, SqL.of hu2⟩, for_list (K := K) (a := u) (xs := (up.map (fun k : Nat => (k : Int))).map V.int)
        (fun j σ' H' => ∃ v4 v5 v6 : Option V, σ' = [some (.ref c.p), some (.int ((i : Nat) : Int)), some (.ref u), v3, v4, v5, v6] ∧ ∃ c' st', CnAt KC SC CC H' c' st' ∧ Good (N + 5) st' ∧ Grow ks2 st'.ks ∧ st'.sq.map Sq.epoch = st.sq.map Sq.epoch ∧ Keep c H2 c' H' ∧ c'.p = c.p)
        ⟨none, none, none, rfl, c, _, C2, g2, Grow.refl _, rfl, Keep.refl _ _, rfl⟩ (fun j σ' H' _ ⟨_, _, _, _, c', st', _, _, _, _, kk, _⟩ => SqL.of (kk _ _ hu2 hun).1) ?_ ?_⟩
      · rintro j y σ' H3 hj ⟨v4, v5, v6, rfl, c3, st3, C3, g3, gr3, ep3, kk3, ep⟩
        rw [List.getElem?_map, List.getElem?_map] at hj
        obtain ⟨q, hq, rfl⟩ : ∃ q : Nat, up[j]? = some q ∧ y = V.int ((q : Nat) : Int) := by
          cases z : up[j]? with
          | none => rw [z] at hj; cases hj
          | some q => rw [z] at hj; exact ⟨q, rfl, (Option.some.inj hj).symm⟩
        have hqn : q < st3.ks.length := by rw [gr3.1]; exact hup2 q (List.mem_of_getElem? hq)
        obtain ⟨a, kp, ha, hk, KA, hv2⟩ := C3.ksv hqn
        obtain ⟨da, r0, l0, w0, rs0, ls0, ws0, q1, _⟩ := id KA
        obtain ⟨dx3, h13⟩ := C3.ob
        obtain ⟨g4, gr4, hok4, hreq4, hwl⟩ := g3.flush hk
        rw [← ep]
        refine ⟨_, rfl, c3.p, CC, dx3, _, _, rfl, h13, T.clC, T.nCk, rfl, _, rfl, c3.kl, _, _, _, rfl, rfl, SqL.of C3.kl, atI_nat hv2, a, da, _, rfl, q1, rfl,
          a, q, kp, rfl, KA, Good.roomy g3 (by omega) hk, fun t4 ts4 H4 ht4 hp4 K4 b4 => ?_⟩
        obtain ⟨C4, K4'⟩ := C3.keeper ha b4 K4
        have htf4 : t4 ∉ c3.foot := C4.off_tup ht4
        refine ⟨t4, rfl, ⟨_, SqT.of ht4⟩, for_tup (K := K) (a := t4) (xs := ts4)
          (fun m σ' H' => ∃ v5 v6 : Option V, σ' = [some (.ref c3.p), some (.int ((i : Nat) : Int)), some (.ref u), v3, some (.int ((q : Nat) : Int)), v5, v6] ∧ ∃ c' sq', CnAt KC SC CC H' c' { st3 with ks := st3.ks.set q (flushK kp), sq := sq' } ∧ Good (N + 5) { st3 with ks := st3.ks.set q (flushK kp), sq := sq' } ∧ GrowS st3.sq sq' ∧ sq'.map Sq.epoch = st3.sq.map Sq.epoch ∧ Keep c3 H4 c' H' ∧ c'.p = c3.p)
          ⟨v5, v6, rfl, c3, st3.sq, C4, g4, GrowS.refl _, rfl, Keep.refl _ _, rfl⟩ (fun m σ' H' _ ⟨_, _, _, c', sq', _, _, _, _, kk, _⟩ => SqT.of (kk _ _ ht4 htf4).1) ?_ ?_⟩
        · rintro m y σ' H5 hm ⟨v5, v6, rfl, c5, sq5, C5, g5, gs5, ep5, kk5, e5⟩
          obtain ⟨l, hl, hla⟩ := paired_ta hp4 hm
          have hlm := List.mem_of_getElem? hl
          have hlok := hok4 l hlm
          have hlq := hreq4 l hlm
          have tx5 : TupX H4 H5 := fun b xs e => (kk5 b _ e (C4.off_tup e)).1
          have hlok' : LetOk (st3.ks.set q (flushK kp)) sq5 l := hlok.mono (Grow.refl _) gs5
          have hla5 := hla.mono tx5
          show tFor (iList K (tFld K (tVar 0) "sequencers")) (gName 6) (tDrop (tMeth SC "hear" (spHear SC) [] E0 (tVar 6) (tCons (tVar 5) tNil))) _ [some (.ref c3.p), some (.int ((i : Nat) : Int)), some (.ref u), v3, some (.int ((q : Nat) : Int)), some y, v6] H5
          refine hear_loop T (σ := [some (.ref c3.p), some (.int ((i : Nat) : Int)), some (.ref u), v3, some (.int ((q : Nat) : Int)), some y, v6]) (j := 6) (vi := 5) C5 g5 (by omega) hlok' hlq hla5 (by rw [← e5]; rfl) rfl (by decide) (by decide) (by show 6 < 7; decide) fun σ' c' sq' H6 hσ hσl C6 g6 ep6 gs6 K6 e6 _ _ _ _ _ => ?_
          have hσ' : ∃ v6' : Option V, σ' = [some (.ref c3.p), some (.int ((i : Nat) : Int)), some (.ref u), v3, some (.int ((q : Nat) : Int)), some y, v6'] := by
            obtain ⟨v6', hv6⟩ : ∃ v6', σ'[6]? = some v6' := ⟨σ'[6]'(by rw [hσl]; show 6 < 7; decide), List.getElem?_eq_getElem _⟩
            refine ⟨v6', List.ext_getElem? fun n => ?_⟩
            by_cases hn : n = 6
            · subst hn
              rw [hv6]
              rfl
            · rw [hσ n hn]
              match n, hn with
              | 0, _ => rfl
              | 1, _ => rfl
              | 2, _ => rfl
              | 3, _ => rfl
              | 4, _ => rfl
              | 5, _ => rfl
              | n + 7, _ => rfl
          obtain ⟨v6', rfl⟩ := hσ'
          exact ⟨_, v6', rfl, c', sq', C6, g6, gs5.trans gs6, ep6.trans ep5, kk5.trans K6, e6.trans e5⟩
        · rintro σ' H5 ⟨v5, v6, rfl, c5, sq5, C5, g5, gs5, ep5, kk5, e5⟩
          refine ⟨_, v5, v6, rfl, c5, _, C5, g5, gr3.trans gr4, ep5.trans ep3, (kk3.trans K4').trans kk5, e5⟩
      · rintro σ' H3 ⟨v4, v5, v6, rfl, c3, st3, C3, g3, gr3, ep3, kk3, ep⟩
        exact k c3 st3 H3 C3 (g3.mono (by omega)) (gr2.trans gr3) ep3 ((Keep.same s1).trans (kk2.trans kk3)) ep
end
end K40
/-! The law's own draws. -/
namespace K40
open PySem L2 Mc
def entI (i : Int) : Ent := ⟨.inl i, rfl⟩
theorem entI_eV (i : Int) : eV (entI i) = V.int i := rfl
theorem ents_ints (ns : List Int) : (ns.map entI).map eV = ns.map V.int := by
  rw [List.map_map]
  rfl
/-- the script stands still: it is tracked and none of some addresses, or it is of the written part -/
def Scr (K : PySem.W.Frag) (H : Hp) (a : Addr) (ns : List Int) (F : List Addr) : Prop := (Rd H a (.lst (ns.map V.int)) ∧ a ∉ F) ∨ ∀ H' : Hp, SqL K H' a (ns.map V.int)
theorem Scr.sql {K : PySem.W.Frag} {H : Hp} {a : Addr} {ns : List Int} {F : List Addr} (h : Scr K H a ns F) : SqL K H a (ns.map V.int) := by
  rcases h with ⟨h, _⟩ | h
  · exact .inl h
  · exact h H
theorem Scr.step {K : PySem.W.Frag} {H H' : Hp} {a : Addr} {ns : List Int} {F F' : List Addr} (h : Scr K H a ns F) (e : ∀ o, H a = some o → a ∉ F → H' a = some o ∧ a ∉ F') : Scr K H' a ns F' := by
  rcases h with ⟨h | ⟨o, h⟩, n⟩ | h
  · exact .inl ⟨.inl (e _ h n).1, (e _ h n).2⟩
  · exact .inl ⟨.inr ⟨o, (e _ h n).1⟩, (e _ h n).2⟩
  · exact .inr h
theorem Scr.same {K : PySem.W.Frag} {H H' : Hp} {a : Addr} {ns : List Int} {F : List Addr} (h : Scr K H a ns F) (s : Same H H') : Scr K H' a ns F := h.step fun o e n => ⟨s _ _ e, n⟩
theorem Scr.new {K : PySem.W.Frag} {H H' : Hp} {a u : Addr} {ns : List Int} {F : List Addr} (h : Scr K H a ns F) (n : H u = none) (s : Same H H') : Scr K H' a ns (u :: F) := h.step fun o e m => ⟨s _ _ e, by
  simp only [List.mem_cons, not_or]
  exact ⟨ne_of_none e n, m⟩⟩
theorem Scr.sub {K : PySem.W.Frag} {H : Hp} {a : Addr} {ns : List Int} {F F' : List Addr} (h : Scr K H a ns F) (s : ∀ b, b ∈ F' → b ∈ F) : Scr K H a ns F' := h.step fun o e m => ⟨e, fun q => m (s _ q)⟩
theorem Scr.but {K : PySem.W.Frag} {H H' : Hp} {a : Addr} {ns : List Int} {F G : List Addr} (h : Scr K H a ns F) (b : But G H H') (s : ∀ x, x ∈ G → x ∈ F) : Scr K H' a ns F := h.step fun o e m => ⟨b _ _ e fun q => m (s _ q), m⟩
def Dr (H : Hp) (d a : Addr) : Prop := ∃ n : Int, H d = some (.lst [.ref a, .int n])
theorem Dr.same {H H' : Hp} {d a : Addr} (h : Dr H d a) (s : Same H H') : Dr H' d a := by
  obtain ⟨n, h⟩ := h
  exact ⟨n, s _ _ h⟩
section
variable {P : Program} {w : World} {K : PySem.W.Frag} {mg : Str → Option Value} {base : Heap} {RC KC SC CC : Addr}
def spNumber (K : PySem.W.Frag) : Sp := fun vs H Q _ => ∃ (a : Addr) (ns : List Int) (n : Int), vs = [.ref a, .int n] ∧ SqL K H a (ns.map V.int) ∧ ns.length ≤ 63 ∧ ∀ (r : Int) (H' : Hp), Same H H' → Q (.int r) H'
abbrev nNumber : List Str := ["_law_script", "_law_index", "_law_cell", "_law_blend"]
theorem scNumber : FnScope nNumber ["_law_script", "_law_index"] (defScope sNumber) := ⟨rfl, rfl, rfl, by decide +kernel, rfl, by decide +kernel, by decide +kernel⟩
theorem ok_number {f : Addr} {fd : FuncData} (F : Fun K "_law_number" "_law_number" sNumber f fd) (T : Txt K mg RC KC SC CC) : FnOk P w K mg base CX0 1 f fd ["_law_script", "_law_index"] (spNumber K) := by
  refine F.ok scNumber (fun vs H Q E h => ?_) (fun cdv A outer s0 H vs Q E hr h => ?_)
  · obtain ⟨a, ns, n, rfl, _⟩ := h
    rfl
  · obtain ⟨a, ns, n, rfl, hS, hlen, k⟩ := h
    refine ⟨_, pss_cons (ps_if (pt_cmpR (op_eqD hr.units) (pv 0) (pe_lst pa_nil) (nomark _)) (pss_one (ps_ret (pe_callTy call_int1 (by rfl) T.int (by decide +kernel) (pa_cons (pe_op op_mod (pe_op op_add (pe_op op_mul (pv 1) pe_int) pe_int) pe_int) pa_nil)))) pss_nil)
      (pss_cons (ps_set (i := 2) scNumber.nd rfl (Or.inl rfl) (pe_ix ix_list (pv 0) (pe_op op_mod (pv 1) (pe_callB call_len_seq (by rfl) T.len PySem.boot_len (pa_cons (pv 0) pa_nil))) (fun _ _ => rfl)))
      (Evl.pss_cut (ps_if (pt_cmpR op_ge (pe_callB call_abs (by rfl) T.abs (by decide +kernel) (pa_cons (pv 2) pa_nil)) (pe_op op_pow pe_int pe_int) (nomark _)) (pss_one (ps_set (i := 2) scNumber.nd rfl (Or.inl rfl) (pe_op op_mod (pv 2) (pe_op op_pow pe_int pe_int)))) pss_nil)
      (pss_cons (ps_set (i := 3) scNumber.nd rfl (Or.inl rfl) (pe_op op_mod (pe_op op_add (pe_op op_mul (pe_op op_add (pv 2) (pe_op op_mul pe_int (pv 1))) pe_int) (pe_op op_mul pe_int (pe_callB call_len_seq (by rfl) T.len PySem.boot_len (pa_cons (pv 0) pa_nil)))) pe_int))
      (pss_one (ps_ret (pe_callTy call_int1 (by rfl) T.int (by decide +kernel) (pa_cons (pe_op op_mod (pe_op op_add (pe_op op_mul (pe_op op_mod (pe_op op_mul (pv 3) pe_int) pe_int) pe_int) (pv 1)) pe_int) pa_nil))))))), ?_⟩
    refine ⟨_, rfl, (by show 0 ≤ sizeLine; decide), fun e he => ?_⟩
    have s1 : Same H (upd H e (.lst [])) := Same.new he
    refine ⟨.list ((ns.map entI).map kD), .list (([] : List Ent).map kD), .lst (s1.seq hS) ?_, .lst (SqL.of upd_same) .nil, entsL_shaped _, entsL_shaped _, _, rfl, ?_⟩
    · rw [← ents_ints]
      exact ents_dp _
    have ee : PyData.eqv (.list ((ns.map entI).map kD)) (.list (([] : List Ent).map kD)) = decide (ns.map entI = []) := by
      rw [← ents_eqv (ns.map entI) []]
      simp only [PyData.eqv]
    rw [ee]
    have hS1 := s1.seq hS
    generalize upd H e (.lst []) = H1 at s1 hS1
    refine ite2 (fun hz => ?_) (fun hz => ?_)
    · refine ⟨_, rfl, _, _, rfl, rfl, .inr ⟨by decide, by decide⟩, _, _, rfl, rfl, _, _, rfl, rfl, (by show (0 : Int) < 2147483647; decide), .inl ⟨_, rfl, k _ _ s1⟩⟩
    · have hpos : 0 < ns.length := by
        rcases Nat.eq_zero_or_pos ns.length with z | z
        · exfalso
          apply hz
          rw [List.eq_nil_of_length_eq_zero z]
          rfl
        · exact z
      have hm0 : 0 ≤ n % ((ns.length : Nat) : Int) := Int.emod_nonneg _ (by omega)
      have hm1 : n % ((ns.length : Nat) : Int) < ns.length := Int.emod_lt_of_pos _ (by omega)
      obtain ⟨j, hj⟩ : ∃ j : Nat, n % ((ns.length : Nat) : Int) = (j : Int) := ⟨(n % ((ns.length : Nat) : Int)).toNat, by omega⟩
      have hjl : j < ns.length := by omega
      refine ⟨_, rfl, _, rfl, _, rfl, a, _, rfl, .inl hS1, n, _, rfl, rfl, (by rw [List.length_map]; omega), a, _, _, V.int ns[j], rfl, rfl, hS1, ?_, ?_⟩
      · rw [List.length_map]
        exact at_of (j := j) hj (by rw [List.getElem?_map, List.getElem?_eq_getElem hjl]; rfl)
      refine ⟨fun σ' H' => H' = H1 ∧ ∃ z : Int, σ' = [some (.ref a), some (.int n), some (.int z), none], ?_, ?_⟩
      · refine ⟨_, rfl, _, rfl, _, _, rfl, rfl, ⟨by decide, by decide, by decide⟩, _, _, rfl, rfl, _, rfl, ite2 (fun h => ?_) (fun h => ?_)⟩
        · refine ⟨_, rfl, _, _, rfl, rfl, ⟨by decide, by decide, by decide⟩, _, _, rfl, rfl, ?_, rfl, _, rfl⟩
          show (0 : Int) < 10 ^ (18 : Int).toNat
          decide
        · exact ⟨rfl, _, rfl⟩
      · rintro σ' H' ⟨rfl, z, rfl⟩
        refine ⟨_, rfl, _, rfl, _, _, rfl, rfl, .inl ⟨by decide, by decide⟩, _, _, rfl, rfl, _, _, rfl, rfl, .inr ⟨by decide, by decide⟩, _, rfl, a, _, rfl, .inl hS1, _, _, rfl, rfl, .inl ⟨by decide, by decide⟩, _, _, rfl, rfl, _, _, rfl, rfl, (by show (0 : Int) < 2147483647; decide), ?_⟩
        refine ⟨_, rfl, _, _, rfl, rfl, .inr ⟨by decide, by decide⟩, _, _, rfl, rfl, (by show (0 : Int) < 2147483629; decide), _, _, rfl, rfl, .inr ⟨by decide, by decide⟩, _, rfl, _, _, rfl, rfl, _, _, rfl, rfl, (by show (0 : Int) < 2147483587; decide), .inl ⟨_, rfl, k _ _ s1⟩⟩
def spDraw (K : PySem.W.Frag) : Sp := fun vs H Q _ => ∃ (d a : Addr) (ns : List Int) (m : Int), vs = [.ref d, .int m] ∧ Dr H d a ∧ Scr K H a ns [d] ∧ ns.length ≤ 63 ∧ 0 < m ∧ ∀ (r : Nat) (H' : Hp), (r : Int) < m → Dr H' d a → But [d] H H' → Q (.int (r : Nat)) H'
theorem scTakeL : FnScope ["_law_draw", "_law_many"] ["_law_draw", "_law_many"] (defScope sTake) := ⟨rfl, rfl, rfl, by decide +kernel, rfl, by decide +kernel, by decide +kernel⟩
theorem ok_draw {f fn : Addr} {fd fdn : FuncData} (F : Fun K "_law_take" "_law_take" sTake f fd) (T : Txt K mg RC KC SC CC) (DN : DF K mg "_law_number" sNumber ["_law_script", "_law_index"] fn fdn) : FnOk P w K mg base CX0 2 f fd ["_law_draw", "_law_many"] (spDraw K) := by
  have GN : FnOk P w K mg base CX0 1 fn fdn ["_law_script", "_law_index"] (spNumber K) := ok_number DN.F T
  refine F.ok scTakeL (fun vs H Q E h => ?_) (fun cdv A outer s0 H vs Q E hr h => ?_)
  · obtain ⟨d, a, ns, m, rfl, _⟩ := h
    rfl
  · obtain ⟨d, a, ns, m, rfl, ⟨n, hd⟩, hS, hlen, hm, k⟩ := h
    refine ⟨_, pss_cons (ps_augS (pv 0) pe_int K40V.get_list pe_int ip_add set_list)
      (pss_one (ps_ret (pe_op op_mod (pe_callTy call_int1 (by rfl) T.int (by decide +kernel) (pa_cons (pe_call GN hr rfl DN.g DN.F.kp DN.b .nil pass0 (pa_cons (pe_ix ix_list (pv 0) pe_int (fun _ _ => rfl)) (pa_cons (pe_callTy call_int1 (by rfl) T.int (by decide +kernel) (pa_cons (pe_ix ix_list (pv 0) pe_int (fun _ _ => rfl)) pa_nil)) pa_nil))) pa_nil)) (pv 1)))), ?_⟩
    refine ⟨_, rfl, d, _, 1, V.int n, rfl, rfl, hd, rfl, n, 1, rfl, rfl, d, _, 1, 1, rfl, rfl, hd, rfl, ?_⟩
    have b1 : But [d] H (upd H d (.lst [.ref a, .int (n + 1)])) := (But.refl _ H).upd (.inl (by simp))
    have hd1 : (upd H d (.lst [.ref a, .int (n + 1)])) d = some (.lst [.ref a, .int (n + 1)]) := upd_same
    have hS1 : Scr K (upd H d (.lst [.ref a, .int (n + 1)])) a ns [d] := hS.but b1 (fun _ h => h)
    refine ⟨_, rfl, d, _, _, _, rfl, rfl, SqL.of hd1, rfl, _, rfl, d, _, _, _, rfl, rfl, SqL.of hd1, rfl, .inl ⟨_, rfl, ?_⟩⟩
    refine ⟨a, ns, n + 1, rfl, hS1.sql, hlen, fun r H2 s2 => .inl ⟨_, rfl, ?_⟩⟩
    refine ⟨_, rfl, _, _, rfl, rfl, hm, ?_⟩
    have h0 : 0 ≤ r % m := Int.emod_nonneg _ (by omega)
    have h1 : r % m < m := Int.emod_lt_of_pos _ hm
    have e : r % m = (((r % m).toNat : Nat) : Int) := by omega
    show Q (.int (r % m)) H2
    rw [e]
    exact k _ _ (by omega) ⟨_, s2 _ _ hd1⟩ (fun c o z nn => s2 _ _ (b1 c o z nn))
def spPick (K : PySem.W.Frag) : Sp := fun vs H Q _ => ∃ (d a u : Addr) (ns : List Int) (xs : List V), vs = [.ref d, .ref u] ∧ Dr H d a ∧ Scr K H a ns [d] ∧ ns.length ≤ 63 ∧ H u = some (.lst xs) ∧ u ≠ d ∧ xs ≠ [] ∧ ∀ (v : V) (H' : Hp), v ∈ xs → Dr H' d a → But [d] H H' → Q v H'
theorem scPick : FnScope ["_law_draw", "_law_items"] ["_law_draw", "_law_items"] (defScope sPick) := ⟨rfl, rfl, rfl, by decide +kernel, rfl, by decide +kernel, by decide +kernel⟩
theorem ok_pick {f ft : Addr} {fd fdt : FuncData} (F : Fun K "_law_pick" "_law_pick" sPick f fd) (T : Txt K mg RC KC SC CC) (DT : DF K mg "_law_take" sTake ["_law_draw", "_law_many"] ft fdt) (GT : FnOk P w K mg base CX0 2 ft fdt ["_law_draw", "_law_many"] (spDraw K)) :
    FnOk P w K mg base CX0 3 f fd ["_law_draw", "_law_items"] (spPick K) := by
  refine F.ok scPick (fun vs H Q E h => ?_) (fun cdv A outer s0 H vs Q E hr h => ?_)
  · obtain ⟨d, a, u, ns, xs, rfl, _⟩ := h
    rfl
  · obtain ⟨d, a, u, ns, xs, rfl, hd, hS, hlen, hu, hne, hxs, k⟩ := h
    refine ⟨_, pss_one (ps_ret (pe_ix ix_list (pv 1) (pe_call GT hr rfl DT.g DT.F.kp DT.b .nil pass0 (pa_cons (pv 0) (pa_cons (pe_callB call_len_seq (by rfl) T.len PySem.boot_len (pa_cons (pv 1) pa_nil)) pa_nil))) (fun _ _ => rfl))), ?_⟩
    have hp : 0 < xs.length := List.length_pos_iff.mpr hxs
    refine ⟨_, rfl, _, rfl, _, rfl, u, _, rfl, .inl (SqL.of hu), d, a, ns, _, rfl, hd, hS, hlen, by omega, fun r H2 hr2 D2 b2 => ?_⟩
    have hrl : r < xs.length := by omega
    have hu2 : H2 u = some (.lst xs) := b2 _ _ hu (by simpa using hne)
    exact ⟨u, _, _, xs[r], rfl, rfl, SqL.of hu2, atI_nat (List.getElem?_eq_getElem hrl), k _ _ (List.getElem_mem hrl) D2 b2⟩
def intVs (up : List Nat) : List V := (up.map (fun k : Nat => (k : Int))).map V.int
theorem rgV_ints (n : Nat) : rgV 0 ((n : Nat) : Int) = intVs (List.range n) := by
  unfold rgV intVs
  rw [Int.sub_zero, Int.toNat_natCast, List.map_map]
  apply List.map_congr_left
  intro i _
  simp
theorem erase_map {α β : Type} (f : α → β) : ∀ (xs : List α) (i : Nat), (xs.map f).eraseIdx i = (xs.eraseIdx i).map f
  | [], _ => rfl
  | _ :: _, 0 => rfl
  | x :: xs, i + 1 => by
    show f x :: (xs.map f).eraseIdx i = f x :: (xs.eraseIdx i).map f
    rw [erase_map f xs i]
theorem ints_erase (up : List Nat) (i : Nat) : (intVs up).eraseIdx i = intVs (up.eraseIdx i) := by
  unfold intVs
  rw [erase_map, erase_map]
/-- so many are drawn out of a list of keepers -/
theorem pop_loop {D : Ends} {σ : L2.St} {H : Hp} {d a u : Addr} {ns : List Int} {n g : Nat} {up : List Nat} {id iu ig : Nat} (hd : Dr H d a) (hS : Scr K H a ns [d, u]) (hlen : ns.length ≤ 63) (hu : H u = some (.lst (intVs up))) (hne : u ≠ d) (hn : n ≤ 1000) (hup : ∀ k ∈ up, k < n) (hul : up.length ≤ n)
    (h1 : σ[id]? = some (some (.ref d))) (h2 : σ[iu]? = some (some (.ref u))) (h3 : σ[ig]? = some (some (.int ((g : Nat) : Int))))
    (k : ∀ (up' : List Nat) (H' : Hp), H' u = some (.lst (intVs up')) → (∀ k ∈ up', k < n) → Dr H' d a → But [d, u] H H' → D.nx σ H') :
    tWhile (tTest (tOp (rI0 fun i j => .bl (decide (j < i))) (tCB (rLenS K) (tCons (tVar iu) tNil)) (tVar ig))) (tDrop (tBM K "list" rPopAt (tVar iu) (tCons (tCall (spDraw K) [] E0 (tCons (tVar id) (tCons (tCB (rLenS K) (tCons (tVar iu) tNil)) tNil))) tNil))) D σ H := by
  have sLine : sizeLine = 2 ^ 24 := rfl
  refine ⟨fun m σ' H' => σ' = σ ∧ ∃ up' : List Nat, m = up'.length ∧ H' u = some (.lst (intVs up')) ∧ (∀ k ∈ up', k < n) ∧ up'.length ≤ n ∧ Dr H' d a ∧ But [d, u] H H', ⟨_, rfl, up, rfl, hu, hup, hul, hd, But.refl _ _⟩, ?_⟩
  rintro m σ' H' ⟨rfl, up', rfl, hu', hup', hul', hd', b'⟩
  have hil : (intVs up').length = up'.length := by simp [intVs]
  have hS' : Scr K H' a ns [d, u] := hS.but b' fun _ h => h
  refine ⟨_, h2, u, _, rfl, .inl (SqL.of hu'), _, h3, _, _, rfl, rfl, _, rfl, ite2 (fun hc => ?_) (fun hc => ?_)⟩
  · have hc' : g < up'.length := by
      have := of_decide_eq_true hc
      omega
    refine ⟨fun σ2 H2 => σ2 = σ' ∧ ∃ up2 : List Nat, up2.length < up'.length ∧ H2 u = some (.lst (intVs up2)) ∧ (∀ k ∈ up2, k < n) ∧ Dr H2 d a ∧ But [d, u] H H2, ?_, ?_⟩
    · rintro σ2 H2 ⟨rfl, up2, q1, q2, q3, q4, q5⟩
      exact ⟨_, q1, rfl, up2, rfl, q2, q3, by omega, q4, q5⟩
    · refine ⟨_, h2, .inl ⟨rfl, _, .inl (.inl hu')⟩, _, h1, _, h2, u, _, rfl, .inl (SqL.of hu'), d, a, ns, _, rfl, hd', hS'.sub (by simp), hlen, by omega, fun r H2 hr2 D2 b2 => ?_⟩
      have hrl : r < up'.length := by omega
      have hu2 : H2 u = some (.lst (intVs up')) := b2 _ _ hu' (by simpa using hne)
      refine ⟨u, _, _, r, (intVs up')[r]'(by omega), rfl, rfl, hu2, by omega, by omega, ?_, List.getElem?_eq_getElem _, ?_⟩
      · rw [PySem.seqIndex_of (by omega) (by omega)]
        simp
      · rw [ints_erase]
        have hue := List.length_eraseIdx_of_lt hrl
        obtain ⟨n2, hd2⟩ := D2
        refine ⟨rfl, up'.eraseIdx r, by omega, upd_same, fun k hk => hup' k (List.mem_of_mem_eraseIdx hk), ⟨n2, by rw [upd_ne hne.symm]; exact hd2⟩, ?_⟩
        exact But.upd (fun c o z nn => b2 c o (b' c o z nn) (fun m => nn (by simp at m; simp [m]))) (.inl (by simp))
  · exact k up' H' hu' hup' hd' b'
def spSome (K : PySem.W.Frag) : Sp := fun vs H Q _ => ∃ (d a : Addr) (ns : List Int) (n g : Nat), vs = [.ref d, .int (n : Nat), .int (g : Nat)] ∧ Dr H d a ∧ Scr K H a ns [d] ∧ ns.length ≤ 63 ∧ n ≤ 1000 ∧ ∀ (u : Addr) (up : List Nat) (H' : Hp), H u = none → H' u = some (.lst (intVs up)) → (∀ k ∈ up, k < n) → Dr H' d a → But [d] H H' → Q (.ref u) H'
abbrev nSome : List Str := ["_law_draw", "_law_many", "_law_goal", "_law_up"]
theorem scSome : FnScope nSome ["_law_draw", "_law_many", "_law_goal"] (defScope sSome) := ⟨rfl, rfl, rfl, by decide +kernel, rfl, by decide +kernel, by decide +kernel⟩
theorem ok_some {f ft : Addr} {fd fdt : FuncData} (F : Fun K "_law_some" "_law_some" sSome f fd) (T : Txt K mg RC KC SC CC) (DT : DF K mg "_law_take" sTake ["_law_draw", "_law_many"] ft fdt) (GT : FnOk P w K mg base CX0 2 ft fdt ["_law_draw", "_law_many"] (spDraw K)) :
    FnOk P w K mg base CX0 3 f fd ["_law_draw", "_law_many", "_law_goal"] (spSome K) := by
  refine F.ok scSome (fun vs H Q E h => ?_) (fun cdv A outer s0 H vs Q E hr h => ?_)
  · obtain ⟨d, a, ns, n, g, rfl, _⟩ := h
    rfl
  · obtain ⟨d, a, ns, n, g, rfl, hd, hS, hlen, hn, k⟩ := h
    refine ⟨_, pss_cons (ps_set (i := 3) scSome.nd rfl (Or.inl rfl) (pe_listRg rfl (by rfl) T.list (prg_1 (by rfl) T.range (pv 1))))
      (pss_cons (ps_while PassesOwn.never (pt_cmpR op_gt (pe_callB call_len_seq (by rfl) T.len PySem.boot_len (pa_cons (pv 3) pa_nil)) (pv 2) (nomark _))
        (pss_one (ps_expr (pe_bm PySem.F.plainAttrs_list PySem.F.slot_list_pop PySem.F.type_list_pop mt_popAt (pv 3) (pa_cons (pe_call GT hr rfl DT.g DT.F.kp DT.b .nil pass0 (pa_cons (pv 0) (pa_cons (pe_callB call_len_seq (by rfl) T.len PySem.boot_len (pa_cons (pv 3) pa_nil)) pa_nil))) pa_nil)))))
      (pss_one (ps_ret (pv 3)))), ?_⟩
    refine ⟨_, rfl, _, rfl, RgOk.of_le (by omega) (by omega) (by omega) (by omega), fun u hu => ?_⟩
    rw [rgV_ints]
    have s1 : Same H (upd H u (.lst (intVs (List.range n)))) := Same.new hu
    have hu1 : (upd H u (.lst (intVs (List.range n)))) u = some (.lst (intVs (List.range n))) := upd_same
    have hne : u ≠ d := by
      obtain ⟨m, hd⟩ := hd
      exact (ne_of_none hd hu).symm
    refine pop_loop (K := K) (σ := [some (.ref d), some (.int ((n : Nat) : Int)), some (.int ((g : Nat) : Int)), some (.ref u)]) (id := 0) (iu := 3) (ig := 2) (up := List.range n) (n := n) (g := g) (hd.same s1) ((hS.new hu s1).sub (by simp [or_comm])) hlen hu1 hne hn (fun k hk => List.mem_range.mp hk) (by simp) rfl rfl rfl fun up' H' hu' hup' hd' b' => ?_
    refine ⟨_, rfl, k u up' H' hu hu' hup' hd' ?_⟩
    intro c o z nn
    refine b' c o (s1 _ _ z) fun m => ?_
    simp at m nn
    rcases m with m | m
    · exact nn m
    · rw [m, hu] at z; cases z
end
end K40
/-! What stands between two steps of the law. -/
namespace K40
open PySem L2 Mc
structure LS (K : PySem.W.Frag) (KC SC CC : Addr) (M : List Addr) (Z : Addr → Prop) (H0 : Hp) (d a : Addr) (ns : List Int) (H : Hp) (c : CnAd) (st : Cst Ent) (N : Nat) : Prop where
  cn : CnAt KC SC CC H c st
  good : Good N st
  dr : Dr H d a
  dM : d ∈ M
  ml : ∀ x ∈ M, ∃ xs, H x = some (.lst xs)
  off : ∀ x ∈ M, x ∉ c.foot
  scr : Scr K H a ns (M ++ c.foot)
  fr : ∀ b o, H0 b = some o → ¬ Z b → b ∉ M → H b = some o ∧ b ∉ c.foot
section
variable {K : PySem.W.Frag} {KC SC CC : Addr} {M : List Addr} {Z : Addr → Prop} {H0 : Hp} {d a : Addr} {ns : List Int} {H H' : Hp} {c : CnAd} {st : Cst Ent} {N : Nat}
theorem CnAt.offG {G : List Addr} (h : CnAt KC SC CC H c st) (b : But G H H') (g : ∀ x ∈ G, x ∉ c.foot ∧ ∃ xs, H x = some (.lst xs)) : CnAt KC SC CC H' c st := by
  have tx : TupX H H' := b.tupX fun x hx xs e => by
    obtain ⟨_, ys, e2⟩ := g x hx
    rw [e] at e2; cases e2
  have mv : ∀ {x : Addr} {o : HO}, H x = some o → x ∈ c.foot → H' x = some o := fun e m => b _ _ e fun q => (g _ q).1 m
  obtain ⟨dx, h1⟩ := h.ob
  obtain ⟨ls, h8, h8'⟩ := h.ll
  refine ⟨⟨dx, mv h1 (by simp [CnAd.foot])⟩, mv h.kl (by simp [CnAd.foot]), h.klen, fun i x q => ?_, mv h.sl (by simp [CnAd.foot]), h.slen, fun i x q => ?_, ⟨ls, mv h8 (by simp [CnAd.foot]), paired_imp (fun _ _ => LetA.mono tx) h8'⟩, h.nd1, h.sep, h.own, h.l1, h.l2, h.l3⟩
  · obtain ⟨kp, a1, a2⟩ := h.ks i x q
    exact ⟨kp, a1, a2.move tx fun o e => mv e (CnAd.mem_ks (List.mem_of_getElem? q))⟩
  · obtain ⟨s, a1, a2⟩ := h.sq i x q
    exact ⟨s, a1, a2.move tx fun y hy o e => mv e (CnAd.mem_sq (List.mem_of_getElem? q) hy)⟩
theorem LS.same (h : LS K KC SC CC M Z H0 d a ns H c st N) (s : Same H H') : LS K KC SC CC M Z H0 d a ns H' c st N :=
  ⟨h.cn.same s, h.good, h.dr.same s, h.dM, fun x hx => by obtain ⟨xs, e⟩ := h.ml x hx; exact ⟨xs, s _ _ e⟩, h.off, h.scr.same s, fun b o e z m => by obtain ⟨q1, q2⟩ := h.fr b o e z m; exact ⟨s _ _ q1, q2⟩⟩
/-- some of M change -/
theorem LS.but {G : List Addr} (h : LS K KC SC CC M Z H0 d a ns H c st N) (b : But G H H') (g : ∀ x ∈ G, x ∈ M) (dr : Dr H' d a) (ml : ∀ x ∈ M, ∃ xs, H' x = some (.lst xs)) : LS K KC SC CC M Z H0 d a ns H' c st N :=
  ⟨h.cn.offG b fun x hx => ⟨h.off x (g x hx), h.ml x (g x hx)⟩, h.good, dr, h.dM, ml, h.off, h.scr.but b fun x hx => List.mem_append_left _ (g x hx), fun x o e z m => by
    obtain ⟨q1, q2⟩ := h.fr x o e z m
    exact ⟨b _ _ q1 fun q => m (g x q), q2⟩⟩
theorem LS.draw (h : LS K KC SC CC M Z H0 d a ns H c st N) (b : But [d] H H') (dr : Dr H' d a) : LS K KC SC CC M Z H0 d a ns H' c st N := by
  refine h.but b (fun x hx => by simp at hx; subst hx; exact h.dM) dr fun x hx => ?_
  by_cases q : x = d
  · subst q
    obtain ⟨n, e⟩ := dr
    exact ⟨_, e⟩
  · obtain ⟨xs, e⟩ := h.ml x hx
    exact ⟨xs, b _ _ e (by simpa using q)⟩
theorem LS.sc (h : LS K KC SC CC M Z H0 d a ns H c st N) : Scr K H a ns [d] := h.scr.sub fun b hb => by
  simp at hb
  subst hb
  exact List.mem_append_left _ h.dM
theorem LS.next {c' : CnAd} {st' : Cst Ent} {N' : Nat} (h : LS K KC SC CC M Z H0 d a ns H c st N) (C' : CnAt KC SC CC H' c' st') (g' : Good N' st') (kk : Keep c H c' H') : LS K KC SC CC M Z H0 d a ns H' c' st' N' := by
  refine ⟨C', g', ?_, h.dM, ?_, ?_, ?_, ?_⟩
  · obtain ⟨n, e1⟩ := h.dr
    exact ⟨n, (kk _ _ e1 (h.off d h.dM)).1⟩
  · intro x hx
    obtain ⟨xs, e1⟩ := h.ml x hx
    exact ⟨xs, (kk _ _ e1 (h.off x hx)).1⟩
  · intro x hx
    obtain ⟨xs, e1⟩ := h.ml x hx
    exact (kk _ _ e1 (h.off x hx)).2
  · refine h.scr.step fun o e1 m => ?_
    simp only [List.mem_append, not_or] at m ⊢
    obtain ⟨q1, q2⟩ := kk _ _ e1 m.2
    exact ⟨q1, m.1, q2⟩
  · intro b o e1 z m
    obtain ⟨q1, q2⟩ := h.fr b o e1 z m
    exact kk _ _ q1 q2
theorem LS.post {eps : List Int} {Q : Hp → Prop} (h : LS K KC SC CC M Z H0 d a ns H c st N)
    (k : ∀ c' st' H', LS K KC SC CC M Z H0 d a ns H' c' st' (N + 10) → Grow st.ks st'.ks → st'.sq.map Sq.epoch = eps → Keep c H c' H' → c'.p = c.p → Q H') : Post KC SC CC c H N st eps Q :=
  fun c' st' H' C' g' gr ep kk e => k c' st' H' (h.next C' g' kk) gr ep kk e
/-- a sequencer's row grows by the law's own hand -/
theorem LS.add (h : LS K KC SC CC M Z H0 d a ns H c st N) {i : Nat} {ad : SqAd} {s : Sq Ent} {x : Ent} (hi : c.sq[i]? = some ad) (hs : st.sq[i]? = some s) (hl : s.stand = .leading) (b : But [ad.rl] H H') (SA : SqAt SC H' st.ks.length ad { s with row := s.row ++ [x] }) :
    ∃ c' st', LS K KC SC CC M Z H0 d a ns H' c' st' (N + 1) ∧ st'.ks = st.ks ∧ st'.sq.map Sq.epoch = st.sq.map Sq.epoch ∧ c'.p = c.p := by
  obtain ⟨C', kk⟩ := h.cn.seq (rl' := ad.rl) hi (.inl rfl) (b.sub fun y hy => by simp at hy ⊢; simp [hy]) SA
  have g' := h.good.add x hs hl
  refine ⟨_, _, ⟨C', g', ?_, h.dM, ?_, ?_, ?_, ?_⟩, rfl, set_epochs hs rfl, rfl⟩
  · obtain ⟨n, e1⟩ := h.dr
    exact ⟨n, (kk _ _ e1 (h.off d h.dM)).1⟩
  · intro x hx
    obtain ⟨xs, e1⟩ := h.ml x hx
    exact ⟨xs, (kk _ _ e1 (h.off x hx)).1⟩
  · intro x hx
    obtain ⟨xs, e1⟩ := h.ml x hx
    exact (kk _ _ e1 (h.off x hx)).2
  · refine h.scr.step fun o e1 m => ?_
    simp only [List.mem_append, not_or] at m ⊢
    obtain ⟨q1, q2⟩ := kk _ _ e1 m.2
    exact ⟨q1, m.1, q2⟩
  · intro b o e1 z m
    obtain ⟨q1, q2⟩ := h.fr b o e1 z m
    exact kk _ _ q1 q2
/-- a new list stands beside -/
theorem LS.push {u : Addr} {xs : List V} (h : LS K KC SC CC M Z H0 d a ns H c st N) (n : H u = none) (s : Same H H') (e : H' u = some (.lst xs)) :
    LS K KC SC CC (u :: M) Z H0 d a ns H' c st N ∧ ∀ b o, H0 b = some o → ¬ Z b → b ∉ M → b ≠ u := by
  have h' := h.same s
  refine ⟨⟨h'.cn, h'.good, h'.dr, List.mem_cons_of_mem _ h'.dM, fun x hx => ?_, fun x hx => ?_, (h.scr.new n s).sub (fun b hb => by simpa using hb), fun b o e1 z m => ?_⟩, fun b o e1 z m => ne_of_none (h.fr b o e1 z m).1 n⟩
  · rcases List.mem_cons.mp hx with rfl | hx
    · exact ⟨xs, e⟩
    · exact h'.ml x hx
  · rcases List.mem_cons.mp hx with rfl | hx
    · exact h.cn.off_none n
    · exact h.off x hx
  · exact h'.fr b o e1 z fun q => m (List.mem_cons_of_mem _ q)
theorem LS.pop {u : Addr} (h : LS K KC SC CC (u :: M) Z H0 d a ns H c st N) (n : ∀ b o, H0 b = some o → ¬ Z b → b ∉ M → b ≠ u) (dM : d ∈ M) : LS K KC SC CC M Z H0 d a ns H c st N := by
  refine ⟨h.cn, h.good, h.dr, dM, fun x hx => h.ml x (List.mem_cons_of_mem _ hx), fun x hx => h.off x (List.mem_cons_of_mem _ hx), h.scr.sub (fun b hb => by simp at hb ⊢; exact .inr hb), fun b o e1 z m => h.fr b o e1 z fun q => ?_⟩
  rcases List.mem_cons.mp q with q | q
  · exact n b o e1 z m q
  · exact m q
theorem LS.mono {N' : Nat} (h : LS K KC SC CC M Z H0 d a ns H c st N) (hN : N ≤ N') : LS K KC SC CC M Z H0 d a ns H c st N' :=
  ⟨h.cn, h.good.mono hN, h.dr, h.dM, h.ml, h.off, h.scr, h.fr⟩
end
/-- the last row that was seen settled -/
def LastOk (st : Cst Ent) (last : List Ent) : Prop := ∀ (p : Nat) (x : Ent), last[p]? = some x → ∃ e, Chosen st.ks e p x
theorem LastOk.grow {st st' : Cst Ent} {last : List Ent} (h : LastOk st last) (g : Grow st.ks st'.ks) : LastOk st' last := fun p x e => by
  obtain ⟨ep, hc⟩ := h p x e
  exact ⟨ep, hc.mono g⟩
theorem LastOk.take {st : Cst Ent} {last row : List Ent} (I : Inv st) (h : LastOk st last) (hr : SettledRow st.ks row) : row.take last.length = last := by
  have hlen : last.length ≤ row.length := by
    apply Classical.byContradiction
    intro hno
    have hlt : row.length < last.length := by omega
    obtain ⟨e, he⟩ := h row.length last[row.length] (List.getElem?_eq_getElem hlt)
    exact hr.2 e _ he
  apply List.ext_getElem?
  intro p
  rw [List.getElem?_take]
  split
  · rename_i hp
    obtain ⟨e, he⟩ := h p last[p] (List.getElem?_eq_getElem hp)
    obtain ⟨e', he'⟩ := hr.1 p row[p] (List.getElem?_eq_getElem (by omega))
    rw [List.getElem?_eq_getElem hp, List.getElem?_eq_getElem (show p < row.length by omega), I.agree he he']
  · rename_i hp
    exact (List.getElem?_eq_none (by omega)).symm
def entS (i : Nat) (h : i < 7) : Ent := ⟨.inr (("e" : Str) ++ (toString ((i : Nat) : Int) : String)), by
  have : ∀ i : Fin 7, kOk (.inr (("e" : Str) ++ (toString ((i.1 : Nat) : Int) : String))) = true := by decide +kernel
  exact this ⟨i, h⟩⟩
theorem entS_len (i : Nat) (h : i < 7) : ("e" : Str).length + ((toString ((i : Nat) : Int) : String) : Str).length ≤ sizeLine := by
  have : ∀ i : Fin 7, ("e" : Str).length + ((toString ((i.1 : Nat) : Int) : String) : Str).length ≤ 100 := by decide +kernel
  exact Nat.le_trans (this ⟨i, h⟩) (by decide)
end K40
/-! _law_rounds. -/
namespace K40
open PySem L2 Mc
section
variable {P : Program} {w : World} {K : PySem.W.Frag} {mg : Str → Option Value} {base : Heap} {RC KC SC CC : Addr}
/-- what stands within a round -/
structure RS (K : PySem.W.Frag) (KC SC CC : Addr) (H0 : Hp) (d a : Addr) (ns : List Int) (n i : Nat) (tl : Addr) (last : List Ent) (H : Hp) (c : CnAd) (st : Cst Ent) (N : Nat) : Prop where
  L : LS K KC SC CC [d] (fun _ => False) H0 d a ns H c st N
  kn : st.ks.length = n
  ep : st.sq.map Sq.epoch = (List.range i).map (fun k : Nat => (k : Int))
  tl : H tl = some (.tup (last.map eV))
  la : LastOk st last
theorem RS.sl {H0 : Hp} {d a : Addr} {ns : List Int} {n i : Nat} {tl : Addr} {last : List Ent} {H : Hp} {c : CnAd} {st : Cst Ent} {N : Nat} (r : RS K KC SC CC H0 d a ns n i tl last H c st N) : st.sq.length = i := by
  have := congrArg List.length r.ep
  simpa using this
theorem RS.draw {H0 : Hp} {d a : Addr} {ns : List Int} {n i : Nat} {tl : Addr} {last : List Ent} {H H' : Hp} {c : CnAd} {st : Cst Ent} {N : Nat} (r : RS K KC SC CC H0 d a ns n i tl last H c st N) (b : But [d] H H') (dr : Dr H' d a) : RS K KC SC CC H0 d a ns n i tl last H' c st N :=
  ⟨r.L.draw b dr, r.kn, r.ep, b _ _ r.tl (by
    obtain ⟨m, e⟩ := r.L.dr
    simpa using (ne_of r.tl e (by intro q; cases q))), r.la⟩
theorem RS.same {H0 : Hp} {d a : Addr} {ns : List Int} {n i : Nat} {tl : Addr} {last : List Ent} {H H' : Hp} {c : CnAd} {st : Cst Ent} {N : Nat} (r : RS K KC SC CC H0 d a ns n i tl last H c st N) (s : Same H H') : RS K KC SC CC H0 d a ns n i tl last H' c st N :=
  ⟨r.L.same s, r.kn, r.ep, s _ _ r.tl, r.la⟩
/-- a council's method within a round -/
theorem RS.post {H0 : Hp} {d a : Addr} {ns : List Int} {n i : Nat} {tl : Addr} {last : List Ent} {H : Hp} {c : CnAd} {st : Cst Ent} {N : Nat} {Q : Hp → Prop} (r : RS K KC SC CC H0 d a ns n i tl last H c st N)
    (k : ∀ c' st' H', RS K KC SC CC H0 d a ns n i tl last H' c' st' (N + 10) → c'.p = c.p → Q H') : Post KC SC CC c H N st (st.sq.map Sq.epoch) Q :=
  r.L.post fun c' st' H' L' gr ep kk e => k c' st' H' ⟨L', gr.1.trans r.kn, ep.trans r.ep, (kk _ _ r.tl (r.L.cn.off_tup r.tl)).1, r.la.grow gr⟩ e
def spRounds (K : PySem.W.Frag) : Sp := fun vs H Q _ => ∃ (d a : Addr) (ns : List Int), vs = [.ref d] ∧ Dr H d a ∧ Scr K H a ns [d] ∧ ns.length ≤ 63 ∧ ∀ H', Dr H' d a → But [d] H H' → Q (.bl true) H'
abbrev nRounds : List Str := ["_law_draw", "_law_many", "_law_council", "_law_last", "_law_epoch", "_law_number_here", "_law_leader", "_law_turn", "_law_row", "_law_place"]
theorem scRounds : FnScope nRounds ["_law_draw"] (defScope sRounds) := ⟨rfl, rfl, rfl, by decide +kernel, rfl, by decide +kernel, by decide +kernel⟩
theorem ok_rounds {f fp ft fs fi fb fx fa fe fr : Addr} {fd fdp fdt fds fdi fdb fdx fda fde fdr : FuncData} (F : Fun K "_law_rounds" "_law_rounds" sRounds f fd) (T : Txt K mg RC KC SC CC)
    (DP : DF K mg "_law_pick" sPick ["_law_draw", "_law_items"] fp fdp) (GP : FnOk P w K mg base CX0 3 fp fdp ["_law_draw", "_law_items"] (spPick K))
    (DT : DF K mg "_law_take" sTake ["_law_draw", "_law_many"] ft fdt) (GT : FnOk P w K mg base CX0 2 ft fdt ["_law_draw", "_law_many"] (spDraw K))
    (DS : DF K mg "_law_some" sSome ["_law_draw", "_law_many", "_law_goal"] fs fds) (GS : FnOk P w K mg base CX0 3 fs fds ["_law_draw", "_law_many", "_law_goal"] (spSome K))
    (DI' : DI K CC "Council.__init__" sCInit ["self", "many"] fi fdi) (GI : FnOk P w K mg base CX0 3 fi fdi ["self", "many"] (spCInit KC SC CC))
    (DB : DM K CC "begin" "Council.begin" sCBegin ["self", "epoch"] fb fdb) (GB : FnOk P w K mg base CX0 3 fb fdb ["self", "epoch"] (spCBegin KC SC CC))
    (DX : DM K CC "exchange" "Council.exchange" sCExch ["self", "number", "up"] fx fdx) (GX : FnOk P w K mg base CX0 6 fx fdx ["self", "number", "up"] (spCExch KC SC CC K))
    (DA : DM K SC "add" "Sequencer.add" sSAdd ["self", "entry"] fa fda) (GA : FnOk P w K mg base CX0 1 fa fda ["self", "entry"] (spSAdd SC))
    (DE : DM K CC "settled" "Council.settled" sCSettled ["self"] fe fde) (GE : FnOk P w K mg base CX0 4 fe fde ["self"] (spCSettled KC SC CC))
    (DR : DF K mg "settled_at" sSetAt ["keepers", "place"] fr fdr) (GR : FnOk P w K mg base CX0 2 fr fdr ["keepers", "place"] (spSetAt KC)) :
    FnOk P w K mg base CX0 7 f fd ["_law_draw"] (spRounds K) := by
  refine F.ok scRounds (fun vs H Q E h => ?_) (fun cdv A outer s0 H vs Q E hr h => ?_)
  · obtain ⟨d, a, ns, rfl, _⟩ := h
    rfl
  · obtain ⟨d, a, ns, rfl, hd, hS, hlen, k⟩ := h
    have sLine : sizeLine = 2 ^ 24 := rfl
    have hr1 : Room 1 _ := hr.mono (by decide)
    have hr2 : Room 2 _ := hr.mono (by decide)
    have hr3 : Room 3 _ := hr.mono (by decide)
    have hr4 : Room 4 _ := hr.mono (by decide)
    refine ⟨_, pss_cons (ps_set (i := 1) scRounds.nd rfl (Or.inl rfl) (pe_call GP hr3 rfl DP.g DP.F.kp DP.b .nil pass0 (pa_cons (pv 0) (pa_cons (pe_lst (pa_cons pe_int (pa_cons pe_int (pa_cons pe_int (pa_cons pe_int (pa_cons pe_int pa_nil)))))) pa_nil))))
      (pss_cons (ps_asg (pe_tup (pa_cons (pe_make DI'.m GI hr4 rfl T.mgC DI'.b .nil pass0 (pa_cons (pv 1) pa_nil)) (pa_cons (pe_tup pa_nil) pa_nil))) (pg_tup (by rfl) (pgs_cons (pg_name (i := 2) scRounds.nd rfl (Or.inr rfl)) (pgs_cons (pg_name (i := 3) scRounds.nd rfl (Or.inl rfl)) pgs_nil))))
      (pss_cons (ps_for PassesOwn.never rfl (pi_range1 (by rfl) T.range (pa_cons pe_int pa_nil)) (pg_name (i := 4) scRounds.nd rfl (Or.inl rfl))
        (pss_cons (ps_set (i := 5) scRounds.nd rfl (Or.inl rfl) (pe_meth (pv 2) T.clC DB.m GB hr3 DB.b .nil pass0 (pa_cons (pv 4) pa_nil)))
        (pss_cons (ps_expr (pe_meth (pv 2) T.clC DX.m GX hr DX.b .nil pass0 (pa_cons (pv 5) (pa_cons (pe_call GS hr3 rfl DS.g DS.F.kp DS.b .nil pass0 (pa_cons (pv 0) (pa_cons (pv 1) (pa_cons (pe_op op_add (pe_op op_fdiv (pv 1) pe_int) pe_int) pa_nil)))) pa_nil))))
        (pss_cons (ps_set (i := 6) scRounds.nd rfl (Or.inl rfl) (pe_ix ix_list (pe_fld (pv 2) rfl) (pv 5) (fun _ _ => rfl)))
        (Evl.pss_cut (ps_if (pt_cmpR op_eq (pe_fld (pv 6) rfl) pe_str (nomark _)) (pss_one (ps_expr (pe_meth (pv 6) T.clS DA.m GA hr1 DA.b .nil pass0 (pa_cons (pe_op op_add_str pe_str (pe_callTy call_str_int (by rfl) T.str (by decide +kernel) (pa_cons (pv 4) pa_nil))) pa_nil)))) pss_nil)
        (pss_cons (ps_for PassesOwn.never rfl (pi_range1 (by rfl) T.range (pa_cons (pe_op op_add pe_int (pe_call GT hr2 rfl DT.g DT.F.kp DT.b .nil pass0 (pa_cons (pv 0) (pa_cons pe_int pa_nil)))) pa_nil)) (pg_name (i := 7) scRounds.nd rfl (Or.inl rfl))
          (pss_one (ps_expr (pe_meth (pv 2) T.clC DX.m GX hr DX.b .nil pass0 (pa_cons (pv 5) (pa_cons (pe_call GS hr3 rfl DS.g DS.F.kp DS.b .nil pass0 (pa_cons (pv 0) (pa_cons (pv 1) (pa_cons (pe_call GP hr3 rfl DP.g DP.F.kp DP.b .nil pass0 (pa_cons (pv 0) (pa_cons (pe_lst (pa_cons pe_int (pa_cons pe_int (pa_cons (pe_op op_add (pe_op op_fdiv (pv 1) pe_int) pe_int) pa_nil)))) pa_nil))) pa_nil)))) pa_nil))))))
        (pss_cons (ps_set (i := 8) scRounds.nd rfl (Or.inl rfl) (pe_meth0 (pv 2) T.clC DE.m GE hr4 DE.b .nil pass0))
        (pss_cons (ps_if (PW.pt (pw_or (pt_cmpR (op_neD hr.units) (pe_slice sl_tupA (pv 8) po_none (po_some (pe_callB call_len_seq (by rfl) T.len PySem.boot_len (pa_cons (pv 3) pa_nil)))) (pv 3) (nomark _))
            (pw_or1 (pt_val (pe_callB (cr_any rfl) (by rfl) T.any (by decide +kernel) (pa_cons
              (pe_lc (own := [("_law_place", 9)]) (g := gName 9) (tt := tYes) (te := tOp rNe (tCB (rLenS K) (tCons (tCall (spSetAt KC) [] E0 (tCons (tFld K (tVar 2) "keepers") (tCons (tVar 9) tNil))) tNil)) (tC (.int 1))) rfl scRounds.nd
                (pi_range1 (by rfl) T.range (pa_cons (pe_callB call_len_seq (by rfl) T.len PySem.boot_len (pa_cons (pv 8) pa_nil)) pa_nil)) (blkOk_by (own := [("_law_place", 9)]) (N := nRounds) (sc := defScope sRounds) (by decide +kernel))
                (fun _ _ _ _ _ => pg_name (i := 9) scRounds.nd rfl (Or.inl rfl)) (fun _ _ _ _ _ => pts_nil)
                (fun _ _ _ _ _ => pe_cmpR op_ne (pe_callB call_len_seq (by rfl) T.len PySem.boot_len (pa_cons (pe_call GR hr2 rfl DR.g DR.F.kp DR.b .nil pass0 (pa_cons (pe_fld (pv 2) rfl) (pa_cons (pv 9) pa_nil))) pa_nil)) pe_int (nomark _))) pa_nil)))))) (pss_one (ps_ret pe_bl)) pss_nil)
        (pss_one (ps_set (i := 3) scRounds.nd rfl (Or.inl rfl) (pv 8)))))))))))
      (pss_one (ps_ret pe_bl)))), ?_⟩
    -- how many keepers
    refine ⟨_, rfl, (by show 5 ≤ sizeLine; decide), fun u hu => ?_⟩
    have s1 : Same H (upd H u (.lst [.int 3, .int 3, .int 3, .int 4, .int 5])) := Same.new hu
    have hne : u ≠ d := by
      obtain ⟨m, hd⟩ := hd
      exact (ne_of_none hd hu).symm
    refine ⟨d, a, u, ns, _, rfl, hd.same s1, hS.same s1, hlen, upd_same, hne, by simp, fun v H1 hv d1 b1 => ?_⟩
    obtain ⟨n, rfl, hn1, hn5⟩ : ∃ n : Nat, v = V.int ((n : Nat) : Int) ∧ 1 ≤ n ∧ n ≤ 5 := by
      simp at hv
      rcases hv with rfl | rfl | rfl
      · exact ⟨3, rfl, by decide, by decide⟩
      · exact ⟨4, rfl, by decide, by decide⟩
      · exact ⟨5, rfl, by decide, by decide⟩
    have b01 : But [d] H H1 := fun c o z nn => b1 c o (s1 _ _ z) nn
    have hS1 : Scr K H1 a ns [d] := hS.but b01 (fun _ h => h)
    -- the council
    refine ⟨_, rfl, fun x dx nx ndx nex => ?_⟩
    refine ⟨x, dx, n, rfl, upd_same, hn5, fun c H2 hc CA fr2 => ⟨rfl, ?_⟩⟩
    subst hc
    have s2 : ∀ b o, H1 b = some o → H2 b = some o ∧ b ∉ c.foot := fun b o z => fr2 b o (by rw [upd_ne (ne_of_none z nx), upd_ne (ne_of_none z ndx)]; exact z) (ne_of_none z nx)
    have LS2 : LS K KC SC CC [d] (fun _ => False) H d a ns H2 c (newSt n) 0 := by
      refine ⟨CA, Good.new hn1 hn5, ?_, by simp, fun y hy => ?_, fun y hy => ?_, ?_, fun b o z _ m => ?_⟩
      · obtain ⟨m, e⟩ := d1
        exact ⟨m, (s2 _ _ e).1⟩
      · simp at hy
        subst hy
        obtain ⟨m, e⟩ := d1
        exact ⟨_, (s2 _ _ e).1⟩
      · simp at hy
        subst hy
        obtain ⟨m, e⟩ := d1
        exact (s2 _ _ e).2
      · refine hS1.step fun o e m => ?_
        simp only [List.mem_append, not_or]
        exact ⟨(s2 _ _ e).1, m, (s2 _ _ e).2⟩
      · exact s2 _ _ (b01 _ _ z m)
    refine ⟨(by show 0 ≤ sizeLine; decide), fun t ht => ⟨(by show 2 ≤ sizeLine; decide), fun t2 ht2 => ?_⟩⟩
    obtain ⟨nt, s3, hti, ht2i⟩ := two_new (o2 := .tup [.ref c.p, .ref t]) ht ht2
    have LS3 := LS2.same s3
    generalize upd (upd H2 t (.tup [])) t2 (.tup [.ref c.p, .ref t]) = H3 at hti ht2i LS3
    refine ⟨t2, _, rfl, SqT.of ht2i, rfl, _, _, rfl, _, _, rfl, rfl, ?_⟩
    clear s3 s2 fr2 ht ht2
    have hdn : d ≠ a → True := fun _ => trivial
    refine ⟨7, rfl, by omega, by omega, for_range (lo := 0) (n := (7 : Int).toNat)
      (fun i σ H4 => ∃ (v4 v5 v6 v7 v8 : Option V) (c' : CnAd) (st' : Cst Ent) (tl : Addr) (last : List Ent), σ = [some (.ref d), some (.int ((n : Nat) : Int)), some (.ref c'.p), some (.ref tl), v4, v5, v6, v7, v8, none] ∧
        RS K KC SC CC H d a ns n i tl last H4 c' st' (100 * i))
      ⟨none, none, none, none, none, c, newSt n, t, [], rfl, LS3, by simp [newSt], by simp [newSt], hti, fun p x e => by simp at e⟩ ?_ ?_⟩
    · rintro i σ H4 hi ⟨v4, v5, v6, v7, v8, c, st, tl, last, rfl, R⟩
      have hi7 : i < 7 := hi
      have e0 : (0 : Int) + (i : Int) = ((i : Nat) : Int) := Int.zero_add _
      rw [e0]
      have hep := R.ep
      have hsl := R.sl
      have L := R.L
      obtain ⟨cx, h1⟩ := L.cn.ob
      have hnew : ((i : Nat) : Int) ∉ st.sq.map Sq.epoch := by
        rw [hep]
        intro m
        obtain ⟨q, hq, e⟩ := List.mem_map.mp m
        have := List.mem_range.mp hq
        omega
      -- begin
      refine ⟨_, rfl, c.p, cx, _, rfl, h1, rfl, _, rfl, c, st, ((i : Nat) : Int), rfl, L.cn, L.good.n5, by omega, by omega, hnew, by omega, fun c1 H5 C1 kk1 hp1 => ?_⟩
      have g1 : Good (100 * i) { st with sq := st.sq ++ [newSq ((i : Nat) : Int) st.ks.length] } := L.good.begin hnew
      have R1 : RS K KC SC CC H d a ns n (i + 1) tl last H5 c1 { st with sq := st.sq ++ [newSq ((i : Nat) : Int) st.ks.length] } (100 * i + 1) := by
        refine ⟨L.next C1 (g1.mono (by omega)) kk1, R.kn, ?_, (kk1 _ _ R.tl (L.cn.off_tup R.tl)).1, R.la⟩
        show (st.sq ++ [newSq ((i : Nat) : Int) st.ks.length]).map Sq.epoch = _
        rw [List.map_append, hep, List.range_succ, List.map_append]
        rfl
      rw [← hp1, hsl]
      generalize ({ st with sq := st.sq ++ [newSq ((i : Nat) : Int) st.ks.length] } : Cst Ent) = st1 at R1
      clear g1 kk1 C1 R L h1 hep hsl hnew hp1
      -- the first exchange
      have hhalf : (((n : Nat) : Int) / 2 + 1) = ((n / 2 + 1 : Nat) : Int) := by omega
      obtain ⟨cx1, h11⟩ := R1.L.cn.ob
      refine ⟨_, rfl, c1.p, cx1, _, rfl, h11, rfl, _, rfl, _, rfl, _, rfl, _, rfl, _, _, rfl, rfl, ⟨by decide, by decide⟩, _, _, rfl, rfl, d, a, ns, n, n / 2 + 1, ?_, R1.L.dr, R1.L.sc, hlen, by omega, fun u6 up6 H6 nu6 hu6 hup6 d6 b6 => ?_⟩
      · show [V.ref d, V.int ((n : Nat) : Int), V.int (((n : Nat) : Int) / 2 + 1)] = [V.ref d, V.int ((n : Nat) : Int), V.int ((n / 2 + 1 : Nat) : Int)]
        rw [hhalf]
      have R6 := R1.draw b6 d6
      have hu6f : u6 ∉ c1.foot := R1.L.cn.off_none nu6
      refine ⟨c1, st1, 100 * i + 1, i, u6, up6, rfl, R6.L.cn, R6.L.good, by omega, by rw [R6.sl]; omega, hu6, hu6f, fun k hk => by rw [R6.kn]; exact hup6 k hk, R6.post fun c7 st7 H7 R7 hp7 => ?_⟩
      rw [← hp7]
      clear R1 R6 h11 b6 d6 hu6 nu6 hup6 hu6f hp7
      -- the leader
      obtain ⟨cx7, h17⟩ := R7.L.cn.ob
      obtain ⟨ad, s, had, hs, SA, hv⟩ := R7.L.cn.sqv (i := i) (by rw [R7.sl]; omega)
      obtain ⟨⟨ds, g1⟩, _⟩ := id SA
      have hkn := R7.L.good.n5
      refine ⟨_, rfl, c7.p, CC, cx7, _, _, rfl, h17, T.clC, T.nCs, rfl, _, rfl, c7.sl, _, _, _, rfl, rfl, SqL.of R7.L.cn.sl, atI_nat hv, ?_⟩
      refine ⟨fun σ' H' => ∃ (c' : CnAd) (st' : Cst Ent), σ' = [some (.ref d), some (.int ((n : Nat) : Int)), some (.ref c'.p), some (.ref tl), some (.int ((i : Nat) : Int)), some (.int ((i : Nat) : Int)), some (.ref ad.a), v7, v8, none] ∧ RS K KC SC CC H d a ns n (i + 1) tl last H' c' st' (100 * i + 12), ?_, ?_⟩
      · refine ⟨_, rfl, ad.a, SC, ds, _, _, rfl, g1, T.clS, T.nSs, rfl, rfl, _, rfl, ?_⟩
        have stL : decide (V.str (standS s.stand) = V.str ("leading" : Str)) = decide (s.stand = .leading) := stand_eq s.stand .leading
        rw [stL]
        refine ite2 (fun hl => ?_) (fun hl => ?_)
        · have hl' : s.stand = .leading := of_decide_eq_true hl
          have hlog : ((i : Nat) : Int).natAbs.log2 < 1920 := by
            have : ∀ i : Fin 7, ((i.1 : Nat) : Int).natAbs.log2 < 1920 := by decide +kernel
            exact this ⟨i, hi7⟩
          have hrow := R7.L.good.sz.sq s (List.mem_of_getElem? hs)
          refine ⟨_, rfl, ad.a, ds, _, rfl, g1, rfl, _, rfl, _, rfl, hlog, _, _, rfl, rfl, entS_len i hi7, st7.ks.length, ad, s, entS i hi7, rfl, SA, hl', by omega, fun H8 SA8 b8 => ?_⟩
          obtain ⟨c8, st8, L8, ek, ee, ep8⟩ := R7.L.add had hs hl' b8 SA8
          refine ⟨c8, st8, by rw [ep8]; rfl, L8.mono (by omega), by rw [ek]; exact R7.kn, ee.trans R7.ep, ?_, ?_⟩
          · exact b8 _ _ R7.tl (by
              obtain ⟨_, _, g3, _⟩ := SA
              simpa using (ne_of R7.tl g3 (by intro q; cases q)))
          · intro p x e
            obtain ⟨ep, hc⟩ := R7.la p x e
            exact ⟨ep, by rw [ek]; exact hc⟩
        · exact ⟨c7, st7, rfl, R7.L.mono (by omega), R7.kn, R7.ep, R7.tl, R7.la⟩
      rintro σ' H8 ⟨c8, st8, rfl, R8⟩
      clear R7 h17 SA g1 had hs hv
      -- more exchanges
      refine ⟨_, rfl, d, a, ns, 2, rfl, R8.L.dr, R8.L.sc, hlen, by decide, fun r H9 hr9 d9 b9 => ?_⟩
      have R9 := R8.draw b9 d9
      refine ⟨_, _, rfl, rfl, _, rfl, by omega, by omega, for_range (lo := 0) (n := ((1 : Int) + ((r : Nat) : Int)).toNat)
        (fun j σ' H' => ∃ (v7 : Option V) (c' : CnAd) (st' : Cst Ent), σ' = [some (.ref d), some (.int ((n : Nat) : Int)), some (.ref c'.p), some (.ref tl), some (.int ((i : Nat) : Int)), some (.int ((i : Nat) : Int)), some (.ref ad.a), v7, v8, none] ∧ RS K KC SC CC H d a ns n (i + 1) tl last H' c' st' (100 * i + 12 + 10 * j))
        ⟨v7, c8, st8, rfl, R9⟩ ?_ ?_⟩
      · rintro j σ' HA hj ⟨w7, cA, stA, rfl, RA⟩
        have hj2 : j < 2 := by omega
        obtain ⟨cxA, h1A⟩ := RA.L.cn.ob
        refine ⟨_, rfl, cA.p, cxA, _, rfl, h1A, rfl, _, rfl, _, rfl, _, rfl, _, rfl, _, rfl, _, _, rfl, rfl, ⟨by decide, by decide⟩, _, _, rfl, rfl, (by show 3 ≤ sizeLine; decide), fun uB huB => ?_⟩
        have sB : Same HA (upd HA uB (.lst [.int 1, .int 1, .int (((n : Nat) : Int) / 2 + 1)])) := Same.new huB
        have RB := RA.same sB
        have hneB : uB ≠ d := by
          obtain ⟨m, e⟩ := RA.L.dr
          exact (ne_of_none e huB).symm
        refine ⟨d, a, uB, ns, _, rfl, RB.L.dr, RB.L.sc, hlen, upd_same, hneB, by simp, fun v HC hv dC bC => ?_⟩
        obtain ⟨g, rfl⟩ : ∃ g : Nat, v = V.int ((g : Nat) : Int) := by
          simp at hv
          rcases hv with rfl | rfl
          · exact ⟨1, rfl⟩
          · exact ⟨n / 2 + 1, by rw [← hhalf]⟩
        have RC' := RB.draw bC dC
        refine ⟨d, a, ns, n, g, rfl, RC'.L.dr, RC'.L.sc, hlen, by omega, fun u6 up6 H6 nu6 hu6 hup6 d6 b6 => ?_⟩
        have R6 := RC'.draw b6 d6
        have hu6f : u6 ∉ cA.foot := RC'.L.cn.off_none nu6
        refine ⟨cA, stA, 100 * i + 12 + 10 * j, i, u6, up6, rfl, R6.L.cn, R6.L.good, by omega, by rw [R6.sl]; omega, hu6, hu6f, fun k hk => by rw [R6.kn]; exact hup6 k hk, R6.post fun c7 st7 H7 R7 hp7 => ?_⟩
        exact ⟨_, c7, st7, by rw [hp7]; rfl, R7⟩
      · rintro σ' HA ⟨w7, cA, stA, rfl, RA⟩
        have RA : RS K KC SC CC H d a ns n (i + 1) tl last HA cA stA (100 * i + 50) := ⟨RA.L.mono (by omega), RA.kn, RA.ep, RA.tl, RA.la⟩
        obtain ⟨cxA, h1A⟩ := RA.L.cn.ob
        -- the row
        refine ⟨_, rfl, cA.p, cxA, _, rfl, h1A, rfl, cA, stA, 100 * i + 50, rfl, RA.L.cn, RA.L.good, by omega, fun t row HB nt htB hrow hrl sB => ?_⟩
        have RB := RA.same sB
        have htk := RB.la.take RB.L.good.inv hrow
        refine ⟨_, rfl, _, rfl, tl, _, rfl, .inr (SqT.of RB.tl), ((last.length : Nat) : Int), ?_, ?_⟩
        · rw [List.length_map]
        refine slA_all (n := last.length) htB fun t3 HC sC htC => ?_
        rw [← List.map_take, htk] at htC
        have RC' := RB.same sC
        refine ⟨_, rfl, .tuple (last.map kD), .tuple (last.map kD), .tup (SqT.of htC) (ents_dp last), .tup (SqT.of RC'.tl) (ents_dp last), entsT_shaped _, entsT_shaped _, _, rfl, ?_⟩
        have ee : PyData.eqv (.tuple (last.map kD)) (.tuple (last.map kD)) = true := by
          have := ents_eqv last last
          simp only [PyData.eqv]
          rw [this, decide_eq_true rfl]
        rw [ee]
        refine iteF ?_
        have htB' := sC _ _ htB
        -- each place has one
        refine ⟨_, rfl, t, _, rfl, .inr (SqT.of htB'), ((row.length : Nat) : Int), ?_, by omega, by omega, fun D hD => lc_range (lo := 0) (n := ((row.length : Nat) : Int).toNat)
          (fun j H' => Same HC H' ∧ H' D = some (.lst ((List.replicate j false).map V.bl))) ⟨Same.new hD, upd_same⟩ (fun j H' hj pw => ⟨rfl, ?_⟩) (fun HE pw => ?_)⟩
        · rw [List.length_map]
        · obtain ⟨sw, hD'⟩ := pw
          have e0 : (0 : Int) + (j : Int) = ((j : Nat) : Int) := Int.zero_add _
          rw [e0]
          have hjr : j < row.length := by omega
          have RW := RC'.same sw
          obtain ⟨cxW, h1W⟩ := RW.L.cn.ob
          have hn5 := RW.L.good.n5
          refine ⟨_, rfl, cA.p, CC, cxW, _, _, rfl, h1W, T.clC, T.nCk, rfl, _, rfl, cA.kl, cA.ks, stA.ks, j, rfl, RW.L.cn.ksAt, by omega, fun k kp e => ?_, fun l found HF nl hl hset sF => ?_⟩
          · have q1 := (RW.L.good.sz.ks k kp e).1
            have q2 := kp.recs_le
            omega
          have hfound := hrow.at RW.L.good.inv hset (by omega)
          rw [List.getElem?_eq_getElem hjr] at hfound
          simp only at hfound
          subst hfound
          refine ⟨l, _, rfl, .inl (SqL.of hl), rfl, ?_⟩
          have e1 : (!decide (V.int ((([row[j]] : List Ent).map eV).length : Nat) = V.int 1)) = false := by simp
          refine ⟨_, sF _ _ hD', ?_, Same.upd (sw.trans sF) hD, ?_⟩
          · rw [List.length_map, List.length_replicate]
            omega
          · rw [upd_same, List.replicate_succ', List.map_append]
            show some (HO.lst ((List.replicate j false).map V.bl ++ [V.bl (!decide (V.int ((([row[j]] : List Ent).map eV).length : Nat) = V.int 1))])) = _
            rw [e1]
            rfl
        · obtain ⟨sE, hDE⟩ := pw
          have RE := RC'.same sE
          refine ⟨D, _, rfl, SqL.of hDE, _, rfl, ?_⟩
          have ea : (List.replicate ((row.length : Nat) : Int).toNat false).any id = false := by
            rw [List.any_eq_false]
            intro b hb
            rw [(List.mem_replicate.mp hb).2]
            simp
          rw [ea]
          refine iteF ?_
          refine ⟨_, rfl, _, _, _, _, _, cA, stA, t, row, rfl, RE.L.mono (by omega), RE.kn, RE.ep, sE _ _ htB', hrow.1⟩
    · rintro σ H4 ⟨v4, v5, v6, v7, v8, c, st, tl, last, rfl, R⟩
      refine k H4 R.L.dr fun b o e m => ?_
      exact (R.L.fr b o e (fun z => z) m).1
end
end K40
/-! _law_step. -/
namespace K40
open PySem L2 Mc
theorem nodup_sub_len {α : Type} [DecidableEq α] : ∀ (l m : List α), l.Nodup → (∀ x ∈ l, x ∈ m) → l.length ≤ m.length
  | [], _, _, _ => Nat.zero_le _
  | x :: l, m, hn, h => by
    obtain ⟨h1, h2⟩ := List.nodup_cons.mp hn
    have hx : x ∈ m := h x (by simp)
    have ih := nodup_sub_len l (m.erase x) h2 fun y hy => by
      have hne : y ≠ x := fun e => h1 (e ▸ hy)
      exact (List.mem_erase_of_ne hne).mpr (h y (List.mem_cons_of_mem _ hy))
    rw [List.length_erase_of_mem hx] at ih
    have := List.length_pos_of_mem hx
    simp
    omega
def freeOf (known : List Int) : List Nat := (List.range 24).filter fun k => !known.contains ((k : Nat) : Int)
theorem free_ne (known : List Int) (h : known.length ≤ 9) : freeOf known ≠ [] := by
  intro e
  have all : ∀ x ∈ (List.range 24).map (fun k : Nat => (k : Int)), x ∈ known := by
    intro x hx
    obtain ⟨k, hk, rfl⟩ := List.mem_map.mp hx
    apply Classical.byContradiction
    intro hno
    have : k ∈ freeOf known := List.mem_filter.mpr ⟨hk, by simpa using hno⟩
    rw [e] at this
    cases this
  have hn : ((List.range 24).map (fun k : Nat => (k : Int))).Nodup := by decide
  have := nodup_sub_len _ _ hn all
  rw [List.length_map, List.length_range] at this
  omega
theorem free_mem {known : List Int} {k : Nat} (h : k ∈ freeOf known) : k < 24 ∧ ((k : Nat) : Int) ∉ known := by
  obtain ⟨h1, h2⟩ := List.mem_filter.mp h
  exact ⟨List.mem_range.mp h1, by simpa using h2⟩
/-- what stands within a step -/
structure SS (K : PySem.W.Frag) (KC SC CC : Addr) (d wd a : Addr) (ns : List Int) (c0 : CnAd) (st0 : Cst Ent) (H0 : Hp) (H : Hp) (c : CnAd) (st : Cst Ent) (N : Nat) : Prop where
  L : LS K KC SC CC [d, wd] (fun b => b ∈ c0.foot) H0 d a ns H c st N
  w1 : ∃ m : Int, H wd = some (.lst [.int m])
  ne : wd ≠ d
  gr : Grow st0.ks st.ks
  n9 : st.sq.length ≤ 9
  p : c.p = c0.p
section
variable {K : PySem.W.Frag} {KC SC CC : Addr} {d wd a : Addr} {ns : List Int} {c0 : CnAd} {st0 : Cst Ent} {H0 H H' : Hp} {c : CnAd} {st : Cst Ent} {N : Nat}
theorem SS.same (r : SS K KC SC CC d wd a ns c0 st0 H0 H c st N) (s : Same H H') : SS K KC SC CC d wd a ns c0 st0 H0 H' c st N := by
  obtain ⟨m, e⟩ := r.w1
  exact ⟨r.L.same s, ⟨m, s _ _ e⟩, r.ne, r.gr, r.n9, r.p⟩
theorem SS.draw (r : SS K KC SC CC d wd a ns c0 st0 H0 H c st N) (b : But [d] H H') (dr : Dr H' d a) : SS K KC SC CC d wd a ns c0 st0 H0 H' c st N := by
  obtain ⟨m, e⟩ := r.w1
  exact ⟨r.L.draw b dr, ⟨m, b _ _ e (by simpa using r.ne)⟩, r.ne, r.gr, r.n9, r.p⟩
theorem SS.mono {N' : Nat} (r : SS K KC SC CC d wd a ns c0 st0 H0 H c st N) (h : N ≤ N') : SS K KC SC CC d wd a ns c0 st0 H0 H c st N' := ⟨r.L.mono h, r.w1, r.ne, r.gr, r.n9, r.p⟩
theorem SS.post {Q : Hp → Prop} (r : SS K KC SC CC d wd a ns c0 st0 H0 H c st N) (k : ∀ c' st' H', SS K KC SC CC d wd a ns c0 st0 H0 H' c' st' (N + 10) → st'.sq.length = st.sq.length → Q H') : Post KC SC CC c H N st (st.sq.map Sq.epoch) Q :=
  r.L.post fun c' st' H' L' gr ep kk e => by
    obtain ⟨m, ew⟩ := r.w1
    have hl : st'.sq.length = st.sq.length := by
      have := congrArg List.length ep
      simpa using this
    exact k c' st' H' ⟨L', ⟨m, (kk _ _ ew (r.L.off wd (by simp))).1⟩, r.ne, r.gr.trans gr, by rw [hl]; exact r.n9, e.trans r.p⟩ hl
/-- the count of words goes on -/
theorem SS.word {m' : Int} (r : SS K KC SC CC d wd a ns c0 st0 H0 H c st N) : SS K KC SC CC d wd a ns c0 st0 H0 (upd H wd (.lst [.int m'])) c st N := by
  have b : But [wd] H (upd H wd (.lst [.int m'])) := (But.refl _ H).upd (.inl (by simp))
  have dr : Dr (upd H wd (.lst [.int m'])) d a := by
    obtain ⟨n, e⟩ := r.L.dr
    exact ⟨n, by rw [upd_ne r.ne.symm]; exact e⟩
  refine ⟨r.L.but b (fun x hx => by simp at hx; simp [hx]) dr fun x hx => ?_, ⟨m', upd_same⟩, r.ne, r.gr, r.n9, r.p⟩
  simp at hx
  rcases hx with rfl | rfl
  · obtain ⟨n, e⟩ := dr
    exact ⟨_, e⟩
  · exact ⟨_, upd_same⟩
theorem SS.add {i : Nat} {ad : SqAd} {s : Sq Ent} {x : Ent} (r : SS K KC SC CC d wd a ns c0 st0 H0 H c st N) (hi : c.sq[i]? = some ad) (hs : st.sq[i]? = some s) (hl : s.stand = .leading) (b : But [ad.rl] H H') (SA : SqAt SC H' st.ks.length ad { s with row := s.row ++ [x] }) :
    ∃ c' st', SS K KC SC CC d wd a ns c0 st0 H0 H' c' st' (N + 1) ∧ st'.sq.length = st.sq.length ∧ c'.p = c.p := by
  obtain ⟨c', st', L', ek, ee, ep⟩ := r.L.add hi hs hl b SA
  have hl2 : st'.sq.length = st.sq.length := by
    have := congrArg List.length ee
    simpa using this
  obtain ⟨m, ew⟩ := r.w1
  have hm : ad.rl ∈ c.foot := CnAd.mem_sq (List.mem_of_getElem? hi) (by simp)
  exact ⟨c', st', ⟨L', ⟨m, b _ _ ew (by simp; rintro rfl; exact r.L.off _ (by simp) hm)⟩, r.ne, by rw [ek]; exact r.gr, by rw [hl2]; exact r.n9, ep.trans r.p⟩, hl2, ep⟩
/-- a new list stands beside, for a while -/
theorem SS.with_list {u : Addr} {xs xs' : List V} {H1 H2 : Hp} (r : SS K KC SC CC d wd a ns c0 st0 H0 H c st N) (n : H u = none) (s : Same H H1) (e1 : H1 u = some (.lst xs)) (b : But [d, u] H1 H2) (dr : Dr H2 d a) (e2 : H2 u = some (.lst xs')) :
    SS K KC SC CC d wd a ns c0 st0 H0 H2 c st N := by
  obtain ⟨L1, hu⟩ := r.L.push n s e1
  obtain ⟨m, ew⟩ := r.w1
  have ew1 := s _ _ ew
  have nwu : wd ≠ u := ne_of_none ew n
  have ew2 : H2 wd = some (.lst [.int m]) := b _ _ ew1 (by simp [r.ne, nwu])
  have L2' := L1.but b (fun x hx => by simp at hx; rcases hx with h | h <;> simp [h]) dr fun x hx => by
    simp at hx
    rcases hx with rfl | rfl | rfl
    · exact ⟨_, e2⟩
    · obtain ⟨q, e⟩ := dr
      exact ⟨_, e⟩
    · exact ⟨_, ew2⟩
  exact ⟨L2'.pop hu (by simp), ⟨m, ew2⟩, r.ne, r.gr, r.n9, r.p⟩
end
end K40
/-! _law_step, walked. -/
namespace K40
open PySem L2 Mc
section
variable {P : Program} {w : World} {K : PySem.W.Frag} {mg : Str → Option Value} {base : Heap} {RC KC SC CC : Addr}
def spStep (K : PySem.W.Frag) (KC SC CC : Addr) : Sp := fun vs H Q _ => ∃ (d wd a : Addr) (ns : List Int) (c : CnAd) (st : Cst Ent) (N : Nat), vs = [.ref d, .ref c.p, .ref wd] ∧ SS K KC SC CC d wd a ns c st H H c st N ∧ ns.length ≤ 63 ∧ N ≤ 4900 ∧
  ∀ c' st' H', SS K KC SC CC d wd a ns c st H H' c' st' (N + 30) → Q .non H'
abbrev nStep : List Str := ["_law_draw", "_law_council", "_law_words", "_law_kind", "_law_number_here", "_law_up", "_law_goal", "_law_known", "_law_free", "_law_late", "_law_keeper", "_law_at", "_law_one", "_law_epoch"]
theorem scStep : FnScope nStep ["_law_draw", "_law_council", "_law_words"] (defScope sStep) := ⟨rfl, rfl, rfl, by decide +kernel, rfl, by decide +kernel, by decide +kernel⟩
/-- a leading sequencer of the council gets one more word -/
theorem word_add (T : Txt K mg RC KC SC CC) {d wd a : Addr} {ns : List Int} {c0 : CnAd} {st0 : Cst Ent} {H0 H : Hp} {c : CnAd} {st : Cst Ent} {N i : Nat} {D : Ends} {σ : L2.St}
    (r : SS K KC SC CC d wd a ns c0 st0 H0 H c st N) (hN : N ≤ 5000) (hi : i < st.sq.length) {ad : SqAd} {s : Sq Ent} (had : c.sq[i]? = some ad) (hs : st.sq[i]? = some s) (hl : s.stand = .leading)
    (h1 : σ[1]? = some (some (.ref c.p))) (h2 : σ[2]? = some (some (.ref wd))) (h4 : σ[4]? = some (some (.int ((i : Nat) : Int))))
    (k : ∀ c' st' H', SS K KC SC CC d wd a ns c0 st0 H0 H' c' st' (N + 1) → st'.sq.length = st.sq.length → c'.p = c.p → D.nx σ H') :
    tSeq (tAugS (tVar 2) (tC (.int 0)) (tC (.int 1)) K40V.rGetL (ipI fun i j => i + j) rSetL)
      (tDrop (tMeth SC "add" (spSAdd SC) [] E0 (tOp (rIxL K) (tFld K (tVar 1) "sequencers") (tVar 4)) (tCons (tOp (rIxL K) (tVar 2) (tC (.int 0))) tNil))) D σ H := by
  obtain ⟨m, hw⟩ := r.w1
  refine ⟨_, h2, wd, _, 0, V.int m, rfl, rfl, hw, rfl, m, 1, rfl, rfl, wd, _, 0, 0, rfl, rfl, hw, rfl, ?_⟩
  have r1 : SS K KC SC CC d wd a ns c0 st0 H0 (upd H wd (.lst [.int (m + 1)])) c st N := r.word
  have hw1 : (upd H wd (.lst [.int (m + 1)])) wd = some (.lst [.int (m + 1)]) := upd_same
  obtain ⟨ad', s', had', hs', SA, hv⟩ := r1.L.cn.sqv hi
  rw [had] at had'
  cases had'
  rw [hs] at hs'
  cases hs'
  obtain ⟨cx, g0⟩ := r1.L.cn.ob
  obtain ⟨⟨ds, g1⟩, _⟩ := id SA
  have hrow := r1.L.good.sz.sq s (List.mem_of_getElem? hs)
  refine ⟨_, h1, c.p, CC, cx, _, _, rfl, g0, T.clC, T.nCs, rfl, _, h4, c.sl, _, _, _, rfl, rfl, SqL.of r1.L.cn.sl, atI_nat hv, ad.a, ds, _, rfl, g1, rfl, _, h2, wd, _, _, _, rfl, rfl, SqL.of hw1, rfl,
    st.ks.length, ad, s, entI (m + 1), rfl, SA, hl, by omega, fun H2 SA2 b2 => ?_⟩
  obtain ⟨c', st', r2, e1, e2⟩ := r1.add had hs hl b2 SA2
  exact k c' st' H2 r2 e1 e2
theorem isE' {α : Type} (xs : List α) (n : Nat) (h : xs.length = n) : xs.isEmpty = decide (n = 0) := by
  subst h
  cases xs <;> simp
theorem SS.ob {d wd a : Addr} {ns : List Int} {c0 : CnAd} {st0 : Cst Ent} {H0 H : Hp} {c : CnAd} {st : Cst Ent} {N : Nat} (r : SS K KC SC CC d wd a ns c0 st0 H0 H c st N) : ∃ dx, H c0.p = some (.ins CC dx (cf c.kl c.sl c.ll)) := by
  rw [← r.p]
  exact r.L.cn.ob
theorem test_sq (T : Txt K mg RC KC SC CC) {d wd a : Addr} {ns : List Int} {c0 : CnAd} {st0 : Cst Ent} {H0 H : Hp} {c : CnAd} {st : Cst Ent} {N : Nat} {neg : Bool} {σ : L2.St} {Q : Bool → Hp → Prop} (r : SS K KC SC CC d wd a ns c0 st0 H0 H c st N)
    (h1 : σ[1]? = some (some (.ref c0.p))) (q : ∀ H1, Same H H1 → Q (if neg then !decide (st.sq.length = 0) else decide (st.sq.length = 0)) H1) :
    tTest (tOp (K40V.rEqE neg) (tFld K (tVar 1) "sequencers") (tLst tNil)) σ H Q := by
  obtain ⟨cx, g⟩ := r.ob
  refine ⟨_, h1, c0.p, CC, cx, _, _, rfl, g, T.clC, T.nCs, rfl, (by show 0 ≤ sizeLine; decide), fun t ht => ⟨_, t, _, rfl, rfl, (Same.new ht) _ _ r.L.cn.sl, upd_same, _, rfl, ?_⟩⟩
  rw [isE' (c.sq.map fun d => V.ref d.a) st.sq.length (by rw [List.length_map]; exact r.L.cn.slen)]
  exact q _ (Same.new (o := .lst []) ht)
theorem test_ls (T : Txt K mg RC KC SC CC) {d wd a : Addr} {ns : List Int} {c0 : CnAd} {st0 : Cst Ent} {H0 H : Hp} {c : CnAd} {st : Cst Ent} {N : Nat} {neg : Bool} {σ : L2.St} {Q : Bool → Hp → Prop} (r : SS K KC SC CC d wd a ns c0 st0 H0 H c st N)
    (h1 : σ[1]? = some (some (.ref c0.p))) (q : ∀ H1, Same H H1 → Q (if neg then !decide (st.ls.length = 0) else decide (st.ls.length = 0)) H1) :
    tTest (tOp (K40V.rEqE neg) (tFld K (tVar 1) "letters") (tLst tNil)) σ H Q := by
  obtain ⟨cx, g⟩ := r.ob
  obtain ⟨ls, gl, gp⟩ := r.L.cn.ll
  refine ⟨_, h1, c0.p, CC, cx, _, _, rfl, g, T.clC, T.nCl, rfl, (by show 0 ≤ sizeLine; decide), fun t ht => ⟨_, t, _, rfl, rfl, (Same.new ht) _ _ gl, upd_same, _, rfl, ?_⟩⟩
  rw [isE' ls st.ls.length (Paired.length gp)]
  exact q _ (Same.new (o := .lst []) ht)
theorem test_stand (T : Txt K mg RC KC SC CC) {d wd a : Addr} {ns : List Int} {c0 : CnAd} {st0 : Cst Ent} {H0 H : Hp} {c : CnAd} {st : Cst Ent} {N i : Nat} {σ : L2.St} {Q : Bool → Hp → Prop} (r : SS K KC SC CC d wd a ns c0 st0 H0 H c st N) (hi : i < st.sq.length)
    (h1 : σ[1]? = some (some (.ref c0.p))) (h4 : σ[4]? = some (some (.int ((i : Nat) : Int)))) (q : ∀ ad s, c.sq[i]? = some ad → st.sq[i]? = some s → Q (decide (s.stand = .leading)) H) :
    tTest (tOp rEq (tFld K (tOp (rIxL K) (tFld K (tVar 1) "sequencers") (tVar 4)) "stand") (tC (.str "leading"))) σ H Q := by
  obtain ⟨cx, g⟩ := r.ob
  obtain ⟨ad, s, had, hs, SA, hv⟩ := r.L.cn.sqv hi
  obtain ⟨⟨ds, g1⟩, _⟩ := id SA
  refine ⟨_, h1, c0.p, CC, cx, _, _, rfl, g, T.clC, T.nCs, rfl, _, h4, c.sl, _, _, _, rfl, rfl, SqL.of r.L.cn.sl, atI_nat hv, ad.a, SC, ds, _, _, rfl, g1, T.clS, T.nSs, rfl, rfl, _, rfl, ?_⟩
  have stL : decide (V.str (standS s.stand) = V.str ("leading" : Str)) = decide (s.stand = .leading) := stand_eq s.stand .leading
  rw [stL]
  exact q ad s had hs
theorem SS.begun {d wd a : Addr} {ns : List Int} {c0 : CnAd} {st0 : Cst Ent} {H0 H H' : Hp} {c c' : CnAd} {st : Cst Ent} {N : Nat} {e : Int} (r : SS K KC SC CC d wd a ns c0 st0 H0 H c st N) (hlt : st.sq.length < 9) (he : e ∉ st.sq.map Sq.epoch)
    (C' : CnAt KC SC CC H' c' { st with sq := st.sq ++ [newSq e st.ks.length] }) (kk : Keep c H c' H') (hp : c'.p = c.p) : SS K KC SC CC d wd a ns c0 st0 H0 H' c' { st with sq := st.sq ++ [newSq e st.ks.length] } N := by
  obtain ⟨m, ew⟩ := r.w1
  refine ⟨r.L.next C' (r.L.good.begin he) kk, ⟨m, (kk _ _ ew (r.L.off wd (by simp))).1⟩, r.ne, r.gr, ?_, hp.trans r.p⟩
  show (st.sq ++ [newSq e st.ks.length]).length ≤ 9
  rw [List.length_append]
  simp
  omega
theorem inV_ints (k : Int) (l : List Int) : inV (.int k) (l.map V.int) = l.contains k := by
  apply Bool.eq_iff_iff.mpr
  simp [inV, List.any_eq_true, eqV]
theorem flat_ints (l : List Int) : (l.map V.int).all flatV = true := by
  rw [List.all_eq_true]
  intro v hv
  obtain ⟨x, _, rfl⟩ := List.mem_map.mp hv
  rfl
theorem intVs_mem {v : V} {xs : List Nat} (h : v ∈ intVs xs) : ∃ k, k ∈ xs ∧ v = V.int ((k : Nat) : Int) := by
  unfold intVs at h
  obtain ⟨x, hx, rfl⟩ := List.mem_map.mp h
  obtain ⟨k, hk, rfl⟩ := List.mem_map.mp hx
  exact ⟨k, hk, rfl⟩
theorem intVs_cut (xs : List Nat) : ∃ ys : List Nat, cutV (intVs xs) none (some 2) = intVs ys ∧ ∀ y ∈ ys, y ∈ xs := by
  unfold cutV intVs
  generalize HT.sIx _ 0 none = p
  generalize HT.sIx _ _ (some (2 : Int)) = q
  refine ⟨(xs.drop p).take (q - p), ?_, fun y hy => List.mem_of_mem_drop (List.mem_of_mem_take hy)⟩
  rw [List.map_take, List.map_take, List.map_drop, List.map_drop]
theorem intVs_app (xs : List Nat) (k : Nat) : intVs xs ++ [V.int ((k : Nat) : Int)] = intVs (xs ++ [k]) := by simp [intVs]
theorem intVs_len (xs : List Nat) : (intVs xs).length = xs.length := by simp [intVs]
theorem range_keep (f : Nat → Bool) (i : Nat) (h : f i = true) : (List.range (i + 1)).filter f = (List.range i).filter f ++ [i] := by
  rw [List.range_succ, List.filter_append]
  simp [h]
theorem range_drop (f : Nat → Bool) (i : Nat) (h : ¬ f i = true) : (List.range (i + 1)).filter f = (List.range i).filter f := by
  rw [List.range_succ, List.filter_append]
  simp [h]
theorem to_next {D : Ends} {σ : L2.St} {H : Hp} (h : D.nx σ H) : tNext D σ H := h
theorem ok_step {f fp ft fb fx fa fs fq fl fo fk fv : Addr} {fd fdp fdt fdb fdx fda fds fdq fdl fdo fdk fdv : FuncData} (F : Fun K "_law_step" "_law_step" sStep f fd) (T : Txt K mg RC KC SC CC)
    (DP : DF K mg "_law_pick" sPick ["_law_draw", "_law_items"] fp fdp) (GP : FnOk P w K mg base CX0 3 fp fdp ["_law_draw", "_law_items"] (spPick K))
    (DT : DF K mg "_law_take" sTake ["_law_draw", "_law_many"] ft fdt) (GT : FnOk P w K mg base CX0 2 ft fdt ["_law_draw", "_law_many"] (spDraw K))
    (DB : DM K CC "begin" "Council.begin" sCBegin ["self", "epoch"] fb fdb) (GB : FnOk P w K mg base CX0 3 fb fdb ["self", "epoch"] (spCBegin KC SC CC))
    (DX : DM K CC "exchange" "Council.exchange" sCExch ["self", "number", "up"] fx fdx) (GX : FnOk P w K mg base CX0 6 fx fdx ["self", "number", "up"] (spCExch KC SC CC K))
    (DA : DM K SC "add" "Sequencer.add" sSAdd ["self", "entry"] fa fda) (GA : FnOk P w K mg base CX0 1 fa fda ["self", "entry"] (spSAdd SC))
    (DS : DM K CC "stop" "Council.stop" sCStop ["self", "number"] fs fds) (GS : FnOk P w K mg base CX0 1 fs fds ["self", "number"] (spCStop KC SC CC))
    (DQ : DM K CC "send" "Council.send" sCSend ["self", "number"] fq fdq) (GQ : FnOk P w K mg base CX0 2 fq fdq ["self", "number"] (spCSend KC SC CC))
    (DL : DM K CC "flush" "Council.flush" sCFlush ["self", "number"] fl fdl) (GL : FnOk P w K mg base CX0 2 fl fdl ["self", "number"] (spCFlush KC SC CC))
    (DO : DM K CC "fall" "Council.fall" sCFall ["self", "number", "many"] fo fdo) (GO : FnOk P w K mg base CX0 3 fo fdo ["self", "number", "many"] (spCFall KC SC CC))
    (DK : DM K CC "lose" "Council.lose" sCLose ["self", "at"] fk fdk) (GK : FnOk P w K mg base CX0 2 fk fdk ["self", "at"] (spCLose KC SC CC))
    (DV : DM K CC "deliver" "Council.deliver" sCDeliver ["self", "at", "is_kept"] fv fdv) (GV : FnOk P w K mg base CX0 6 fv fdv ["self", "at", "is_kept"] (spCDeliver KC SC CC)) :
    FnOk P w K mg base CX0 7 f fd ["_law_draw", "_law_council", "_law_words"] (spStep K KC SC CC) := by
  refine F.ok scStep (fun vs H Q E h => ?_) (fun cdv A outer s0 H vs Q E hr h => ?_)
  · obtain ⟨d, wd, a, ns, c, st, N, rfl, _⟩ := h
    rfl
  · obtain ⟨d, wd, a, ns, c, st, N, rfl, R0, hlen, hN, k⟩ := h
    have sLine : sizeLine = 2 ^ 24 := rfl
    have hr1 : Room 1 _ := hr.mono (by decide)
    have hr2 : Room 2 _ := hr.mono (by decide)
    have hr3 : Room 3 _ := hr.mono (by decide)
    refine ⟨_, pss_cons (ps_set (i := 3) scStep.nd rfl (Or.inl rfl) (pe_call GT hr2 rfl DT.g DT.F.kp DT.b .nil pass0 (pa_cons (pv 0) (pa_cons pe_int pa_nil))))
      (pss_cons (ps_if (PW.pt (pw_and (pt_cmpR op_gt (pv 3) pe_int (nomark _)) (pw_and1 (pt_cmpR (K40V.op_neE hr.units) (pe_fld (pv 1) rfl) (pe_lst pa_nil) (nomark _)))))
        (pss_cons (ps_set (i := 4) scStep.nd rfl (Or.inl rfl) (pe_call GT hr2 rfl DT.g DT.F.kp DT.b .nil pass0 (pa_cons (pv 0) (pa_cons (pe_callB call_len_seq (by rfl) T.len PySem.boot_len (pa_cons (pe_fld (pv 1) rfl) pa_nil)) pa_nil))))
        (Evl.pss_cut (ps_if (pt_cmpR op_eq (pe_fld (pe_ix ix_list (pe_fld (pv 1) rfl) (pv 4) (fun _ _ => rfl)) rfl) pe_str (nomark _))
            (pss_cons (ps_augS (pv 2) pe_int K40V.get_list pe_int ip_add set_list)
            (pss_one (ps_expr (pe_meth (pe_ix ix_list (pe_fld (pv 1) rfl) (pv 4) (fun _ _ => rfl)) T.clS DA.m GA hr1 DA.b .nil pass0 (pa_cons (pe_ix ix_list (pv 2) pe_int (fun _ _ => rfl)) pa_nil))))) pss_nil)
        (pss_cons (ps_set (i := 5) scStep.nd rfl (Or.inl rfl) (pe_listRg rfl (by rfl) T.list (prg_1 (by rfl) T.range (pe_callB call_len_seq (by rfl) T.len PySem.boot_len (pa_cons (pe_fld (pv 1) rfl) pa_nil)))))
        (pss_cons (ps_set (i := 6) scStep.nd rfl (Or.inl rfl) (pe_call GP hr3 rfl DP.g DP.F.kp DP.b .nil pass0 (pa_cons (pv 0) (pa_cons (pe_lst (pa_cons pe_int
            (pa_cons (pe_op op_add (pe_op op_fdiv (pe_callB call_len_seq (by rfl) T.len PySem.boot_len (pa_cons (pv 5) pa_nil)) pe_int) pe_int) (pa_cons (pe_op op_add (pe_op op_fdiv (pe_callB call_len_seq (by rfl) T.len PySem.boot_len (pa_cons (pv 5) pa_nil)) pe_int) pe_int) pa_nil)))) pa_nil))))
        (pss_cons (ps_while PassesOwn.never (pt_cmpR op_gt (pe_callB call_len_seq (by rfl) T.len PySem.boot_len (pa_cons (pv 5) pa_nil)) (pv 6) (nomark _))
          (pss_one (ps_expr (pe_bm PySem.F.plainAttrs_list PySem.F.slot_list_pop PySem.F.type_list_pop mt_popAt (pv 5) (pa_cons (pe_call GT hr2 rfl DT.g DT.F.kp DT.b .nil pass0 (pa_cons (pv 0) (pa_cons (pe_callB call_len_seq (by rfl) T.len PySem.boot_len (pa_cons (pv 5) pa_nil)) pa_nil))) pa_nil)))))
        (pss_cons (ps_expr (pe_meth (pv 1) T.clC DX.m GX hr DX.b .nil pass0 (pa_cons (pv 4) (pa_cons (pv 5) pa_nil))))
        (pss_cons (ps_if (PW.pt (pw_and (pt_cmpR op_eq (pe_fld (pe_ix ix_list (pe_fld (pv 1) rfl) (pv 4) (fun _ _ => rfl)) rfl) pe_str (nomark _)) (pw_and1 (pt_cmpR op_eq (pe_call GT hr2 rfl DT.g DT.F.kp DT.b .nil pass0 (pa_cons (pv 0) (pa_cons pe_int pa_nil))) pe_int (nomark _)))))
          (pss_one (ps_expr (pe_meth (pv 1) T.clC DS.m GS hr1 DS.b .nil pass0 (pa_cons (pv 4) pa_nil)))) pss_nil)
        (pss_one ps_retN)))))))) pss_nil)
      (pss_one (ps_if (PW.pt (pw_or (PW.pt (pw_and (pt_cmpR op_eq (pv 3) pe_int (nomark _)) (pw_and1 (pt_cmpR op_lt (pe_callB call_len_seq (by rfl) T.len PySem.boot_len (pa_cons (pe_fld (pv 1) rfl) pa_nil)) pe_int (nomark _)))))
          (pw_or1 (pt_cmpR (K40V.op_eqE hr.units) (pe_fld (pv 1) rfl) (pe_lst pa_nil) (nomark _)))))
        (pss_cons (ps_set (i := 7) scStep.nd rfl (Or.inr rfl) (pe_lc (own := [("_law_one", 12)]) (g := gName 12) (tt := tYes) (te := tFld K (tVar 12) "epoch") rfl scStep.nd (pi_list (pe_fld (pv 1) rfl)) (blkOk_by (own := [("_law_one", 12)]) (N := nStep) (sc := defScope sStep) (by decide +kernel))
            (fun _ _ _ _ _ => pg_name (i := 12) scStep.nd rfl (Or.inl rfl)) (fun _ _ _ _ _ => pts_nil) (fun _ _ _ _ _ => pe_fld (pv 12) rfl)))
        (pss_cons (ps_setLc (i := 8) (own := [("_law_epoch", 13)]) (g := gName 13) (tt := tTest (tOp (rIn K true) (tVar 13) (tVar 7))) (te := tVar 13) rfl scStep.nd rfl rfl (sw_true rfl rfl rfl (by decide +kernel)) (pi_range1 (by rfl) T.range (pa_cons pe_int pa_nil))
            (blkOk_by (own := [("_law_epoch", 13)]) (N := nStep) (sc := defScope sStep) (by decide +kernel))
            (fun _ _ _ _ _ => pg_name (i := 13) scStep.nd rfl (Or.inl rfl)) (fun _ _ _ _ _ => pts_one (pt_cmpR op_notIn_seq (pv 13) (pv 7) (by rfl))) (fun _ _ _ _ _ => pv 13))
        (pss_cons (ps_set (i := 9) scStep.nd rfl (Or.inl rfl) (pe_slice sl_list (pe_lc (own := [("_law_epoch", 13)]) (g := gName 13)
            (tt := tTest (tOp (rI0 fun i j => .bl (decide (j < i))) (tVar 13) (tCB (rMax K) (tCons (tOp rCat (tLst (tCons (tUn (rU fun i => .int (-i)) (tC (.int 1))) tNil)) (tVar 7)) tNil)))) (te := tVar 13) rfl scStep.nd (pi_list (pv 8))
            (blkOk_by (own := [("_law_epoch", 13)]) (N := nStep) (sc := defScope sStep) (by decide +kernel))
            (fun _ _ _ _ _ => pg_name (i := 13) scStep.nd rfl (Or.inl rfl)) (fun _ _ _ _ _ => pts_one (pt_cmpR op_gt (pv 13) (pe_callB (cr_max rfl) (by rfl) T.max (by decide +kernel) (pa_cons (pe_op op_cat (pe_lst (pa_cons (pe_un un_neg pe_int) pa_nil)) (pv 7)) pa_nil)) (nomark _))) (fun _ _ _ _ _ => pv 13)) po_none (po_some pe_int)))
        (pss_one (ps_expr (pe_meth (pv 1) T.clC DB.m GB hr3 DB.b .nil pass0 (pa_cons (pe_call GP hr3 rfl DP.g DP.F.kp DP.b .nil pass0 (pa_cons (pv 0) (pa_cons
            (pe_ifExp (PW.pt (pw_and (pt_cmpR (K40V.op_neE hr.units) (pv 9) (pe_lst pa_nil) (nomark _)) (pw_and1 (pt_cmpR op_gt (pe_call GT hr2 rfl DT.g DT.F.kp DT.b .nil pass0 (pa_cons (pv 0) (pa_cons pe_int pa_nil))) pe_int (nomark _))))) (pv 9) (pv 8)) pa_nil))) pa_nil)))))))
        (pss_one (ps_if (PW.pt (pw_and (pt_cmpR op_lt (pv 3) pe_int (nomark _)) (pw_and1 (pt_cmpR (K40V.op_neE hr.units) (pe_fld (pv 1) rfl) (pe_lst pa_nil) (nomark _)))))
          (pss_cons (ps_set (i := 4) scStep.nd rfl (Or.inl rfl) (pe_call GT hr2 rfl DT.g DT.F.kp DT.b .nil pass0 (pa_cons (pv 0) (pa_cons (pe_callB call_len_seq (by rfl) T.len PySem.boot_len (pa_cons (pe_fld (pv 1) rfl) pa_nil)) pa_nil))))
          (Evl.pss_cut (ps_if (PW.pt (pw_and (pt_cmpR op_eq (pe_fld (pe_ix ix_list (pe_fld (pv 1) rfl) (pv 4) (fun _ _ => rfl)) rfl) pe_str (nomark _)) (pw_and1 (pt_cmpR op_eq (pe_call GT hr2 rfl DT.g DT.F.kp DT.b .nil pass0 (pa_cons (pv 0) (pa_cons pe_int pa_nil))) pe_int (nomark _)))))
            (pss_cons (ps_augS (pv 2) pe_int K40V.get_list pe_int ip_add set_list)
            (pss_one (ps_expr (pe_meth (pe_ix ix_list (pe_fld (pv 1) rfl) (pv 4) (fun _ _ => rfl)) T.clS DA.m GA hr1 DA.b .nil pass0 (pa_cons (pe_ix ix_list (pv 2) pe_int (fun _ _ => rfl)) pa_nil))))) pss_nil)
          (pss_cons (ps_expr (pe_meth (pv 1) T.clC DQ.m GQ hr2 DQ.b .nil pass0 (pa_cons (pv 4) pa_nil)))
          (pss_one (ps_if (pt_cmpR op_eq (pe_call GT hr2 rfl DT.g DT.F.kp DT.b .nil pass0 (pa_cons (pv 0) (pa_cons pe_int pa_nil))) pe_int (nomark _))
            (pss_one (ps_expr (pe_meth (pv 1) T.clC DS.m GS hr1 DS.b .nil pass0 (pa_cons (pv 4) pa_nil)))) pss_nil)))))
          (pss_one (ps_if (pt_cmpR op_eq (pv 3) pe_int (nomark _))
            (pss_cons (ps_set (i := 10) scStep.nd rfl (Or.inl rfl) (pe_call GT hr2 rfl DT.g DT.F.kp DT.b .nil pass0 (pa_cons (pv 0) (pa_cons (pe_callB call_len_seq (by rfl) T.len PySem.boot_len (pa_cons (pe_fld (pv 1) rfl) pa_nil)) pa_nil))))
            (pss_one (ps_expr (pe_meth (pv 1) T.clC DO.m GO hr3 DO.b .nil pass0 (pa_cons (pv 10) (pa_cons (pe_call GT hr2 rfl DT.g DT.F.kp DT.b .nil pass0 (pa_cons (pv 0) (pa_cons (pe_op op_add (pe_callB call_len_seq (by rfl) T.len PySem.boot_len (pa_cons (pe_fld (pe_ix ix_list (pe_fld (pv 1) rfl) (pv 10) (fun _ _ => rfl)) rfl) pa_nil)) pe_int) pa_nil))) pa_nil))))))
            (pss_one (ps_if (pt_cmpR op_lt (pv 3) pe_int (nomark _))
              (pss_one (ps_expr (pe_meth (pv 1) T.clC DL.m GL hr2 DL.b .nil pass0 (pa_cons (pe_call GT hr2 rfl DT.g DT.F.kp DT.b .nil pass0 (pa_cons (pv 0) (pa_cons (pe_callB call_len_seq (by rfl) T.len PySem.boot_len (pa_cons (pe_fld (pv 1) rfl) pa_nil)) pa_nil))) pa_nil))))
              (pss_one (ps_if (pt_cmpR (K40V.op_neE hr.units) (pe_fld (pv 1) rfl) (pe_lst pa_nil) (nomark _))
                (pss_cons (ps_set (i := 11) scStep.nd rfl (Or.inl rfl) (pe_call GT hr2 rfl DT.g DT.F.kp DT.b .nil pass0 (pa_cons (pv 0) (pa_cons (pe_callB call_len_seq (by rfl) T.len PySem.boot_len (pa_cons (pe_fld (pv 1) rfl) pa_nil)) pa_nil))))
                (pss_one (ps_if (pt_cmpR op_eq (pe_call GT hr2 rfl DT.g DT.F.kp DT.b .nil pass0 (pa_cons (pv 0) (pa_cons pe_int pa_nil))) pe_int (nomark _))
                  (pss_one (ps_expr (pe_meth (pv 1) T.clC DK.m GK hr2 DK.b .nil pass0 (pa_cons (pv 11) pa_nil))))
                  (pss_one (ps_expr (pe_meth (pv 1) T.clC DV.m GV hr DV.b .nil pass0 (pa_cons (pv 11) (pa_cons (pe_cmpR op_eq (pe_call GT hr2 rfl DT.g DT.F.kp DT.b .nil pass0 (pa_cons (pv 0) (pa_cons pe_int pa_nil))) pe_int (nomark _)) pa_nil)))))))) pss_nil))))))))))), ?_⟩
    obtain ⟨cx0, h10⟩ := R0.L.cn.ob
    refine ⟨_, rfl, d, a, ns, 14, rfl, R0.L.dr, R0.L.sc, hlen, by decide, fun kind H1 hk d1 b1 => ?_⟩
    have R1 := R0.draw b1 d1
    clear b1 d1 h10 cx0
    obtain ⟨cx, h1⟩ := R1.L.cn.ob
    dsimp only [gName]
    show tSeq (tIfS _ _ _) _ _ _ _
    refine if_by (decide (9 < kind ∧ 0 < st.sq.length)) (fun Q' q' => ?_) (fun H2 s2 => ite2 (fun hc => ?_) (fun hc => ?_))
    · refine ⟨_, rfl, _, _, rfl, rfl, _, rfl, ite2 (fun h => ?_) (fun h => ?_)⟩
      · have h' := of_decide_eq_true h
        show tTest _ _ _ _
        refine test_sq T R1 rfl fun H2 s2 => ?_
        have := q' H2 s2
        have e : decide (9 < kind ∧ 0 < st.sq.length) = (!decide (st.sq.length = 0)) := by
          rw [← decide_not]
          apply decide_eq_decide.mpr
          omega
        rw [e] at this
        exact this
      · have h' : ¬ (9 : Int) < (kind : Int) := fun z => h (decide_eq_true z)
        have := q' H1 (Same.refl H1)
        rw [decide_eq_false (show ¬ (9 < kind ∧ 0 < st.sq.length) by omega)] at this
        exact this
    · obtain ⟨hk9, hsq⟩ := of_decide_eq_true hc
      have R2 := R1.same s2
      obtain ⟨cx2, h12⟩ := R2.ob
      refine ⟨_, rfl, _, rfl, c.p, CC, cx2, _, _, rfl, h12, T.clC, T.nCs, rfl, c.sl, _, rfl, .inl (SqL.of R2.L.cn.sl), d, a, ns, _, rfl, R2.L.dr, R2.L.sc, hlen, (by rw [List.length_map, R2.L.cn.slen]; omega), fun i H3 hi d3 b3 => ?_⟩
      rw [List.length_map, R2.L.cn.slen] at hi
      have R3 := R2.draw b3 d3
      clear b3 d3 h12
      refine ⟨fun σ' H' => ∃ c' st', σ' = [some (.ref d), some (.ref c.p), some (.ref wd), some (.int ((kind : Nat) : Int)), some (.int ((i : Nat) : Int)), none, none, none, none, none, none, none, none, none] ∧ SS K KC SC CC d wd a ns c st H H' c' st' (N + 1) ∧ st'.sq.length = st.sq.length, ?_, ?_⟩
      · refine test_stand T R3 (i := i) (by omega) rfl rfl fun ad s had hs => ite2 (fun h => ?_) (fun h => ?_)
        · exact word_add T R3 (by omega) (by omega) had hs (of_decide_eq_true h) rfl rfl rfl fun c' st' H' R' e1 e2 => ⟨c', st', rfl, R', e1⟩
        · exact ⟨c, st, rfl, R3.mono (by omega), rfl⟩
      rintro σ' H4 ⟨c4, st4, rfl, R4, e4⟩
      obtain ⟨cx4, h14⟩ := R4.ob
      have hn4 := R4.L.good.n5
      refine ⟨_, rfl, c.p, CC, cx4, _, _, rfl, h14, T.clC, T.nCk, rfl, c4.kl, _, rfl, .inl (SqL.of R4.L.cn.kl), _, rfl, ?_, fun u hu => ?_⟩
      · rw [List.length_map, R4.L.cn.klen]
        exact RgOk.of_le (by omega) (by omega) (by omega) (by omega)
      rw [List.length_map, R4.L.cn.klen, rgV_ints]
      have s5 : Same H4 (upd H4 u (.lst (intVs (List.range st4.ks.length)))) := Same.new hu
      have hu5 : (upd H4 u (.lst (intVs (List.range st4.ks.length)))) u = some (.lst (intVs (List.range st4.ks.length))) := upd_same
      generalize upd H4 u (.lst (intVs (List.range st4.ks.length))) = H5 at s5 hu5
      have R5 := R4.same s5
      have hud : u ≠ d := by
        obtain ⟨m, e⟩ := R4.L.dr
        exact (ne_of_none e hu).symm
      have hil : (intVs (List.range st4.ks.length)).length = st4.ks.length := by simp [intVs]
      refine ⟨_, rfl, _, rfl, u, _, rfl, .inl (SqL.of hu5), _, _, rfl, rfl, ⟨by decide, by decide⟩, _, _, rfl, rfl, _, rfl, u, _, rfl, .inl (SqL.of hu5), _, _, rfl, rfl, ⟨by decide, by decide⟩, _, _, rfl, rfl, (by show 3 ≤ sizeLine; decide), fun u2 hu2 => ?_⟩
      have s6 : Same H5 (upd H5 u2 (.lst [.int 1, .int (((intVs (List.range st4.ks.length)).length : Int) / 2 + 1), .int (((intVs (List.range st4.ks.length)).length : Int) / 2 + 1)])) := Same.new hu2
      have hud2 : u2 ≠ d := by
        obtain ⟨m, e⟩ := R5.L.dr
        exact (ne_of_none e hu2).symm
      have R6 := R5.same s6
      refine ⟨d, a, u2, ns, _, rfl, R6.L.dr, R6.L.sc, hlen, upd_same, hud2, by simp, fun v H7 hv d7 b7 => ?_⟩
      have b57 : But [d] H5 H7 := fun x o z nn => b7 x o (s6 _ _ z) nn
      obtain ⟨g, rfl⟩ : ∃ g : Nat, v = V.int ((g : Nat) : Int) := by
        simp only [hil] at hv
        simp at hv
        rcases hv with rfl | rfl
        · exact ⟨1, rfl⟩
        · exact ⟨st4.ks.length / 2 + 1, congrArg V.int (by omega)⟩
      have hu7 : H7 u = some (.lst (intVs (List.range st4.ks.length))) := b57 _ _ hu5 (by simpa using hud)
      have sc7 : Scr K H7 a ns [d, u] := ((R4.L.sc.new hu s5).sub (by simp [or_comm])).but b57 (fun x hx => by simp at hx; simp [hx])
      refine pop_loop (K := K) (σ := [some (.ref d), some (.ref c.p), some (.ref wd), some (.int ((kind : Nat) : Int)), some (.int ((i : Nat) : Int)), some (.ref u), some (.int ((g : Nat) : Int)), none, none, none, none, none, none, none]) (id := 0) (iu := 5) (ig := 6) (up := List.range st4.ks.length) (n := st4.ks.length) (g := g) d7 sc7 hlen hu7 hud (by omega) (fun k hk => List.mem_range.mp hk) (by simp) rfl rfl rfl fun up' H8 hu8 hup8 d8 b8 => ?_
      have R8 := R4.with_list hu s5 hu5 (fun x o z nn => b8 x o (b57 x o z (fun m => nn (by simp at m; simp [m]))) nn) d8 hu8
      have huf : u ∉ c4.foot := R4.L.cn.off_none hu
      clear R5 R6 s5 s6 hu5 hu7 sc7 b57 b7 d7 b8 d8 hu2 hu h14 hil
      obtain ⟨cx8, h18⟩ := R8.ob
      refine ⟨_, rfl, c.p, cx8, _, rfl, h18, rfl, _, rfl, _, rfl, c4, st4, N + 1, i, u, up', (by rw [R8.p]; rfl), R8.L.cn, R8.L.good, by omega, by omega, hu8, huf, hup8, R8.post fun c9 st9 H9 R9 e9 => ?_⟩
      refine test_stand T R9 (i := i) (by omega) rfl rfl fun ad s had hs => ite2 (fun h => ?_) (fun h => ?_)
      · refine ⟨_, rfl, d, a, ns, 3, rfl, R9.L.dr, R9.L.sc, hlen, by decide, fun r H10 hr10 d10 b10 => ?_⟩
        have R10 := R9.draw b10 d10
        refine ⟨rfl, _, rfl, ite2 (fun h => ?_) (fun h => ?_)⟩
        · obtain ⟨cx10, h110⟩ := R10.ob
          refine ⟨_, rfl, c.p, cx10, _, rfl, h110, rfl, _, rfl, c9, st9, N + 1 + 10, i, (by rw [R10.p]; rfl), R10.L.cn, R10.L.good, by omega, by omega, R10.post fun c11 st11 H11 R11 e11 => ?_⟩
          exact k c11 st11 H11 (R11.mono (by omega))
        · exact k c9 st9 H10 (R10.mono (by omega))
      · exact iteF (k c9 st9 H9 (R9.mono (by omega)))
    · have R2 := R1.same s2
      obtain ⟨cx2, h12⟩ := R2.ob
      refine to_next ?_
      dsimp only
      refine if_by (decide ((kind = 0 ∧ st.sq.length < 9) ∨ st.sq.length = 0)) (fun Q' q' => ?_) (fun H3 s3 => ite2 (fun hc2 => ?_) (fun hc2 => ?_))
      · refine ⟨_, rfl, rfl, _, rfl, ite2 (fun h => ?_) (fun h => ?_)⟩
        · have h' := V.int.inj (of_decide_eq_true h)
          refine ⟨_, rfl, c.p, CC, cx2, _, _, rfl, h12, T.clC, T.nCs, rfl, c.sl, _, rfl, .inl (SqL.of R2.L.cn.sl), _, _, rfl, rfl, _, rfl, ?_⟩
          rw [List.length_map, R2.L.cn.slen]
          refine ite2 (fun g => ?_) (fun g => ?_)
          · have g' := of_decide_eq_true g
            have := q' H2 (Same.refl H2)
            rw [decide_eq_true (Or.inl ⟨by omega, by omega⟩)] at this
            exact this
          · have g' : ¬ (st.sq.length : Int) < 9 := fun z => g (decide_eq_true z)
            show tTest _ _ _ _
            refine test_sq T R2 rfl fun H4 s4 => ?_
            have := q' H4 s4
            have e : decide ((kind = 0 ∧ st.sq.length < 9) ∨ st.sq.length = 0) = decide (st.sq.length = 0) := decide_eq_decide.mpr (by omega)
            rw [e] at this
            exact this
        · have h' : kind ≠ 0 := fun z => h (by rw [z]; rfl)
          refine iteF ?_
          show tTest _ _ _ _
          refine test_sq T R2 rfl fun H4 s4 => ?_
          have := q' H4 s4
          have e : decide ((kind = 0 ∧ st.sq.length < 9) ∨ st.sq.length = 0) = decide (st.sq.length = 0) := decide_eq_decide.mpr (by omega)
          rw [e] at this
          exact this
      · -- one more sequencer
        have hb := of_decide_eq_true hc2
        have hlt9 : st.sq.length < 9 := by omega
        have R3 := R2.same s3
        clear s3 s2 h12
        obtain ⟨cx3, h13⟩ := R3.ob
        have hkl : (st.sq.map Sq.epoch).length ≤ 9 := by
          rw [List.length_map]
          omega
        refine ⟨_, rfl, c.p, CC, cx3, _, _, rfl, h13, T.clC, T.nCs, rfl, c.sl, rfl, ⟨_, SqL.of R3.L.cn.sl⟩, fun D7 hD7 => lc_list (K := K) (a := c.sl) (xs := c.sq.map fun d => V.ref d.a)
          (fun i H' => Same H3 H' ∧ H' D7 = some (.lst (((st.sq.take i).map Sq.epoch).map V.int))) ⟨Same.new hD7, by simp [upd_same]⟩ (fun i H' _ p => SqL.of (p.1 _ _ R3.L.cn.sl)) (fun i v H' hi pw => ⟨rfl, ?_⟩) (fun H4 pw => ?_)⟩
        · obtain ⟨sw, hD'⟩ := pw
          rw [List.getElem?_map] at hi
          obtain ⟨ad, hd, rfl⟩ : ∃ ad, c.sq[i]? = some ad ∧ v = V.ref ad.a := by
            cases q : c.sq[i]? with
            | none => rw [q] at hi; cases hi
            | some ad => rw [q] at hi; exact ⟨ad, rfl, (Option.some.inj hi).symm⟩
          obtain ⟨s1, hs1, SA⟩ := R3.L.cn.sq i ad hd
          obtain ⟨⟨ds, g1⟩, _⟩ := SA.same sw
          have hil := (List.getElem?_eq_some_iff.mp hs1).1
          refine ⟨_, rfl, ad.a, SC, ds, _, _, rfl, g1, T.clS, T.nSe, rfl, _, hD', ?_, Same.upd sw hD7, ?_⟩
          · rw [List.length_map, List.length_map, List.length_take]
            omega
          · rw [upd_same, List.take_succ, hs1]
            simp
        obtain ⟨s4, hD4⟩ := pw
        rw [List.length_map, R3.L.cn.slen, List.take_length] at hD4
        have R4 := R3.same s4
        clear s4 h13
        have hkm : ∀ k ∈ freeOf (st.sq.map Sq.epoch), ((k : Nat) : Int) ∉ st.sq.map Sq.epoch ∧ k < 24 := fun k hk => ⟨(free_mem hk).2, (free_mem hk).1⟩
        have hfe : freeOf (st.sq.map Sq.epoch) ≠ [] := free_ne _ hkl
        have hfd : freeOf (st.sq.map Sq.epoch) = (List.range 24).filter fun k => !(st.sq.map Sq.epoch).contains ((k : Nat) : Int) := rfl
        generalize hkn : st.sq.map Sq.epoch = known at hD4 hkl hkm hfe hfd
        -- the free ones
        refine ⟨24, rfl, by omega, by omega, fun D8 hD8 => lc_range (lo := 0) (n := (24 : Int).toNat)
          (fun i H' => Same H4 H' ∧ H' D8 = some (.lst (intVs ((List.range i).filter fun k => !known.contains ((k : Nat) : Int))))) ⟨Same.new hD8, by simp [upd_same, intVs]⟩ (fun i H' hi pw => ⟨rfl, ?_⟩) (fun H5 pw => ?_)⟩
        · obtain ⟨sw, hD'⟩ := pw
          have e0 : (0 : Int) + (i : Int) = ((i : Nat) : Int) := Int.zero_add _
          rw [e0]
          refine ⟨_, rfl, _, rfl, D7, _, rfl, .inl (SqL.of (sw _ _ hD4)), rfl, flat_ints _, _, rfl, ?_⟩
          rw [inV_ints]
          have hfl := List.length_filter_le (fun k => !known.contains ((k : Nat) : Int)) (List.range i)
          rw [List.length_range] at hfl
          refine ite2 (fun h => ?_) (fun h => ?_)
          · have h' : (!known.contains ((i : Nat) : Int)) = true := by simpa using h
            refine ⟨_, rfl, _, hD', ?_, Same.upd sw hD8, ?_⟩
            · rw [intVs_len]
              have : i < 24 := hi
              omega
            · rw [upd_same, intVs_app, range_keep (fun k => !known.contains ((k : Nat) : Int)) i h']
          · have h' : ¬ (!known.contains ((i : Nat) : Int)) = true := by simpa using h
            refine ⟨sw, ?_⟩
            rw [range_drop (fun k => !known.contains ((k : Nat) : Int)) i h']
            exact hD'
        obtain ⟨s5, hD5⟩ := pw
        have hD5 : H5 D8 = some (.lst (intVs (freeOf known))) := by rw [hfd]; exact hD5
        have hD75 := s5 _ _ hD4
        have R5 := R4.same s5
        clear s5
        have hfl24 : (freeOf known).length ≤ 24 := by
          rw [hfd]
          exact Nat.le_trans (List.length_filter_le _ _) (by simp)
        -- the late ones
        refine ⟨_, rfl, D8, rfl, ⟨_, SqL.of hD5⟩, fun D9 hD9 => lc_list (K := K) (a := D8) (xs := intVs (freeOf known))
          (fun i H' => Same H5 H' ∧ ∃ acc : List Nat, H' D9 = some (.lst (intVs acc)) ∧ acc.length ≤ i ∧ ∀ x ∈ acc, x ∈ freeOf known) ⟨Same.new hD9, [], upd_same, Nat.le_refl _, fun x hx => by cases hx⟩ (fun i H' _ p => SqL.of (p.1 _ _ hD5)) (fun i v H' hi pw => ⟨rfl, ?_⟩) (fun H6 pw => ?_)⟩
        · obtain ⟨sw, acc, hD', hal, hacc⟩ := pw
          obtain ⟨k9, hk9, rfl⟩ := intVs_mem (List.mem_of_getElem? hi)
          have hil := (List.getElem?_eq_some_iff.mp hi).1
          rw [intVs_len] at hil
          refine ⟨_, rfl, 1, rfl, (by show 1 ≤ sizeLine; decide), fun t ht => ⟨_, rfl, _, _, _, _, rfl, rfl, upd_same, (Same.new ht) _ _ (sw _ _ hD75), ?_, fun q hq => ⟨q, (-1) :: known, rfl, SqL.of upd_same, by simp, fun m _ _ => ⟨_, _, rfl, rfl, _, rfl, ?_⟩⟩⟩⟩
          · rw [List.length_map]
            show 1 + known.length ≤ sizeLine
            omega
          have sq : Same H' (upd (upd H' t (.lst [.int (-1)])) q (.lst ([.int (-1)] ++ known.map V.int))) := Same.upd (Same.new ht) (by
            cases z : H' q with
            | none => rfl
            | some o => rw [(Same.new (o := .lst [.int (-1)]) ht) _ _ z] at hq; cases hq)
          refine ite2 (fun h => ?_) (fun h => ?_)
          · refine ⟨_, rfl, _, sq _ _ hD', ?_, Same.upd (sw.trans sq) hD9, acc ++ [k9], ?_, ?_, ?_⟩
            · rw [intVs_len]
              omega
            · rw [upd_same, intVs_app]
            · rw [List.length_append]
              simp
              exact hal
            · intro x hx
              rcases List.mem_append.mp hx with hx | hx
              · exact hacc x hx
              · simp at hx
                rw [hx]
                exact hk9
          · exact ⟨sw.trans sq, acc, sq _ _ hD', by omega, hacc⟩
        obtain ⟨s6, acc, hD6, _, hacc⟩ := pw
        have hD86 := s6 _ _ hD5
        have R6 := R5.same s6
        clear s6
        refine ⟨2, rfl, D9, _, rfl, SqL.of hD6, fun D10 hD10 => ?_⟩
        obtain ⟨lt, elt, hlt⟩ := intVs_cut acc
        rw [elt]
        have s7 : Same H6 (upd H6 D10 (.lst (intVs lt))) := Same.new hD10
        have hD7' : (upd H6 D10 (.lst (intVs lt))) D10 = some (.lst (intVs lt)) := upd_same
        generalize upd H6 D10 (.lst (intVs lt)) = H7 at s7 hD7'
        have hD87 := s7 _ _ hD86
        have R7 := R6.same s7
        have hne10 : D10 ≠ d := by
          obtain ⟨m, e⟩ := R6.L.dr
          exact (ne_of_none e hD10).symm
        have hne8 : D8 ≠ d := by
          obtain ⟨m, e⟩ := R4.L.dr
          exact (ne_of_none e hD8).symm
        obtain ⟨cx7, h17⟩ := R7.ob
        clear s7 hD10 hD9 hD8
        refine ⟨_, rfl, c.p, cx7, _, rfl, h17, rfl, _, rfl, _, rfl, (by show 0 ≤ sizeLine; decide), fun t ht => ⟨D10, t, _, rfl, rfl, (Same.new ht) _ _ hD7', upd_same, _, rfl, ?_⟩⟩
        have s8 : Same H7 (upd H7 t (.lst [])) := Same.new ht
        generalize upd H7 t (.lst []) = H8 at s8
        have R8 := R7.same s8
        have hD88 := s8 _ _ hD87
        have hD108 := s8 _ _ hD7'
        have hfe' : intVs (freeOf known) ≠ [] := fun z => hfe (by
          have := congrArg List.length z
          rw [intVs_len] at this
          exact List.eq_nil_of_length_eq_zero this)
        have fin : ∀ (k9 : Nat), k9 ∈ freeOf known → ((k9 : Nat) : Int) ∉ st.sq.map Sq.epoch ∧ k9 < 24 := fun k9 h => by
          rw [hkn]
          exact hkm k9 h
        refine ite2 (fun h => ?_) (fun h => iteF ?_)
        · have hle : intVs lt ≠ [] := fun z => by
            rw [z] at h
            exact absurd h (by decide)
          refine ⟨_, rfl, d, a, ns, 4, rfl, R8.L.dr, R8.L.sc, hlen, by decide, fun r H9 hr9 d9 b9 => ?_⟩
          have R9 := R8.draw b9 d9
          have hD89 := b9 _ _ hD88 (by simpa using hne8)
          have hD109 := b9 _ _ hD108 (by simpa using hne10)
          refine ⟨_, _, rfl, rfl, _, rfl, ite2 (fun h => ?_) (fun h => ?_)⟩
          · refine ⟨_, rfl, d, a, D10, ns, _, rfl, R9.L.dr, R9.L.sc, hlen, hD109, hne10, hle, fun v H10 hv d10 b10 => ?_⟩
            have R10 := R9.draw b10 d10
            obtain ⟨k9, hk9, rfl⟩ := intVs_mem hv
            obtain ⟨f1, f2⟩ := fin k9 (hacc _ (hlt _ hk9))
            exact ⟨c, st, ((k9 : Nat) : Int), rfl, R10.L.cn, R10.L.good.n5, by omega, by omega, f1, by omega, fun c' H11 C' kk hp => k _ _ H11 ((R10.begun hlt9 f1 C' kk hp).mono (by omega))⟩
          · refine ⟨_, rfl, d, a, D8, ns, _, rfl, R9.L.dr, R9.L.sc, hlen, hD89, hne8, hfe', fun v H10 hv d10 b10 => ?_⟩
            have R10 := R9.draw b10 d10
            obtain ⟨k9, hk9, rfl⟩ := intVs_mem hv
            obtain ⟨f1, f2⟩ := fin k9 hk9
            exact ⟨c, st, ((k9 : Nat) : Int), rfl, R10.L.cn, R10.L.good.n5, by omega, by omega, f1, by omega, fun c' H11 C' kk hp => k _ _ H11 ((R10.begun hlt9 f1 C' kk hp).mono (by omega))⟩
        · refine ⟨_, rfl, d, a, D8, ns, _, rfl, R8.L.dr, R8.L.sc, hlen, hD88, hne8, hfe', fun v H10 hv d10 b10 => ?_⟩
          have R10 := R8.draw b10 d10
          obtain ⟨k9, hk9, rfl⟩ := intVs_mem hv
          obtain ⟨f1, f2⟩ := fin k9 hk9
          exact ⟨c, st, ((k9 : Nat) : Int), rfl, R10.L.cn, R10.L.good.n5, by omega, by omega, f1, by omega, fun c' H11 C' kk hp => k _ _ H11 ((R10.begun hlt9 f1 C' kk hp).mono (by omega))⟩
      · have R3 := R2.same s3
        have hnb : ¬ ((kind = 0 ∧ st.sq.length < 9) ∨ st.sq.length = 0) := fun z => hc2 (decide_eq_true z)
        clear s3 s2 h12
        obtain ⟨cx3, h13⟩ := R3.ob
        show tIfS _ _ _ _ _ _
        refine if_by (decide (kind < 4)) (fun Q' q' => ?_) (fun H4 s4 => ite2 (fun hc3 => ?_) (fun hc3 => ?_))
        · refine ⟨_, rfl, _, _, rfl, rfl, _, rfl, ite2 (fun h => ?_) (fun h => ?_)⟩
          · have h' := of_decide_eq_true h
            show tTest _ _ _ _
            refine test_sq T R3 rfl fun H4 s4 => ?_
            have := q' H4 s4
            have e : decide (kind < 4) = (!decide (st.sq.length = 0)) := by
              rw [← decide_not]
              apply decide_eq_decide.mpr
              omega
            rw [e] at this
            exact this
          · have h' : ¬ (kind : Int) < (4 : Int) := fun z => h (decide_eq_true z)
            have := q' H3 (Same.refl H3)
            rw [decide_eq_false (show ¬ (kind < 4) by omega)] at this
            exact this
        · -- a word, a request
          have R4 := R3.same s4
          clear s4 h13
          obtain ⟨cx4, h14⟩ := R4.ob
          refine ⟨_, rfl, _, rfl, c.p, CC, cx4, _, _, rfl, h14, T.clC, T.nCs, rfl, c.sl, _, rfl, .inl (SqL.of R4.L.cn.sl), d, a, ns, _, rfl, R4.L.dr, R4.L.sc, hlen, (by rw [List.length_map, R4.L.cn.slen]; omega), fun i H5 hi d5 b5 => ?_⟩
          rw [List.length_map, R4.L.cn.slen] at hi
          have R5 := R4.draw b5 d5
          clear b5 d5 h14
          refine ⟨fun σ' H' => ∃ c' st', σ' = [some (.ref d), some (.ref c.p), some (.ref wd), some (.int ((kind : Nat) : Int)), some (.int ((i : Nat) : Int)), none, none, none, none, none, none, none, none, none] ∧ SS K KC SC CC d wd a ns c st H H' c' st' (N + 1) ∧ st'.sq.length = st.sq.length, ?_, ?_⟩
          · refine test_stand T R5 (i := i) (by omega) rfl rfl fun ad s had hs => ite2 (fun h => ?_) (fun h => ?_)
            · refine ⟨_, rfl, d, a, ns, 2, rfl, R5.L.dr, R5.L.sc, hlen, by decide, fun r H6 hr6 d6 b6 => ?_⟩
              have R6 := R5.draw b6 d6
              refine ⟨rfl, _, rfl, ite2 (fun h9 => ?_) (fun h9 => ?_)⟩
              · exact word_add T R6 (by omega) (by omega) had hs (of_decide_eq_true h) rfl rfl rfl fun c' st' H' R' e1 e2 => ⟨c', st', rfl, R', e1⟩
              · exact ⟨c, st, rfl, R6.mono (by omega), rfl⟩
            · exact iteF ⟨c, st, rfl, R5.mono (by omega), rfl⟩
          rintro σ' H6 ⟨c6, st6, rfl, R6, e6⟩
          obtain ⟨cx6, h16⟩ := R6.ob
          refine ⟨_, rfl, c.p, cx6, _, rfl, h16, rfl, _, rfl, c6, st6, N + 1, i, (by rw [R6.p]; rfl), R6.L.cn, R6.L.good, by omega, by omega, R6.post fun c7 st7 H7 R7 e7 => ?_⟩
          refine ⟨_, rfl, d, a, ns, 25, rfl, R7.L.dr, R7.L.sc, hlen, by decide, fun r H8 hr8 d8 b8 => ?_⟩
          have R8 := R7.draw b8 d8
          refine ⟨rfl, _, rfl, ite2 (fun h => ?_) (fun h => ?_)⟩
          · obtain ⟨cx8, h18⟩ := R8.ob
            refine ⟨_, rfl, c.p, cx8, _, rfl, h18, rfl, _, rfl, c7, st7, N + 1 + 10, i, (by rw [R8.p]; rfl), R8.L.cn, R8.L.good, by omega, by omega, R8.post fun c9 st9 H9 R9 e9 => ?_⟩
            exact k c9 st9 H9 (R9.mono (by omega))
          · exact k c7 st7 H8 (R8.mono (by omega))
        have R4 := R3.same s4
        clear s4 h13
        have hn1 := R4.L.good.n1
        have hn5 := R4.L.good.n5
        obtain ⟨cx4, h14⟩ := R4.ob
        refine ⟨_, rfl, rfl, _, rfl, ite2 (fun hk4 => ?_) (fun hk4 => ?_)⟩
        · -- a keeper falls
          refine ⟨_, rfl, _, rfl, c.p, CC, cx4, _, _, rfl, h14, T.clC, T.nCk, rfl, c.kl, _, rfl, .inl (SqL.of R4.L.cn.kl), d, a, ns, _, rfl, R4.L.dr, R4.L.sc, hlen, (by rw [List.length_map, R4.L.cn.klen]; omega), fun i H5 hi d5 b5 => ?_⟩
          rw [List.length_map, R4.L.cn.klen] at hi
          have R5 := R4.draw b5 d5
          clear b5 d5 h14
          obtain ⟨cx5, h15⟩ := R5.ob
          obtain ⟨ka, kp, hka, hkp, KA, hv⟩ := R5.L.cn.ksv (i := i) (by omega)
          obtain ⟨dk, r, l, wt, rs, ls, ws, g1, _, _, g3, p3, _⟩ := id KA
          refine ⟨_, rfl, c.p, cx5, _, rfl, h15, rfl, _, rfl, _, rfl, _, rfl, c.p, CC, cx5, _, _, rfl, h15, T.clC, T.nCk, rfl, _, rfl, c.kl, _, _, _, rfl, rfl, SqL.of R5.L.cn.kl, atI_nat hv, ka, KC, dk, _, _, rfl, g1, T.clK, T.nKl, rfl, l, _, rfl, .inr (SqT.of g3), _, _, rfl, rfl, d, a, ns, _, rfl, R5.L.dr, R5.L.sc, hlen, (by omega), fun m H6 hm d6 b6 => ?_⟩
          have hpl := Paired.length p3
          have R6 := R5.draw b6 d6
          refine ⟨c, st, N, i, m, kp, rfl, R6.L.cn, R6.L.good, by omega, hkp, by omega, R6.post fun c7 st7 H7 R7 e7 => ?_⟩
          exact k c7 st7 H7 (R7.mono (by omega))
        refine ⟨_, rfl, _, _, rfl, rfl, _, rfl, ite2 (fun hk7 => ?_) (fun hk7 => ?_)⟩
        · -- a keeper's flush
          refine ⟨_, rfl, c.p, cx4, _, rfl, h14, rfl, _, rfl, _, rfl, c.p, CC, cx4, _, _, rfl, h14, T.clC, T.nCk, rfl, c.kl, _, rfl, .inl (SqL.of R4.L.cn.kl), d, a, ns, _, rfl, R4.L.dr, R4.L.sc, hlen, (by rw [List.length_map, R4.L.cn.klen]; omega), fun i H5 hi d5 b5 => ?_⟩
          rw [List.length_map, R4.L.cn.klen] at hi
          have R5 := R4.draw b5 d5
          refine ⟨c, st, N, i, rfl, R5.L.cn, R5.L.good, by omega, by omega, R5.post fun c7 st7 H7 R7 e7 => ?_⟩
          exact k c7 st7 H7 (R7.mono (by omega))
        show tIfS _ _ _ _ _ _
        refine if_by (!decide (st.ls.length = 0)) (fun Q' q' => test_ls T R4 rfl q') (fun H5 s5 => ite2 (fun hc5 => ?_) (fun hc5 => ?_))
        · have hll : st.ls.length ≠ 0 := by simpa using hc5
          have R5 := R4.same s5
          clear s5 h14
          obtain ⟨cx5, h15⟩ := R5.ob
          obtain ⟨ls, gl, gp⟩ := R5.L.cn.ll
          have hpl := Paired.length gp
          refine ⟨_, rfl, _, rfl, c.p, CC, cx5, _, _, rfl, h15, T.clC, T.nCl, rfl, c.ll, _, rfl, .inl (SqL.of gl), d, a, ns, _, rfl, R5.L.dr, R5.L.sc, hlen, (by omega), fun i H6 hi d6 b6 => ?_⟩
          have R6 := R5.draw b6 d6
          clear b6 d6 h15 gl gp
          refine ⟨_, rfl, d, a, ns, 6, rfl, R6.L.dr, R6.L.sc, hlen, by decide, fun r H7 hr7 d7 b7 => ?_⟩
          have R7 := R6.draw b7 d7
          obtain ⟨cx7, h17⟩ := R7.ob
          refine ⟨rfl, _, rfl, ite2 (fun h => ?_) (fun h => ?_)⟩
          · refine ⟨_, rfl, c.p, cx7, _, rfl, h17, rfl, _, rfl, c, st, N, i, rfl, R7.L.cn, R7.L.good, by omega, by omega, R7.post fun c9 st9 H9 R9 e9 => ?_⟩
            exact k c9 st9 H9 (R9.mono (by omega))
          · refine ⟨_, rfl, c.p, cx7, _, rfl, h17, rfl, _, rfl, _, rfl, d, a, ns, 4, rfl, R7.L.dr, R7.L.sc, hlen, by decide, fun q H8 hr8 d8 b8 => ?_⟩
            have R8 := R7.draw b8 d8
            refine ⟨rfl, c, st, N, i, _, rfl, R8.L.cn, R8.L.good, by omega, by omega, R8.post fun c9 st9 H9 R9 e9 => ?_⟩
            exact k c9 st9 H9 (R9.mono (by omega))
        · have R5 := R4.same s5
          exact k c st H5 (R5.mono (by omega))
end
end K40
/-! The law, walked. -/
namespace K40
open PySem L2 Mc
section
variable {P : Program} {w : World} {K : PySem.W.Frag} {mg : Str → Option Value} {base : Heap} {RC KC SC CC : Addr}
theorem SS.rebase {d wd a : Addr} {ns : List Int} {c0 : CnAd} {st0 : Cst Ent} {H0 H : Hp} {c : CnAd} {st : Cst Ent} {N : Nat} (r : SS K KC SC CC d wd a ns c0 st0 H0 H c st N) : SS K KC SC CC d wd a ns c st H H c st N :=
  ⟨⟨r.L.cn, r.L.good, r.L.dr, r.L.dM, r.L.ml, r.L.off, r.L.scr, fun _ _ e z _ => ⟨e, z⟩⟩, r.w1, r.ne, Grow.refl _, r.n9, rfl⟩
theorem SS.trans {d wd a : Addr} {ns : List Int} {c0 : CnAd} {st0 : Cst Ent} {H0 H H' : Hp} {c c' : CnAd} {st st' : Cst Ent} {N N' : Nat} (r : SS K KC SC CC d wd a ns c0 st0 H0 H c st N) (q : SS K KC SC CC d wd a ns c st H H' c' st' N') : SS K KC SC CC d wd a ns c0 st0 H0 H' c' st' N' :=
  ⟨⟨q.L.cn, q.L.good, q.L.dr, q.L.dM, q.L.ml, q.L.off, q.L.scr, fun b o e z m => by
    obtain ⟨h1, h2⟩ := r.L.fr b o e z m
    exact q.L.fr b o h1 h2 m⟩, q.w1, q.ne, r.gr.trans q.gr, q.n9, q.p.trans r.p⟩
/-- what stands between two turns -/
structure Tn (K : PySem.W.Frag) (KC SC CC : Addr) (d wd a : Addr) (ns : List Int) (c0 : CnAd) (st0 : Cst Ent) (H0 : Hp) (tl : Addr) (last : List Ent) (H : Hp) (c : CnAd) (st : Cst Ent) (N : Nat) : Prop where
  S : SS K KC SC CC d wd a ns c0 st0 H0 H c st N
  tl : H tl = some (.tup (last.map eV))
  la : LastOk st last
section
variable {d wd a : Addr} {ns : List Int} {c0 : CnAd} {st0 : Cst Ent} {H0 H H' : Hp} {tl : Addr} {last : List Ent} {c : CnAd} {st : Cst Ent} {N : Nat}
theorem Tn.same (r : Tn K KC SC CC d wd a ns c0 st0 H0 tl last H c st N) (s : Same H H') : Tn K KC SC CC d wd a ns c0 st0 H0 tl last H' c st N := ⟨r.S.same s, s _ _ r.tl, r.la⟩
theorem Tn.draw (r : Tn K KC SC CC d wd a ns c0 st0 H0 tl last H c st N) (b : But [d] H H') (dr : Dr H' d a) : Tn K KC SC CC d wd a ns c0 st0 H0 tl last H' c st N := ⟨r.S.draw b dr, b _ _ r.tl (by
  obtain ⟨m, e⟩ := r.S.L.dr
  simpa using (ne_of r.tl e (by intro q; cases q))), r.la⟩
theorem Tn.mono {N' : Nat} (r : Tn K KC SC CC d wd a ns c0 st0 H0 tl last H c st N) (h : N ≤ N') : Tn K KC SC CC d wd a ns c0 st0 H0 tl last H c st N' := ⟨r.S.mono h, r.tl, r.la⟩
theorem Tn.step {c' : CnAd} {st' : Cst Ent} {N' : Nat} (r : Tn K KC SC CC d wd a ns c0 st0 H0 tl last H c st N) (q : SS K KC SC CC d wd a ns c st H H' c' st' N') : Tn K KC SC CC d wd a ns c0 st0 H0 tl last H' c' st' N' := by
  obtain ⟨m, e1⟩ := r.S.L.dr
  obtain ⟨m2, e2⟩ := r.S.w1
  refine ⟨r.S.trans q, (q.L.fr _ _ r.tl (r.S.L.cn.off_tup r.tl) ?_).1, r.la.grow q.gr⟩
  simp only [List.mem_cons, List.not_mem_nil, or_false, not_or]
  exact ⟨ne_of r.tl e1 (by intro q; cases q), ne_of r.tl e2 (by intro q; cases q)⟩
end
def spLaw (K : PySem.W.Frag) : Sp := fun vs H Q _ => ∃ (a : Addr) (ns : List Int), vs = [.ref a] ∧ SqL K H a (ns.map V.int) ∧ ns.length ≤ 63 ∧ ∀ H', Q (.bl true) H'
abbrev nLaw : List Str := ["_law_script", "_law_draw", "_law_council", "_law_words", "_law_last", "_law_turn", "_law_row", "_law_place", "_law_one"]
theorem scLaw : FnScope nLaw ["_law_script"] (defScope sLaw) := ⟨rfl, rfl, rfl, by decide +kernel, rfl, by decide +kernel, by decide +kernel⟩
theorem ok_law {f fo ft fi fp fe fr fs : Addr} {fd fdo fdt fdi fdp fde fdr fds : FuncData} (F : Fun K "law" "law" sLaw f fd) (T : Txt K mg RC KC SC CC)
    (DO : DF K mg "_law_rounds" sRounds ["_law_draw"] fo fdo) (GO : FnOk P w K mg base CX0 7 fo fdo ["_law_draw"] (spRounds K))
    (DT : DF K mg "_law_take" sTake ["_law_draw", "_law_many"] ft fdt) (GT : FnOk P w K mg base CX0 2 ft fdt ["_law_draw", "_law_many"] (spDraw K))
    (DI' : DI K CC "Council.__init__" sCInit ["self", "many"] fi fdi) (GI : FnOk P w K mg base CX0 3 fi fdi ["self", "many"] (spCInit KC SC CC))
    (DP : DF K mg "_law_step" sStep ["_law_draw", "_law_council", "_law_words"] fp fdp) (GP : FnOk P w K mg base CX0 7 fp fdp ["_law_draw", "_law_council", "_law_words"] (spStep K KC SC CC))
    (DE : DM K CC "settled" "Council.settled" sCSettled ["self"] fe fde) (GE : FnOk P w K mg base CX0 4 fe fde ["self"] (spCSettled KC SC CC))
    (DR : DF K mg "settled_at" sSetAt ["keepers", "place"] fr fdr) (GR : FnOk P w K mg base CX0 2 fr fdr ["keepers", "place"] (spSetAt KC))
    (DS : DM K SC "settled" "Sequencer.settled" sSSettled ["self"] fs fds) (GS : FnOk P w K mg base CX0 2 fs fds ["self"] (spSSettled SC)) :
    FnOk P w K mg base CX0 8 f fd ["_law_script"] (spLaw K) := by
  refine F.ok scLaw (fun vs H Q E h => ?_) (fun cdv A outer s0 H vs Q E hr h => ?_)
  · obtain ⟨a, ns, rfl, _⟩ := h
    rfl
  · obtain ⟨a, ns, rfl, hS, hlen, k⟩ := h
    have sLine : sizeLine = 2 ^ 24 := rfl
    have hr2 : Room 2 _ := hr.mono (by decide)
    have hr4 : Room 4 _ := hr.mono (by decide)
    refine ⟨_, pss_cons (ps_set (i := 1) scLaw.nd rfl (Or.inr rfl) (pe_lst (pa_cons (pv 0) (pa_cons pe_int pa_nil))))
      (pss_cons (ps_if (pt_not (pt_val (pe_callB (cr_all rfl) (by rfl) T.all (by decide +kernel) (pa_cons
          (pe_lc (own := [("_law_turn", 5)]) (g := gName 5) (tt := tYes) (te := tCall (spRounds K) [] E0 (tCons (tVar 1) tNil)) rfl scLaw.nd
            (pi_range1 (by rfl) T.range (pa_cons pe_int pa_nil)) (blkOk_by (own := [("_law_turn", 5)]) (N := nLaw) (sc := defScope sLaw) (by decide +kernel))
            (fun _ _ _ _ _ => pg_name (i := 5) scLaw.nd rfl (Or.inl rfl)) (fun _ _ _ _ _ => pts_nil) (fun _ _ _ _ _ => pe_call GO hr rfl DO.g DO.F.kp DO.b .nil pass0 (pa_cons (pv 1) pa_nil))) pa_nil)))) (pss_one (ps_ret pe_bl)) pss_nil)
      (pss_cons (ps_par3 (i := 2) (j := 3) (l := 4) rfl scLaw.nd rfl rfl rfl (by decide) (by decide) (by decide) rfl rfl rfl
          (pa_cons (pe_make DI'.m GI hr4 rfl T.mgC DI'.b .nil pass0 (pa_cons (pe_op op_add pe_int (pe_call GT hr2 rfl DT.g DT.F.kp DT.b .nil pass0 (pa_cons (pv 1) (pa_cons pe_int pa_nil)))) pa_nil)) (pa_cons (pe_lst (pa_cons pe_int pa_nil)) (pa_cons (pe_tup pa_nil) pa_nil))) (by rfl))
      (pss_cons (ps_for PassesOwn.never rfl (pi_range1 (by rfl) T.range (pa_cons (pe_op op_add pe_int (pe_call GT hr2 rfl DT.g DT.F.kp DT.b .nil pass0 (pa_cons (pv 1) (pa_cons pe_int pa_nil)))) pa_nil)) (pg_name (i := 5) scLaw.nd rfl (Or.inl rfl))
        (pss_cons (ps_expr (pe_call GP hr rfl DP.g DP.F.kp DP.b .nil pass0 (pa_cons (pv 1) (pa_cons (pv 2) (pa_cons (pv 3) pa_nil)))))
        (pss_cons (ps_if (pt_cmpR op_gt (pe_call GT hr2 rfl DT.g DT.F.kp DT.b .nil pass0 (pa_cons (pv 1) (pa_cons pe_int pa_nil))) pe_int (nomark _)) (pss_one ps_continue) pss_nil)
        (pss_cons (ps_set (i := 6) scLaw.nd rfl (Or.inl rfl) (pe_meth0 (pv 2) T.clC DE.m GE hr4 DE.b .nil pass0))
        (pss_cons (ps_if (pt_cmpR (op_neD hr.units) (pe_slice sl_tupA (pv 6) po_none (po_some (pe_callB call_len_seq (by rfl) T.len PySem.boot_len (pa_cons (pv 4) pa_nil)))) (pv 4) (nomark _)) (pss_one (ps_ret pe_bl)) pss_nil)
        (pss_cons (ps_set (i := 4) scLaw.nd rfl (Or.inl rfl) (pv 6))
        (pss_cons (ps_for PassesOwn.never rfl (pi_range1 (by rfl) T.range (pa_cons (pe_op op_add (pe_callB call_len_seq (by rfl) T.len PySem.boot_len (pa_cons (pv 6) pa_nil)) pe_int) pa_nil)) (pg_name (i := 7) scLaw.nd rfl (Or.inl rfl))
          (pss_one (ps_if (pt_cmpR (op_neD hr.units) (pe_call GR hr2 rfl DR.g DR.F.kp DR.b .nil pass0 (pa_cons (pe_fld (pv 2) rfl) (pa_cons (pv 7) pa_nil)))
              (pe_ifExp (pt_cmpR op_lt (pv 7) (pe_callB call_len_seq (by rfl) T.len PySem.boot_len (pa_cons (pv 6) pa_nil)) (nomark _)) (pe_lst (pa_cons (pe_ix ix_tup (pv 6) (pv 7) (fun _ _ => rfl)) pa_nil)) (pe_lst pa_nil)) (nomark _)) (pss_one (ps_ret pe_bl)) pss_nil)))
        (pss_one (ps_for PassesOwn.never rfl (pi_list (pe_fld (pv 2) rfl)) (pg_name (i := 8) scLaw.nd rfl (Or.inl rfl))
          (pss_one (ps_if (pt_cmpR (op_neD hr.units) (pe_meth0 (pv 8) T.clS DS.m GS hr2 DS.b .nil pass0) (pe_slice sl_tupA (pv 6) po_none (po_some (pe_callB call_len_seq (by rfl) T.len PySem.boot_len (pa_cons (pe_meth0 (pv 8) T.clS DS.m GS hr2 DS.b .nil pass0) pa_nil)))) (nomark _)) (pss_one (ps_ret pe_bl)) pss_nil)))))))))))
      (pss_one (ps_ret pe_bl))))), ?_⟩
    -- the draw
    refine ⟨_, rfl, (by show 2 ≤ sizeLine; decide), fun d hd => ?_⟩
    have s1 : Same H (upd H d (.lst [.ref a, .int 0])) := Same.new hd
    have dr1 : Dr (upd H d (.lst [.ref a, .int 0])) d a := ⟨0, upd_same⟩
    have sc0 : Scr K H a ns [] := by
      rcases hS with h | h
      · exact .inl ⟨h, by simp⟩
      · exact .inr fun _ => .inr h
    have sc1 : Scr K (upd H d (.lst [.ref a, .int 0])) a ns [d] := sc0.new hd s1
    generalize upd H d (.lst [.ref a, .int 0]) = H1 at s1 dr1 sc1
    -- three rounds
    refine ⟨3, rfl, by omega, by omega, fun D hD => lc_range (lo := 0) (n := (3 : Int).toNat)
      (fun i H' => Dr H' d a ∧ But [d] H1 H' ∧ H' D = some (.lst ((List.replicate i true).map V.bl))) ⟨dr1.same (Same.new hD), (But.refl _ H1).upd (.inr hD), upd_same⟩ (fun i H' hi pw => ⟨rfl, ?_⟩) (fun H2 pw => ?_)⟩
    · obtain ⟨drw, bw, hD'⟩ := pw
      refine ⟨_, rfl, d, a, ns, rfl, drw, sc1.but bw (fun _ h => h), hlen, fun H3 dr3 b3 => ?_⟩
      have hDd : D ≠ d := by
        obtain ⟨m, e⟩ := dr1
        exact (ne_of_none e hD).symm
      refine ⟨_, b3 _ _ hD' (by simpa using hDd), ?_, ?_, But.upd (fun b o e m => b3 b o (bw b o e m) m) (.inr hD), ?_⟩
      · rw [List.length_map, List.length_replicate]
        have : i < 3 := hi
        omega
      · obtain ⟨m, e⟩ := dr3
        exact ⟨m, by rw [upd_ne hDd.symm]; exact e⟩
      · rw [upd_same, List.replicate_succ', List.map_append]
        rfl
    obtain ⟨dr2, b2, hD2⟩ := pw
    have sc2 := sc1.but b2 (fun _ h => h)
    refine ⟨D, _, rfl, SqL.of hD2, _, rfl, ?_⟩
    refine iteF ?_
    clear b2 sc1 dr1 s1 hD hD2
    -- the council
    refine ⟨_, rfl, d, a, ns, 5, rfl, dr2, sc2, hlen, by decide, fun r H3 hr3 d3 b3 => ⟨_, _, rfl, rfl, fun x dx nx ndx nex => ?_⟩⟩
    have sc3 := sc2.but b3 (fun _ h => h)
    clear b3 sc2 dr2
    refine ⟨x, dx, 1 + r, ?_, upd_same, by omega, fun c H4 hc CA fr2 => ⟨rfl, ?_⟩⟩
    · show [V.ref x, V.int (1 + (r : Int))] = [V.ref x, V.int ((1 + r : Nat) : Int)]
      rw [Int.natCast_add]
      rfl
    subst hc
    have s4 : ∀ b o, H3 b = some o → H4 b = some o ∧ b ∉ c.foot := fun b o z => fr2 b o (by rw [upd_ne (ne_of_none z nx), upd_ne (ne_of_none z ndx)]; exact z) (ne_of_none z nx)
    refine ⟨(by show 1 ≤ sizeLine; decide), fun wd hwd => ⟨(by show 0 ≤ sizeLine; decide), fun t ht => ⟨_, _, _, rfl, ?_⟩⟩⟩
    obtain ⟨nt, s5, hwd5, ht5⟩ := two_new (o1 := .lst [.int 0]) (o2 := .tup []) hwd ht
    have hwf : wd ∉ c.foot := CA.off_none hwd
    have hdf : d ∉ c.foot := by
      obtain ⟨m, e⟩ := d3
      exact (s4 _ _ e).2
    have hwd_d : wd ≠ d := by
      obtain ⟨m, e⟩ := d3
      exact (ne_of_none (s4 _ _ e).1 hwd).symm
    have dr5 : Dr (upd (upd H4 wd (.lst [.int 0])) t (.tup [])) d a := by
      obtain ⟨m, e⟩ := d3
      exact ⟨m, s5 _ _ (s4 _ _ e).1⟩
    have sc5 : Scr K (upd (upd H4 wd (.lst [.int 0])) t (.tup [])) a ns ([d, wd] ++ c.foot) := sc3.step fun o e m => by
      obtain ⟨q1, q2⟩ := s4 _ _ e
      refine ⟨s5 _ _ q1, ?_⟩
      simp only [List.mem_append, List.mem_cons, List.not_mem_nil, or_false, not_or] at m ⊢
      exact ⟨⟨m, ne_of_none q1 hwd⟩, q2⟩
    have CA5 := CA.same s5
    generalize upd (upd H4 wd (.lst [.int 0])) t (.tup []) = H5 at hwd5 ht5 dr5 sc5 CA5
    have R5 : Tn K KC SC CC d wd a ns c (newSt (1 + r)) H5 t [] H5 c (newSt (1 + r)) 0 := by
      refine ⟨⟨⟨CA5, Good.new (by omega) (by omega), dr5, by simp, fun y hy => ?_, fun y hy => ?_, sc5, fun b o e z m => ⟨e, z⟩⟩, ⟨0, hwd5⟩, hwd_d, Grow.refl _, by simp [newSt], rfl⟩, ht5, fun p x e => by simp at e⟩
      · simp at hy
        rcases hy with rfl | rfl
        · obtain ⟨m, e⟩ := dr5
          exact ⟨_, e⟩
        · exact ⟨_, hwd5⟩
      · simp at hy
        rcases hy with rfl | rfl
        · exact hdf
        · exact hwf
    clear s5 ht hwd s4 fr2 CA nx ndx nex
    -- the turns
    refine ⟨_, rfl, d, a, ns, 60, rfl, R5.S.L.dr, R5.S.L.sc, hlen, by decide, fun q H6 hr6 d6 b6 => ⟨_, _, rfl, rfl, _, rfl, by omega, by omega, for_range (lo := 0) (n := ((60 : Int) + ((q : Nat) : Int)).toNat)
      (fun i σ H' => ∃ (v5 v6 v7 v8 : Option V) (c' : CnAd) (st' : Cst Ent) (tl : Addr) (last : List Ent), σ = [some (.ref a), some (.ref d), some (.ref c.p), some (.ref wd), some (.ref tl), v5, v6, v7, v8] ∧
        Tn K KC SC CC d wd a ns c (newSt (1 + r)) H5 tl last H' c' st' (30 * i))
      ⟨none, none, none, none, c, newSt (1 + r), t, [], rfl, R5.draw b6 d6⟩ ?_ ?_⟩⟩
    · rintro i σ H7 hi ⟨v5, v6, v7, v8, c7, st7, tl, last, rfl, R7⟩
      have hi' : i < 120 := by omega
      -- one step
      refine ⟨_, rfl, _, rfl, _, rfl, d, wd, a, ns, c7, st7, 30 * i, ?_, R7.S.rebase, hlen, by omega, fun c8 st8 H8 q8 => ?_⟩
      · rw [R7.S.p]
        rfl
      have R8 := R7.step q8
      clear q8 R7
      refine ⟨_, rfl, d, a, ns, 3, rfl, R8.S.L.dr, R8.S.L.sc, hlen, by decide, fun r9 H9 hr9 d9 b9 => ⟨_, _, rfl, rfl, _, rfl, ite2 (fun h => ?_) (fun h => ?_)⟩⟩
      · exact ⟨_, v6, v7, v8, c8, st8, tl, last, rfl, (R8.draw b9 d9).mono (by omega)⟩
      have R9 := R8.draw b9 d9
      clear b9 d9 R8
      -- the row
      obtain ⟨cx9, h19⟩ := R9.S.ob
      refine ⟨_, rfl, c.p, cx9, _, rfl, h19, rfl, c8, st8, 30 * i + 30, (by rw [R9.S.p]; rfl), R9.S.L.cn, R9.S.L.good, by omega, fun t1 row HB nt htB hrow hrl sB => ?_⟩
      have RB := R9.same sB
      have htk := RB.la.take RB.S.L.good.inv hrow
      refine ⟨_, rfl, _, rfl, tl, _, rfl, .inr (SqT.of RB.tl), ((last.length : Nat) : Int), ?_, ?_⟩
      · rw [List.length_map]
      refine slA_all (n := last.length) htB fun t3 HC sC htC => ?_
      rw [← List.map_take, htk] at htC
      have RC' := RB.same sC
      refine ⟨_, rfl, .tuple (last.map kD), .tuple (last.map kD), .tup (SqT.of htC) (ents_dp last), .tup (SqT.of RC'.tl) (ents_dp last), entsT_shaped _, entsT_shaped _, _, rfl, ?_⟩
      have ee : ∀ l : List Ent, PyData.eqv (.tuple (l.map kD)) (.tuple (l.map kD)) = true := fun l => by
        have := ents_eqv l l
        simp only [PyData.eqv]
        rw [this, decide_eq_true rfl]
      have el : ∀ l : List Ent, PyData.eqv (.list (l.map kD)) (.list (l.map kD)) = true := fun l => by
        have := ents_eqv l l
        simp only [PyData.eqv]
        rw [this, decide_eq_true rfl]
      rw [ee]
      refine iteF ?_
      have S : SS K KC SC CC d wd a ns c (newSt (1 + r)) H5 HC c8 st8 (30 * i + 30) := RC'.S
      have htC := sC _ _ htB
      clear RC' RB R9 sB sC h19 htB htk
      have I := S.L.good.inv
      have hn5 := S.L.good.n5
      have hn1 := S.L.good.n1
      have hrl' : (row.map eV).length = row.length := List.length_map _
      -- each place
      refine ⟨_, rfl, _, rfl, t1, _, rfl, .inr (SqT.of htC), _, _, rfl, rfl, _, rfl, by omega, by omega, for_range (lo := 0) (n := (((row.map eV).length : Int) + 1).toNat)
        (fun j σ H' => ∃ v7 : Option V, σ = [some (.ref a), some (.ref d), some (.ref c.p), some (.ref wd), some (.ref t1), some (.int (0 + (i : Int))), some (.ref t1), v7, v8] ∧ Same HC H')
        ⟨v7, rfl, Same.refl _⟩ ?_ ?_⟩
      · rintro j σ H' hj ⟨w7, rfl, sj⟩
        have Sj := S.same sj
        have htj := sj _ _ htC
        obtain ⟨cxj, h1j⟩ := Sj.ob
        have e0 : (0 : Int) + (j : Int) = ((j : Nat) : Int) := Int.zero_add _
        rw [e0]
        have hjr : j ≤ row.length := by omega
        refine ⟨_, rfl, c.p, CC, cxj, _, _, rfl, h1j, T.clC, T.nCk, rfl, _, rfl, c8.kl, c8.ks, st8.ks, j, rfl, Sj.L.cn.ksAt, by omega, fun k' kp e => ?_, fun l found HF nl hl hset sF => ?_⟩
        · have q1 := (Sj.L.good.sz.ks k' kp e).1
          have q2 := kp.recs_le
          omega
        have hfound := hrow.at I hset hjr
        have htF := sF _ _ htj
        refine ⟨_, rfl, _, rfl, t1, _, rfl, .inr (SqT.of htF), _, _, rfl, rfl, _, rfl, ite2 (fun g => ?_) (fun g => ?_)⟩
        · have g' : j < row.length := by
            have := of_decide_eq_true g
            omega
          rw [List.getElem?_eq_getElem g'] at hfound
          simp only at hfound
          refine ⟨_, rfl, _, rfl, t1, _, _, eV row[j], rfl, rfl, SqT.of htF, atI_nat (by rw [List.getElem?_map, List.getElem?_eq_getElem g']; rfl), (by show 1 ≤ sizeLine; decide), fun u hu => ?_⟩
          have sU : Same HF (upd HF u (.lst [eV row[j]])) := Same.new hu
          refine ⟨.list (found.map kD), .list (([row[j]] : List Ent).map kD), .lst (SqL.of (sU _ _ hl)) (ents_dp found), .lst (SqL.of upd_same) (ents_dp [row[j]]), entsL_shaped _, entsL_shaped _, _, rfl, ?_⟩
          rw [hfound, el]
          exact iteF ⟨_, rfl, sj.trans (sF.trans sU)⟩
        · have g' : row.length ≤ j := by
            apply Classical.byContradiction
            intro z
            exact g (decide_eq_true (by omega))
          rw [List.getElem?_eq_none g'] at hfound
          simp only at hfound
          refine ⟨(by show 0 ≤ sizeLine; decide), fun u hu => ?_⟩
          have sU : Same HF (upd HF u (.lst [])) := Same.new hu
          refine ⟨.list (found.map kD), .list (([] : List Ent).map kD), .lst (SqL.of (sU _ _ hl)) (ents_dp found), .lst (SqL.of upd_same) (ents_dp []), entsL_shaped _, entsL_shaped _, _, rfl, ?_⟩
          rw [hfound, el]
          exact iteF ⟨_, rfl, sj.trans (sF.trans sU)⟩
      · rintro σ H' ⟨w7, rfl, sj⟩
        have Sj := S.same sj
        have htj := sj _ _ htC
        obtain ⟨cxj, h1j⟩ := Sj.ob
        -- each sequencer
        refine ⟨_, rfl, c.p, CC, cxj, _, _, rfl, h1j, T.clC, T.nCs, rfl, c8.sl, rfl, ⟨_, SqL.of Sj.L.cn.sl⟩, for_list (K := K) (a := c8.sl) (xs := c8.sq.map fun d => V.ref d.a)
          (fun j σ H2 => ∃ v8 : Option V, σ = [some (.ref a), some (.ref d), some (.ref c.p), some (.ref wd), some (.ref t1), some (.int (0 + (i : Int))), some (.ref t1), w7, v8] ∧ Same HC H2)
          ⟨v8, rfl, sj⟩ (fun j σ H2 _ ⟨_, _, s2⟩ => SqL.of (s2 _ _ S.L.cn.sl)) ?_ ?_⟩
        · rintro j y σ H2 hj ⟨w8, rfl, s2⟩
          rw [List.getElem?_map] at hj
          obtain ⟨ad, had, rfl⟩ : ∃ ad, c8.sq[j]? = some ad ∧ y = V.ref ad.a := by
            cases q : c8.sq[j]? with
            | none => rw [q] at hj; cases hj
            | some ad => rw [q] at hj; exact ⟨ad, rfl, (Option.some.inj hj).symm⟩
          obtain ⟨sq, hsq, SA⟩ := S.L.cn.sq j ad had
          have hm := List.mem_of_getElem? hsq
          have ok := I.sqs sq hm
          have hrz := S.L.good.sz.sq sq hm
          have SA2 := SA.same s2
          obtain ⟨⟨ds, g1⟩, _⟩ := id SA2
          refine ⟨_, rfl, ad.a, ds, _, rfl, g1, rfl, st8.ks.length, ad, sq, rfl, SA2, ok.len, hn1, by omega, by omega, fun u1 m1 H3 nu1 hu1 hm1 hm1' s3 => ?_⟩
          have SA3 := SA2.same s3
          obtain ⟨⟨ds3, g3⟩, _⟩ := id SA3
          refine ⟨_, rfl, _, rfl, ad.a, ds3, _, rfl, g3, rfl, st8.ks.length, ad, sq, rfl, SA3, ok.len, hn1, by omega, by omega, fun u2 m2 H4 nu2 hu2 hm2 hm2' s4 => ?_⟩
          have em : m1 = m2 := far_same hm1 hm1' hm2 hm2'
          subst em
          obtain ⟨k1, k2⟩ := I.knows hm hm1 hrow
          have htr : (sq.row.take m1).length = m1 := by
            rw [List.length_take]
            omega
          refine ⟨u2, _, rfl, .inr (SqT.of hu2), ((m1 : Nat) : Int), ?_, ?_⟩
          · rw [List.length_map, htr]
          refine slA_all (n := m1) (s4 _ _ (s3 _ _ (s2 _ _ htC))) fun t4 H6 s6 ht6 => ?_
          rw [← List.map_take, k2] at ht6
          refine ⟨.tuple ((sq.row.take m1).map kD), .tuple ((sq.row.take m1).map kD), .tup (SqT.of (s6 _ _ (s4 _ _ hu1))) (ents_dp _), .tup (SqT.of ht6) (ents_dp _), entsT_shaped _, entsT_shaped _, _, rfl, ?_⟩
          rw [ee]
          exact iteF ⟨_, rfl, s2.trans (s3.trans (s4.trans s6))⟩
        · rintro σ H2 ⟨w8, rfl, s2⟩
          exact ⟨_, _, _, _, c8, st8, t1, row, rfl, (S.same s2).mono (by omega), s2 _ _ htC, hrow.1⟩
    · rintro σ H7 ⟨v5, v6, v7, v8, c7, st7, tl, last, rfl, R7⟩
      exact k H7
end
end K40
/-! What the top has written, and the law's own head. -/
namespace K40
open PySem L2 Mc
theorem all_mk {l : PySem.W.OpenLaw} {w : World} {K : PySem.W.Frag} {h : Heap} {mg : Str → Option Value} {fa RC KC SC CC : Addr} {fwh fmo ftk fsa fsr fnw fnu flt flp fls flo flr fri frp frf fki fkk fkh fkt fkf fkl fsi fss fsh fsd fst fci fcb fcs fcd fcl fcf fcg fcp fcx fct flw : Addr} (X : K.In h) (G : h.Ns mainGlobals mg) (hfa : mg "law" = some (.ref fa))
    {odwh anwh odmo anmo odtk antk odsa ansa odsr ansr odnw annw odnu annu odlt anlt odlp anlp odls anls odlo anlo odlr anlr odri anri odrp anrp odrf anrf odki anki odkk ankk odkh ankh odkt ankt odkf ankf odkl ankl odsi ansi odss anss odsh ansh odsd ansd odst anst odci anci odcb ancb odcs ancs odcd ancd odcl ancl odcf ancf odcg ancg odcp ancp odcx ancx odct anct odlw anlw : Option Addr} {slwh slmo sltk slsa slsr slnw slnu sllt sllp slls sllo sllr slri slrp slrf slki slkk slkh slkt slkf slkl slsi slss slsh slsd slst slci slcb slcs slcd slcl slcf slcg slcp slcx slct sllw : Array (Option Value)}
    {ocwh kVwh dcwh pmwh cdwh ctwh ocmo kVmo dcmo pmmo cdmo ctmo octk kVtk dctk pmtk cdtk cttk ocsa kVsa dcsa pmsa cdsa ctsa ocsr kVsr dcsr pmsr cdsr ctsr ocnw kVnw dcnw pmnw cdnw ctnw ocnu kVnu dcnu pmnu cdnu ctnu oclt kVlt dclt pmlt cdlt ctlt oclp kVlp dclp pmlp cdlp ctlp ocls kVls dcls pmls cdls ctls oclo kVlo dclo pmlo cdlo ctlo oclr kVlr dclr pmlr cdlr ctlr ocri kVri dcri pmri cdri ctri ocrp kVrp dcrp pmrp cdrp ctrp ocrf kVrf dcrf pmrf cdrf ctrf ocki kVki dcki pmki cdki ctki ockk kVkk dckk pmkk cdkk ctkk ockh kVkh dckh pmkh cdkh ctkh ockt kVkt dckt pmkt cdkt ctkt ockf kVkf dckf pmkf cdkf ctkf ockl kVkl dckl pmkl cdkl ctkl ocsi kVsi dcsi pmsi cdsi ctsi ocss kVss dcss pmss cdss ctss ocsh kVsh dcsh pmsh cdsh ctsh ocsd kVsd dcsd pmsd cdsd ctsd ocst kVst dcst pmst cdst ctst occi kVci dcci pmci cdci ctci occb kVcb dccb pmcb cdcb ctcb occs kVcs dccs pmcs cdcs ctcs occd kVcd dccd pmcd cdcd ctcd occl kVcl dccl pmcl cdcl ctcl occf kVcf dccf pmcf cdcf ctcf occg kVcg dccg pmcg cdcg ctcg occp kVcp dccp pmcp cdcp ctcp occx kVcx dccx pmcx cdcx ctcx occt kVct dcct pmct cdct ctct oclw kVlw dclw pmlw cdlw ctlw : Value}
    {tA tL tS tM : Tok}
    (nR : PySem.W.nsIn K mainGlobals "Record" = some (some (.ref RC)))
    (pgR : PySem.W.plainGet K RC Str.empty = true)
    (hdR : PySem.W.hasDictIn K RC = true)
    (poR : PySem.W.plainOver K RC = true)
    (saR : PySem.W.findIn K (.ref RC) "__setattr__" = some (some (.builtin "object.__setattr__")))
    (mkR : PySem.W.makesIn K RC = true)
    (kcR : PySem.W.keepIn K (.ref RC) = true)
    (atR_epoch : PySem.W.findIn K (.ref RC) "epoch" = some none)
    (atR_row : PySem.W.findIn K (.ref RC) "row" = some none)
    (nK : PySem.W.nsIn K mainGlobals "Keeper" = some (some (.ref KC)))
    (pgK : PySem.W.plainGet K KC Str.empty = true)
    (hdK : PySem.W.hasDictIn K KC = true)
    (poK : PySem.W.plainOver K KC = true)
    (saK : PySem.W.findIn K (.ref KC) "__setattr__" = some (some (.builtin "object.__setattr__")))
    (mkK : PySem.W.makesIn K KC = true)
    (kcK : PySem.W.keepIn K (.ref KC) = true)
    (atK_number : PySem.W.findIn K (.ref KC) "number" = some none)
    (atK_records : PySem.W.findIn K (.ref KC) "records" = some none)
    (atK_loose : PySem.W.findIn K (.ref KC) "loose" = some none)
    (atK_waiting : PySem.W.findIn K (.ref KC) "waiting" = some none)
    (nS : PySem.W.nsIn K mainGlobals "Sequencer" = some (some (.ref SC)))
    (pgS : PySem.W.plainGet K SC Str.empty = true)
    (hdS : PySem.W.hasDictIn K SC = true)
    (poS : PySem.W.plainOver K SC = true)
    (saS : PySem.W.findIn K (.ref SC) "__setattr__" = some (some (.builtin "object.__setattr__")))
    (mkS : PySem.W.makesIn K SC = true)
    (kcS : PySem.W.keepIn K (.ref SC) = true)
    (atS_epoch : PySem.W.findIn K (.ref SC) "epoch" = some none)
    (atS_many : PySem.W.findIn K (.ref SC) "many" = some none)
    (atS_stand : PySem.W.findIn K (.ref SC) "stand" = some none)
    (atS_rows : PySem.W.findIn K (.ref SC) "rows" = some none)
    (atS_row : PySem.W.findIn K (.ref SC) "row" = some none)
    (atS_taken : PySem.W.findIn K (.ref SC) "taken" = some none)
    (nC : PySem.W.nsIn K mainGlobals "Council" = some (some (.ref CC)))
    (pgC : PySem.W.plainGet K CC Str.empty = true)
    (hdC : PySem.W.hasDictIn K CC = true)
    (poC : PySem.W.plainOver K CC = true)
    (saC : PySem.W.findIn K (.ref CC) "__setattr__" = some (some (.builtin "object.__setattr__")))
    (mkC : PySem.W.makesIn K CC = true)
    (kcC : PySem.W.keepIn K (.ref CC) = true)
    (atC_keepers : PySem.W.findIn K (.ref CC) "keepers" = some none)
    (atC_sequencers : PySem.W.findIn K (.ref CC) "sequencers" = some none)
    (atC_letters : PySem.W.findIn K (.ref CC) "letters" = some none)
    (awh : PySem.W.nsIn K mainGlobals "is_whole" = some (some (.ref fwh)))
    (lwh : K.lookup fwh = some ⟨ocwh, odwh, .func (PySem.W.fnOf "is_whole" "is_whole" (defArgs sWhole) (defBody sWhole) (defScope sWhole) .none kVwh dcwh pmwh anwh cdwh ctwh), slwh⟩)
    (cwh : PySem.W.codeIn K cdwh "is_whole" = true)
    (kwh : PySem.W.keepIn K (.ref fwh) = true)
    (amo : PySem.W.nsIn K mainGlobals "most_of" = some (some (.ref fmo)))
    (lmo : K.lookup fmo = some ⟨ocmo, odmo, .func (PySem.W.fnOf "most_of" "most_of" (defArgs sMost) (defBody sMost) (defScope sMost) .none kVmo dcmo pmmo anmo cdmo ctmo), slmo⟩)
    (cmo : PySem.W.codeIn K cdmo "most_of" = true)
    (kmo : PySem.W.keepIn K (.ref fmo) = true)
    (atk : PySem.W.nsIn K mainGlobals "takers" = some (some (.ref ftk)))
    (ltk : K.lookup ftk = some ⟨octk, odtk, .func (PySem.W.fnOf "takers" "takers" (defArgs sTakers) (defBody sTakers) (defScope sTakers) .none kVtk dctk pmtk antk cdtk cttk), sltk⟩)
    (ctk : PySem.W.codeIn K cdtk "takers" = true)
    (ktk : PySem.W.keepIn K (.ref ftk) = true)
    (asa : PySem.W.nsIn K mainGlobals "settled_at" = some (some (.ref fsa)))
    (lsa : K.lookup fsa = some ⟨ocsa, odsa, .func (PySem.W.fnOf "settled_at" "settled_at" (defArgs sSetAt) (defBody sSetAt) (defScope sSetAt) .none kVsa dcsa pmsa ansa cdsa ctsa), slsa⟩)
    (csa : PySem.W.codeIn K cdsa "settled_at" = true)
    (ksa : PySem.W.keepIn K (.ref fsa) = true)
    (asr : PySem.W.nsIn K mainGlobals "settled_row" = some (some (.ref fsr)))
    (lsr : K.lookup fsr = some ⟨ocsr, odsr, .func (PySem.W.fnOf "settled_row" "settled_row" (defArgs sSetRow) (defBody sSetRow) (defScope sSetRow) .none kVsr dcsr pmsr ansr cdsr ctsr), slsr⟩)
    (csr : PySem.W.codeIn K cdsr "settled_row" = true)
    (ksr : PySem.W.keepIn K (.ref fsr) = true)
    (anw : PySem.W.nsIn K mainGlobals "newest_row" = some (some (.ref fnw)))
    (lnw : K.lookup fnw = some ⟨ocnw, odnw, .func (PySem.W.fnOf "newest_row" "newest_row" (defArgs sNewest) (defBody sNewest) (defScope sNewest) .none kVnw dcnw pmnw annw cdnw ctnw), slnw⟩)
    (cnw : PySem.W.codeIn K cdnw "newest_row" = true)
    (knw : PySem.W.keepIn K (.ref fnw) = true)
    (anu : PySem.W.nsIn K mainGlobals "_law_number" = some (some (.ref fnu)))
    (lnu : K.lookup fnu = some ⟨ocnu, odnu, .func (PySem.W.fnOf "_law_number" "_law_number" (defArgs sNumber) (defBody sNumber) (defScope sNumber) .none kVnu dcnu pmnu annu cdnu ctnu), slnu⟩)
    (cnu : PySem.W.codeIn K cdnu "_law_number" = true)
    (knu : PySem.W.keepIn K (.ref fnu) = true)
    (alt : PySem.W.nsIn K mainGlobals "_law_take" = some (some (.ref flt)))
    (llt : K.lookup flt = some ⟨oclt, odlt, .func (PySem.W.fnOf "_law_take" "_law_take" (defArgs sTake) (defBody sTake) (defScope sTake) .none kVlt dclt pmlt anlt cdlt ctlt), sllt⟩)
    (clt : PySem.W.codeIn K cdlt "_law_take" = true)
    (klt : PySem.W.keepIn K (.ref flt) = true)
    (alp : PySem.W.nsIn K mainGlobals "_law_pick" = some (some (.ref flp)))
    (llp : K.lookup flp = some ⟨oclp, odlp, .func (PySem.W.fnOf "_law_pick" "_law_pick" (defArgs sPick) (defBody sPick) (defScope sPick) .none kVlp dclp pmlp anlp cdlp ctlp), sllp⟩)
    (clp : PySem.W.codeIn K cdlp "_law_pick" = true)
    (klp : PySem.W.keepIn K (.ref flp) = true)
    (als : PySem.W.nsIn K mainGlobals "_law_step" = some (some (.ref fls)))
    (lls : K.lookup fls = some ⟨ocls, odls, .func (PySem.W.fnOf "_law_step" "_law_step" (defArgs sStep) (defBody sStep) (defScope sStep) .none kVls dcls pmls anls cdls ctls), slls⟩)
    (cls : PySem.W.codeIn K cdls "_law_step" = true)
    (kls : PySem.W.keepIn K (.ref fls) = true)
    (alo : PySem.W.nsIn K mainGlobals "_law_some" = some (some (.ref flo)))
    (llo : K.lookup flo = some ⟨oclo, odlo, .func (PySem.W.fnOf "_law_some" "_law_some" (defArgs sSome) (defBody sSome) (defScope sSome) .none kVlo dclo pmlo anlo cdlo ctlo), sllo⟩)
    (clo : PySem.W.codeIn K cdlo "_law_some" = true)
    (klo : PySem.W.keepIn K (.ref flo) = true)
    (alr : PySem.W.nsIn K mainGlobals "_law_rounds" = some (some (.ref flr)))
    (llr : K.lookup flr = some ⟨oclr, odlr, .func (PySem.W.fnOf "_law_rounds" "_law_rounds" (defArgs sRounds) (defBody sRounds) (defScope sRounds) .none kVlr dclr pmlr anlr cdlr ctlr), sllr⟩)
    (clr : PySem.W.codeIn K cdlr "_law_rounds" = true)
    (klr : PySem.W.keepIn K (.ref flr) = true)
    (ari : PySem.W.findIn K (.ref RC) "__init__" = some (some (.ref fri)))
    (iri : PySem.W.isFn K (.ref fri) = true)
    (lri : K.lookup fri = some ⟨ocri, odri, .func (PySem.W.fnOf "__init__" "Record.__init__" (defArgs sRInit) (defBody sRInit) (defScope sRInit) .none kVri dcri pmri anri cdri ctri), slri⟩)
    (cri : PySem.W.codeIn K cdri "Record.__init__" = true)
    (kri : PySem.W.keepIn K (.ref fri) = true)
    (arp : PySem.W.findIn K (.ref RC) "put" = some (some (.ref frp)))
    (irp : PySem.W.isFn K (.ref frp) = true)
    (lrp : K.lookup frp = some ⟨ocrp, odrp, .func (PySem.W.fnOf "put" "Record.put" (defArgs sRPut) (defBody sRPut) (defScope sRPut) .none kVrp dcrp pmrp anrp cdrp ctrp), slrp⟩)
    (crp : PySem.W.codeIn K cdrp "Record.put" = true)
    (krp : PySem.W.keepIn K (.ref frp) = true)
    (arf : PySem.W.findIn K (.ref RC) "fits" = some (some (.ref frf)))
    (irf : PySem.W.isFn K (.ref frf) = true)
    (lrf : K.lookup frf = some ⟨ocrf, odrf, .func (PySem.W.fnOf "fits" "Record.fits" (defArgs sRFits) (defBody sRFits) (defScope sRFits) .none kVrf dcrf pmrf anrf cdrf ctrf), slrf⟩)
    (crf : PySem.W.codeIn K cdrf "Record.fits" = true)
    (krf : PySem.W.keepIn K (.ref frf) = true)
    (aki : PySem.W.findIn K (.ref KC) "__init__" = some (some (.ref fki)))
    (iki : PySem.W.isFn K (.ref fki) = true)
    (lki : K.lookup fki = some ⟨ocki, odki, .func (PySem.W.fnOf "__init__" "Keeper.__init__" (defArgs sKInit) (defBody sKInit) (defScope sKInit) .none kVki dcki pmki anki cdki ctki), slki⟩)
    (cki : PySem.W.codeIn K cdki "Keeper.__init__" = true)
    (kki : PySem.W.keepIn K (.ref fki) = true)
    (akk : PySem.W.findIn K (.ref KC) "kept" = some (some (.ref fkk)))
    (ikk : PySem.W.isFn K (.ref fkk) = true)
    (lkk : K.lookup fkk = some ⟨ockk, odkk, .func (PySem.W.fnOf "kept" "Keeper.kept" (defArgs sKKept) (defBody sKKept) (defScope sKKept) .none kVkk dckk pmkk ankk cdkk ctkk), slkk⟩)
    (ckk : PySem.W.codeIn K cdkk "Keeper.kept" = true)
    (kkk : PySem.W.keepIn K (.ref fkk) = true)
    (akh : PySem.W.findIn K (.ref KC) "handle" = some (some (.ref fkh)))
    (ikh : PySem.W.isFn K (.ref fkh) = true)
    (lkh : K.lookup fkh = some ⟨ockh, odkh, .func (PySem.W.fnOf "handle" "Keeper.handle" (defArgs sKHandle) (defBody sKHandle) (defScope sKHandle) .none kVkh dckh pmkh ankh cdkh ctkh), slkh⟩)
    (ckh : PySem.W.codeIn K cdkh "Keeper.handle" = true)
    (kkh : PySem.W.keepIn K (.ref fkh) = true)
    (akt : PySem.W.findIn K (.ref KC) "take" = some (some (.ref fkt)))
    (ikt : PySem.W.isFn K (.ref fkt) = true)
    (lkt : K.lookup fkt = some ⟨ockt, odkt, .func (PySem.W.fnOf "take" "Keeper.take" (defArgs sKTake) (defBody sKTake) (defScope sKTake) .none kVkt dckt pmkt ankt cdkt ctkt), slkt⟩)
    (ckt : PySem.W.codeIn K cdkt "Keeper.take" = true)
    (kkt : PySem.W.keepIn K (.ref fkt) = true)
    (akf : PySem.W.findIn K (.ref KC) "flush" = some (some (.ref fkf)))
    (ikf : PySem.W.isFn K (.ref fkf) = true)
    (lkf : K.lookup fkf = some ⟨ockf, odkf, .func (PySem.W.fnOf "flush" "Keeper.flush" (defArgs sKFlush) (defBody sKFlush) (defScope sKFlush) .none kVkf dckf pmkf ankf cdkf ctkf), slkf⟩)
    (ckf : PySem.W.codeIn K cdkf "Keeper.flush" = true)
    (kkf : PySem.W.keepIn K (.ref fkf) = true)
    (akl : PySem.W.findIn K (.ref KC) "fall" = some (some (.ref fkl)))
    (ikl : PySem.W.isFn K (.ref fkl) = true)
    (lkl : K.lookup fkl = some ⟨ockl, odkl, .func (PySem.W.fnOf "fall" "Keeper.fall" (defArgs sKFall) (defBody sKFall) (defScope sKFall) .none kVkl dckl pmkl ankl cdkl ctkl), slkl⟩)
    (ckl : PySem.W.codeIn K cdkl "Keeper.fall" = true)
    (kkl : PySem.W.keepIn K (.ref fkl) = true)
    (asi : PySem.W.findIn K (.ref SC) "__init__" = some (some (.ref fsi)))
    (isi : PySem.W.isFn K (.ref fsi) = true)
    (lsi : K.lookup fsi = some ⟨ocsi, odsi, .func (PySem.W.fnOf "__init__" "Sequencer.__init__" (defArgs sSInit) (defBody sSInit) (defScope sSInit) .none kVsi dcsi pmsi ansi cdsi ctsi), slsi⟩)
    (csi : PySem.W.codeIn K cdsi "Sequencer.__init__" = true)
    (ksi : PySem.W.keepIn K (.ref fsi) = true)
    (ass : PySem.W.findIn K (.ref SC) "to_send" = some (some (.ref fss)))
    (iss : PySem.W.isFn K (.ref fss) = true)
    (lss : K.lookup fss = some ⟨ocss, odss, .func (PySem.W.fnOf "to_send" "Sequencer.to_send" (defArgs sSSend) (defBody sSSend) (defScope sSSend) .none kVss dcss pmss anss cdss ctss), slss⟩)
    (css : PySem.W.codeIn K cdss "Sequencer.to_send" = true)
    (kss : PySem.W.keepIn K (.ref fss) = true)
    (ash : PySem.W.findIn K (.ref SC) "hear" = some (some (.ref fsh)))
    (ish : PySem.W.isFn K (.ref fsh) = true)
    (lsh : K.lookup fsh = some ⟨ocsh, odsh, .func (PySem.W.fnOf "hear" "Sequencer.hear" (defArgs sSHear) (defBody sSHear) (defScope sSHear) .none kVsh dcsh pmsh ansh cdsh ctsh), slsh⟩)
    (csh : PySem.W.codeIn K cdsh "Sequencer.hear" = true)
    (ksh : PySem.W.keepIn K (.ref fsh) = true)
    (asd : PySem.W.findIn K (.ref SC) "add" = some (some (.ref fsd)))
    (isd : PySem.W.isFn K (.ref fsd) = true)
    (lsd : K.lookup fsd = some ⟨ocsd, odsd, .func (PySem.W.fnOf "add" "Sequencer.add" (defArgs sSAdd) (defBody sSAdd) (defScope sSAdd) .none kVsd dcsd pmsd ansd cdsd ctsd), slsd⟩)
    (csd : PySem.W.codeIn K cdsd "Sequencer.add" = true)
    (ksd : PySem.W.keepIn K (.ref fsd) = true)
    (ast : PySem.W.findIn K (.ref SC) "settled" = some (some (.ref fst)))
    (ist : PySem.W.isFn K (.ref fst) = true)
    (lst : K.lookup fst = some ⟨ocst, odst, .func (PySem.W.fnOf "settled" "Sequencer.settled" (defArgs sSSettled) (defBody sSSettled) (defScope sSSettled) .none kVst dcst pmst anst cdst ctst), slst⟩)
    (cst : PySem.W.codeIn K cdst "Sequencer.settled" = true)
    (kst : PySem.W.keepIn K (.ref fst) = true)
    (aci : PySem.W.findIn K (.ref CC) "__init__" = some (some (.ref fci)))
    (ici : PySem.W.isFn K (.ref fci) = true)
    (lci : K.lookup fci = some ⟨occi, odci, .func (PySem.W.fnOf "__init__" "Council.__init__" (defArgs sCInit) (defBody sCInit) (defScope sCInit) .none kVci dcci pmci anci cdci ctci), slci⟩)
    (cci : PySem.W.codeIn K cdci "Council.__init__" = true)
    (kci : PySem.W.keepIn K (.ref fci) = true)
    (acb : PySem.W.findIn K (.ref CC) "begin" = some (some (.ref fcb)))
    (icb : PySem.W.isFn K (.ref fcb) = true)
    (lcb : K.lookup fcb = some ⟨occb, odcb, .func (PySem.W.fnOf "begin" "Council.begin" (defArgs sCBegin) (defBody sCBegin) (defScope sCBegin) .none kVcb dccb pmcb ancb cdcb ctcb), slcb⟩)
    (ccb : PySem.W.codeIn K cdcb "Council.begin" = true)
    (kcb : PySem.W.keepIn K (.ref fcb) = true)
    (acs : PySem.W.findIn K (.ref CC) "send" = some (some (.ref fcs)))
    (ics : PySem.W.isFn K (.ref fcs) = true)
    (lcs : K.lookup fcs = some ⟨occs, odcs, .func (PySem.W.fnOf "send" "Council.send" (defArgs sCSend) (defBody sCSend) (defScope sCSend) .none kVcs dccs pmcs ancs cdcs ctcs), slcs⟩)
    (ccs : PySem.W.codeIn K cdcs "Council.send" = true)
    (kcs : PySem.W.keepIn K (.ref fcs) = true)
    (acd : PySem.W.findIn K (.ref CC) "deliver" = some (some (.ref fcd)))
    (icd : PySem.W.isFn K (.ref fcd) = true)
    (lcd : K.lookup fcd = some ⟨occd, odcd, .func (PySem.W.fnOf "deliver" "Council.deliver" (defArgs sCDeliver) (defBody sCDeliver) (defScope sCDeliver) .none kVcd dccd pmcd ancd cdcd ctcd), slcd⟩)
    (ccd : PySem.W.codeIn K cdcd "Council.deliver" = true)
    (kcd : PySem.W.keepIn K (.ref fcd) = true)
    (acl : PySem.W.findIn K (.ref CC) "lose" = some (some (.ref fcl)))
    (icl : PySem.W.isFn K (.ref fcl) = true)
    (lcl : K.lookup fcl = some ⟨occl, odcl, .func (PySem.W.fnOf "lose" "Council.lose" (defArgs sCLose) (defBody sCLose) (defScope sCLose) .none kVcl dccl pmcl ancl cdcl ctcl), slcl⟩)
    (ccl : PySem.W.codeIn K cdcl "Council.lose" = true)
    (kcl : PySem.W.keepIn K (.ref fcl) = true)
    (acf : PySem.W.findIn K (.ref CC) "flush" = some (some (.ref fcf)))
    (icf : PySem.W.isFn K (.ref fcf) = true)
    (lcf : K.lookup fcf = some ⟨occf, odcf, .func (PySem.W.fnOf "flush" "Council.flush" (defArgs sCFlush) (defBody sCFlush) (defScope sCFlush) .none kVcf dccf pmcf ancf cdcf ctcf), slcf⟩)
    (ccf : PySem.W.codeIn K cdcf "Council.flush" = true)
    (kcf : PySem.W.keepIn K (.ref fcf) = true)
    (acg : PySem.W.findIn K (.ref CC) "fall" = some (some (.ref fcg)))
    (icg : PySem.W.isFn K (.ref fcg) = true)
    (lcg : K.lookup fcg = some ⟨occg, odcg, .func (PySem.W.fnOf "fall" "Council.fall" (defArgs sCFall) (defBody sCFall) (defScope sCFall) .none kVcg dccg pmcg ancg cdcg ctcg), slcg⟩)
    (ccg : PySem.W.codeIn K cdcg "Council.fall" = true)
    (kcg : PySem.W.keepIn K (.ref fcg) = true)
    (acp : PySem.W.findIn K (.ref CC) "stop" = some (some (.ref fcp)))
    (icp : PySem.W.isFn K (.ref fcp) = true)
    (lcp : K.lookup fcp = some ⟨occp, odcp, .func (PySem.W.fnOf "stop" "Council.stop" (defArgs sCStop) (defBody sCStop) (defScope sCStop) .none kVcp dccp pmcp ancp cdcp ctcp), slcp⟩)
    (ccp : PySem.W.codeIn K cdcp "Council.stop" = true)
    (kcp : PySem.W.keepIn K (.ref fcp) = true)
    (acx : PySem.W.findIn K (.ref CC) "exchange" = some (some (.ref fcx)))
    (icx : PySem.W.isFn K (.ref fcx) = true)
    (lcx : K.lookup fcx = some ⟨occx, odcx, .func (PySem.W.fnOf "exchange" "Council.exchange" (defArgs sCExch) (defBody sCExch) (defScope sCExch) .none kVcx dccx pmcx ancx cdcx ctcx), slcx⟩)
    (ccx : PySem.W.codeIn K cdcx "Council.exchange" = true)
    (kcx : PySem.W.keepIn K (.ref fcx) = true)
    (act : PySem.W.findIn K (.ref CC) "settled" = some (some (.ref fct)))
    (ict : PySem.W.isFn K (.ref fct) = true)
    (lct : K.lookup fct = some ⟨occt, odct, .func (PySem.W.fnOf "settled" "Council.settled" (defArgs sCSettled) (defBody sCSettled) (defScope sCSettled) .none kVct dcct pmct anct cdct ctct), slct⟩)
    (cct : PySem.W.codeIn K cdct "Council.settled" = true)
    (kct : PySem.W.keepIn K (.ref fct) = true)
    (alw : PySem.W.nsIn K mainGlobals "law" = some (some (.ref flw)))
    (llw : K.lookup flw = some ⟨oclw, odlw, .func (PySem.W.fnOf "law" "law" (defArgs sLaw) (defBody sLaw) (defScope sLaw) .none kVlw dclw pmlw anlw cdlw ctlw), sllw⟩)
    (clw : PySem.W.codeIn K cdlw "law" = true)
    (klw : PySem.W.keepIn K (.ref flw) = true)
    (z_len : PySem.W.nsIn K mainGlobals "len" = some none)
    (z_max : PySem.W.nsIn K mainGlobals "max" = some none)
    (z_isinstance : PySem.W.nsIn K mainGlobals "isinstance" = some none)
    (z_int : PySem.W.nsIn K mainGlobals "int" = some none)
    (z_bool : PySem.W.nsIn K mainGlobals "bool" = some none)
    (z_tuple : PySem.W.nsIn K mainGlobals "tuple" = some none)
    (z_list : PySem.W.nsIn K mainGlobals "list" = some none)
    (z_sorted : PySem.W.nsIn K mainGlobals "sorted" = some none)
    (z_range : PySem.W.nsIn K mainGlobals "range" = some none)
    (z_all : PySem.W.nsIn K mainGlobals "all" = some none)
    (z_any : PySem.W.nsIn K mainGlobals "any" = some none)
    (z_str : PySem.W.nsIn K mainGlobals "str" = some none)
    (z_abs : PySem.W.nsIn K mainGlobals "abs" = some none)
    (q0 : PySem.W.nsIn K mainGlobals "ASKING" = some (some (.str "asking" tA)))
    (q1 : PySem.W.nsIn K mainGlobals "LEADING" = some (some (.str "leading" tL)))
    (q2 : PySem.W.nsIn K mainGlobals "STOPPED" = some (some (.str "stopped" tS)))
    (q3 : PySem.W.nsIn K mainGlobals "MOST_EPOCH" = some (some (.int 999999999999 tM)))
    : ∃ fd : FuncData, (∀ (s : Shared) (v : Value), BindsTo s fd ⟨[v], []⟩ [("_law_script", v)]) ∧ ∀ base : Heap, K.In base → base.Ns mainGlobals mg → FnOk l.prog w K mg base CX0 8 fa fd ["_law_script"] (spLaw K) := by
  have e := hfa.symm.trans (PySem.W.mg_of X G alw)
  cases e
  have T : Txt K mg RC KC SC CC := ⟨⟨pgR, hdR, poR, saR⟩, PySem.W.mg_of X G nR, atR_epoch, atR_row, ⟨pgK, hdK, poK, saK⟩, PySem.W.mg_of X G nK, atK_number, atK_records, atK_loose, atK_waiting, ⟨pgS, hdS, poS, saS⟩, PySem.W.mg_of X G nS, atS_epoch, atS_many, atS_stand, atS_rows, atS_row, atS_taken, ⟨pgC, hdC, poC, saC⟩, PySem.W.mg_of X G nC, atC_keepers, atC_sequencers, atC_letters, PySem.W.mg_none_of X G z_len, PySem.W.mg_none_of X G z_max, PySem.W.mg_none_of X G z_isinstance, PySem.W.mg_none_of X G z_int, PySem.W.mg_none_of X G z_bool, PySem.W.mg_none_of X G z_tuple, PySem.W.mg_none_of X G z_list, PySem.W.mg_none_of X G z_sorted, PySem.W.mg_none_of X G z_range, PySem.W.mg_none_of X G z_all, PySem.W.mg_none_of X G z_any, PySem.W.mg_none_of X G z_str, PySem.W.mg_none_of X G z_abs, ⟨_, PySem.W.mg_of X G q0⟩, ⟨_, PySem.W.mg_of X G q1⟩, ⟨_, PySem.W.mg_of X G q2⟩, ⟨_, PySem.W.mg_of X G q3⟩⟩
  have Fwh := fun_mk (st := sWhole) lwh cwh kwh
  have bwh := Fwh.binds (ps := ["thing", "low", "high"]) fun _ _ _ _ _ _ us hl => match us, hl with | [_, _, _], _ => rfl
  have Dwh : DF K mg "is_whole" sWhole ["thing", "low", "high"] fwh _ := ⟨Fwh, bwh, PySem.W.mg_of X G awh⟩
  have Fmo := fun_mk (st := sMost) lmo cmo kmo
  have bmo := Fmo.binds (ps := ["many"]) fun _ _ _ _ _ _ us hl => match us, hl with | [_], _ => rfl
  have Dmo : DF K mg "most_of" sMost ["many"] fmo _ := ⟨Fmo, bmo, PySem.W.mg_of X G amo⟩
  have Ftk := fun_mk (st := sTakers) ltk ctk ktk
  have btk := Ftk.binds (ps := ["keepers", "epoch", "place", "entry"]) fun _ _ _ _ _ _ us hl => match us, hl with | [_, _, _, _], _ => rfl
  have Dtk : DF K mg "takers" sTakers ["keepers", "epoch", "place", "entry"] ftk _ := ⟨Ftk, btk, PySem.W.mg_of X G atk⟩
  have Fsa := fun_mk (st := sSetAt) lsa csa ksa
  have bsa := Fsa.binds (ps := ["keepers", "place"]) fun _ _ _ _ _ _ us hl => match us, hl with | [_, _], _ => rfl
  have Dsa : DF K mg "settled_at" sSetAt ["keepers", "place"] fsa _ := ⟨Fsa, bsa, PySem.W.mg_of X G asa⟩
  have Fsr := fun_mk (st := sSetRow) lsr csr ksr
  have bsr := Fsr.binds (ps := ["keepers"]) fun _ _ _ _ _ _ us hl => match us, hl with | [_], _ => rfl
  have Dsr : DF K mg "settled_row" sSetRow ["keepers"] fsr _ := ⟨Fsr, bsr, PySem.W.mg_of X G asr⟩
  have Fnw := fun_mk (st := sNewest) lnw cnw knw
  have bnw := Fnw.binds (ps := ["rows"]) fun _ _ _ _ _ _ us hl => match us, hl with | [_], _ => rfl
  have Dnw : DF K mg "newest_row" sNewest ["rows"] fnw _ := ⟨Fnw, bnw, PySem.W.mg_of X G anw⟩
  have Fnu := fun_mk (st := sNumber) lnu cnu knu
  have bnu := Fnu.binds (ps := ["_law_script", "_law_index"]) fun _ _ _ _ _ _ us hl => match us, hl with | [_, _], _ => rfl
  have Dnu : DF K mg "_law_number" sNumber ["_law_script", "_law_index"] fnu _ := ⟨Fnu, bnu, PySem.W.mg_of X G anu⟩
  have Flt := fun_mk (st := sTake) llt clt klt
  have blt := Flt.binds (ps := ["_law_draw", "_law_many"]) fun _ _ _ _ _ _ us hl => match us, hl with | [_, _], _ => rfl
  have Dlt : DF K mg "_law_take" sTake ["_law_draw", "_law_many"] flt _ := ⟨Flt, blt, PySem.W.mg_of X G alt⟩
  have Flp := fun_mk (st := sPick) llp clp klp
  have blp := Flp.binds (ps := ["_law_draw", "_law_items"]) fun _ _ _ _ _ _ us hl => match us, hl with | [_, _], _ => rfl
  have Dlp : DF K mg "_law_pick" sPick ["_law_draw", "_law_items"] flp _ := ⟨Flp, blp, PySem.W.mg_of X G alp⟩
  have Fls := fun_mk (st := sStep) lls cls kls
  have bls := Fls.binds (ps := ["_law_draw", "_law_council", "_law_words"]) fun _ _ _ _ _ _ us hl => match us, hl with | [_, _, _], _ => rfl
  have Dls : DF K mg "_law_step" sStep ["_law_draw", "_law_council", "_law_words"] fls _ := ⟨Fls, bls, PySem.W.mg_of X G als⟩
  have Flo := fun_mk (st := sSome) llo clo klo
  have blo := Flo.binds (ps := ["_law_draw", "_law_many", "_law_goal"]) fun _ _ _ _ _ _ us hl => match us, hl with | [_, _, _], _ => rfl
  have Dlo : DF K mg "_law_some" sSome ["_law_draw", "_law_many", "_law_goal"] flo _ := ⟨Flo, blo, PySem.W.mg_of X G alo⟩
  have Flr := fun_mk (st := sRounds) llr clr klr
  have blr := Flr.binds (ps := ["_law_draw"]) fun _ _ _ _ _ _ us hl => match us, hl with | [_], _ => rfl
  have Dlr : DF K mg "_law_rounds" sRounds ["_law_draw"] flr _ := ⟨Flr, blr, PySem.W.mg_of X G alr⟩
  have Fri := fun_mk (st := sRInit) lri cri kri
  have bri := Fri.binds (ps := ["self", "records"]) fun _ _ _ _ _ _ us hl => match us, hl with | [_, _], _ => rfl
  have Dri : DI K RC "Record.__init__" sRInit ["self", "records"] fri _ := ⟨Fri, bri, ⟨mkR, ari, iri, kcR⟩⟩
  have Frp := fun_mk (st := sRPut) lrp crp krp
  have brp := Frp.binds (ps := ["self", "record"]) fun _ _ _ _ _ _ us hl => match us, hl with | [_, _], _ => rfl
  have Drp : DM K RC "put" "Record.put" sRPut ["self", "record"] frp _ := ⟨Frp, brp, ⟨arp, irp, krp⟩⟩
  have Frf := fun_mk (st := sRFits) lrf crf krf
  have brf := Frf.binds (ps := ["self", "epoch", "place"]) fun _ _ _ _ _ _ us hl => match us, hl with | [_, _, _], _ => rfl
  have Drf : DM K RC "fits" "Record.fits" sRFits ["self", "epoch", "place"] frf _ := ⟨Frf, brf, ⟨arf, irf, krf⟩⟩
  have Fki := fun_mk (st := sKInit) lki cki kki
  have bki := Fki.binds (ps := ["self", "number"]) fun _ _ _ _ _ _ us hl => match us, hl with | [_, _], _ => rfl
  have Dki : DI K KC "Keeper.__init__" sKInit ["self", "number"] fki _ := ⟨Fki, bki, ⟨mkK, aki, iki, kcK⟩⟩
  have Fkk := fun_mk (st := sKKept) lkk ckk kkk
  have bkk := Fkk.binds (ps := ["self"]) fun _ _ _ _ _ _ us hl => match us, hl with | [_], _ => rfl
  have Dkk : DM K KC "kept" "Keeper.kept" sKKept ["self"] fkk _ := ⟨Fkk, bkk, ⟨akk, ikk, kkk⟩⟩
  have Fkh := fun_mk (st := sKHandle) lkh ckh kkh
  have bkh := Fkh.binds (ps := ["self", "letter"]) fun _ _ _ _ _ _ us hl => match us, hl with | [_, _], _ => rfl
  have Dkh : DM K KC "handle" "Keeper.handle" sKHandle ["self", "letter"] fkh _ := ⟨Fkh, bkh, ⟨akh, ikh, kkh⟩⟩
  have Fkt := fun_mk (st := sKTake) lkt ckt kkt
  have bkt := Fkt.binds (ps := ["self", "known", "epoch", "place", "entry"]) fun _ _ _ _ _ _ us hl => match us, hl with | [_, _, _, _, _], _ => rfl
  have Dkt : DM K KC "take" "Keeper.take" sKTake ["self", "known", "epoch", "place", "entry"] fkt _ := ⟨Fkt, bkt, ⟨akt, ikt, kkt⟩⟩
  have Fkf := fun_mk (st := sKFlush) lkf ckf kkf
  have bkf := Fkf.binds (ps := ["self"]) fun _ _ _ _ _ _ us hl => match us, hl with | [_], _ => rfl
  have Dkf : DM K KC "flush" "Keeper.flush" sKFlush ["self"] fkf _ := ⟨Fkf, bkf, ⟨akf, ikf, kkf⟩⟩
  have Fkl := fun_mk (st := sKFall) lkl ckl kkl
  have bkl := Fkl.binds (ps := ["self", "many"]) fun _ _ _ _ _ _ us hl => match us, hl with | [_, _], _ => rfl
  have Dkl : DM K KC "fall" "Keeper.fall" sKFall ["self", "many"] fkl _ := ⟨Fkl, bkl, ⟨akl, ikl, kkl⟩⟩
  have Fsi := fun_mk (st := sSInit) lsi csi ksi
  have bsi := Fsi.binds (ps := ["self", "epoch", "many"]) fun _ _ _ _ _ _ us hl => match us, hl with | [_, _, _], _ => rfl
  have Dsi : DI K SC "Sequencer.__init__" sSInit ["self", "epoch", "many"] fsi _ := ⟨Fsi, bsi, ⟨mkS, asi, isi, kcS⟩⟩
  have Fss := fun_mk (st := sSSend) lss css kss
  have bss := Fss.binds (ps := ["self"]) fun _ _ _ _ _ _ us hl => match us, hl with | [_], _ => rfl
  have Dss : DM K SC "to_send" "Sequencer.to_send" sSSend ["self"] fss _ := ⟨Fss, bss, ⟨ass, iss, kss⟩⟩
  have Fsh := fun_mk (st := sSHear) lsh csh ksh
  have bsh := Fsh.binds (ps := ["self", "letter"]) fun _ _ _ _ _ _ us hl => match us, hl with | [_, _], _ => rfl
  have Dsh : DM K SC "hear" "Sequencer.hear" sSHear ["self", "letter"] fsh _ := ⟨Fsh, bsh, ⟨ash, ish, ksh⟩⟩
  have Fsd := fun_mk (st := sSAdd) lsd csd ksd
  have bsd := Fsd.binds (ps := ["self", "entry"]) fun _ _ _ _ _ _ us hl => match us, hl with | [_, _], _ => rfl
  have Dsd : DM K SC "add" "Sequencer.add" sSAdd ["self", "entry"] fsd _ := ⟨Fsd, bsd, ⟨asd, isd, ksd⟩⟩
  have Fst := fun_mk (st := sSSettled) lst cst kst
  have bst := Fst.binds (ps := ["self"]) fun _ _ _ _ _ _ us hl => match us, hl with | [_], _ => rfl
  have Dst : DM K SC "settled" "Sequencer.settled" sSSettled ["self"] fst _ := ⟨Fst, bst, ⟨ast, ist, kst⟩⟩
  have Fci := fun_mk (st := sCInit) lci cci kci
  have bci := Fci.binds (ps := ["self", "many"]) fun _ _ _ _ _ _ us hl => match us, hl with | [_, _], _ => rfl
  have Dci : DI K CC "Council.__init__" sCInit ["self", "many"] fci _ := ⟨Fci, bci, ⟨mkC, aci, ici, kcC⟩⟩
  have Fcb := fun_mk (st := sCBegin) lcb ccb kcb
  have bcb := Fcb.binds (ps := ["self", "epoch"]) fun _ _ _ _ _ _ us hl => match us, hl with | [_, _], _ => rfl
  have Dcb : DM K CC "begin" "Council.begin" sCBegin ["self", "epoch"] fcb _ := ⟨Fcb, bcb, ⟨acb, icb, kcb⟩⟩
  have Fcs := fun_mk (st := sCSend) lcs ccs kcs
  have bcs := Fcs.binds (ps := ["self", "number"]) fun _ _ _ _ _ _ us hl => match us, hl with | [_, _], _ => rfl
  have Dcs : DM K CC "send" "Council.send" sCSend ["self", "number"] fcs _ := ⟨Fcs, bcs, ⟨acs, ics, kcs⟩⟩
  have Fcd := fun_mk (st := sCDeliver) lcd ccd kcd
  have bcd := Fcd.binds (ps := ["self", "at", "is_kept"]) fun _ _ _ _ _ _ us hl => match us, hl with | [_, _, _], _ => rfl
  have Dcd : DM K CC "deliver" "Council.deliver" sCDeliver ["self", "at", "is_kept"] fcd _ := ⟨Fcd, bcd, ⟨acd, icd, kcd⟩⟩
  have Fcl := fun_mk (st := sCLose) lcl ccl kcl
  have bcl := Fcl.binds (ps := ["self", "at"]) fun _ _ _ _ _ _ us hl => match us, hl with | [_, _], _ => rfl
  have Dcl : DM K CC "lose" "Council.lose" sCLose ["self", "at"] fcl _ := ⟨Fcl, bcl, ⟨acl, icl, kcl⟩⟩
  have Fcf := fun_mk (st := sCFlush) lcf ccf kcf
  have bcf := Fcf.binds (ps := ["self", "number"]) fun _ _ _ _ _ _ us hl => match us, hl with | [_, _], _ => rfl
  have Dcf : DM K CC "flush" "Council.flush" sCFlush ["self", "number"] fcf _ := ⟨Fcf, bcf, ⟨acf, icf, kcf⟩⟩
  have Fcg := fun_mk (st := sCFall) lcg ccg kcg
  have bcg := Fcg.binds (ps := ["self", "number", "many"]) fun _ _ _ _ _ _ us hl => match us, hl with | [_, _, _], _ => rfl
  have Dcg : DM K CC "fall" "Council.fall" sCFall ["self", "number", "many"] fcg _ := ⟨Fcg, bcg, ⟨acg, icg, kcg⟩⟩
  have Fcp := fun_mk (st := sCStop) lcp ccp kcp
  have bcp := Fcp.binds (ps := ["self", "number"]) fun _ _ _ _ _ _ us hl => match us, hl with | [_, _], _ => rfl
  have Dcp : DM K CC "stop" "Council.stop" sCStop ["self", "number"] fcp _ := ⟨Fcp, bcp, ⟨acp, icp, kcp⟩⟩
  have Fcx := fun_mk (st := sCExch) lcx ccx kcx
  have bcx := Fcx.binds (ps := ["self", "number", "up"]) fun _ _ _ _ _ _ us hl => match us, hl with | [_, _, _], _ => rfl
  have Dcx : DM K CC "exchange" "Council.exchange" sCExch ["self", "number", "up"] fcx _ := ⟨Fcx, bcx, ⟨acx, icx, kcx⟩⟩
  have Fct := fun_mk (st := sCSettled) lct cct kct
  have bct := Fct.binds (ps := ["self"]) fun _ _ _ _ _ _ us hl => match us, hl with | [_], _ => rfl
  have Dct : DM K CC "settled" "Council.settled" sCSettled ["self"] fct _ := ⟨Fct, bct, ⟨act, ict, kct⟩⟩
  have Flw := fun_mk (st := sLaw) llw clw klw
  refine ⟨PySem.W.fnOf "law" "law" (defArgs sLaw) (defBody sLaw) (defScope sLaw) .none kVlw dclw pmlw anlw cdlw ctlw, fun s v => .of_eq rfl, fun base _ _ => ?_⟩
  have GH : FnOk l.prog w K mg base CX0 5 _ _ _ _ := ok_handle Fkh T Dkk Dkt Dri Drp Drf
  have GR : FnOk l.prog w K mg base CX0 2 _ _ _ _ := ok_hear Fsh T Dmo Dnw
  have GSA : FnOk l.prog w K mg base CX0 2 _ _ _ _ := ok_setAt Fsa T Dtk Dmo
  have GSR : FnOk l.prog w K mg base CX0 3 _ _ _ _ := ok_setRow Fsr T Dsa Dtk Dmo
  have GCI : FnOk l.prog w K mg base CX0 3 _ _ _ _ := ok_cinit (SC := SC) (CC := CC) Fci T Dki
  have GB : FnOk l.prog w K mg base CX0 3 _ _ _ _ := ok_cbegin Fcb T Dwh Dsi
  have GQ : FnOk l.prog w K mg base CX0 2 _ _ _ _ := ok_csend Fcs T Dss
  have GK : FnOk l.prog w K mg base CX0 2 _ _ _ _ := ok_close Fcl T Dwh
  have GL : FnOk l.prog w K mg base CX0 2 _ _ _ _ := ok_cflush Fcf T Dkf
  have GO : FnOk l.prog w K mg base CX0 3 _ _ _ _ := ok_cfall Fcg T Dkl Dwh
  have GP : FnOk l.prog w K mg base CX0 1 _ _ _ _ := ok_cstop Fcp T
  have GE : FnOk l.prog w K mg base CX0 4 _ _ _ _ := ok_csettled Fct T Dsr GSR
  have GV : FnOk l.prog w K mg base CX0 6 _ _ _ _ := ok_cdeliver Fcd T Dwh Dkh GH Dsh GR
  have GX : FnOk l.prog w K mg base CX0 6 _ _ _ _ := ok_cexch Fcx T Dss Dkh GH Dkf Dsh GR
  have GA : FnOk l.prog w K mg base CX0 1 _ _ _ _ := ok_sadd Fsd T
  have GSS : FnOk l.prog w K mg base CX0 2 _ _ _ _ := ok_ssettled Fst T Dmo
  have GT : FnOk l.prog w K mg base CX0 2 _ _ _ _ := ok_draw Flt T Dnu
  have GI : FnOk l.prog w K mg base CX0 3 _ _ _ _ := ok_pick Flp T Dlt GT
  have GM : FnOk l.prog w K mg base CX0 3 _ _ _ _ := ok_some Flo T Dlt GT
  have GD : FnOk l.prog w K mg base CX0 7 _ _ _ _ := ok_rounds Flr T Dlp GI Dlt GT Dlo GM Dci GCI Dcb GB Dcx GX Dsd GA Dct GE Dsa GSA
  have GW : FnOk l.prog w K mg base CX0 7 _ _ _ _ := ok_step Fls T Dlp GI Dlt GT Dcb GB Dcx GX Dsd GA Dcp GP Dcs GQ Dcf GL Dcg GO Dcl GK Dcd GV
  exact ok_law Flw T Dlr GD Dlt GT Dci GCI Dls GW Dct GE Dsa GSA Dst GSS
theorem walk {l : PySem.W.OpenLaw} {q : Program} {loose : List Str} {XP : (Str → Option Value) → Heap → Prop} {YP : World → Heap → Prop} {d : DefRec} {K : Params → PySem.W.Frag} (hn : l.most = some 63) (hdf : d.params.defaults = [])
    (hY : ∀ (w : World) (h : Heap), YP w h → (K w.params).In h)
    (F : ∀ (w : World) (mg : Str → Option Value) (fa : Addr) (h : Heap), (K w.params).In h → h.Ns mainGlobals mg → mg d.name = some (.ref fa) →
      ∃ fd : FuncData, (∀ (s : Shared) (u : Value), BindsTo s fd ⟨[u], []⟩ [("_law_script", u)]) ∧ ∀ base : Heap, (K w.params).In base → base.Ns mainGlobals mg → FnOk l.prog w (K w.params) mg base CX0 8 fa fd ["_law_script"] (spLaw (K w.params))) :
    PySem.W.WalkO q loose XP YP l.row.toRowW d [] (fun f vs => PySem.call f vs) :=
  L2.walk_of (n := 63) (k := 8) (x := "_law_script") (CX := fun _ => CX0) (sp := fun w => spLaw (K w.params)) hn (by decide) hdf ⟨rfl, by decide, by decide⟩ hY F (fun _ _ a ns hl _ hS => ⟨a, ns, rfl, hS, hl, fun _ => rfl⟩) fun _ _ _ _ _ z => z
end K40
open PySem PySem.W PyProof.Rows
set_option maxRecDepth 100000 in
set_option maxHeartbeats 0 in
theorem PySem.Challenge.cw_mastcalls_k40_whole_council_holds : PySem.Challenge.rw_mastcalls_k40_whole_council.Holds := by
  w_on; o_law; k_head; (case hw => w_witness2)
  k_fill
  refine K40.walk (l := PySem.Challenge.rw_mastcalls_k40_whole_council) rfl rfl (fun w h Y => PySem.W.kIn_of Y) ?F
  case F =>
    intro w mg fa h KX G hmg
    refine' K40.all_mk KX G hmg ?nR ?pgR ?hdR ?poR ?saR ?mkR ?kcR ?atR_epoch ?atR_row ?nK ?pgK ?hdK ?poK ?saK ?mkK ?kcK ?atK_number ?atK_records ?atK_loose ?atK_waiting ?nS ?pgS ?hdS ?poS ?saS ?mkS ?kcS ?atS_epoch ?atS_many ?atS_stand ?atS_rows ?atS_row ?atS_taken ?nC ?pgC ?hdC ?poC ?saC ?mkC ?kcC ?atC_keepers ?atC_sequencers ?atC_letters ?awh ?lwh ?cwh ?kwh ?amo ?lmo ?cmo ?kmo ?atk ?ltk ?ctk ?ktk ?asa ?lsa ?csa ?ksa ?asr ?lsr ?csr ?ksr ?anw ?lnw ?cnw ?knw ?anu ?lnu ?cnu ?knu ?alt ?llt ?clt ?klt ?alp ?llp ?clp ?klp ?als ?lls ?cls ?kls ?alo ?llo ?clo ?klo ?alr ?llr ?clr ?klr ?ari ?iri ?lri ?cri ?kri ?arp ?irp ?lrp ?crp ?krp ?arf ?irf ?lrf ?crf ?krf ?aki ?iki ?lki ?cki ?kki ?akk ?ikk ?lkk ?ckk ?kkk ?akh ?ikh ?lkh ?ckh ?kkh ?akt ?ikt ?lkt ?ckt ?kkt ?akf ?ikf ?lkf ?ckf ?kkf ?akl ?ikl ?lkl ?ckl ?kkl ?asi ?isi ?lsi ?csi ?ksi ?ass ?iss ?lss ?css ?kss ?ash ?ish ?lsh ?csh ?ksh ?asd ?isd ?lsd ?csd ?ksd ?ast ?ist ?lst ?cst ?kst ?aci ?ici ?lci ?cci ?kci ?acb ?icb ?lcb ?ccb ?kcb ?acs ?ics ?lcs ?ccs ?kcs ?acd ?icd ?lcd ?ccd ?kcd ?acl ?icl ?lcl ?ccl ?kcl ?acf ?icf ?lcf ?ccf ?kcf ?acg ?icg ?lcg ?ccg ?kcg ?acp ?icp ?lcp ?ccp ?kcp ?acx ?icx ?lcx ?ccx ?kcx ?act ?ict ?lct ?cct ?kct ?alw ?llw ?clw ?klw ?z_len ?z_max ?z_isinstance ?z_int ?z_bool ?z_tuple ?z_list ?z_sorted ?z_range ?z_all ?z_any ?z_str ?z_abs ?q0 ?q1 ?q2 ?q3
    (case nR => k_is)
    (case pgR => k_is)
    (case hdR => k_is)
    (case poR => k_is)
    (case saR => k_is)
    (case mkR => k_is)
    (case kcR => k_is)
    (case atR_epoch => k_is)
    (case atR_row => k_is)
    (case nK => k_is)
    (case pgK => k_is)
    (case hdK => k_is)
    (case poK => k_is)
    (case saK => k_is)
    (case mkK => k_is)
    (case kcK => k_is)
    (case atK_number => k_is)
    (case atK_records => k_is)
    (case atK_loose => k_is)
    (case atK_waiting => k_is)
    (case nS => k_is)
    (case pgS => k_is)
    (case hdS => k_is)
    (case poS => k_is)
    (case saS => k_is)
    (case mkS => k_is)
    (case kcS => k_is)
    (case atS_epoch => k_is)
    (case atS_many => k_is)
    (case atS_stand => k_is)
    (case atS_rows => k_is)
    (case atS_row => k_is)
    (case atS_taken => k_is)
    (case nC => k_is)
    (case pgC => k_is)
    (case hdC => k_is)
    (case poC => k_is)
    (case saC => k_is)
    (case mkC => k_is)
    (case kcC => k_is)
    (case atC_keepers => k_is)
    (case atC_sequencers => k_is)
    (case atC_letters => k_is)
    (case awh => k_is)
    (case lwh => k_is)
    (case cwh => k_is)
    (case kwh => k_is)
    (case amo => k_is)
    (case lmo => k_is)
    (case cmo => k_is)
    (case kmo => k_is)
    (case atk => k_is)
    (case ltk => k_is)
    (case ctk => k_is)
    (case ktk => k_is)
    (case asa => k_is)
    (case lsa => k_is)
    (case csa => k_is)
    (case ksa => k_is)
    (case asr => k_is)
    (case lsr => k_is)
    (case csr => k_is)
    (case ksr => k_is)
    (case anw => k_is)
    (case lnw => k_is)
    (case cnw => k_is)
    (case knw => k_is)
    (case anu => k_is)
    (case lnu => k_is)
    (case cnu => k_is)
    (case knu => k_is)
    (case alt => k_is)
    (case llt => k_is)
    (case clt => k_is)
    (case klt => k_is)
    (case alp => k_is)
    (case llp => k_is)
    (case clp => k_is)
    (case klp => k_is)
    (case als => k_is)
    (case lls => k_is)
    (case cls => k_is)
    (case kls => k_is)
    (case alo => k_is)
    (case llo => k_is)
    (case clo => k_is)
    (case klo => k_is)
    (case alr => k_is)
    (case llr => k_is)
    (case clr => k_is)
    (case klr => k_is)
    (case ari => k_is)
    (case iri => k_is)
    (case lri => k_is)
    (case cri => k_is)
    (case kri => k_is)
    (case arp => k_is)
    (case irp => k_is)
    (case lrp => k_is)
    (case crp => k_is)
    (case krp => k_is)
    (case arf => k_is)
    (case irf => k_is)
    (case lrf => k_is)
    (case crf => k_is)
    (case krf => k_is)
    (case aki => k_is)
    (case iki => k_is)
    (case lki => k_is)
    (case cki => k_is)
    (case kki => k_is)
    (case akk => k_is)
    (case ikk => k_is)
    (case lkk => k_is)
    (case ckk => k_is)
    (case kkk => k_is)
    (case akh => k_is)
    (case ikh => k_is)
    (case lkh => k_is)
    (case ckh => k_is)
    (case kkh => k_is)
    (case akt => k_is)
    (case ikt => k_is)
    (case lkt => k_is)
    (case ckt => k_is)
    (case kkt => k_is)
    (case akf => k_is)
    (case ikf => k_is)
    (case lkf => k_is)
    (case ckf => k_is)
    (case kkf => k_is)
    (case akl => k_is)
    (case ikl => k_is)
    (case lkl => k_is)
    (case ckl => k_is)
    (case kkl => k_is)
    (case asi => k_is)
    (case isi => k_is)
    (case lsi => k_is)
    (case csi => k_is)
    (case ksi => k_is)
    (case ass => k_is)
    (case iss => k_is)
    (case lss => k_is)
    (case css => k_is)
    (case kss => k_is)
    (case ash => k_is)
    (case ish => k_is)
    (case lsh => k_is)
    (case csh => k_is)
    (case ksh => k_is)
    (case asd => k_is)
    (case isd => k_is)
    (case lsd => k_is)
    (case csd => k_is)
    (case ksd => k_is)
    (case ast => k_is)
    (case ist => k_is)
    (case lst => k_is)
    (case cst => k_is)
    (case kst => k_is)
    (case aci => k_is)
    (case ici => k_is)
    (case lci => k_is)
    (case cci => k_is)
    (case kci => k_is)
    (case acb => k_is)
    (case icb => k_is)
    (case lcb => k_is)
    (case ccb => k_is)
    (case kcb => k_is)
    (case acs => k_is)
    (case ics => k_is)
    (case lcs => k_is)
    (case ccs => k_is)
    (case kcs => k_is)
    (case acd => k_is)
    (case icd => k_is)
    (case lcd => k_is)
    (case ccd => k_is)
    (case kcd => k_is)
    (case acl => k_is)
    (case icl => k_is)
    (case lcl => k_is)
    (case ccl => k_is)
    (case kcl => k_is)
    (case acf => k_is)
    (case icf => k_is)
    (case lcf => k_is)
    (case ccf => k_is)
    (case kcf => k_is)
    (case acg => k_is)
    (case icg => k_is)
    (case lcg => k_is)
    (case ccg => k_is)
    (case kcg => k_is)
    (case acp => k_is)
    (case icp => k_is)
    (case lcp => k_is)
    (case ccp => k_is)
    (case kcp => k_is)
    (case acx => k_is)
    (case icx => k_is)
    (case lcx => k_is)
    (case ccx => k_is)
    (case kcx => k_is)
    (case act => k_is)
    (case ict => k_is)
    (case lct => k_is)
    (case cct => k_is)
    (case kct => k_is)
    (case alw => k_is)
    (case llw => k_is)
    (case clw => k_is)
    (case klw => k_is)
    (case z_len => k_is)
    (case z_max => k_is)
    (case z_isinstance => k_is)
    (case z_int => k_is)
    (case z_bool => k_is)
    (case z_tuple => k_is)
    (case z_list => k_is)
    (case z_sorted => k_is)
    (case z_range => k_is)
    (case z_all => k_is)
    (case z_any => k_is)
    (case z_str => k_is)
    (case z_abs => k_is)
    (case q0 => k_is)
    (case q1 => k_is)
    (case q2 => k_is)
    (case q3 => k_is)
