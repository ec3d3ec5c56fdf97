import Derived.Test.YtlllcknpdpjbpaaGreatDoorFrB
namespace Go.Proofs.Sh
open Go Go.RowKit

section
variable {call : Nat → Nat → List DV → DH → Option (DV × DH)} {quiet : Nat → Bool} {m : Nat}

/-- The walk of the text, step by step. -/
structure Trace (call : Nat → Nat → List DV → DH → Option (DV × DH)) (quiet : Nat → Bool) (m : Nat) (ds : List DOp) (Fs : Nat → DF) (Hs : Nat → DH) (vs : Nat → DV) (gs : Nat → Bool) (ft : Nat → Bool × Option (List Nat)) : Prop where
  step : ∀ i dd, ds[i]? = some dd → Fs (i + 1) = (Fs i).put dd.d (vs i) ∧ gdv (Fs i) dd.g = some (gs i) ∧
    (gs i = true → dop call m (Fs i) (Hs i) dd.o = some (vs i, Hs (i + 1))) ∧ (gs i = false → vs i = DV.undef ∧ Hs (i + 1) = Hs i) ∧
    ft i = if gs i = true then dd.o.foot quiet (Fs i) (Hs i) else (false, some [])

theorem dops_C : ∀ (ds : List DOp) (F F' : DF) (H H' : DH), dops call m ds F H = some (F', H') → ∃ feet, dopsC call quiet m ds F H = some (F', H', feet)
  | [], F, F', H, H', h => by
    simp only [dops] at h; injection h with h; injection h with e1 e2; subst e1 e2
    exact ⟨[], rfl⟩
  | dd :: ds, F, F', H, H', h => by
    simp only [dops] at h
    split at h
    · cases h
    · rename_i hg
      obtain ⟨feet, hf⟩ := dops_C ds _ _ _ _ h
      exact ⟨_, by simp only [dopsC, hg, hf]; rfl⟩
    · rename_i hg
      split at h
      · rename_i v H1 hd
        obtain ⟨feet, hf⟩ := dops_C ds _ _ _ _ h
        exact ⟨_, by simp only [dopsC, hg, hd, hf]; rfl⟩
      · cases h

theorem dopsC_trace : ∀ (ds : List DOp) (F F' : DF) (H H' : DH) (feet : List (Bool × Option (List Nat))), dopsC call quiet m ds F H = some (F', H', feet) →
    ∃ Fs Hs vs gs ft, Fs 0 = F ∧ Hs 0 = H ∧ Fs ds.length = F' ∧ Hs ds.length = H' ∧ (∀ i, i < ds.length → feet[i]? = some (ft i)) ∧ Trace call quiet m ds Fs Hs vs gs ft
  | [], F, F', H, H', feet, h => by
    simp only [dopsC] at h; injection h with h; injection h with e1 h; injection h with e2 e3; subst e1 e2
    exact ⟨fun _ => F, fun _ => H, fun _ => DV.undef, fun _ => true, fun _ => (false, none), rfl, rfl, rfl, rfl, fun i hi => by simp at hi, ⟨fun i dd hd => by simp at hd⟩⟩
  | dd :: ds, F, F', H, H', feet, h => by
    simp only [dopsC] at h
    have build : ∀ (v : DV) (g : Bool) (H1 : DH) (x : Bool × Option (List Nat)) (l : List (Bool × Option (List Nat))), gdv F dd.g = some g → (g = true → dop call m F H dd.o = some (v, H1)) → (g = false → v = DV.undef ∧ H1 = H) → (x = if g = true then dd.o.foot quiet F H else (false, some [])) → feet = x :: l → dopsC call quiet m ds (F.put dd.d v) H1 = some (F', H', l) →
        ∃ Fs Hs vs gs ft, Fs 0 = F ∧ Hs 0 = H ∧ Fs (dd :: ds).length = F' ∧ Hs (dd :: ds).length = H' ∧ (∀ i, i < (dd :: ds).length → feet[i]? = some (ft i)) ∧ Trace call quiet m (dd :: ds) Fs Hs vs gs ft := by
      intro v g H1 x l hg h1 h2 hx hl hrest
      obtain ⟨Fs, Hs, vs, gs, ft, a1, a2, a3, a4, a5, tr⟩ := dopsC_trace ds _ _ _ _ _ hrest
      refine ⟨fun i => match i with | 0 => F | i + 1 => Fs i, fun i => match i with | 0 => H | i + 1 => Hs i, fun i => match i with | 0 => v | i + 1 => vs i, fun i => match i with | 0 => g | i + 1 => gs i, fun i => match i with | 0 => x | i + 1 => ft i, rfl, rfl, a3, a4, fun i hi => ?_, ⟨fun i dd' hd => ?_⟩⟩
      · rw [hl]
        cases i with
        | zero => rfl
        | succ i => simp at hi; simpa using a5 i hi
      · cases i with
        | zero =>
          simp at hd; subst hd
          simp only
          exact ⟨a1, hg, fun hgt => by rw [a2]; exact h1 hgt, fun hgf => ⟨(h2 hgf).1, by rw [a2]; exact (h2 hgf).2⟩, hx⟩
        | succ i =>
          simp at hd
          exact tr.step i dd' hd
    split at h
    · cases h
    · rename_i hg
      split at h
      · rename_i F1 H1 l hr
        injection h with h; injection h with e1 h; injection h with e2 e3; subst e1 e2
        exact build DV.undef false H _ l hg (fun e => by cases e) (fun _ => ⟨rfl, rfl⟩) rfl e3.symm hr
      · cases h
    · rename_i hg
      split at h
      · rename_i v H1 hd
        split at h
        · rename_i F1 H2 l hr
          injection h with h; injection h with e1 h; injection h with e2 e3; subst e1 e2
          exact build v true H1 _ l hg (fun _ => hd) (fun e => by cases e) rfl e3.symm hr
        · cases h
      · cases h

end

section
variable {P : Program} {m g nt : Nat} {call : Nat → Nat → List DV → DH → Option (DV × DH)} {quiet : Nat → Bool}

/-- All that a region which draws its order is known by. -/
structure Reg (P : Program) (nt : Nat) (call : Nat → Nat → List DV → DH → Option (DV × DH)) (quiet : Nat → Bool) (m : Nat) (ops : Array Oper) (ds : List DOp) (Fs : Nat → DF) (Hs : Nat → DH) (vs : Nat → DV) (gs : Nat → Bool) (ft : Nat → Bool × Option (List Nat)) : Prop where
  len : ds.length = ops.size
  comp : ∀ (i : Nat) (o : Oper), ops[i]? = some o → ∃ dd, ds[i]? = some dd ∧ cOper P nt ops o = some dd
  tr : Trace call quiet m ds Fs Hs vs gs ft
  edges : edgesOk ops.toList = true
  tmps : tmpsOk ds (befL ops.toList []) = true
  chk : ∀ i j, i < j → looseAt ds (befL ops.toList []) i j = true → pairOk (ft i) (ft j) = true
  cs : CallSound P call
  cw : CallWF call
  cq : CallQuiet call quiet
  wf : WFH (Hs 0) ∧ WFF (Hs 0).length (Fs 0)

variable {ops : Array Oper} {ds : List DOp} {Fs : Nat → DF} {Hs : Nat → DH} {vs : Nat → DV} {gs : Nat → Bool} {ft : Nat → Bool × Option (List Nat)}

def inS (b : Nat) : Option (List Nat) → Prop
  | none => True
  | some S => b ∈ S

/-- operation j writes block b -/
def wrt (Hs : Nat → DH) (ft : Nat → Bool × Option (List Nat)) (j b : Nat) : Prop := (ft j).1 = true ∧ b < (Hs j).length ∧ inS b (ft j).2

theorem cOper_parts {o : Oper} {dd : DOp} (h : cOper P nt ops o = some dd) : (dd.o = .stuck ∨ cOp P o.op = some dd.o) ∧ dd.d = o.dst ∧ (∀ t, o.dst = some t → t < nt) ∧ dd.o.closed = true := by
  unfold cOper at h
  split at h
  case isFalse => cases h
  case isTrue hdst =>
    have hlt : ∀ t, o.dst = some t → t < nt := by
      intro t ht; rw [ht] at hdst; simpa [dstOk] using hdst
    simp only at h
    have key : ∀ d', d' = (match cOp P o.op with | some d => if d.closed = true then d else .stuck | none => .stuck) → (d' = DO.stuck ∨ cOp P o.op = some d') ∧ d'.closed = true := by
      intro d' hd'
      split at hd'
      · rename_i d2 h2
        split at hd'
        · rename_i hcl; subst hd'; exact ⟨.inr h2, hcl⟩
        · subst hd'; exact ⟨.inl rfl, rfl⟩
      · subst hd'; exact ⟨.inl rfl, rfl⟩
    obtain ⟨hor, hcl⟩ := key _ rfl
    split at h
    · injection h with h; subst h; exact ⟨hor, rfl, hlt, hcl⟩
    · split at h
      case h_2 => cases h
      case h_1 t ht =>
        split at h
        · injection h with h; subst h; exact ⟨hor, rfl, hlt, hcl⟩
        · cases h

theorem Reg.op (R : Reg P nt call quiet m ops ds Fs Hs vs gs ft) {i : Nat} {dd : DOp} (h : ds[i]? = some dd) : ∃ o, ops[i]? = some o ∧ cOper P nt ops o = some dd := by
  have hi : i < ops.size := by rw [← R.len]; exact (List.getElem?_eq_some_iff.1 h).1
  obtain ⟨dd', h1, h2⟩ := R.comp i ops[i] (Array.getElem?_eq_getElem hi)
  rw [h] at h1; injection h1 with h1; subst h1
  exact ⟨_, Array.getElem?_eq_getElem hi, h2⟩

theorem Reg.wfs (R : Reg P nt call quiet m ops ds Fs Hs vs gs ft) : ∀ i, i ≤ ds.length → WFH (Hs i) ∧ WFF (Hs i).length (Fs i)
  | 0, _ => R.wf
  | i + 1, hi => by
    obtain ⟨w1, w2⟩ := R.wfs i (by omega)
    obtain ⟨dd, hdd⟩ : ∃ dd, ds[i]? = some dd := ⟨_, List.getElem?_eq_getElem (by omega)⟩
    obtain ⟨o, ho, hc⟩ := R.op hdd
    obtain ⟨s1, s2, s3, s4, _⟩ := R.tr.step i dd hdd
    rw [s1]
    cases hg : gs i with
    | true =>
      obtain ⟨x1, x2, x3⟩ := dop_wf R.cw (cOper_parts hc).2.2.2 w2 w1 (s3 hg)
      exact ⟨x1, (w2.mono x3).put x2⟩
    | false =>
      obtain ⟨x1, x2⟩ := s4 hg
      rw [x2, x1]
      exact ⟨w1, w2.put (by simp [DV.undef, DV.lt, DV.lts])⟩

theorem Reg.grow (R : Reg P nt call quiet m ops ds Fs Hs vs gs ft) {i : Nat} (hi : i < ds.length) : (Hs i).length ≤ (Hs (i + 1)).length := by
  obtain ⟨dd, hdd⟩ : ∃ dd, ds[i]? = some dd := ⟨_, List.getElem?_eq_getElem hi⟩
  obtain ⟨o, ho, hc⟩ := R.op hdd
  obtain ⟨s1, s2, s3, s4, _⟩ := R.tr.step i dd hdd
  obtain ⟨w1, w2⟩ := R.wfs i (by omega)
  cases hg : gs i with
  | false => rw [(s4 hg).2]; exact Nat.le_refl _
  | true => exact (dop_wf R.cw (cOper_parts hc).2.2.2 w2 w1 (s3 hg)).2.2

theorem Reg.growTo (R : Reg P nt call quiet m ops ds Fs Hs vs gs ft) {i : Nat} : ∀ (k : Nat), i + k ≤ ds.length → (Hs i).length ≤ (Hs (i + k)).length
  | 0, _ => Nat.le_refl _
  | k + 1, h => Nat.le_trans (R.growTo k (by omega)) (R.grow (i := i + k) (by omega))

theorem Reg.lenLe (R : Reg P nt call quiet m ops ds Fs Hs vs gs ft) {i j : Nat} (h : i ≤ j) (hj : j ≤ ds.length) : (Hs i).length ≤ (Hs j).length := by
  have := R.growTo (i := i) (j - i) (by omega)
  rwa [show i + (j - i) = j from by omega] at this

/-- where nothing is written, a block stays -/
theorem Reg.stays (R : Reg P nt call quiet m ops ds Fs Hs vs gs ft) {i : Nat} {b : Nat} (hb : b < (Hs i).length) : ∀ (k : Nat), i + k ≤ ds.length → (∀ j, i ≤ j → j < i + k → ¬ wrt Hs ft j b) → (Hs (i + k))[b]? = (Hs i)[b]?
  | 0, _, _ => rfl
  | k + 1, h, hn => by
    have ih := R.stays hb k (by omega) (fun j h1 h2 => hn j h1 (by omega))
    have hbk : b < (Hs (i + k)).length := Nat.lt_of_lt_of_le hb (R.growTo k (by omega))
    have hno := hn (i + k) (by omega) (by omega)
    obtain ⟨dd, hdd⟩ : ∃ dd, ds[i + k]? = some dd := ⟨_, List.getElem?_eq_getElem (by omega)⟩
    obtain ⟨_, _, s3, s4, s5⟩ := R.tr.step (i + k) dd hdd
    rw [← ih, show i + (k + 1) = (i + k) + 1 from by omega]
    cases hg : gs (i + k) with
    | false => rw [(s4 hg).2]
    | true =>
      rw [if_pos hg] at s5
      cases hw : (ft (i + k)).1 with
      | false =>
        obtain ⟨⟨L, hL⟩, _⟩ := dop_calm R.cq (by rw [← s5]; exact hw) (s3 hg)
        rw [hL, List.getElem?_append_left hbk]
      | true =>
        cases hS : (ft (i + k)).2 with
        | none => exact absurd ⟨hw, hbk, by rw [hS]; trivial⟩ hno
        | some S =>
          refine dop_frame R.cq (S := S) (by rw [← s5]; exact hS) (s3 hg) hbk fun hm => hno ⟨hw, hbk, by rw [hS]; exact hm⟩

theorem Reg.stays' (R : Reg P nt call quiet m ops ds Fs Hs vs gs ft) {i j b : Nat} (hij : i ≤ j) (hj : j ≤ ds.length) (hb : b < (Hs i).length) (hn : ∀ k, i ≤ k → k < j → ¬ wrt Hs ft k b) : (Hs j)[b]? = (Hs i)[b]? := by
  have := R.stays hb (j - i) (by omega) (fun k h1 h2 => hn k h1 (by omega))
  rwa [show i + (j - i) = j from by omega] at this

/-- the operation that makes a block -/
theorem Reg.birth (R : Reg P nt call quiet m ops ds Fs Hs vs gs ft) {b : Nat} : ∀ (k j : Nat), j + k ≤ ds.length → (Hs j).length ≤ b → b < (Hs (j + k)).length → ∃ i, j ≤ i ∧ i < j + k ∧ (Hs i).length ≤ b ∧ b < (Hs (i + 1)).length
  | 0, j, _, h1, h2 => by simp at h2; omega
  | k + 1, j, hk, h1, h2 => by
    by_cases hb : b < (Hs (j + k)).length
    · obtain ⟨i, i1, i2, i3⟩ := R.birth k j (by omega) h1 hb
      exact ⟨i, i1, by omega, i3⟩
    · exact ⟨j + k, by omega, by omega, by omega, by rw [show j + k + 1 = j + (k + 1) from by omega]; exact h2⟩

/-! ### What the region's state is, when some have been carried out -/

/-- what lies in a block, when the operations of L have been carried out -/
def NowL (n : Nat) (Hs : Nat → DH) (ft : Nat → Bool × Option (List Nat)) (L : Nat → Prop) (b : Nat) (x : Blk) : Prop :=
  ∃ k, k ≤ n ∧ (Hs k)[b]? = some x ∧ ∀ j, j < n → wrt Hs ft j b → (j < k ↔ L j)

/-- what a slot holds -/
def Cur (ds : List DOp) (F0 : DF) (vs : Nat → DV) (L : Nat → Prop) (t : Nat) (v : DV) : Prop :=
  (∃ j dd, ds[j]? = some dd ∧ L j ∧ dd.d = some t ∧ v = vs j ∧ ∀ j' dd', ds[j']? = some dd' → j < j' → dd'.d = some t → ¬ L j') ∨
  ((∀ j dd, ds[j]? = some dd → dd.d = some t → ¬ L j) ∧ F0.get t = some v)

structure Inv (P : Program) (g nt m : Nat) (μ1 : LMap) (W0 : World) (ds : List DOp) (Hs : Nat → DH) (F0 : DF) (vs : Nat → DV) (ft : Nat → Bool × Option (List Nat)) (L : Nat → Prop) (a : Act) (W : World) (μ : LMap) : Prop where
  old : ∀ b, b < (Hs 0).length → μ b = μ1 b
  dom : ∀ b p, μ b = some p → b < (Hs 0).length ∨ ∃ i, i < ds.length ∧ L i ∧ (Hs i).length ≤ b ∧ b < (Hs (i + 1)).length
  rel : RelG m μ (NowL ds.length Hs ft L) W
  tmp : ∀ t v, Cur ds F0 vs L t v → VR μ v (a.tmps.getD t undef) ∧ t < nt
  size : a.tmps.size = nt
  kept : Kept m μ1 (Hs 0) W0 W
  fresh : ∀ (b : Nat) (x : Blk) (p : Loc), NowL ds.length Hs ft L b x → x ≠ .gone → μ b = some p →
    W0.heap.size ≤ p.blk ∨ ∃ (b0 : Nat) (x0 : Blk) (p0 : Loc), (m ≤ b → m ≤ b0) ∧ (Hs 0)[b0]? = some x0 ∧ x0 ≠ .gone ∧ μ1 b0 = some p0 ∧ p0.blk = p.blk
  dfr : a.defers = []
  fm : ∀ j b S, L j → j < ds.length → (ft j).2 = some S → b ∈ S → ∃ p, μ b = some p

end
end Go.Proofs.Sh

namespace Go.Proofs.Sh
open Go Go.RowKit

section
variable {P : Program} {m g nt : Nat} {μ0 μ1 μ : LMap} {W0 W : World} {call : Nat → Nat → List DV → DH → Option (DV × DH)} {quiet : Nat → Bool}
variable {ops : Array Oper} {ds : List DOp} {Fs : Nat → DF} {Hs : Nat → DH} {vs : Nat → DV} {gs : Nat → Bool} {ft : Nat → Bool × Option (List Nat)} {L : Nat → Prop} {a : Act} {Q : Exit → Act → World → Prop}

/-- listed behind all that it waits for -/
def Closed (ops : Array Oper) (L : Nat → Prop) : Prop := ∀ (k : Nat) (o : Oper), L k → ops[k]? = some o → ∀ e ∈ o.after, Region.binds .any e = true → L e.on

theorem Reg.waits (R : Reg P nt call quiet m ops ds Fs Hs vs gs ft) (hC : Closed ops L) {j : Nat} {o : Oper} (ho : ops[j]? = some o) (hd : ∀ e ∈ o.after, Region.binds .any e = true → L e.on) {i : Nat} (hb : ((befL ops.toList []).getD j 0).testBit i = true) : L i :=
  Sh.waits R.edges (fun k o hk h => hC k o hk (by simpa using h)) j o (by simpa using ho) hd i hb

theorem Reg.tmps_ij (R : Reg P nt call quiet m ops ds Fs Hs vs gs ft) {i j : Nat} {x y : DOp} (hij : i < j) (hx : ds[i]? = some x) (hy : ds[j]? = some y) {t : Nat}
    (h : (x.d = some t ∧ (y.d = some t ∨ t ∈ y.looks)) ∨ (y.d = some t ∧ t ∈ x.looks)) : ((befL ops.toList []).getD j 0).testBit i = true := by
  have hT := R.tmps
  unfold tmpsOk at hT
  rw [List.all_eq_true] at hT
  have hj : j < ds.length := (List.getElem?_eq_some_iff.1 hy).1
  have h1 := hT j (by simpa using hj)
  rw [List.all_eq_true] at h1
  have h2 := h1 i (by simpa using hij)
  rw [hx, hy] at h2
  simp only [Bool.or_eq_true, Bool.and_eq_true] at h2
  rcases h2 with ⟨h3, h4⟩ | h2
  · exfalso
    rcases h with ⟨e1, e2⟩ | ⟨e1, e2⟩
    · rw [e1] at h3
      simp only [Bool.not_eq_true', Bool.or_eq_false_iff] at h3
      rcases e2 with e2 | e2
      · rw [e2] at h3; simp at h3
      · have := h3.2; simp [e2] at this
    · rw [e1] at h4
      simp [e2] at h4
  · exact h2

theorem looseAt_bit {b : List Nat} {i j : Nat} {x y : DOp} (hx : ds[i]? = some x) (hy : ds[j]? = some y) (hl : loose x.o y.o = true) (h : looseAt ds b i j = false) : (b.getD j 0).testBit i = true := by
  unfold looseAt at h
  rw [hx, hy] at h
  simp only [hl, Bool.true_and, Bool.not_eq_false'] at h
  exact h

/-- what may clash, and does, is bound by an order -/
theorem Reg.bound (R : Reg P nt call quiet m ops ds Fs Hs vs gs ft) {i j : Nat} {x y : DOp} (hij : i < j) (hx : ds[i]? = some x) (hy : ds[j]? = some y) (hl : loose x.o y.o = true) (hp : pairOk (ft i) (ft j) = false) : ((befL ops.toList []).getD j 0).testBit i = true := by
  refine looseAt_bit hx hy hl ?_
  cases h : looseAt ds (befL ops.toList []) i j with
  | false => rfl
  | true => rw [R.chk i j hij h] at hp; cases hp

theorem pairOk_no {x y : Bool × Option (List Nat)} {b : Nat} (hw : x.1 = true ∨ y.1 = true) (hx : inS b x.2) (hy : inS b y.2) : pairOk x y = false := by
  obtain ⟨w, S⟩ := x
  obtain ⟨w', T⟩ := y
  have hn : (!w && !w') = false := by
    rcases hw with h | h <;> simp only at h <;> subst h <;> simp
  cases S with
  | none => simp only [pairOk, hn]
  | some S =>
    cases T with
    | none => simp only [pairOk, hn]
    | some T =>
      simp only [pairOk, hn, Bool.false_or]
      simp only [inS] at hx hy
      unfold apartL
      rw [List.all_eq_false]
      exact ⟨b, hx, by simp [hy]⟩

theorem Reg.ftIs (R : Reg P nt call quiet m ops ds Fs Hs vs gs ft) {i : Nat} {x : DOp} (hx : ds[i]? = some x) : (gs i = true ∧ ft i = x.o.foot quiet (Fs i) (Hs i)) ∨ (gs i = false ∧ ft i = (false, some [])) := by
  have := (R.tr.step i x hx).2.2.2.2
  cases hg : gs i with
  | true => rw [if_pos hg] at this; exact .inl ⟨rfl, this⟩
  | false => rw [if_neg (by simp [hg])] at this; exact .inr ⟨rfl, this⟩

theorem Reg.touch2 (R : Reg P nt call quiet m ops ds Fs Hs vs gs ft) {i : Nat} {x : DOp} (hx : ds[i]? = some x) (hw : (ft i).1 = true) : x.o.touch = 2 ∧ gs i = true := by
  rcases R.ftIs hx with ⟨hg, h⟩ | ⟨_, h⟩
  · refine ⟨?_, hg⟩
    rw [h] at hw
    rcases (by cases x.o <;> simp [DO.touch] : x.o.touch = 0 ∨ x.o.touch = 1 ∨ x.o.touch = 2) with h0 | h1 | h2
    · rw [foot_touch0 h0] at hw; cases hw
    · rw [foot_touch1 h1] at hw; cases hw
    · exact h2
  · rw [h] at hw; cases hw

theorem Reg.touches (R : Reg P nt call quiet m ops ds Fs Hs vs gs ft) {i : Nat} {x : DOp} (hx : ds[i]? = some x) {b : Nat} (hb : inS b (ft i).2) : x.o.touch ≠ 0 := by
  intro h0
  rcases R.ftIs hx with ⟨hg, h⟩ | ⟨_, h⟩
  · rw [h, foot_touch0 h0] at hb; simp [inS] at hb
  · rw [h] at hb; simp [inS] at hb

/-- a block that the earlier one writes, and the later one looks into -/
theorem Reg.bound_w (R : Reg P nt call quiet m ops ds Fs Hs vs gs ft) {i j b : Nat} (hij : i < j) (hj : j < ds.length) (hw : wrt Hs ft i b) (hb : inS b (ft j).2) : ((befL ops.toList []).getD j 0).testBit i = true := by
  obtain ⟨x, hx⟩ : ∃ x, ds[i]? = some x := ⟨_, List.getElem?_eq_getElem (by omega)⟩
  obtain ⟨y, hy⟩ : ∃ y, ds[j]? = some y := ⟨_, List.getElem?_eq_getElem hj⟩
  refine R.bound hij hx hy ?_ (pairOk_no (.inl hw.1) hw.2.2 hb)
  have h1 := (R.touch2 hx hw.1).1
  have h2 := R.touches hy hb
  simp [loose, h1, h2]

/-- a block that the earlier one looks into, and the later one writes -/
theorem Reg.bound_r (R : Reg P nt call quiet m ops ds Fs Hs vs gs ft) {i j b : Nat} (hij : i < j) (hj : j < ds.length) (hb : inS b (ft i).2) (hw : wrt Hs ft j b) : ((befL ops.toList []).getD j 0).testBit i = true := by
  obtain ⟨x, hx⟩ : ∃ x, ds[i]? = some x := ⟨_, List.getElem?_eq_getElem (by omega)⟩
  obtain ⟨y, hy⟩ : ∃ y, ds[j]? = some y := ⟨_, List.getElem?_eq_getElem hj⟩
  refine R.bound hij hx hy ?_ (pairOk_no (.inr hw.1) hb hw.2.2)
  have h1 := (R.touch2 hy hw.1).1
  have h2 := R.touches hx hb
  simp [loose, h1, h2]

/-- a call that writes comes behind all that makes memory ahead of it -/
theorem Reg.bound_m (R : Reg P nt call quiet m ops ds Fs Hs vs gs ft) {i j : Nat} (hij : i < j) (hj : j < ds.length) (hm : (Hs i).length < (Hs (i + 1)).length) (hw : (ft j).1 = true) (hn : (ft j).2 = none) : ((befL ops.toList []).getD j 0).testBit i = true := by
  obtain ⟨x, hx⟩ : ∃ x, ds[i]? = some x := ⟨_, List.getElem?_eq_getElem (by omega)⟩
  obtain ⟨y, hy⟩ : ∃ y, ds[j]? = some y := ⟨_, List.getElem?_eq_getElem hj⟩
  obtain ⟨_, _, s3, s4, _⟩ := R.tr.step i x hx
  have hmk : x.o.makes = true := by
    cases hk : x.o.makes with
    | true => rfl
    | false =>
      exfalso
      cases hg : gs i with
      | true => have := dop_made hk (s3 hg); omega
      | false => rw [(s4 hg).2] at hm; omega
  have hcall : y.o.isCall = true := by
    cases hc : y.o.isCall with
    | true => rfl
    | false =>
      exfalso
      rcases R.ftIs hy with ⟨hg, h⟩ | ⟨_, h⟩
      · obtain ⟨S, hS⟩ := foot_call (quiet := quiet) (F := Fs j) (H := Hs j) hc
        rw [h, hS] at hn; cases hn
      · rw [h] at hn; cases hn
  refine R.bound hij hx hy (by simp [loose, hmk, hcall]) ?_
  obtain ⟨w, S⟩ : Bool × Option (List Nat) := ft i
  revert hw hn
  generalize ft j = fj
  obtain ⟨w', T⟩ := fj
  intro hw hn
  simp only at hw hn
  subst hw hn
  cases hfi : ft i with
  | mk w S => cases S <;> simp [pairOk]

/-! ### Slots -/

theorem Reg.get (R : Reg P nt call quiet m ops ds Fs Hs vs gs ft) {t : Nat} {v : DV} : ∀ i, i ≤ ds.length → (Fs i).get t = some v →
    (∃ j dd, j < i ∧ ds[j]? = some dd ∧ dd.d = some t ∧ v = vs j ∧ ∀ j' dd', ds[j']? = some dd' → j < j' → j' < i → dd'.d ≠ some t) ∨ ((∀ j dd, j < i → ds[j]? = some dd → dd.d ≠ some t) ∧ (Fs 0).get t = some v)
  | 0, _, h => .inr ⟨fun j dd hj => by omega, h⟩
  | i + 1, hi, h => by
    obtain ⟨dd, hdd⟩ : ∃ dd, ds[i]? = some dd := ⟨_, List.getElem?_eq_getElem (by omega)⟩
    rw [(R.tr.step i dd hdd).1] at h
    rcases put_get h with ⟨hd, hv⟩ | ⟨hd, h⟩
    · exact .inl ⟨i, dd, by omega, hdd, hd, hv.symm, fun j' dd' _ h1 h2 => by omega⟩
    · rcases R.get i (by omega) h with ⟨j, dj, h1, h2, h3, h4, h5⟩ | ⟨h1, h2⟩
      · refine .inl ⟨j, dj, by omega, h2, h3, h4, fun j' dd' hj' hlt hlt' => ?_⟩
        by_cases e : j' = i
        · subst e; rw [hdd] at hj'; injection hj' with hj'; subst hj'; exact hd
        · exact h5 j' dd' hj' hlt (by omega)
      · refine .inr ⟨fun j dj hj hjd => ?_, h2⟩
        by_cases e : j = i
        · subst e; rw [hdd] at hjd; injection hjd with hjd; subst hjd; exact hd
        · exact h1 j dj (by omega) hjd

/-- what an operation that comes up looks at is there -/
theorem Reg.cur (R : Reg P nt call quiet m ops ds Fs Hs vs gs ft) (hC : Closed ops L) {i : Nat} {o : Oper} {dd : DOp} (ho : ops[i]? = some o) (hdd : ds[i]? = some dd) (hun : ¬ L i) (hdep : ∀ e ∈ o.after, Region.binds .any e = true → L e.on) {t : Nat} (ht : t ∈ dd.looks) {v : DV} (hv : (Fs i).get t = some v) : Cur ds (Fs 0) vs L t v := by
  have hi : i < ds.length := (List.getElem?_eq_some_iff.1 hdd).1
  have early : ∀ j dj, ds[j]? = some dj → j < i → dj.d = some t → L j := fun j dj hj hlt hd => R.waits hC ho hdep (R.tmps_ij hlt hj hdd (.inl ⟨hd, .inr ht⟩))
  have late : ∀ j dj, ds[j]? = some dj → i < j → dj.d = some t → ¬ L j := by
    intro j dj hj hlt hd hL
    obtain ⟨oj, hoj, _⟩ := R.op hj
    exact hun (R.waits hC hoj (fun e he hb => hC j oj hL hoj e he hb) (R.tmps_ij hlt hdd hj (.inr ⟨hd, ht⟩)))
  rcases R.get i (by omega) hv with ⟨j, dj, h1, h2, h3, h4, h5⟩ | ⟨h1, h2⟩
  · refine .inl ⟨j, dj, h2, early j dj h2 h1 h3, h3, h4, fun j' dd' hj' hlt hd hL => ?_⟩
    by_cases hji : j' < i
    · exact h5 j' dd' hj' hlt hji hd
    · by_cases e : j' = i
      · subst e; exact hun hL
      · exact late j' dd' hj' (by omega) hd hL
  · refine .inr ⟨fun j dj hj hd hL => ?_, h2⟩
    by_cases hji : j < i
    · exact h1 j dj hji hj hd
    · by_cases e : j = i
      · subst e; exact hun hL
      · exact late j dj hj (by omega) hd hL

theorem Reg.cur_end (R : Reg P nt call quiet m ops ds Fs Hs vs gs ft) (hall : ∀ i, i < ds.length → L i) {t : Nat} {v : DV} (hv : (Fs ds.length).get t = some v) : Cur ds (Fs 0) vs L t v := by
  rcases R.get ds.length (Nat.le_refl _) hv with ⟨j, dj, h1, h2, h3, h4, h5⟩ | ⟨h1, h2⟩
  · exact .inl ⟨j, dj, h2, hall j h1, h3, h4, fun j' dd' hj' hlt hd _ => h5 j' dd' hj' hlt (List.getElem?_eq_some_iff.1 hj').1 hd⟩
  · exact .inr ⟨fun j dj hj hd _ => h1 j dj (List.getElem?_eq_some_iff.1 hj).1 hj hd, h2⟩

theorem Reg.cur_next (R : Reg P nt call quiet m ops ds Fs Hs vs gs ft) (hC : Closed ops L) {i : Nat} {dd : DOp} (hdd : ds[i]? = some dd) (hun : ¬ L i) {t : Nat} {v : DV} (h : Cur ds (Fs 0) vs (fun k => L k ∨ k = i) t v) :
    (dd.d = some t ∧ v = vs i) ∨ (dd.d ≠ some t ∧ Cur ds (Fs 0) vs L t v) := by
  rcases h with ⟨j, dj, h1, h2, h3, h4, h5⟩ | ⟨h1, h2⟩
  · by_cases e : j = i
    · subst e
      rw [hdd] at h1; injection h1 with h1; subst h1
      exact .inl ⟨h3, h4⟩
    · have hLj : L j := h2.resolve_right e
      have hne : dd.d ≠ some t := by
        intro hd
        rcases Nat.lt_or_ge j i with hlt | hge
        · exact h5 i dd hdd hlt hd (.inr rfl)
        · obtain ⟨oj, hoj, _⟩ := R.op h1
          exact hun (R.waits hC hoj (fun e he hb => hC j oj hLj hoj e he hb) (R.tmps_ij (show i < j by omega) hdd h1 (.inl ⟨hd, .inl h3⟩)))
      exact .inr ⟨hne, .inl ⟨j, dj, h1, hLj, h3, h4, fun j' dd' hj' hlt hd hL => h5 j' dd' hj' hlt hd (.inl hL)⟩⟩
  · refine .inr ⟨fun hd => h1 i dd hdd hd (.inr rfl), .inr ⟨fun j dj hj hd hL => h1 j dj hj hd (.inl hL), h2⟩⟩

theorem keep_get {F : DF} {S : List Nat} {t : Nat} : (F.keep S).get t = if t ∈ S then F.get t else none := by
  induction S with
  | nil => simp [DF.keep, DF.get]
  | cons s S ih =>
    simp only [DF.keep]
    cases hs : F.get s with
    | none =>
      simp only
      rw [ih]
      by_cases e : t = s
      · subst e; simp [hs]
      · simp [e]
    | some v =>
      simp only [DF.get]
      by_cases e : s = t
      · subst e; simp [hs]
      · rw [if_neg e, ih]; simp [Ne.symm e]

end
end Go.Proofs.Sh

namespace Go.Proofs.Sh
open Go Go.RowKit

section
variable {P : Program} {m g nt : Nat} {μ0 μ1 μ : LMap} {W0 W : World} {call : Nat → Nat → List DV → DH → Option (DV × DH)} {quiet : Nat → Bool}
variable {ops : Array Oper} {ds : List DOp} {Fs : Nat → DF} {Hs : Nat → DH} {vs : Nat → DV} {gs : Nat → Bool} {ft : Nat → Bool × Option (List Nat)} {L : Nat → Prop} {a : Act} {Q : Exit → Act → World → Prop}

def cutM (μ : LMap) (n : Nat) : LMap := fun b => if b < n then μ b else none

theorem cutM_some {n b : Nat} {p : Loc} (h : cutM μ n b = some p) : b < n ∧ μ b = some p := by
  unfold cutM at h
  by_cases hb : b < n
  · rw [if_pos hb] at h; exact ⟨hb, h⟩
  · rw [if_neg hb] at h; cases h

theorem cutM_lt {n b : Nat} (h : b < n) : cutM μ n b = μ b := by unfold cutM; rw [if_pos h]

/-- the blocks that one operation makes are laid beside the others -/
def merge (μ μ' : LMap) (n n' : Nat) : LMap := fun b => if n ≤ b ∧ b < n' then μ' b else μ b

theorem merge_in {μ' : LMap} {n n' b : Nat} (h1 : n ≤ b) (h2 : b < n') : merge μ μ' n n' b = μ' b := by unfold merge; rw [if_pos ⟨h1, h2⟩]
theorem merge_out {μ' : LMap} {n n' b : Nat} (h : ¬ (n ≤ b ∧ b < n')) : merge μ μ' n n' b = μ b := by unfold merge; rw [if_neg h]

/-- a range that is not listed is not there -/
theorem Inv.free (R : Reg P nt call quiet m ops ds Fs Hs vs gs ft) (I : Inv P g nt m μ1 W0 ds Hs (Fs 0) vs ft L a W μ) {i : Nat} (hi : i < ds.length) (hun : ¬ L i) {b : Nat} (h1 : (Hs i).length ≤ b) (h2 : b < (Hs (i + 1)).length) : μ b = none := by
  cases h : μ b with
  | none => rfl
  | some p =>
    exfalso
    rcases I.dom b p h with hb | ⟨j, hj, hL, h3, h4⟩
    · have := R.lenLe (i := 0) (j := i) (by omega) (by omega)
      omega
    · by_cases e : j = i
      · subst e; exact hun hL
      · rcases Nat.lt_or_ge j i with hlt | hge
        · have := R.lenLe (i := j + 1) (j := i) (by omega) (by omega); omega
        · have := R.lenLe (i := i + 1) (j := j) (by omega) (by omega); omega

theorem Inv.frame (R : Reg P nt call quiet m ops ds Fs Hs vs gs ft) (I : Inv P g nt m μ1 W0 ds Hs (Fs 0) vs ft L a W μ) (hC : Closed ops L) {i : Nat} {o : Oper} {dd : DOp} (ho : ops[i]? = some o) (hdd : ds[i]? = some dd) (hun : ¬ L i) (hdep : ∀ e ∈ o.after, Region.binds .any e = true → L e.on) :
    FR (cutM μ (Hs i).length) ((Fs i).keep dd.looks) a nt ∧ WFF (Hs i).length ((Fs i).keep dd.looks) := by
  have hi : i < ds.length := (List.getElem?_eq_some_iff.1 hdd).1
  obtain ⟨w1, w2⟩ := R.wfs i (by omega)
  have hk : ∀ t v, ((Fs i).keep dd.looks).get t = some v → t ∈ dd.looks ∧ (Fs i).get t = some v := by
    intro t v h
    rw [keep_get] at h
    by_cases ht : t ∈ dd.looks
    · rw [if_pos ht] at h; exact ⟨ht, h⟩
    · rw [if_neg ht] at h; cases h
  refine ⟨⟨fun t v h => ?_, I.size, fun t v h => ?_⟩, fun t v h => w2 t v (hk t v h).2⟩
  · obtain ⟨ht, hv⟩ := hk t v h
    have hc := R.cur hC ho hdd hun hdep ht hv
    exact VR.mono' (g := (Hs i).length) (fun b p hb hp => by rw [cutM_lt hb]; exact hp) v _ (w2 t v hv) (I.tmp t v hc).1
  · obtain ⟨ht, hv⟩ := hk t v h
    exact (I.tmp t v (R.cur hC ho hdd hun hdep ht hv)).2

/-- slots behind one more operation -/
theorem Inv.slots (R : Reg P nt call quiet m ops ds Fs Hs vs gs ft) (I : Inv P g nt m μ1 W0 ds Hs (Fs 0) vs ft L a W μ) (hC : Closed ops L) {i : Nat} {o : Oper} {dd : DOp} (hdd : ds[i]? = some dd) (hun : ¬ L i) (hdst : dd.d = o.dst) (hlt : ∀ t, o.dst = some t → t < nt) {μ2 : LMap} (hm : ∀ b p, μ b = some p → μ2 b = some p) {u : Value} (hu : VR μ2 (vs i) u) :
    (∀ t v, Cur ds (Fs 0) vs (fun k => L k ∨ k = i) t v → VR μ2 v ((a.put o.dst u).tmps.getD t undef) ∧ t < nt) ∧ (a.put o.dst u).tmps.size = nt := by
  refine ⟨fun t v h => ?_, ?_⟩
  · rcases R.cur_next hC hdd hun h with ⟨hd, rfl⟩ | ⟨hd, hc⟩
    · rw [hdst] at hd
      have hl := hlt t hd
      refine ⟨?_, hl⟩
      have : t < a.tmps.size := by rw [I.size]; exact hl
      rw [hd]
      simpa [Act.put, Array.getElem?_setIfInBounds, this] using hu
    · obtain ⟨h1, h2⟩ := I.tmp t v hc
      refine ⟨?_, h2⟩
      rw [hdst] at hd
      have h1' := VR.mono hm _ _ h1
      cases hod : o.dst with
      | none => exact h1'
      | some k =>
        have hk : k ≠ t := fun e => hd (by rw [hod, e])
        simpa [Act.put, Array.getElem?_setIfInBounds, hk] using h1'
  · cases hod : o.dst with
    | none => exact I.size
    | some t => simp [Act.put, I.size]

/-- what an operation that comes up looks into is as the text has it there -/
theorem Inv.here (R : Reg P nt call quiet m ops ds Fs Hs vs gs ft) (hC : Closed ops L) {i : Nat} {o : Oper} (hi : i < ds.length) (ho : ops[i]? = some o) (hun : ¬ L i) (hdep : ∀ e ∈ o.after, Region.binds .any e = true → L e.on) {b : Nat} (hb : inS b (ft i).2) :
    ∀ j, j < ds.length → wrt Hs ft j b → (j < i ↔ L j) := by
  intro j hj hw
  constructor
  · intro hji
    exact R.waits hC ho hdep (R.bound_w hji hi hw hb)
  · intro hL
    rcases Nat.lt_trichotomy j i with h | h | h
    · exact h
    · subst h; exact absurd hL hun
    · obtain ⟨dj, hdj⟩ : ∃ dj, ds[j]? = some dj := ⟨_, List.getElem?_eq_getElem hj⟩
      obtain ⟨oj, hoj, _⟩ := R.op hdj
      exact absurd (R.waits hC hoj (fun e he hb => hC j oj hL hoj e he hb) (R.bound_r h hj hb hw)) hun

/-- two places of the text that fit what has been carried out have the same in a block -/
theorem NowL.at (R : Reg P nt call quiet m ops ds Fs Hs vs gs ft) {b k k' : Nat} {x : Blk} (hk : k ≤ ds.length) (hk' : k' ≤ ds.length) (h : ∀ j, j < ds.length → wrt Hs ft j b → (j < k ↔ L j)) (h' : ∀ j, j < ds.length → wrt Hs ft j b → (j < k' ↔ L j)) (hb : b < (Hs k').length) (hx : (Hs k)[b]? = some x) : (Hs k')[b]? = some x := by
  have hbk := (List.getElem?_eq_some_iff.1 hx).1
  rcases Nat.le_total k k' with hle | hle
  · rw [R.stays' hle hk' hbk fun j j1 j2 hw => ?_]
    · exact hx
    · have h1 := (h' j (by omega) hw).1 j2
      have h2 := (h j (by omega) hw).2 h1
      omega
  · rw [← R.stays' hle hk hb fun j j1 j2 hw => ?_]
    · exact hx
    · have h1 := (h j (by omega) hw).1 j2
      have h2 := (h' j (by omega) hw).2 h1
      omega

end
end Go.Proofs.Sh

namespace Go.Proofs.Sh
open Go Go.RowKit

section
variable {P : Program} {m g nt : Nat} {μ0 μ1 μ : LMap} {W0 W : World} {call : Nat → Nat → List DV → DH → Option (DV × DH)} {quiet : Nat → Bool}
variable {ops : Array Oper} {ds : List DOp} {Fs : Nat → DF} {Hs : Nat → DH} {vs : Nat → DV} {gs : Nat → Bool} {ft : Nat → Bool × Option (List Nat)} {L : Nat → Prop} {a : Act} {Q : Exit → Act → World → Prop} {K : Nat → Bool}

/-- **One operation is carried out.** -/
theorem Inv.step (R : Reg P nt call quiet m ops ds Fs Hs vs gs ft) (I : Inv P g nt m μ1 W0 ds Hs (Fs 0) vs ft L a W μ) (hC : Closed ops L) {i : Nat} {o : Oper} {dd : DOp} (ho : ops[i]? = some o) (hdd : ds[i]? = some dd) (hun : ¬ L i) (hdep : ∀ e ∈ o.after, Region.binds .any e = true → L e.on) (hdst : dd.d = o.dst) (hlt : ∀ t, o.dst = some t → t < nt)
    (hK1 : ∀ b, b < (Hs i).length → K b = true → inS b (ft i).2) (hK2 : ∀ b, b < (Hs i).length → wrt Hs ft i b → K b = true) (hK3 : ∀ b, (Hs i).length ≤ b → K b = true)
    (hfm : ∀ b S, (ft i).2 = some S → b ∈ S → ∃ p, μ b = some p)
    {μ' : LMap} {u : Value} {W' : World} (hout : Out m (cutM μ (Hs i).length) (rest (Hs i) K) W (vs i) (rest (Hs (i + 1)) K) μ' u W') :
    Inv P g nt m μ1 W0 ds Hs (Fs 0) vs ft (fun k => L k ∨ k = i) (a.put o.dst u) W' (merge μ μ' (Hs i).length (Hs (i + 1)).length) := by
  have hi : i < ds.length := (List.getElem?_eq_some_iff.1 hdd).1
  have hgr := R.grow hi
  have h0i := R.lenLe (i := 0) (j := i) (by omega) (by omega)
  have hold : ∀ b, b < (Hs i).length → μ' b = μ b := fun b hb' => by rw [hout.old b (by rw [rest_len]; exact hb'), cutM_lt hb']
  have hmono : ∀ b p, μ b = some p → merge μ μ' (Hs i).length (Hs (i + 1)).length b = some p := by
    intro b p hp
    by_cases hr : (Hs i).length ≤ b ∧ b < (Hs (i + 1)).length
    · rw [I.free R hi hun hr.1 hr.2] at hp; cases hp
    · rw [merge_out hr]; exact hp
  have hmono' : ∀ b p, μ' b = some p → merge μ μ' (Hs i).length (Hs (i + 1)).length b = some p := by
    intro b p hp
    have hbl : b < (Hs (i + 1)).length := by
      by_cases hbl : b < (Hs (i + 1)).length
      · exact hbl
      · rw [hout.rel.dom b (by rw [rest_len]; omega)] at hp; cases hp
    by_cases hr : (Hs i).length ≤ b
    · rw [merge_in hr hbl]; exact hp
    · rw [merge_out (by omega), ← hold b (by omega)]; exact hp
  -- what it looks into is now as the text has it
  have hnow : ∀ b x, b < (Hs i).length → K b = true → ((Hs i)[b]? = some x → NowL ds.length Hs ft L b x) := by
    intro b x hb hk hx
    exact ⟨i, by omega, hx, Inv.here R hC hi ho hun hdep (hK1 b hb hk)⟩
  -- what lies in its reach behind it
  have inside : ∀ b x, b < (Hs (i + 1)).length → K b = true → NowL ds.length Hs ft (fun k => L k ∨ k = i) b x → (Hs (i + 1))[b]? = some x := by
    intro b x hb hk hn
    obtain ⟨k, k1, k2, k3⟩ := hn
    by_cases hbi : b < (Hs i).length
    · refine NowL.at R (L := fun k => L k ∨ k = i) k1 (by omega) k3 (fun j hj hw => ?_) hb k2
      have hh := Inv.here R hC hi ho hun hdep (hK1 b hbi hk) j hj hw
      constructor
      · intro hji
        by_cases e : j = i
        · exact .inr e
        · exact .inl (hh.1 (by omega))
      · rintro (hL | e)
        · have := hh.2 hL; omega
        · omega
    · -- a block that it makes
      have hno : ∀ j, j < ds.length → wrt Hs ft j b → ¬ (L j ∨ j = i) := by
        intro j hj hw hor
        have hij : i < j := by
          rcases Nat.lt_or_ge i j with h | h
          · exact h
          · have := R.lenLe (i := j) (j := i) h (by omega)
            have := hw.2.1; omega
        rcases hor with hL | e
        · obtain ⟨dj, hdj⟩ : ∃ dj, ds[j]? = some dj := ⟨_, List.getElem?_eq_getElem hj⟩
          obtain ⟨oj, hoj, _⟩ := R.op hdj
          cases hS : (ft j).2 with
          | none => exact hun (R.waits hC hoj (fun e he hb => hC j oj hL hoj e he hb) (R.bound_m hij hj (by omega) hw.1 hS))
          | some S =>
            have hbS : b ∈ S := by have := hw.2.2; rw [hS] at this; exact this
            obtain ⟨p, hp⟩ := I.fm j b S hL hj hS hbS
            rw [I.free R hi hun (by omega) hb] at hp; cases hp
        · omega
      have hik : i + 1 ≤ k := by
        rcases Nat.lt_or_ge i k with h | h
        · exact h
        · have := R.lenLe (i := k) (j := i) h (by omega)
          have := (List.getElem?_eq_some_iff.1 k2).1; omega
      rw [← R.stays' hik k1 hb fun j j1 j2 hw => hno j (by omega) hw ((k3 j (by omega) hw).1 j2)]
      exact k2
  -- what lies out of its reach
  have outside : ∀ b x, ¬ (b < (Hs (i + 1)).length ∧ K b = true) → NowL ds.length Hs ft (fun k => L k ∨ k = i) b x → NowL ds.length Hs ft L b x := by
    intro b x hb hn
    obtain ⟨k, k1, k2, k3⟩ := hn
    refine ⟨k, k1, k2, fun j hj hw => ?_⟩
    rw [k3 j hj hw]
    constructor
    · rintro (h | h)
      · exact h
      · subst h
        exact absurd ⟨Nat.lt_of_lt_of_le hw.2.1 hgr, hK2 b hw.2.1 hw⟩ hb
    · exact .inl
  -- places
  have placeIn : ∀ b p, b < (Hs (i + 1)).length → merge μ μ' (Hs i).length (Hs (i + 1)).length b = some p → μ' b = some p := by
    intro b p hb hp
    by_cases hr : (Hs i).length ≤ b
    · rw [merge_in hr hb] at hp; exact hp
    · rw [merge_out (by omega)] at hp; rw [hold b (by omega)]; exact hp
  have placeOut : ∀ b p, ¬ (b < (Hs (i + 1)).length ∧ K b = true) → merge μ μ' (Hs i).length (Hs (i + 1)).length b = some p → μ b = some p := by
    intro b p hb hp
    rw [merge_out] at hp
    · exact hp
    · intro ⟨h1, h2⟩; exact hb ⟨h2, hK3 b h1⟩
  -- what is out of its reach, and alive, lies as it lay
  have apart : ∀ b x p, ¬ (b < (Hs (i + 1)).length ∧ K b = true) → NowL ds.length Hs ft L b x → x ≠ .gone → μ b = some p → W'.heap[p.blk]? = W.heap[p.blk]? := by
    intro b x p hb hn hx hp
    refine hout.kept.block p.blk (I.rel.bd b p hp) fun b0 x0 p0 hm h0 hx0 hp0 => ?_
    obtain ⟨c1, c2⟩ := cutM_some hp0
    rcases rest_some h0 with ⟨k0, g0⟩ | h0
    · have hne : b ≠ b0 := by
        intro e; subst e; exact hb ⟨by omega, k0⟩
      exact fun e => (I.rel.wr b0 x0 p0 hm (hnow b0 x0 c1 k0 g0) hx0 c2).2 b x p hne hn hx hp e.symm
    · exact absurd h0 hx0
  have inRest : ∀ b x, K b = true → (Hs (i + 1))[b]? = some x → (rest (Hs (i + 1)) K)[b]? = some x := fun b x hk h => by rw [rest_in hk]; exact h
  -- where something in its reach lies
  have fresh' : ∀ b x p, b < (Hs (i + 1)).length → K b = true → (Hs (i + 1))[b]? = some x → x ≠ .gone → μ' b = some p → W.heap.size ≤ p.blk ∨ ∃ b0 x0 p0, (m ≤ b → m ≤ b0) ∧ b0 < (Hs i).length ∧ K b0 = true ∧ NowL ds.length Hs ft L b0 x0 ∧ x0 ≠ .gone ∧ μ b0 = some p0 ∧ p0.blk = p.blk := by
    intro b x p hb hk hx hl hp
    rcases hout.fresh b x p (inRest b x hk hx) hl hp with h | ⟨b0, x0, p0, g1, g2, g3, g4, g5⟩
    · exact .inl h
    · obtain ⟨c1, c2⟩ := cutM_some g4
      rcases rest_some g2 with ⟨k0, g0⟩ | h0
      · exact .inr ⟨b0, x0, p0, g1, c1, k0, hnow b0 x0 c1 k0 g0, g3, c2, g5⟩
      · exact absurd h0 g3
  -- something in its reach, and something out of it
  have far : ∀ b x p b' x' p', b < (Hs (i + 1)).length → K b = true → (Hs (i + 1))[b]? = some x → x ≠ .gone → μ' b = some p → ¬ (b' < (Hs (i + 1)).length ∧ K b' = true) → NowL ds.length Hs ft L b' x' → x' ≠ .gone → μ b' = some p' → (m ≤ b ∨ m ≤ b') → p'.blk ≠ p.blk := by
    intro b x p b' x' p' hb hk hx hl hp hb' hn' hl' hp' hm
    rcases fresh' b x p hb hk hx hl hp with h | ⟨b0, x0, p0, g1, g2, g3, g4, g5, g6, g7⟩
    · have := I.rel.bd b' p' hp'; omega
    · rw [← g7]
      have hne : b' ≠ b0 := by
        intro e; subst e; exact hb' ⟨by omega, g3⟩
      rcases hm with hm | hm
      · exact (I.rel.wr b0 x0 p0 (g1 hm) g4 g5 g6).2 b' x' p' hne hn' hl' hp'
      · exact fun e => (I.rel.wr b' x' p' hm hn' hl' hp').2 b0 x0 p0 (fun e => hne e.symm) g4 g5 g6 e.symm
  obtain ⟨s1, s2⟩ := I.slots R hC hdd hun hdst hlt hmono (VR.mono hmono' _ _ hout.val)
  refine ⟨?_, ?_, ⟨?_, ?_, ?_⟩, s1, s2, ?_, ?_, by rw [put_defers]; exact I.dfr, ?_⟩
  · intro b hb'
    rw [merge_out (by omega)]; exact I.old b hb'
  · intro b p hp
    by_cases hr : (Hs i).length ≤ b ∧ b < (Hs (i + 1)).length
    · exact .inr ⟨i, hi, .inr rfl, hr.1, hr.2⟩
    · rw [merge_out hr] at hp
      rcases I.dom b p hp with h | ⟨j, j1, j2, j3⟩
      · exact .inl h
      · exact .inr ⟨j, j1, .inl j2, j3⟩
  · intro b x p hn hp
    by_cases hb : b < (Hs (i + 1)).length ∧ K b = true
    · exact (hout.rel.g.br b x p (inRest b x hb.2 (inside b x hb.1 hb.2 hn)) (placeIn b p hb.1 hp)).mono hmono' rfl
    · by_cases hx : x = .gone
      · subst hx; trivial
      · have hn' := outside b x hb hn
        have hp' := placeOut b p hb hp
        exact (I.rel.br b x p hn' hp').mono hmono (apart b x p hb hn' hx hp')
  · intro b x p hm hn hx hp
    by_cases hb : b < (Hs (i + 1)).length ∧ K b = true
    · have hx1 := inside b x hb.1 hb.2 hn
      have hp1 := placeIn b p hb.1 hp
      obtain ⟨k2, k3⟩ := hout.rel.g.wr b x p hm (inRest b x hb.2 hx1) hx hp1
      refine ⟨k2, fun b' x' p' hne hn' hx' hp' => ?_⟩
      by_cases hb' : b' < (Hs (i + 1)).length ∧ K b' = true
      · exact k3 b' x' p' hne (inRest b' x' hb'.2 (inside b' x' hb'.1 hb'.2 hn')) hx' (placeIn b' p' hb'.1 hp')
      · exact far b x p b' x' p' hb.1 hb.2 hx1 hx hp1 hb' (outside b' x' hb' hn') hx' (placeOut b' p' hb' hp') (.inl hm)
    · have hn1 := outside b x hb hn
      have hp1 := placeOut b p hb hp
      obtain ⟨k2, k3⟩ := I.rel.wr b x p hm hn1 hx hp1
      refine ⟨fun o' ho' => by rw [frozen_of_block (apart b x p hb hn1 hx hp1)]; exact k2 o' ho', fun b' x' p' hne hn' hx' hp' => ?_⟩
      by_cases hb' : b' < (Hs (i + 1)).length ∧ K b' = true
      · exact fun e => far b' x' p' b x p hb'.1 hb'.2 (inside b' x' hb'.1 hb'.2 hn') hx' (placeIn b' p' hb'.1 hp') hb hn1 hx hp1 (.inr hm) e.symm
      · exact k3 b' x' p' hne (outside b' x' hb' hn') hx' (placeOut b' p' hb' hp')
  · intro b p hp
    by_cases hr : (Hs i).length ≤ b ∧ b < (Hs (i + 1)).length
    · rw [merge_in hr.1 hr.2] at hp
      exact hout.rel.g.bd b p hp
    · rw [merge_out hr] at hp
      exact Nat.lt_of_lt_of_le (I.rel.bd b p hp) hout.kept.size
  · refine ⟨hout.kept.os.trans I.kept.os, hout.kept.tape.trans I.kept.tape, hout.kept.output.trans I.kept.output, Nat.le_trans I.kept.size hout.kept.size, fun k hk hno => ?_⟩
    rw [← I.kept.block k hk hno]
    refine hout.kept.block k (Nat.lt_of_lt_of_le hk I.kept.size) fun b0 x0 p0 hm h0 hx0 hp0 e => ?_
    obtain ⟨c1, c2⟩ := cutM_some hp0
    rcases rest_some h0 with ⟨k0, g0⟩ | h0
    · rcases I.fresh b0 x0 p0 (hnow b0 x0 c1 k0 g0) hx0 c2 with h | ⟨b1, x1, p1, q1, q2, q3, q4, q5⟩
      · omega
      · exact hno b1 x1 p1 (q1 hm) q2 q3 q4 (q5.trans e)
    · exact absurd h0 hx0
  · intro b x p hn hx hp
    by_cases hb : b < (Hs (i + 1)).length ∧ K b = true
    · rcases fresh' b x p hb.1 hb.2 (inside b x hb.1 hb.2 hn) hx (placeIn b p hb.1 hp) with h | ⟨b0, x0, p0, g1, g2, g3, g4, g5, g6, g7⟩
      · exact .inl (Nat.le_trans I.kept.size h)
      · rcases I.fresh b0 x0 p0 g4 g5 g6 with h | ⟨b1, x1, p1, q1, q2, q3, q4, q5⟩
        · exact .inl (by omega)
        · exact .inr ⟨b1, x1, p1, fun hm => q1 (g1 hm), q2, q3, q4, q5.trans g7⟩
    · exact I.fresh b x p (outside b x hb hn) hx (placeOut b p hb hp)
  · intro j b S hL hj hS hb
    rcases hL with hL | rfl
    · obtain ⟨p, hp⟩ := I.fm j b S hL hj hS hb; exact ⟨p, hmono b p hp⟩
    · obtain ⟨p, hp⟩ := hfm b S hS hb; exact ⟨p, hmono b p hp⟩

end
end Go.Proofs.Sh

namespace Go.Proofs.Sh
open Go Go.RowKit

section
variable {quiet : Nat → Bool} {m nt : Nat} {μ : LMap} {F : DF} {a : Act} {H : DH} {W : World} {d : DO}

theorem blks_mapped (hf : FR μ F a nt) {x : DX} (hc : x.closed = true) {b : Nat} (hb : b ∈ blks (x.ev F)) : ∃ p, μ b = some p := by
  cases x with
  | k w =>
    exfalso
    simp only [DX.ev] at hb
    simp only [DX.closed] at hc
    cases w <;> simp [blks] at hb <;> simp [DV.lt] at hc
  | t n =>
    simp only [DX.ev] at hb
    cases hg : F.get n with
    | none => rw [hg] at hb; simp [blks] at hb
    | some w =>
      rw [hg] at hb
      have hv := hf.slot n w hg
      cases w <;> simp [blks] at hb <;> subst hb <;> simp only [VR] at hv
      · obtain ⟨p, hp, _⟩ := hv; exact ⟨p, hp⟩
      · obtain ⟨p, hp, _⟩ := hv; exact ⟨p, hp⟩
      · obtain ⟨p, hp, _⟩ := hv; exact ⟨p, hp⟩

theorem iblks_mapped (hf : FR μ F a nt) {x : DX} (hr : ∀ b y p, b ∈ iblks H (x.ev F) → H[b]? = some y → μ b = some p → BlkR μ W p y) (hc : x.closed = true) {b : Nat} (hb : b ∈ iblks H (x.ev F)) : ∃ p, μ b = some p := by
  unfold iblks at hb
  split at hb
  · rename_i r o hx
    have hrm : r ∈ iblks H (x.ev F) := by rw [hx]; simp only [iblks]; split <;> simp
    obtain ⟨p, hp⟩ := blks_mapped hf hc (b := r) (by rw [hx]; simp [blks])
    split at hb
    · rename_i b' s1 s2 s3 hi
      obtain ⟨_, _, q, hq, _⟩ := hr r _ p hrm hi hp
      simp at hb
      rcases hb with rfl | rfl
      · exact ⟨p, hp⟩
      · exact ⟨q, hq⟩
    · simp at hb; subst hb; exact ⟨p, hp⟩
  · simp at hb

/-- the blocks that an operation looks into are there -/
theorem foot_mapped (hf : FR μ F a nt) (hc : d.closed = true) {S : List Nat} (hr : ∀ b x p, b ∈ S → H[b]? = some x → μ b = some p → BlkR μ W p x) (hS : (d.foot quiet F H).2 = some S) {b : Nat} (hb : b ∈ S) : ∃ p, μ b = some p := by
  cases d <;> simp only [DO.foot] at hS <;> simp only [DO.closed, Bool.and_eq_true] at hc
  case call => cases hS
  case callv => split at hS <;> cases hS
  case nxt x => injection hS with hS; subst hS; exact iblks_mapped hf hr hc hb
  case ent x => injection hS with hS; subst hS; exact iblks_mapped hf hr hc hb
  case app e ty bts x y =>
    injection hS with hS; subst hS
    rcases List.mem_append.1 hb with hb | hb
    · exact blks_mapped hf hc.1 hb
    · exact blks_mapped hf hc.2 hb
  case cpy e x y =>
    injection hS with hS; subst hS
    rcases List.mem_append.1 hb with hb | hb
    · exact blks_mapped hf hc.1 hb
    · exact blks_mapped hf hc.2 hb
  case lku => injection hS with hS; subst hS; exact blks_mapped hf hc.1.2 hb
  case mup => injection hS with hS; subst hS; exact blks_mapped hf hc.1.1 hb
  all_goals first
    | (injection hS with hS; subst hS; simp at hb; done)
    | (injection hS with hS; subst hS; exact blks_mapped hf hc hb)
    | (injection hS with hS; subst hS; exact blks_mapped hf hc.1 hb)
    | skip

end
end Go.Proofs.Sh

namespace Go.Proofs.Sh
open Go Go.RowKit

section
variable {P : Program} {m g nt : Nat} {μ0 μ1 μ : LMap} {W0 W : World} {call : Nat → Nat → List DV → DH → Option (DV × DH)} {quiet : Nat → Bool}
variable {ops : Array Oper} {ds : List DOp} {Fs : Nat → DF} {Hs : Nat → DH} {vs : Nat → DV} {gs : Nat → Bool} {ft : Nat → Bool × Option (List Nat)} {L : Nat → Prop} {a : Act} {Q : Exit → Act → World → Prop} {F F' : DF} {H H' H0 : DH}

theorem gdv_keep {S : List Nat} {gd : Option (Nat × Bool)} (h : ∀ t w, gd = some (t, w) → t ∈ S) : gdv (F.keep S) gd = gdv F gd := by
  cases gd with
  | none => rfl
  | some x =>
    obtain ⟨t, w⟩ := x
    simp only [gdv, keep_get, if_pos (h t w rfl)]

/-- the blocks in an operation's reach, and those that it makes -/
def reachOf (n : Nat) : Option (List Nat) → Nat → Bool
  | none, _ => true
  | some S, b => S.contains b || decide (n ≤ b)

theorem reachOf_in {n b : Nat} {S : Option (List Nat)} (hb : b < n) : reachOf n S b = true ↔ inS b S := by
  cases S with
  | none => simp [reachOf, inS]
  | some S => simp [reachOf, inS]; omega

theorem reachOf_new {n b : Nat} {S : Option (List Nat)} (hb : n ≤ b) : reachOf n S b = true := by
  cases S with
  | none => rfl
  | some S => simp [reachOf, hb]

/-- **One operation that comes up.** -/
theorem Inv.next (R : Reg P nt call quiet m ops ds Fs Hs vs gs ft) (I : Inv P g nt m μ1 W0 ds Hs (Fs 0) vs ft L a W μ) (hC : Closed ops L) {i : Nat} {o : Oper} (ho : ops[i]? = some o) (hun : ¬ L i) (hdep : ∀ e ∈ o.after, Region.binds .any e = true → L e.on)
    {K : Act → World → Prop} (hK : ∀ a' W' μ', Inv P g nt m μ1 W0 ds Hs (Fs 0) vs ft (fun k => L k ∨ k = i) a' W' μ' → K a' W') : wpOp P ops Q i K a W := by
  obtain ⟨dd, hdd, hc⟩ := R.comp i o ho
  have hi : i < ds.length := (List.getElem?_eq_some_iff.1 hdd).1
  obtain ⟨hop, hdst, hlt, hcl⟩ := cOper_parts hc
  obtain ⟨_, s2, s3, s4, s5⟩ := R.tr.step i dd hdd
  obtain ⟨w1, w2⟩ := R.wfs i (by omega)
  obtain ⟨hfr, hwff⟩ := I.frame R hC ho hdd hun hdep
  have hg : gdv ((Fs i).keep dd.looks) dd.g = some (gs i) := by
    rw [gdv_keep, s2]
    intro t w e
    unfold DOp.looks
    rw [e]; simp
  have hlooks : ∀ t ∈ dd.o.tmps, ((Fs i).keep dd.looks).get t = (Fs i).get t := by
    intro t ht
    rw [keep_get, if_pos]
    unfold DOp.looks
    simp [ht]
  have hcongr : ∀ {m2 : Nat} {H2 : DH}, dop call m2 ((Fs i).keep dd.looks) H2 dd.o = dop call m2 (Fs i) H2 dd.o := dop_congr hlooks
  have hfoot : dd.o.foot quiet ((Fs i).keep dd.looks) (Hs i) = dd.o.foot quiet (Fs i) (Hs i) := foot_congr hlooks
  -- the memory that it sees
  let Kb := reachOf (Hs i).length (ft i).2
  have hnow : ∀ b x, b < (Hs i).length → inS b (ft i).2 → (Hs i)[b]? = some x → NowL ds.length Hs ft L b x := fun b x hb hS hx => ⟨i, by omega, hx, Inv.here R hC hi ho hun hdep hS⟩
  have hrel : Rel m (cutM μ (Hs i).length) (rest (Hs i) Kb) W := by
    refine ⟨⟨fun b x p hx hp => ?_, fun b x p hm hx hl hp => ?_, fun b p hp => I.rel.bd b p (cutM_some hp).2⟩, fun b hb => ?_⟩
    · obtain ⟨c1, c2⟩ := cutM_some hp
      rcases rest_some hx with ⟨k0, g0⟩ | h0
      · exact (I.rel.br b x p (hnow b x c1 ((reachOf_in c1).1 k0) g0) c2).mono' (g := (Hs i).length) (w1 b x g0) (fun b p hb hp => by rw [cutM_lt hb]; exact hp) rfl
      · subst h0; trivial
    · obtain ⟨c1, c2⟩ := cutM_some hp
      rcases rest_some hx with ⟨k0, g0⟩ | h0
      · obtain ⟨k2, k3⟩ := I.rel.wr b x p hm (hnow b x c1 ((reachOf_in c1).1 k0) g0) hl c2
        refine ⟨k2, fun b' x' p' hne hx' hl' hp' => ?_⟩
        obtain ⟨c1', c2'⟩ := cutM_some hp'
        rcases rest_some hx' with ⟨k0', g0'⟩ | h0'
        · exact k3 b' x' p' hne (hnow b' x' c1' ((reachOf_in c1').1 k0') g0') hl' c2'
        · exact absurd h0' hl'
      · exact absurd h0 hl
    · rw [rest_len] at hb; unfold cutM; rw [if_neg (by omega)]
  have hfm : ∀ b S, (ft i).2 = some S → b ∈ S → ∃ p, μ b = some p := by
    intro b S hS hb
    cases hgi : gs i with
    | false => rw [hgi] at s5; simp at s5; rw [s5] at hS; injection hS with hS; subst hS; simp at hb
    | true =>
      rw [hgi] at s5; simp only [if_true] at s5
      rw [s5, ← hfoot] at hS
      obtain ⟨p, hp⟩ := foot_mapped (μ := cutM μ (Hs i).length) (W := W) hfr hcl (fun b' x p hb' hx hp => by
        have hb2 := (List.getElem?_eq_some_iff.1 hx).1
        refine hrel.g.br b' x p ?_ hp
        rw [rest_in ((reachOf_in hb2).2 (by rw [s5, ← hfoot, hS]; exact hb'))]
        exact hx) hS hb
      exact ⟨p, (cutM_some hp).2⟩
  have step : ∀ {u W' μ'}, Out m (cutM μ (Hs i).length) (rest (Hs i) Kb) W (vs i) (rest (Hs (i + 1)) Kb) μ' u W' → K (a.put o.dst u) W' := fun hout =>
    hK _ _ _ (I.step R hC ho hdd hun hdep hdst hlt (fun b hb hk => (reachOf_in hb).1 hk) (fun b hb hw => (reachOf_in hb).2 hw.2.2) (fun b hb => reachOf_new hb) hfm hout)
  obtain ⟨hw, _, _, _, _⟩ := guard_sound hfr hc hg
  unfold wpOp
  rw [ho]
  simp only
  rw [hw]
  cases hgi : gs i with
  | false =>
    simp only [Bool.false_eq_true, if_false]
    obtain ⟨x1, x2⟩ := s4 hgi
    refine step (μ' := cutM μ (Hs i).length) ?_
    rw [x1, x2]
    exact Out.same hrel undef_VR
  | true =>
    simp only [if_true]
    have hd := s3 hgi
    have hop := unstuck hop hd
    refine .inl ?_
    have hd2 : dop call m ((Fs i).keep dd.looks) (rest (Hs i) Kb) dd.o = some (vs i, rest (Hs (i + 1)) Kb) := by
      rw [hcongr]
      rw [if_pos hgi] at s5
      cases hS : (ft i).2 with
      | none =>
        have : Kb = fun _ => true := by funext b; simp only [Kb, hS, reachOf]
        rw [this, rest_all, rest_all]; exact hd
      | some S =>
        refine dop_rest (quiet := quiet) (S := S) (by rw [← s5]; exact hS) (fun b hb => ?_) (fun b hb => reachOf_new hb) hd
        simp only [Kb, hS, reachOf]; simp [hb]
    have hwh : WFH (rest (Hs i) Kb) := by
      intro b x hx
      rw [rest_len]
      rcases rest_some hx with ⟨_, g0⟩ | h0
      · exact w1 b x g0
      · subst h0; simp [Blk.vals, DV.lts]
    exact oper_wp R.cs hrel hfr (by rw [rest_len]; exact hwff) hwh hop hcl hd2 fun u W' μ' hout => step hout

theorem Inv.any (R : Reg P nt call quiet m ops ds Fs Hs vs gs ft) (hQ : ∀ a' W' μ', Inv P g nt m μ1 W0 ds Hs (Fs 0) vs ft (fun k => k < ds.length) a' W' μ' → Q .normal a' W') :
    ∀ (fuel : Nat) (listed : Array Bool) (a : Act) (W : World) (μ : LMap), listed.size = ops.size → (List.range ops.size).countP (fun i => !listed.getD i true) = fuel →
      Closed ops (fun k => k < ops.size ∧ listed.getD k false = true) → Inv P g nt m μ1 W0 ds Hs (Fs 0) vs ft (fun k => k < ops.size ∧ listed.getD k false = true) a W μ → wpAny P .any ops Q fuel listed a W := by
  have done : ∀ (listed : Array Bool) (a : Act) (W : World) (μ : LMap), (∀ i, i < ops.size → listed.getD i false = true) → Inv P g nt m μ1 W0 ds Hs (Fs 0) vs ft (fun k => k < ops.size ∧ listed.getD k false = true) a W μ → Q .normal a W := by
    intro listed a W μ hall I
    have : (fun k => k < ops.size ∧ listed.getD k false = true) = fun k => k < ds.length := by
      funext k
      rw [R.len]
      exact propext ⟨fun h => h.1, fun h => ⟨h, hall k h⟩⟩
    rw [this] at I
    exact hQ a W μ I
  have getD_both : ∀ (listed : Array Bool) (i : Nat), listed.size = ops.size → i < ops.size → listed.getD i true = listed.getD i false := by
    intro listed i hs hi
    have : i < listed.size := by omega
    simp [this]
  -- nothing is ready: all are listed
  have ready_nil : ∀ (listed : Array Bool), listed.size = ops.size → Region.ready .any ops listed = [] → ∀ i, i < ops.size → listed.getD i false = true := by
    intro listed hs hr i
    induction i using Nat.strongRecOn with
    | _ i ih =>
      intro hi
      cases hl : listed.getD i false with
      | true => rfl
      | false =>
        exfalso
        have : i ∈ Region.ready .any ops listed := by
          refine mem_ready.2 ⟨by rw [getD_both listed i hs hi]; exact hl, ops[i], Array.getElem?_eq_getElem hi, fun e he hb => ?_⟩
          have hlt := edgesOk_spec R.edges (i := i) (o := ops[i]) (by simp) he hb
          exact ih e.on hlt (by omega)
        rw [hr] at this
        cases this
  intro fuel
  induction fuel with
  | zero =>
    intro listed a W μ hs hcnt hC I
    have hall : ∀ i, i < ops.size → listed.getD i false = true := by
      intro i hi
      rw [List.countP_eq_zero] at hcnt
      have := hcnt i (by simpa using hi)
      rw [← getD_both listed i hs hi]
      simpa using this
    refine ⟨?_, done listed a W μ hall I⟩
    cases hr : Region.ready .any ops listed with
    | nil => rfl
    | cons j l =>
      exfalso
      have hj : j ∈ Region.ready .any ops listed := by rw [hr]; simp
      obtain ⟨h1, oj, h2, _⟩ := mem_ready.1 hj
      have hjs : j < ops.size := (Array.getElem?_eq_some_iff.1 h2).1
      rw [getD_both listed j hs hjs, hall j hjs] at h1
      cases h1
  | succ fuel ih =>
    intro listed a W μ hs hcnt hC I
    refine ⟨fun hr => done listed a W μ (ready_nil listed hs hr) I, fun i hi => ?_⟩
    obtain ⟨h1, o, ho, hdep⟩ := mem_ready.1 hi
    have his : i < ops.size := (Array.getElem?_eq_some_iff.1 ho).1
    have hun : ¬ (i < ops.size ∧ listed.getD i false = true) := by
      rw [getD_both listed i hs his] at h1
      intro h; rw [h1] at h; cases h.2
    have hdep' : ∀ e ∈ o.after, Region.binds .any e = true → e.on < ops.size ∧ listed.getD e.on false = true := by
      intro e he hb
      have hlt := edgesOk_spec R.edges (i := i) (o := o) (by simpa using ho) he hb
      exact ⟨by omega, hdep e he hb⟩
    refine I.next R hC ho hun hdep' fun a' W' μ' I' => ?_
    have hL : (fun k => (k < ops.size ∧ listed.getD k false = true) ∨ k = i) = fun k => k < ops.size ∧ (listed.setIfInBounds i true).getD k false = true := by
      funext k
      apply propext
      by_cases e : i = k
      · subst e
        have : i < listed.size := by omega
        simp [his, this]
      · rw [getD_set_ne false e]
        constructor
        · rintro (h | h)
          · exact h
          · exact absurd h.symm e
        · exact .inl
    rw [hL] at I'
    refine ih _ a' W' μ' (by simp [hs]) ?_ ?_ I'
    · have hset : ∀ l : List Nat, l.Nodup → i ∈ l → (∀ j ∈ l, j < ops.size) → l.countP (fun j => !(listed.setIfInBounds i true).getD j true) + 1 = l.countP (fun j => !listed.getD j true) := by
        intro l
        induction l with
        | nil => intro _ h; cases h
        | cons x l ihl =>
          intro hnd hmem hlt
          rw [List.nodup_cons] at hnd
          rw [List.countP_cons, List.countP_cons]
          rcases List.mem_cons.1 hmem with rfl | hmem
          · have hx : i < listed.size := by omega
            have h2 : (listed.setIfInBounds i true).getD i true = true := by simp [hx]
            rw [h2, h1]
            have : l.countP (fun j => !(listed.setIfInBounds i true).getD j true) = l.countP (fun j => !listed.getD j true) := by
              refine List.countP_congr fun j hj => ?_
              rw [getD_set_ne true (show i ≠ j from fun e => hnd.1 (by rw [e]; exact hj))]
            rw [this]
            rfl
          · have hne : i ≠ x := fun e => hnd.1 (e ▸ hmem)
            rw [getD_set_ne true hne]
            have := ihl hnd.2 hmem (fun j hj => hlt j (by simp [hj]))
            omega
      have := hset (List.range ops.size) List.nodup_range (by simpa using his) (fun j hj => by simpa using hj)
      omega
    · intro k ok hk hok e he hb
      obtain ⟨k1, k2⟩ := hk
      by_cases e' : i = k
      · subst e'
        rw [ho] at hok; injection hok with hok; subst hok
        obtain ⟨d1, d2⟩ := hdep' e he hb
        refine ⟨d1, ?_⟩
        by_cases e2 : i = e.on
        · rw [← e2]; have : i < listed.size := by omega
          simp [this]
        · rw [getD_set_ne false e2]; exact d2
      · rw [getD_set_ne false e'] at k2
        obtain ⟨d1, d2⟩ := hC k ok ⟨k1, k2⟩ hok e he hb
        refine ⟨d1, ?_⟩
        by_cases e2 : i = e.on
        · rw [← e2]; have : i < listed.size := by omega
          simp [this]
        · rw [getD_set_ne false e2]; exact d2

/-- **A region that draws its order.** -/
theorem region_draw (hcs : CallSound P call) (hcw : CallWF call) (hcq : CallQuiet call quiet) (hmix : P.follows .mixedOrders = true) {id : Nat} (hc : cOps P nt ops ops.toList = some ds) (hE : edgesOk ops.toList = true) (hT : tmpsOk ds (befL ops.toList []) = true)
    {feet : List (Bool × Option (List Nat))} (hd : dopsC call quiet m ds F H = some (F', H', feet)) (hchk : chkOk feet (loosePairs ds (befL ops.toList [])) = true) (hst : St m g nt μ0 H0 W0 F H a W) (hQ : ∀ a' W', St m g nt μ0 H0 W0 F' H' a' W' → Q .normal a' W') : (Code.region id ops true).wp P Q a W := by
  obtain ⟨Fs, Hs, vs, gs, ft, e1, e2, e3, e4, e5, tr⟩ := dopsC_trace ds F F' H H' feet hd
  obtain ⟨μ, h1, h2, h3, h4, h5, h6, h7, h8⟩ := hst
  have hcomp : ∀ (l : List Oper) (dl : List DOp), cOps P nt ops l = some dl → dl.length = l.length ∧ ∀ (i : Nat) (o : Oper), l[i]? = some o → ∃ dd, dl[i]? = some dd ∧ cOper P nt ops o = some dd := by
    intro l
    induction l with
    | nil => intro dl h; simp only [cOps] at h; injection h with h; subst h; simp
    | cons o l ih =>
      intro dl h
      simp only [cOps] at h
      split at h
      case h_2 => cases h
      case h_1 dd hdd =>
        split at h
        case h_2 => cases h
        case h_1 dl' hdl =>
          injection h with h; subst h
          obtain ⟨l1, l2⟩ := ih dl' hdl
          refine ⟨by simp [l1], fun i o' hi => ?_⟩
          cases i with
          | zero => simp at hi; subst hi; exact ⟨dd, rfl, hdd⟩
          | succ i => simp at hi; obtain ⟨d', hd1, hd2⟩ := l2 i o' hi; exact ⟨d', by simpa using hd1, hd2⟩
  obtain ⟨c1, c2⟩ := hcomp _ _ hc
  have hpairs : ∀ i j, i < j → looseAt ds (befL ops.toList []) i j = true → pairOk (ft i) (ft j) = true := by
    intro i j hij hl
    have hj : j < ds.length := by
      unfold looseAt at hl
      split at hl
      · rename_i hy; exact (List.getElem?_eq_some_iff.1 hy).1
      · cases hl
    have hmem : (i, j) ∈ loosePairs ds (befL ops.toList []) := by
      unfold loosePairs
      rw [List.mem_flatMap]
      exact ⟨j, by simpa using hj, List.mem_map.2 ⟨i, List.mem_filter.2 ⟨by simpa using hij, hl⟩, rfl⟩⟩
    unfold chkOk at hchk
    rw [List.all_eq_true] at hchk
    have := hchk (i, j) hmem
    simp only [e5 i (by omega), e5 j hj] at this
    exact this
  have R : Reg P nt call quiet m ops ds Fs Hs vs gs ft := ⟨by simpa using c1, fun i o ho => c2 i o (by simpa using ho), tr, hE, hT, hpairs, hcs, hcw, hcq, by rw [e2, e1]; exact ⟨h6, h7⟩⟩
  refine wp_region_any hmix ?_
  have hrep : ∀ k, ¬ (k < ops.size ∧ (Array.replicate ops.size false).getD k false = true) := by
    intro k ⟨hk, h⟩; simp [hk] at h
  refine Inv.any (P := P) (g := g) (μ1 := μ) (W0 := W) R ?_ ops.size (Array.replicate ops.size false) a _ μ (by simp) ?_ ?_ ?_
  · intro a' W' μ' I
    have hend : ∀ b x, (H')[b]? = some x → NowL ds.length Hs ft (fun k => k < ds.length) b x := fun b x hx => ⟨ds.length, Nat.le_refl _, by rw [e4]; exact hx, fun j hj _ => ⟨fun _ => hj, fun _ => hj⟩⟩
    have hkept : Kept m μ H W W' := by have := I.kept; rw [e2] at this; exact this
    have hfresh : Fresh m μ H W μ' H' := by
      intro b x p hx hl hp
      have := I.fresh b x p (hend b x hx) hl hp
      rw [e2] at this; exact this
    refine hQ a' W' ⟨μ', fun b hb => ?_, ⟨⟨fun b x p hx hp => I.rel.br b x p (hend b x hx) hp, fun b x p hm hx hl hp => ?_, I.rel.bd⟩, fun b hb => ?_⟩, ⟨fun t v hv => ?_, I.size, fun t v hv => ?_⟩, ⟨h4.1.trans h4.2 hkept, h4.2.trans h4.1.size hfresh⟩, I.dfr, ?_, ?_, ?_⟩
    · rw [I.old b (by rw [e2]; omega)]; exact h1 b hb
    · obtain ⟨k2, k3⟩ := I.rel.wr b x p hm (hend b x hx) hl hp
      exact ⟨k2, fun b' x' p' hne hx' hl' hp' => k3 b' x' p' hne (hend b' x' hx') hl' hp'⟩
    · cases hp : μ' b with
      | none => rfl
      | some p =>
        exfalso
        rw [← e4] at hb
        rcases I.dom b p hp with h | ⟨j, j1, j2, j3, j4⟩
        · have := R.lenLe (i := 0) (j := ds.length) (by omega) (Nat.le_refl _); omega
        · have := R.lenLe (i := j + 1) (j := ds.length) (by omega) (Nat.le_refl _); omega
    · exact (I.tmp t v (R.cur_end (fun i hi => hi) (by rw [e3]; exact hv))).1
    · exact (I.tmp t v (R.cur_end (fun i hi => hi) (by rw [e3]; exact hv))).2
    · rw [← e4]; exact (R.wfs ds.length (Nat.le_refl _)).1
    · rw [← e4, ← e3]; exact (R.wfs ds.length (Nat.le_refl _)).2
    · rw [← e4]
      have := R.lenLe (i := 0) (j := ds.length) (by omega) (Nat.le_refl _)
      rw [e2] at this; omega
  · have : ∀ i ∈ List.range ops.size, (!(Array.replicate ops.size false).getD i true) = true := by
      intro i hi; simp at hi; simp [hi]
    rw [List.countP_eq_length.2 this]; simp
  · intro k ok hk; exact absurd hk (hrep k)
  · have hstart : ∀ b x p, NowL ds.length Hs ft (fun k => k < ops.size ∧ (Array.replicate ops.size false).getD k false = true) b x → μ b = some p → H[b]? = some x := by
      intro b x p ⟨k, k1, k2, k3⟩ hp
      have hb : b < H.length := by
        by_cases hb : b < H.length
        · exact hb
        · rw [h2.dom b (by omega)] at hp; cases hp
      rw [← e2] at hb ⊢
      rw [← R.stays' (Nat.zero_le k) k1 hb fun j j1 j2 hw => hrep j ((k3 j (by omega) hw).1 j2)]
      exact k2
    refine ⟨fun b hb => rfl, fun b p hp => ?_, ⟨fun b x p hn hp => ?_, fun b x p hm hn hl hp => ?_, h2.g.bd⟩, fun t v hcur => ?_, h3.size, ?_, fun b x p hn hl hp => ?_, h5, fun j b S hL => absurd hL (hrep j)⟩
    · left
      rw [e2]
      by_cases hb : b < H.length
      · exact hb
      · rw [h2.dom b (by omega)] at hp; cases hp
    · exact (h2.g.br b x p (hstart b x p hn hp) hp).mono (fun _ _ h => h) rfl
    · obtain ⟨k2, k3⟩ := h2.g.wr b x p hm (hstart b x p hn hp) hl hp
      exact ⟨k2, fun b' x' p' hne hn' hl' hp' => k3 b' x' p' hne (hstart b' x' p' hn' hp') hl' hp'⟩
    · rcases hcur with ⟨j, dj, hj, hL, _⟩ | ⟨_, hv⟩
      · exact absurd hL (hrep j)
      · rw [e1] at hv; exact ⟨h3.slot t v hv, h3.bound t v hv⟩
    · exact ⟨rfl, rfl, rfl, Nat.le_refl _, fun _ _ _ => rfl⟩
    · exact .inr ⟨b, x, p, fun h => h, by rw [e2]; exact hstart b x p hn hp, hl, hp, rfl⟩

end
end Go.Proofs.Sh

namespace Go.Proofs.Sh
open Go Go.RowKit

/-! ### Collecting -/

/-- where the blocks lie behind a collecting -/
def moved (g : Nat) (ρ : Ren) (μ : LMap) : LMap := fun b => if b < g then μ b else match ρ[b - g]? with
  | some (b0, o, _) => (μ b0).map fun p => ⟨p.blk, p.base + o, p.room⟩
  | none => none

theorem find_at : ∀ (ρ : Ren) (b k i o n : Nat), Ren.find ρ b k = some (i, o, n) → ∃ j, i = k + j ∧ ρ[j]? = some (b, o, n)
  | [], b, k, i, o, n, h => by simp [Ren.find] at h
  | (b', o', n') :: l, b, k, i, o, n, h => by
    simp only [Ren.find] at h
    split at h
    · rename_i e
      injection h with h; injection h with e1 h; injection h with e2 e3
      subst e1 e2 e3 e
      exact ⟨0, by simp, rfl⟩
    · obtain ⟨j, hj, hg⟩ := find_at l b (k + 1) i o n h
      exact ⟨j + 1, by omega, by simpa using hg⟩

theorem moved_lt {g : Nat} {ρ : Ren} {μ : LMap} {b : Nat} (h : b < g) : moved g ρ μ b = μ b := by
  unfold moved; rw [if_pos h]

theorem moved_at {g : Nat} {ρ : Ren} {μ : LMap} {b j o n : Nat} {p : Loc} (h : ρ[j]? = some (b, o, n)) (hp : μ b = some p) : moved g ρ μ (g + j) = some ⟨p.blk, p.base + o, p.room⟩ := by
  unfold moved
  rw [if_neg (by omega), show g + j - g = j from by omega, h]
  simp [hp]

theorem moved_inv {g : Nat} {ρ : Ren} {μ : LMap} {b : Nat} {q : Loc} (h : moved g ρ μ b = some q) (hb : ¬ b < g) : ∃ b0 o n p, ρ[b - g]? = some (b0, o, n) ∧ μ b0 = some p ∧ q = ⟨p.blk, p.base + o, p.room⟩ := by
  unfold moved at h
  rw [if_neg hb] at h
  split at h
  · rename_i b0 o n hr
    cases hp : μ b0 with
    | none => rw [hp] at h; cases h
    | some p => rw [hp] at h; simp at h; exact ⟨b0, o, n, p, hr, hp, h.symm⟩
  · cases h

mutual
theorem ren_VR {g : Nat} {ρ : Ren} {μ : LMap} : ∀ (v v' : DV) (u : Value), v.ren g ρ = some v' → VR μ v u → VR (moved g ρ μ) v' u
  | .bool _, v', u, h, hv | .int _ _, v', u, h, hv | .flt _ _, v', u, h, hv | .str _, v', u, h, hv | .nilp, v', u, h, hv | .nils, v', u, h, hv | .nilm, v', u, h, hv | .nilf, v', u, h, hv | .nili, v', u, h, hv => by
    simp only [DV.ren] at h; injection h with h; subst h
    simpa only [VR] using hv
  | .ptr b o, v', u, h, hv => by
    simp only [DV.ren] at h
    split at h
    · rename_i hb
      injection h with h; subst h
      simp only [VR] at *
      rw [moved_lt hb]; exact hv
    · split at h
      · rename_i i o' n hf
        split at h
        · rename_i hc
          injection h with h; subst h
          obtain ⟨j, hj, hg⟩ := find_at _ _ _ _ _ _ hf
          simp only [VR] at *
          obtain ⟨p, hp, e⟩ := hv
          rw [show g + i = g + j from by omega]
          refine ⟨_, moved_at hg hp, ?_⟩
          rw [e]; simp only [Value.pointer.injEq, Option.some.injEq, Addr.mk.injEq, true_and, and_true]
          omega
        · cases h
      · cases h
  | .sl b o n c e, v', u, h, hv => by
    simp only [DV.ren] at h
    split at h
    · rename_i hb
      injection h with h; subst h
      simp only [VR] at *
      rw [moved_lt hb]; exact hv
    · split at h
      · rename_i i o' k hf
        split at h
        · rename_i hc
          injection h with h; subst h
          obtain ⟨j, hj, hg⟩ := find_at _ _ _ _ _ _ hf
          simp only [VR] at *
          obtain ⟨p, hp, a, c', e1, e2, e3, e4⟩ := hv
          rw [show g + i = g + j from by omega]
          refine ⟨_, moved_at hg hp, a, c', e1, e2, e3, ?_⟩
          rcases e4 with ⟨e4, e5⟩ | e4
          · left
            have : p.base + o' + (o - o') = p.base + o := by omega
            exact ⟨by rw [this]; exact e4, by simp only; omega⟩
          · exact .inr e4
        · cases h
      · cases h
  | .mp b, v', u, h, hv => by
    simp only [DV.ren] at h
    split at h
    · rename_i hb
      injection h with h; subst h
      simp only [VR] at *
      rw [moved_lt hb]; exact hv
    · cases h
  | .fn f fst caps, v', u, h, hv => by
    simp only [DV.ren] at h
    split at h
    · rename_i k hk
      split at h
      · rename_i l hl
        injection h with h; subst h
        simp only [VR] at *
        obtain ⟨fs, cs, e, hf, hc⟩ := hv
        exact ⟨fs, cs, e, rens_VR fst k _ hk hf, rens_VR caps l _ hl hc⟩
      · cases h
    · cases h
  | .agg caps, v', u, h, hv => by
    simp only [DV.ren] at h
    split at h
    · rename_i l hl
      injection h with h; subst h
      simp only [VR] at *
      obtain ⟨cs, e, hc⟩ := hv
      exact ⟨cs, e, rens_VR caps l _ hl hc⟩
    · cases h
  | .tup caps, v', u, h, hv => by
    simp only [DV.ren] at h
    split at h
    · rename_i l hl
      injection h with h; subst h
      simp only [VR] at *
      obtain ⟨cs, e, hc⟩ := hv
      exact ⟨cs, e, rens_VR caps l _ hl hc⟩
    · cases h
  | .ifc t x, v', u, h, hv => by
    simp only [DV.ren] at h
    split at h
    · rename_i y hy
      injection h with h; subst h
      simp only [VR] at *
      obtain ⟨w, e, hc⟩ := hv
      exact ⟨w, e, ren_VR x y _ hy hc⟩
    · cases h
theorem rens_VR {g : Nat} {ρ : Ren} {μ : LMap} : ∀ (v v' : List DV) (u : List Value), DV.rens g ρ v = some v' → VRs μ v u → VRs (moved g ρ μ) v' u
  | [], v', u, h, hv => by
    simp only [DV.rens] at h; injection h with h; subst h
    cases u with
    | nil => simp only [VRs]
    | cons _ _ => simp only [VRs] at hv
  | a :: l, v', u, h, hv => by
    simp only [DV.rens] at h
    split at h
    · rename_i a' ha
      split at h
      · rename_i l' hl
        injection h with h; subst h
        cases u with
        | nil => simp only [VRs] at hv
        | cons b m =>
          simp only [VRs] at *
          exact ⟨ren_VR a a' b ha hv.1, rens_VR l l' m hl hv.2⟩
      · cases h
    · cases h
end

mutual
theorem ren_lt {g : Nat} {ρ : Ren} : ∀ (v v' : DV), v.ren g ρ = some v' → v'.lt (g + ρ.length) = true
  | .bool _, v', h | .int _ _, v', h | .flt _ _, v', h | .str _, v', h | .nilp, v', h | .nils, v', h | .nilm, v', h | .nilf, v', h | .nili, v', h => by
    simp only [DV.ren] at h; injection h with h; subst h; rfl
  | .ptr b o, v', h => by
    simp only [DV.ren] at h
    split at h
    · injection h with h; subst h; simp only [DV.lt, decide_eq_true_eq]; omega
    · split at h
      · rename_i i o' n hf
        split at h
        · injection h with h; subst h
          obtain ⟨j, hj, hg⟩ := find_at _ _ _ _ _ _ hf
          have := (List.getElem?_eq_some_iff.1 hg).1
          simp only [DV.lt, decide_eq_true_eq]; omega
        · cases h
      · cases h
  | .sl b o n c e, v', h => by
    simp only [DV.ren] at h
    split at h
    · injection h with h; subst h; simp only [DV.lt, decide_eq_true_eq]; omega
    · split at h
      · rename_i i o' n hf
        split at h
        · injection h with h; subst h
          obtain ⟨j, hj, hg⟩ := find_at _ _ _ _ _ _ hf
          have := (List.getElem?_eq_some_iff.1 hg).1
          simp only [DV.lt, decide_eq_true_eq]; omega
        · cases h
      · cases h
  | .mp b, v', h => by
    simp only [DV.ren] at h
    split at h
    · injection h with h; subst h; simp only [DV.lt, decide_eq_true_eq]; omega
    · cases h
  | .fn f fst caps, v', h => by
    simp only [DV.ren] at h
    split at h
    · rename_i k hk
      split at h
      · rename_i l hl
        injection h with h; subst h; simp only [DV.lt, Bool.and_eq_true]; exact ⟨rens_lt fst k hk, rens_lt caps l hl⟩
      · cases h
    · cases h
  | .agg caps, v', h => by
    simp only [DV.ren] at h
    split at h
    · rename_i l hl
      injection h with h; subst h; simp only [DV.lt]; exact rens_lt caps l hl
    · cases h
  | .tup caps, v', h => by
    simp only [DV.ren] at h
    split at h
    · rename_i l hl
      injection h with h; subst h; simp only [DV.lt]; exact rens_lt caps l hl
    · cases h
  | .ifc t x, v', h => by
    simp only [DV.ren] at h
    split at h
    · rename_i y hy
      injection h with h; subst h; simp only [DV.lt]; exact ren_lt x y hy
    · cases h
theorem rens_lt {g : Nat} {ρ : Ren} : ∀ (v v' : List DV), DV.rens g ρ v = some v' → DV.lts (g + ρ.length) v' = true
  | [], v', h => by simp only [DV.rens] at h; injection h with h; subst h; simp [DV.lts]
  | a :: l, v', h => by
    simp only [DV.rens] at h
    split at h
    · rename_i a' ha
      split at h
      · rename_i l' hl
        injection h with h; subst h
        simp only [DV.lts, Bool.and_eq_true]
        exact ⟨ren_lt a a' ha, rens_lt l l' hl⟩
      · cases h
    · cases h
end

theorem renBlks_at {g : Nat} {H : DH} {ρ : Ren} : ∀ (l : Ren) (bs : List Blk), renBlks g H ρ l = some bs → bs.length = l.length ∧
    ∀ (i b o n : Nat), l[i]? = some (b, o, n) → ∃ cs ty cs', H[b]? = some (.cells cs ty) ∧ DV.rens g ρ ((cs.drop o).take n) = some cs' ∧ bs[i]? = some (.cells cs' ty) ∧ o ≤ cs.length
  | [], bs, h => by
    simp only [renBlks] at h; injection h with h; subst h; simp
  | (b, o, n) :: l, bs, h => by
    simp only [renBlks] at h
    split at h
    · rename_i cs ty hb
      split at h
      case isFalse => cases h
      case isTrue hol =>
        split at h
        · rename_i cs' hcs
          split at h
          · rename_i r hr
            injection h with h; subst h
            obtain ⟨h1, h2⟩ := renBlks_at l r hr
            refine ⟨by simp [h1], fun i b' o' n' hi => ?_⟩
            cases i with
            | zero => simp at hi; obtain ⟨rfl, rfl, rfl⟩ := hi; exact ⟨cs, ty, cs', hb, hcs, rfl, hol⟩
            | succ i => simp at hi; simpa using h2 i b' o' n' hi
          · cases h
        · cases h
    · cases h

theorem distinct_ne : ∀ {ρ : Ren}, distinct ρ = true → ∀ {i j : Nat} {x y : Nat × Nat × Nat}, ρ[i]? = some x → ρ[j]? = some y → i ≠ j → x.1 ≠ y.1
  | [], _, i, j, x, y, hi, _, _ => by simp at hi
  | (b, o, n) :: l, hd, i, j, x, y, hi, hj, hne => by
    simp only [distinct, Bool.and_eq_true, List.all_eq_true] at hd
    cases i with
    | zero =>
      cases j with
      | zero => exact absurd rfl hne
      | succ j =>
        simp at hi hj
        have hy := hd.1 y (List.mem_of_getElem? hj)
        subst hi
        exact fun e => by simp [show y.1 = b from e.symm] at hy
    | succ i =>
      cases j with
      | zero =>
        simp at hi hj
        have hx := hd.1 x (List.mem_of_getElem? hi)
        subst hj
        exact fun e => by simp [show x.1 = b from e] at hx
      | succ j => exact distinct_ne hd.2 (by simpa using hi) (by simpa using hj) (by omega)

mutual
theorem refs_ge {g : Nat} : ∀ (v : DV) (x : Nat × Option (Nat × Nat)), x ∈ v.refs g → g ≤ x.1
  | .bool _, x, h | .int _ _, x, h | .flt _ _, x, h | .str _, x, h | .nilp, x, h | .nils, x, h | .nilm, x, h | .nilf, x, h | .nili, x, h => by simp [DV.refs] at h
  | .ptr b o, x, h => by
    simp only [DV.refs] at h
    split at h
    · simp at h
    · simp at h; subst h; simp only; omega
  | .sl b o n c e, x, h => by
    simp only [DV.refs] at h
    split at h
    · simp at h
    · simp at h; subst h; simp only; omega
  | .mp b, x, h => by
    simp only [DV.refs] at h
    split at h
    · simp at h
    · simp at h; subst h; simp only; omega
  | .fn _ k l, x, h => by
    simp only [DV.refs, List.mem_append] at h
    rcases h with h | h
    · exact refss_ge k x h
    · exact refss_ge l x h
  | .agg l, x, h => by simp only [DV.refs] at h; exact refss_ge l x h
  | .tup l, x, h => by simp only [DV.refs] at h; exact refss_ge l x h
  | .ifc _ v, x, h => by simp only [DV.refs] at h; exact refs_ge v x h
theorem refss_ge {g : Nat} : ∀ (v : List DV) (x : Nat × Option (Nat × Nat)), x ∈ DV.refss g v → g ≤ x.1
  | [], x, h => by simp [DV.refss] at h
  | a :: l, x, h => by
    simp only [DV.refss, List.mem_append] at h
    rcases h with h | h
    · exact refs_ge a x h
    · exact refss_ge l x h
end

theorem frefs_ge {g : Nat} : ∀ (F : DF) (x : Nat × Option (Nat × Nat)), x ∈ F.refs g → g ≤ x.1
  | [], x, h => by simp [DF.refs] at h
  | (t, v) :: l, x, h => by
    simp only [DF.refs, List.mem_append] at h
    rcases h with h | h
    · exact refs_ge v x h
    · exact frefs_ge l x h

theorem reach_ge {g : Nat} {H : DH} : ∀ (k : Nat) (l : List (Nat × Option (Nat × Nat))) (ρ : Ren), (∀ x ∈ l, g ≤ x.1) → (∀ x ∈ ρ, g ≤ x.1) → ∀ x ∈ reach g H k l ρ, g ≤ x.1
  | 0, l, ρ, hl, hρ => by simpa only [reach] using hρ
  | k + 1, [], ρ, hl, hρ => by simpa only [reach] using hρ
  | k + 1, (b, w) :: l, ρ, hl, hρ => by
    have hl' : ∀ x ∈ l, g ≤ x.1 := fun x hx => hl x (by simp [hx])
    simp only [reach]
    split
    · exact reach_ge k l ρ hl' hρ
    · split
      · refine reach_ge k _ _ ?_ ?_
        · intro x hx
          rcases List.mem_append.1 hx with hx | hx
          · exact hl' x hx
          · exact refss_ge _ x hx
        · intro x hx
          rcases List.mem_append.1 hx with hx | hx
          · exact hρ x hx
          · simp at hx; subst hx; exact hl (b, w) (by simp)
      · exact reach_ge k l ρ hl' hρ

section
variable {g : Nat} {μ : LMap} {H : DH} {W : World} {ρ : Ren} {bs : List Blk}

theorem take_get {H : DH} {g b : Nat} {x : Blk} : (H.take g)[b]? = some x ↔ b < g ∧ H[b]? = some x := by
  rw [List.getElem?_take]
  by_cases hb : b < g
  · simp [hb]
  · simp [hb]

theorem kept_get (hg : g ≤ H.length) {b : Nat} {x : Blk} (h : (H.take g ++ bs)[b]? = some x) : (b < g ∧ H[b]? = some x) ∨ (g ≤ b ∧ bs[b - g]? = some x) := by
  have hl : (H.take g).length = g := by simp; omega
  by_cases hb : b < g
  · rw [List.getElem?_append_left (by omega), take_get] at h
    exact .inl h
  · rw [List.getElem?_append_right (by omega), hl] at h
    exact .inr ⟨by omega, h⟩

theorem gc_rel (hr : Rel g μ H W) (hg : g ≤ H.length) (hlow : WFH (H.take g)) (hge : ∀ x ∈ ρ, g ≤ x.1) (hd : distinct ρ = true) (hb : renBlks g H ρ ρ = some bs) :
    Rel g (moved g ρ μ) (H.take g ++ bs) W ∧ WFH (H.take g ++ bs) ∧ Fresh g μ H W (moved g ρ μ) (H.take g ++ bs) := by
  obtain ⟨hlen, hat⟩ := renBlks_at ρ bs hb
  have hl : (H.take g).length = g := by simp; omega
  -- a block behind it
  have hnew : ∀ {b : Nat} {x : Blk}, g ≤ b → bs[b - g]? = some x → ∃ b0 o n cs0 ty cs, x = .cells cs ty ∧ ρ[b - g]? = some (b0, o, n) ∧ g ≤ b0 ∧ H[b0]? = some (.cells cs0 ty) ∧ DV.rens g ρ ((cs0.drop o).take n) = some cs ∧ o ≤ cs0.length := by
    intro b x hgb hx
    have hi : b - g < ρ.length := by have := (List.getElem?_eq_some_iff.1 hx).1; omega
    obtain ⟨y, hx'⟩ : ∃ y, ρ[b - g]? = some y := ⟨_, List.getElem?_eq_getElem hi⟩
    obtain ⟨b0, o, n⟩ := y
    obtain ⟨cs0, ty0, cs', h1, h2, h3, h4⟩ := hat _ b0 o n hx'
    rw [hx] at h3; injection h3 with h3
    exact ⟨b0, o, n, cs0, ty0, cs', h3, hx', hge _ (List.mem_of_getElem? hx'), h1, h2, h4⟩
  have place : ∀ {b : Nat} {p : Loc} {b0 o n : Nat}, g ≤ b → ρ[b - g]? = some (b0, o, n) → moved g ρ μ b = some p → ∃ p0, μ b0 = some p0 ∧ p = ⟨p0.blk, p0.base + o, p0.room⟩ := by
    intro b p b0 o n hgb hρ hp
    obtain ⟨b1, o1, n1, p1, h1, h2, h3⟩ := moved_inv hp (by omega)
    rw [hρ] at h1; injection h1 with h1; injection h1 with e1 h1; injection h1 with e2 e3
    subst e1 e2 e3
    exact ⟨p1, h2, h3⟩
  -- what a block is behind it and was before it
  have back : ∀ {b : Nat} {x : Blk} {p : Loc}, (H.take g ++ bs)[b]? = some x → x ≠ .gone → moved g ρ μ b = some p →
      ∃ b0 x0 p0, H[b0]? = some x0 ∧ x0 ≠ .gone ∧ μ b0 = some p0 ∧ p0.blk = p.blk ∧ p0.room = p.room ∧ ((b < g ∧ b0 = b) ∨ (g ≤ b ∧ g ≤ b0 ∧ ∃ o n, ρ[b - g]? = some (b0, o, n))) := by
    intro b x p hx hne hp
    rcases kept_get hg hx with ⟨h1, h2⟩ | ⟨h1, h2⟩
    · rw [moved_lt h1] at hp
      exact ⟨b, x, p, h2, hne, hp, rfl, rfl, .inl ⟨h1, rfl⟩⟩
    · obtain ⟨b0, o, n, cs0, ty, cs, q0, q1, q2, q3, q4, q5⟩ := hnew h1 h2
      obtain ⟨p0, r1, rfl⟩ := place h1 q1 hp
      exact ⟨b0, _, p0, q3, by simp, r1, rfl, rfl, .inr ⟨h1, q2, o, n, q1⟩⟩
  refine ⟨⟨⟨?_, ?_, ?_⟩, ?_⟩, ?_, ?_⟩
  · intro b x p hx hp
    rcases kept_get hg hx with ⟨h1, h2⟩ | ⟨h1, h2⟩
    · rw [moved_lt h1] at hp
      have hv := hlow b x (take_get.2 ⟨h1, h2⟩)
      rw [hl] at hv
      exact (hr.g.br b x p h2 hp).mono' hv (fun b p hb hp => by rw [moved_lt hb]; exact hp) rfl
    · obtain ⟨b0, o, n, cs0, ty, cs, rfl, q1, q2, q3, q4, q5⟩ := hnew h1 h2
      obtain ⟨p0, r1, rfl⟩ := place h1 q1 hp
      obtain ⟨cc, fr, k1, k2, k3, k4⟩ := hr.g.br b0 (.cells cs0 ty) p0 q3 r1
      have hvr0 : VRs μ ((cs0.drop o).take n) (((cc.toList.drop (p0.base + o)).take n).take ((cs0.drop o).take n).length) := by
        refine VRs.of_get ?_ fun i v u hv hu => ?_
        · simp; omega
        · have hi := (List.getElem?_eq_some_iff.1 hv).1
          have hin : i < n := by simp at hi; omega
          rw [List.getElem?_take, if_pos hin, List.getElem?_drop] at hv
          obtain ⟨u', hu', hvr⟩ := k4 _ v hv
          rw [List.getElem?_take, if_pos hi, List.getElem?_take, if_pos hin, List.getElem?_drop] at hu
          have : cc[p0.base + (o + i)]? = some u := by simpa [Nat.add_assoc] using hu
          rw [hu'] at this; injection this with e; subst e; exact hvr
      have hvr := rens_VR _ _ _ q4 hvr0
      have hcl := VRs.len hvr
      refine ⟨cc, fr, k1, k2, ?_, fun i v hi => ?_⟩
      · simp at hcl ⊢
        omega
      · obtain ⟨u, hu, hv⟩ := VRs.get hvr hi
        refine ⟨u, ?_, hv⟩
        have hil := (List.getElem?_eq_some_iff.1 hu).1
        simp only [List.length_take, List.length_drop] at hil
        rw [List.getElem?_take, if_pos (by simp only [List.length_take, List.length_drop]; omega), List.getElem?_take, if_pos (by omega), List.getElem?_drop] at hu
        simpa [Nat.add_assoc] using hu
  · intro b x p hgb hx hne hp
    obtain ⟨b0, x0, p0, h1, h0, h2, h3, h4, h5⟩ := back hx hne hp
    rcases h5 with ⟨h5, _⟩ | ⟨_, h5, o, n, h6⟩
    · omega
    · obtain ⟨k2, k3⟩ := hr.g.wr b0 x0 p0 h5 h1 h0 h2
      rw [h3, h4] at *
      refine ⟨k2, fun b' x' p' hne' hx' hl' hp' => ?_⟩
      obtain ⟨b1, x1, p1, g1, g0, g2, g3, g4, g5⟩ := back hx' hl' hp'
      rw [← g3]
      refine k3 b1 x1 p1 ?_ g1 g0 g2
      rcases g5 with ⟨g5, rfl⟩ | ⟨g5, g6, o', n', g7⟩
      · omega
      · exact distinct_ne hd g7 h6 (by omega)
  · intro b p hp
    by_cases hb : b < g
    · rw [moved_lt hb] at hp; exact hr.g.bd b p hp
    · obtain ⟨b0, o, n, p0, h1, h2, rfl⟩ := moved_inv hp hb
      exact hr.g.bd b0 p0 h2
  · intro b hb
    simp only [List.length_append, hl, hlen] at hb
    unfold moved
    rw [if_neg (by omega), List.getElem?_eq_none (by omega)]
  · intro b x hx
    simp only [List.length_append, hl, hlen]
    rcases kept_get hg hx with ⟨h1, h2⟩ | ⟨h1, h2⟩
    · have := hlow b x (take_get.2 ⟨h1, h2⟩)
      rw [hl] at this
      exact DV.lts_mono (by omega) _ this
    · obtain ⟨b0, o, n, cs0, ty, cs, rfl, q1, q2, q3, q4, q5⟩ := hnew h1 h2
      exact rens_lt _ _ q4
  · intro b x p hx hne hp
    obtain ⟨b0, x0, p0, h1, h0, h2, h3, h4, h5⟩ := back hx hne hp
    refine .inr ⟨b0, x0, p0, fun hgb => ?_, h1, h0, h2, h3⟩
    rcases h5 with ⟨h5, rfl⟩ | ⟨_, h5, _⟩
    · exact hgb
    · exact h5

end
end Go.Proofs.Sh

namespace Go.Proofs.Sh
open Go Go.RowKit

/-! ### What lies below the fence stays -/

/-- H' is H below m, and no shorter -/
def Stay (m : Nat) (H H' : DH) : Prop := H.length ≤ H'.length ∧ ∀ b, b < m → H'[b]? = H[b]?

theorem Stay.refl {m : Nat} {H : DH} : Stay m H H := ⟨Nat.le_refl _, fun _ _ => rfl⟩
theorem Stay.trans {m : Nat} {H H1 H2 : DH} (h : Stay m H H1) (h' : Stay m H1 H2) : Stay m H H2 := ⟨Nat.le_trans h.1 h'.1, fun b hb => (h'.2 b hb).trans (h.2 b hb)⟩
theorem Stay.app {m : Nat} {H : DH} (hm : m ≤ H.length) (L : DH) : Stay m H (H ++ L) := ⟨by simp, fun b hb => List.getElem?_append_left (by omega)⟩
theorem Stay.put {m b o : Nat} {H H' : DH} {vs : List DV} (h : H.put m b o vs = some H') : Stay m H H' := by
  have hf := put_frame h
  refine ⟨by omega, fun b' hb => ?_⟩
  unfold DH.put at h
  split at h
  · split at h
    · rename_i hc
      exact hf.2 b' (by omega)
    · cases h
  · cases h
theorem Stay.killed {m b : Nat} {H : DH} (hm : m ≤ H.length) (hb : m ≤ b) (L : DH) : Stay m H (H.set b .gone ++ L) := by
  refine ⟨by simp, fun b' hb' => ?_⟩
  rw [List.getElem?_append_left (by simp; omega), List.getElem?_set, if_neg (by omega)]

theorem Stay.setAt {m b : Nat} {H H' : DH} {x : Blk} (h : H.setAt m b x = some H') : Stay m H H' := by
  have hf := setAt_frame h
  refine ⟨by omega, fun b' hb' => ?_⟩
  unfold DH.setAt at h
  split at h
  · exact hf.2 b' (by omega)
  · cases h

def CallStay (call : Nat → Nat → List DV → DH → Option (DV × DH)) : Prop :=
  ∀ f m args H r H', m ≤ H.length → call f m args H = some (r, H') → Stay m H H'

section
variable {call : Nat → Nat → List DV → DH → Option (DV × DH)} {quiet : Nat → Bool} {m : Nat} {F F' : DF} {H H' : DH} {d : DO} {v : DV}

theorem dapp_stay (hm : m ≤ H.length) {e ty bts : Nat} {x y : DV} (h : dapp m H e ty bts x y = some (v, H')) : Stay m H H' := by
  unfold dapp at h
  split at h
  · cases h
  · split at h
    · split at h
      · injection h with h; injection h with e1 e2; subst e1 e2; exact .refl
      · injection h with h; injection h with e1 e2; subst e1 e2; exact .refl
      · cases h
    · split at h
      · cases h
      · split at h
        · split at h
          · injection h with h; injection h with e1 e2; subst e1 e2; exact .app hm _
          · cases h
        · split at h
          · split at h
            · split at h
              · rename_i H2 hput
                injection h with h; injection h with e1 e2; subst e1 e2; exact .put hput
              · cases h
            · cases h
          · split at h
            · split at h
              · rename_i hc
                injection h with h; injection h with e1 e2; subst e1 e2; exact .killed hm hc.1 _
              · cases h
            · cases h
        · cases h

theorem dop_stay (hc : CallStay call) (hm : m ≤ H.length) (h : dop call m F H d = some (v, H')) : Stay m H H' := by
  have same : ∀ {r : DV}, some (r, H) = some (v, H') → Stay m H H' := by
    intro r e
    injection e with e; injection e with e1 e2; subst e1 e2
    exact .refl
  have one : ∀ {r : DV} {x : Blk}, some (r, H ++ [x]) = some (v, H') → Stay m H H' := by
    intro r x e
    injection e with e; injection e with e1 e2; subst e1 e2
    exact .app hm _
  cases d
  case call f xs =>
    simp only [dop] at h
    split at h
    · exact hc _ _ _ _ _ _ hm h
    · cases h
  case callv x xs =>
    simp only [dop] at h
    split at h
    · exact hc _ _ _ _ _ _ hm h
    · cases h
  case app e ty bts x y =>
    simp only [dop] at h
    split at h
    · exact dapp_stay hm h
    · cases h
  case st n x y =>
    simp only [dop] at h
    split at h
    · split at h
      · split at h
        · rename_i H2 hput
          injection h with h; injection h with e1 e2; subst e1 e2; exact .put hput
        · cases h
      · cases h
    · cases h
  case cpy e x y =>
    simp only [dop] at h
    split at h
    · split at h
      · exact same h
      · cases h
    · split at h
      · split at h
        · split at h
          · split at h
            · rename_i H2 hput
              injection h with h; injection h with e1 e2; subst e1 e2; exact .put hput
            · cases h
          · cases h
        · cases h
      · cases h
    · cases h
  case fldv off sz x =>
    cases sz <;> simp only [dop] at h
    all_goals (repeat' (split at h))
    all_goals first | (cases h; done) | exact same h
  case mup kd x k y =>
    simp only [dop] at h
    repeat' (split at h)
    all_goals first | (cases h; done) | (rename_i hs; injection h with h; injection h with e1 e2; subst e1 e2; exact .setAt hs)
  case mdl kd x k =>
    simp only [dop] at h
    repeat' (split at h)
    all_goals first | (cases h; done) | exact same h | (rename_i hs; injection h with h; injection h with e1 e2; subst e1 e2; exact .setAt hs)
  case nxt x =>
    simp only [dop] at h
    repeat' (split at h)
    all_goals first | (cases h; done) | exact same h | (rename_i hs; injection h with h; injection h with e1 e2; subst e1 e2; exact .setAt hs)
  case len s x =>
    cases s <;> simp only [dop] at h
    all_goals (repeat' (split at h))
    all_goals first | (cases h; done) | exact same h
  all_goals simp only [dop] at h
  all_goals (repeat' (split at h))
  all_goals first | (cases h; done) | exact same h | exact one h

theorem dops_stay (hc : CallStay call) : ∀ (ds : List DOp) (F : DF) (H : DH), m ≤ H.length → dops call m ds F H = some (F', H') → Stay m H H'
  | [], F, H, hm, h => by
    simp only [dops] at h; injection h with h; injection h with e1 e2; subst e1 e2; exact .refl
  | o :: ds, F, H, hm, h => by
    simp only [dops] at h
    split at h
    · cases h
    · exact dops_stay hc ds _ _ hm h
    · split at h
      · rename_i hd
        have := dop_stay hc hm hd
        exact this.trans (dops_stay hc ds _ _ (Nat.le_trans hm this.1) h)
      · cases h

theorem dopsC_dops : ∀ (ds : List DOp) (F F' : DF) (H H' : DH) (feet : List (Bool × Option (List Nat))), dopsC call quiet m ds F H = some (F', H', feet) → dops call m ds F H = some (F', H')
  | [], F, F', H, H', feet, h => by
    simp only [dopsC] at h; injection h with h; injection h with e1 h; injection h with e2 e3; subst e1 e2; rfl
  | o :: ds, F, F', H, H', feet, h => by
    simp only [dopsC] at h
    simp only [dops]
    split at h
    · cases h
    · split at h
      · rename_i hr
        injection h with h; injection h with e1 h; injection h with e2 e3; subst e1 e2
        exact dopsC_dops ds _ _ _ _ _ hr
      · cases h
    · split at h
      · split at h
        · rename_i hr
          injection h with h; injection h with e1 h; injection h with e2 e3; subst e1 e2
          exact dopsC_dops ds _ _ _ _ _ hr
        · cases h
      · cases h

/-- H' is H below m, and no shorter than g -/
def StayG (m g : Nat) (H H' : DH) : Prop := g ≤ H'.length ∧ ∀ b, b < m → H'[b]? = H[b]?

theorem Stay.toG {g : Nat} (h : Stay m H H') (hg : g ≤ H.length) : StayG m g H H' := ⟨Nat.le_trans hg h.1, h.2⟩

theorem gcF_stay {g : Nat} (hg : g ≤ H.length) (h : gcF g F H = some (F', H')) : StayG g g H H' := by
  unfold gcF at h
  simp only at h
  split at h
  · split at h
    · split at h
      · injection h with h; injection h with e1 e2; subst e1 e2
        refine ⟨by simp; omega, fun b hb => ?_⟩
        rw [List.getElem?_append_left (by simp; omega), List.getElem?_take, if_pos hb]
      · cases h
    · cases h
  · cases h

theorem dcode_stay (hc : CallStay call) {n g : Nat} (hmg : m ≤ g) : ∀ (c : DC) (F : DF) (H : DH) (e : DE) (F' : DF) (H' : DH), g ≤ H.length → dcode call quiet n m g c F H = some (e, F', H') → StayG m g H H'
  | .skip, F, H, e, F', H', hg, h => by
    simp only [dcode] at h; injection h with h; injection h with e1 h; injection h with e2 e3; subst e1 e2 e3
    exact ⟨hg, fun _ _ => rfl⟩
  | .stuck, F, H, e, F', H', hg, h => by simp [dcode] at h
  | .exit id, F, H, e, F', H', hg, h => by
    simp only [dcode] at h; injection h with h; injection h with e1 h; injection h with e2 e3; subst e1 e2 e3
    exact ⟨hg, fun _ _ => rfl⟩
  | .ret, F, H, e, F', H', hg, h => by
    simp only [dcode] at h; injection h with h; injection h with e1 h; injection h with e2 e3; subst e1 e2 e3
    exact ⟨hg, fun _ _ => rfl⟩
  | .reg ops draw [], F, H, e, F', H', hg, h => by
    simp only [dcode] at h
    split at h
    · rename_i hd
      injection h with h; injection h with e1 h; injection h with e2 e3; subst e1 e2 e3
      exact (dops_stay hc ops F H (by omega) hd).toG hg
    · cases h
  | .reg ops draw (p :: chk), F, H, e, F', H', hg, h => by
    simp only [dcode] at h
    split at h
    · rename_i hd
      split at h
      · injection h with h; injection h with e1 h; injection h with e2 e3; subst e1 e2 e3
        exact (dops_stay hc ops F H (by omega) (dopsC_dops ops _ _ _ _ _ hd)).toG hg
      · cases h
    · cases h
  | .seq a b, F, H, e, F', H', hg, h => by
    simp only [dcode] at h
    split at h
    · rename_i F1 H1 ha
      have h1 := dcode_stay hc hmg a F H _ _ _ hg ha
      have h2 := dcode_stay hc hmg b F1 H1 _ _ _ h1.1 h
      exact ⟨h2.1, fun b hb => (h2.2 b hb).trans (h1.2 b hb)⟩
    · exact dcode_stay hc hmg a F H _ _ _ hg h
  | .cond x a b, F, H, e, F', H', hg, h => by
    simp only [dcode] at h
    split at h
    · exact dcode_stay hc hmg a F H _ _ _ hg h
    · exact dcode_stay hc hmg b F H _ _ _ hg h
    · cases h
  | .block id a, F, H, e, F', H', hg, h => by
    simp only [dcode] at h
    split at h
    · rename_i ha
      have h1 := dcode_stay hc hmg a F H _ _ _ hg ha
      split at h <;> (injection h with h; injection h with e1 h; injection h with e2 e3; subst e1 e2 e3; exact h1)
    · exact dcode_stay hc hmg a F H _ _ _ hg h
  | .loop a, F, H, e, F', H', hg, h => by
    simp only [dcode] at h
    have key : ∀ k F H, g ≤ H.length → iter (dcode call quiet n m g a) k F H = some (e, F', H') → StayG m g H H' := by
      intro k
      induction k with
      | zero => intro F H _ h; simp [iter] at h
      | succ k ih =>
        intro F H hg h
        simp only [iter] at h
        split at h
        · rename_i F1 H1 ha
          have h1 := dcode_stay hc hmg a F H _ _ _ hg ha
          have h2 := ih F1 H1 h1.1 h
          exact ⟨h2.1, fun b hb => (h2.2 b hb).trans (h1.2 b hb)⟩
        · exact dcode_stay hc hmg a F H _ _ _ hg h
    exact key n F H hg h
  | .gc heap live, F, H, e, F', H', hg, h => by
    simp only [dcode] at h
    split at h
    · rename_i hm
      replace hm := hm.2; subst hm
      split at h
      · rename_i hgc
        injection h with h; injection h with e1 h; injection h with e2 e3; subst e1 e2 e3
        exact gcF_stay hg hgc
      · cases h
    · injection h with h; injection h with e1 h; injection h with e2 e3; subst e1 e2 e3
      exact ⟨hg, fun _ _ => rfl⟩

theorem take_stay {g : Nat} (_hg : g ≤ H.length) (h : StayG g g H H') : H'.take g = H.take g := by
  apply List.ext_getElem?
  intro i
  rw [List.getElem?_take, List.getElem?_take]
  by_cases hi : i < g
  · rw [if_pos hi, if_pos hi, h.2 i hi]
  · rw [if_neg hi, if_neg hi]

theorem renF_get {g : Nat} {ρ : Ren} : ∀ {F F' : DF}, renF g ρ F = some F' → ∀ {t : Nat} {v' : DV}, F'.get t = some v' → ∃ v, F.get t = some v ∧ v.ren g ρ = some v'
  | [], F', h, t, v', hv => by
    simp only [renF] at h; injection h with h; subst h; simp [DF.get] at hv
  | (k, w) :: l, F', h, t, v', hv => by
    simp only [renF] at h
    split at h
    · rename_i w' hw
      split at h
      · rename_i l' hl
        injection h with h; subst h
        simp only [DF.get] at hv ⊢
        split at hv
        · rename_i e
          injection hv with hv; subst hv
          rw [if_pos e]
          exact ⟨w, rfl, hw⟩
        · rename_i e
          rw [if_neg e]
          exact renF_get hl hv
      · cases h
    · cases h

theorem FR.keep {μ : LMap} {F : DF} {a : Act} {nt : Nat} (h : FR μ F a nt) (S : List Nat) : FR μ (F.keep S) a nt := by
  refine ⟨fun t v hv => ?_, h.size, fun t v hv => ?_⟩
  · rw [keep_get] at hv; split at hv
    · exact h.slot t v hv
    · cases hv
  · rw [keep_get] at hv; split at hv
    · exact h.bound t v hv
    · cases hv

theorem WFF.keep {n : Nat} {F : DF} (h : WFF n F) (S : List Nat) : WFF n (F.keep S) := by
  intro t v hv
  rw [keep_get] at hv; split at hv
  · exact h t v hv
  · cases hv

/-- **Collecting.** -/
theorem St.gc {g nt : Nat} {μ0 : LMap} {H0 : DH} {W0 W : World} {a : Act} (hst : St g g nt μ0 H0 W0 F H a W) (hlow : WFH (H.take g)) (h : gcF g F H = some (F', H')) : St g g nt μ0 H0 W0 F' H' a W := by
  obtain ⟨μ, h1, h2, h3, h4, h5, h6, h7, h8⟩ := hst
  unfold gcF at h
  simp only at h
  split at h
  case isFalse => cases h
  case isTrue hd =>
    split at h
    case h_2 => cases h
    case h_1 F1 hF =>
      split at h
      case h_2 => cases h
      case h_1 bs hb =>
        injection h with h; injection h with e1 e2; subst e1 e2
        have hge := reach_ge (g := g) (H := H) ((F.refs g).length + refsIn g (H.drop g)) (F.refs g) [] (frefs_ge F) (by simp)
        obtain ⟨r1, r2, r3⟩ := gc_rel h2 h8 hlow hge hd hb
        have hlen := (renBlks_at _ _ hb).1
        refine ⟨_, fun b hb => (moved_lt hb).trans (h1 b hb), r1, ⟨fun t v hv => ?_, h3.size, fun t v hv => ?_⟩, ⟨h4.1, h4.2.trans h4.1.size r3⟩, h5, r2, fun t v hv => ?_, ?_⟩
        · obtain ⟨v0, g1, g2⟩ := renF_get hF hv
          exact ren_VR _ _ _ g2 (h3.slot t v0 g1)
        · obtain ⟨v0, g1, g2⟩ := renF_get hF hv
          exact h3.bound t v0 g1
        · obtain ⟨v0, g1, g2⟩ := renF_get hF hv
          have := ren_lt _ _ g2
          simp only [List.length_append, List.length_take]
          rw [hlen, Nat.min_eq_left h8]
          exact this
        · simp; omega

theorem St.keep {g nt : Nat} {μ0 : LMap} {H0 : DH} {W0 W : World} {a : Act} (hst : St m g nt μ0 H0 W0 F H a W) (S : List Nat) : St m g nt μ0 H0 W0 (F.keep S) H a W := by
  obtain ⟨μ, h1, h2, h3, h4, h5, h6, h7, h8⟩ := hst
  exact ⟨μ, h1, h2, h3.keep S, h4, h5, h6, h7.keep S, h8⟩

end
end Go.Proofs.Sh

namespace Go.Proofs.Sh
open Go Go.RowKit

def DE.ex : DE → Exit
  | .normal => .normal
  | .exit id => .exit id
  | .ret => .ret

theorem comp_gc {P : Program} {nt : Nat} {k : Code} {c : DC} (h : comp P nt k = some c) : c.isGc = false := by
  cases k <;> simp only [comp] at h
  all_goals (repeat' (split at h))
  all_goals first | (cases h; done) | (injection h with h; subst h; rfl)

theorem exists_least {R : Nat → Prop} (h : ∃ k, R k) : ∃ k, R k ∧ ∀ j, R j → k ≤ j := by
  obtain ⟨k, hk⟩ := h
  induction k using Nat.strongRecOn with
  | _ k ih =>
    by_cases h : ∃ j, j < k ∧ R j
    · obtain ⟨j, hj, hR⟩ := h; exact ih j hj hR
    · exact ⟨k, hk, fun j hj => by
        by_cases hlt : j < k
        · exact absurd ⟨j, hlt, hj⟩ h
        · omega⟩

/-- a loop, by how many rounds there are left -/
theorem wp_loop_n {P : Program} {Q : Exit → Act → World → Prop} {c : Code} (R : Nat → Act → World → Prop) (h0 : ∀ a w, ¬ R 0 a w)
    (round : ∀ n a w, R (n + 1) a w → c.wp P (Exit.then (R n) Q) a w) {n : Nat} {a : Act} {w : World} (h : R n a w) : (Code.loop c).wp P Q a w := by
  have ex : ∀ a w, ∃ k, (∃ n, R n a w) → (R k a w ∧ ∀ j, R j a w → k ≤ j) := by
    intro a w
    by_cases h : ∃ n, R n a w
    · obtain ⟨k, hk⟩ := exists_least h; exact ⟨k, fun _ => hk⟩
    · exact ⟨0, fun h' => absurd h' h⟩
  refine wp_loop (fun a w => ∃ n, R n a w) (fun a w => Classical.choose (ex a w)) ⟨n, h⟩ fun a w hI => ?_
  obtain ⟨h1, h2⟩ := Classical.choose_spec (ex a w) hI
  cases hk : Classical.choose (ex a w) with
  | zero => rw [hk] at h1; exact absurd h1 (h0 a w)
  | succ k =>
    rw [hk] at h1
    refine wp_mono (round k a w h1) fun e a' w' hq => ?_
    cases e with
    | normal =>
      refine ⟨⟨k, hq⟩, ?_⟩
      have := (Classical.choose_spec (ex a' w') ⟨k, hq⟩).2 k hq
      omega
    | _ => exact hq

section
variable {P : Program} {m g nt n : Nat} {μ0 : LMap} {H0 : DH} {W0 : World} {call : Nat → Nat → List DV → DH → Option (DV × DH)} {quiet : Nat → Bool}

/-- **Code.** -/
theorem code_sound (hcs : CallSound P call) (hcw : CallWF call) (hcq : CallQuiet call quiet) (hct : CallStay call) (hmix : P.follows .mixedOrders = true) (hmg : m ≤ g) :
    ∀ (c : DC) (k : Code), comp P nt k = some c.strip → ∀ (F : DF) (H : DH) (a : Act) (W : World) (e : DE) (F' : DF) (H' : DH) (Q : Exit → Act → World → Prop),
      dcode call quiet n m g c F H = some (e, F', H') → St m g nt μ0 H0 W0 F H a W → (m = g → WFH (H.take g)) → (∀ a' W', St m g nt μ0 H0 W0 F' H' a' W' → Q e.ex a' W') → k.wp P Q a W := by
  intro c
  induction c with
  | skip =>
    intro k hk F H a W e F' H' Q hd hst hlow hQ
    simp only [dcode] at hd; injection hd with hd; injection hd with e1 hd; injection hd with e2 e3; subst e1 e2 e3
    have : k = .skip := by
      cases k <;> simp only [comp, DC.strip] at hk
      all_goals (repeat' (split at hk))
      all_goals first | rfl | (cases hk; done)
    subst this
    exact wp_skip (hQ a W hst)
  | stuck =>
    intro k hk F H a W e F' H' Q hd
    simp only [dcode] at hd; cases hd
  | exit id =>
    intro k hk F H a W e F' H' Q hd hst hlow hQ
    simp only [dcode] at hd; injection hd with hd; injection hd with e1 hd; injection hd with e2 e3; subst e1 e2 e3
    have : k = .exit id := by
      cases k <;> simp only [comp, DC.strip] at hk
      all_goals (repeat' (split at hk))
      all_goals first | (cases hk; done) | (injection hk with hk; injection hk with hk; subst hk; rfl)
    subst this
    exact wp_exit (hQ a W hst)
  | ret =>
    intro k hk F H a W e F' H' Q hd hst hlow hQ
    simp only [dcode] at hd; injection hd with hd; injection hd with e1 hd; injection hd with e2 e3; subst e1 e2 e3
    have : k = .ret := by
      cases k <;> simp only [comp, DC.strip] at hk
      all_goals (repeat' (split at hk))
      all_goals first | rfl | (cases hk; done)
    subst this
    exact wp_ret (hQ a W hst)
  | gc heap live =>
    intro k hk
    have := comp_gc hk
    simp [DC.strip, DC.isGc] at this
  | reg ops draw chk =>
    intro k hk F H a W e F' H' Q hd hst hlow hQ
    have : ∃ id kops kdraw, k = .region id kops kdraw ∧ cOps P nt kops kops.toList = some ops ∧ kdraw = draw ∧ (if draw then loosePairs ops (befL kops.toList []) else []) = chk ∧ (draw = true → edgesOk kops.toList = true ∧ tmpsOk ops (befL kops.toList []) = true) := by
      cases k <;> simp only [comp, DC.strip] at hk
      case region id kops kdraw =>
        split at hk
        case h_2 => cases hk
        case h_1 l hl =>
          split at hk
          case isFalse => cases hk
          case isTrue hok =>
            injection hk with hk; injection hk with e1 e2 e3; subst e1 e2
            refine ⟨id, kops, kdraw, rfl, hl, rfl, e3, fun h => ?_⟩
            subst h
            simpa using hok
      all_goals (repeat' (split at hk))
      all_goals (cases hk; done)
    obtain ⟨id, kops, kdraw, rfl, hl, rfl, hchk, hok⟩ := this
    have fin : ∀ {F1 : DF} {H1 : DH}, some (DE.normal, F1, H1) = some (e, F', H') → e = .normal ∧ F1 = F' ∧ H1 = H' := by
      intro F1 H1 h
      injection h with h; injection h with e1 h; injection h with e2 e3
      exact ⟨e1.symm, e2, e3⟩
    cases kdraw with
    | false =>
      simp only [Bool.false_eq_true, if_false] at hchk
      subst hchk
      simp only [dcode] at hd
      split at hd
      case h_2 => cases hd
      case h_1 F1 H1 hds =>
        obtain ⟨rfl, rfl, rfl⟩ := fin hd
        exact region_text hcs hcw hl hds hst hQ
    | true =>
      simp only [if_true] at hchk
      obtain ⟨o1, o2⟩ := hok rfl
      cases hc : chk with
      | nil =>
        rw [hc] at hd hchk
        simp only [dcode] at hd
        split at hd
        case h_2 => cases hd
        case h_1 F1 H1 hds =>
          obtain ⟨rfl, rfl, rfl⟩ := fin hd
          obtain ⟨feet, hf⟩ := dops_C (quiet := quiet) _ _ _ _ _ hds
          exact region_draw hcs hcw hcq hmix hl o1 o2 hf (by rw [hchk]; rfl) hst hQ
      | cons p l =>
        rw [hc] at hd hchk
        simp only [dcode] at hd
        split at hd
        case h_2 => cases hd
        case h_1 F1 H1 feet hds =>
          split at hd
          case isFalse => cases hd
          case isTrue hck =>
            obtain ⟨rfl, rfl, rfl⟩ := fin hd
            exact region_draw hcs hcw hcq hmix hl o1 o2 hds (by rw [hchk]; exact hck) hst hQ
  | seq x y ihx ihy =>
    intro k hk F H a W e F' H' Q hd hst hlow hQ
    simp only [dcode] at hd
    by_cases hgc : x.isGc = true
    · -- a place at which it collects
      cases x <;> simp only [DC.isGc] at hgc <;> first | (cases hgc; done) | skip
      rename_i heap live
      simp only [DC.strip, DC.isGc, if_true] at hk
      simp only [dcode] at hd
      by_cases hm : heap = true ∧ m = g
      · rw [if_pos hm] at hd
        replace hm := hm.2
        cases hg : gcF g (F.keep live) H with
        | none => rw [hg] at hd; simp at hd
        | some r =>
          obtain ⟨F1, H1⟩ := r
          rw [hg] at hd
          simp only at hd
          subst hm
          have hst1 := (hst.keep live).gc (hlow rfl) hg
          have hgl : m ≤ H.length := by obtain ⟨_, _, _, _, _, _, _, _, h8⟩ := hst; exact h8
          exact ihy k hk F1 H1 a W e F' H' Q hd hst1 (fun _ => by rw [take_stay hgl (gcF_stay hgl hg)]; exact hlow rfl) hQ
      · rw [if_neg hm] at hd
        exact ihy k hk _ H a W e F' H' Q hd (hst.keep live) hlow hQ
    · simp only [DC.strip, if_neg hgc] at hk
      have : ∃ kx ky, k = .seq kx ky ∧ comp P nt kx = some x.strip ∧ comp P nt ky = some y.strip := by
        cases k <;> simp only [comp] at hk
        case seq kx ky =>
          split at hk
          · split at hk
            · injection hk with hk; injection hk with e1 e2; subst e1 e2
              exact ⟨kx, ky, rfl, by assumption, by assumption⟩
            · cases hk
          · cases hk
        all_goals (repeat' (split at hk))
        all_goals (cases hk; done)
      obtain ⟨kx, ky, rfl, hkx, hky⟩ := this
      refine wp_seq ?_
      have hgl : g ≤ H.length := by obtain ⟨_, _, _, _, _, _, _, _, h8⟩ := hst; exact h8
      split at hd
      · rename_i F1 H1 hx
        refine ihx kx hkx F H a W _ _ _ _ hx hst hlow fun a' W' hst' => ?_
        refine ihy ky hky F1 H1 a' W' e F' H' Q hd hst' (fun hm => ?_) hQ
        subst hm
        rw [take_stay hgl (dcode_stay hct hmg x F H _ _ _ hgl hx)]
        exact hlow rfl
      · rename_i hne
        refine ihx kx hkx F H a W _ _ _ _ hd hst hlow fun a' W' hst' => ?_
        cases e with
        | normal => exact absurd hd (hne F' H')
        | exit id => exact hQ a' W' hst'
        | ret => exact hQ a' W' hst'
  | cond x y z ihy ihz =>
    intro k hk F H a W e F' H' Q hd hst hlow hQ
    simp only [dcode] at hd
    simp only [DC.strip] at hk
    have : ∃ kx ky kz, k = .cond kx ky kz ∧ cX kx = some x ∧ comp P nt ky = some y.strip ∧ comp P nt kz = some z.strip := by
      cases k <;> simp only [comp] at hk
      case cond kx ky kz =>
        split at hk
        · split at hk
          · split at hk
            · injection hk with hk; injection hk with e1 e2 e3; subst e1 e2 e3
              exact ⟨kx, ky, kz, rfl, by assumption, by assumption, by assumption⟩
            · cases hk
          · cases hk
        · cases hk
      all_goals (repeat' (split at hk))
      all_goals (cases hk; done)
    obtain ⟨kx, ky, kz, rfl, hkx, hky, hkz⟩ := this
    have hfr := hst
    obtain ⟨μ, _, _, hfr, _⟩ := hfr
    split at hd
    · rename_i hx
      have hv := cX_VR hfr hkx hx
      simp only [VR] at hv
      exact wp_cond_true hv (ihy ky hky F H a W e F' H' Q hd hst hlow hQ)
    · rename_i hx
      have hv := cX_VR hfr hkx hx
      simp only [VR] at hv
      exact wp_cond_false hv (ihz kz hkz F H a W e F' H' Q hd hst hlow hQ)
    · cases hd
  | block id x ihx =>
    intro k hk F H a W e F' H' Q hd hst hlow hQ
    simp only [dcode] at hd
    simp only [DC.strip] at hk
    have : ∃ kx, k = .block id kx ∧ comp P nt kx = some x.strip := by
      cases k <;> simp only [comp] at hk
      case block id' kx =>
        split at hk
        · injection hk with hk; injection hk with e1 e2; subst e1 e2
          exact ⟨kx, rfl, by assumption⟩
        · cases hk
      all_goals (repeat' (split at hk))
      all_goals (cases hk; done)
    obtain ⟨kx, rfl, hkx⟩ := this
    refine wp_block ?_
    split at hd
    · rename_i id' F1 H1 hx
      refine ihx kx hkx F H a W _ _ _ _ hx hst hlow fun a' W' hst' => ?_
      simp only [DE.ex, Exit.inBlock]
      split at hd
      · rename_i hid
        injection hd with hd; injection hd with e1 hd; injection hd with e2 e3; subst e1 e2 e3
        rw [if_pos hid]; exact hQ a' W' hst'
      · rename_i hid
        injection hd with hd; injection hd with e1 hd; injection hd with e2 e3; subst e1 e2 e3
        rw [if_neg hid]; exact hQ a' W' hst'
    · rename_i hne
      refine ihx kx hkx F H a W _ _ _ _ hd hst hlow fun a' W' hst' => ?_
      cases e with
      | normal => exact hQ a' W' hst'
      | exit id => exact absurd hd (hne id F' H')
      | ret => exact hQ a' W' hst'
  | loop x ihx =>
    intro k hk F H a W e F' H' Q hd hst hlow hQ
    simp only [dcode] at hd
    simp only [DC.strip] at hk
    have : ∃ kx, k = .loop kx ∧ comp P nt kx = some x.strip := by
      cases k <;> simp only [comp] at hk
      case loop kx =>
        split at hk
        · injection hk with hk; injection hk with e1; subst e1
          exact ⟨kx, rfl, by assumption⟩
        · cases hk
      all_goals (repeat' (split at hk))
      all_goals (cases hk; done)
    obtain ⟨kx, rfl, hkx⟩ := this
    refine wp_loop_n (fun j a W => ∃ F H, iter (dcode call quiet n m g x) j F H = some (e, F', H') ∧ St m g nt μ0 H0 W0 F H a W ∧ (m = g → WFH (H.take g))) ?_ ?_ (n := n) ⟨F, H, hd, hst, hlow⟩
    · rintro a W ⟨F, H, h, _⟩; simp [iter] at h
    · rintro j a W ⟨F, H, h, hst, hlow⟩
      simp only [iter] at h
      have hgl : g ≤ H.length := by obtain ⟨_, _, _, _, _, _, _, _, h8⟩ := hst; exact h8
      split at h
      · rename_i F1 H1 hx
        refine ihx kx hkx F H a W _ _ _ _ hx hst hlow fun a' W' hst' => ?_
        refine ⟨F1, H1, h, hst', fun hm => ?_⟩
        subst hm
        rw [take_stay hgl (dcode_stay hct hmg x F H _ _ _ hgl hx)]
        exact hlow rfl
      · rename_i hne
        refine ihx kx hkx F H a W _ _ _ _ h hst hlow fun a' W' hst' => ?_
        cases e with
        | normal => exact absurd h (hne F' H')
        | exit id => exact hQ a' W' hst'
        | ret => exact hQ a' W' hst'

end
end Go.Proofs.Sh

namespace Go.Proofs.Sh
open Go Go.RowKit

/-! ### Functions -/

/-- a thing that stands for a function, whatever it is made of -/
structure PrimOk (P : Program) (f : Nat) (q : Bool) (φ : Nat → List DV → DH → Option (DV × DH)) : Prop where
  sound : ∀ m args H r H', φ m args H = some (r, H') → hasBody P f = true ∧ (WFH H → DV.lts H.length args = true → ∀ μ W (vs : Array Value), Rel m μ H W → VRs μ args vs.toList →
    Calls P f vs W (fun e W' => ∃ u μ', e = .returned u ∧ Out m μ H W r H' μ' u W'))
  wf : ∀ m args H r H', φ m args H = some (r, H') → WFH H → DV.lts H.length args = true → WFH H' ∧ r.lt H'.length = true ∧ H.length ≤ H'.length
  quiet : q = true → ∀ m args H r H', φ m args H = some (r, H') → (∃ L, H' = H ++ L) ∧ ∀ m2, φ m2 args H = some (r, H')
  stay : ∀ m args H r H', m ≤ H.length → φ m args H = some (r, H') → Stay m H H'

structure Fits (P : Program) (D : DP) : Prop where
  mix : P.follows .mixedOrders = true
  prim : ∀ f φ, D.prim f = some φ → PrimOk P f (D.quiet f) φ
  fn : ∀ f fn, D.fn f = some fn → ∃ kf, P.funcs[f]? = some kf ∧ compFn P kf fn.np fn.quiet fn.gcr = some fn.strip ∧ hasBody P f = true ∧ fn.np ≤ fn.ntmps

theorem initF_get : ∀ (vs : List DV) (i t : Nat) (v : DV), (initF i vs).get t = some v → i ≤ t ∧ vs[t - i]? = some v
  | [], i, t, v, h => by simp [initF, DF.get] at h
  | a :: l, i, t, v, h => by
    simp only [initF, DF.get] at h
    split at h
    · rename_i e
      injection h with h; subst h e
      exact ⟨Nat.le_refl _, by simp⟩
    · obtain ⟨h1, h2⟩ := initF_get l (i + 1) t v h
      refine ⟨by omega, ?_⟩
      rw [show t - i = t - (i + 1) + 1 from by omega]
      simpa using h2

section
variable {P : Program} {D : DP} {m nt : Nat} {μ : LMap} {H : DH} {W : World} {F : DF} {a : Act}

theorem results_list (hr : Rel m μ H W) (hf : FR μ F a nt) (hF : WFF H.length F) (hH : WFH H) : ∀ (rs : List ResultVar) (ds : List DRes), cRes P rs = some ds → ∀ vs, DRes.evs F H ds = some vs →
    (∃ us, (rs.mapM fun
    | .tmp t => pure (a.tmps.getD t undef)
    | .cell c t => do loadVar t (← asAddr (a.tmps.getD c undef)) : Sem (List Value)).run P W = .ok us W ∧ VRs μ vs us) ∧ DV.lts H.length vs = true
  | [], ds, hc, vs, hv => by
    simp only [cRes] at hc; injection hc with hc; subst hc
    simp only [DRes.evs] at hv; injection hv with hv; subst hv
    exact ⟨⟨[], by simp, by simp only [VRs]⟩, by simp [DV.lts]⟩
  | .tmp t :: rs, ds, hc, vs, hv => by
    simp only [cRes] at hc
    split at hc
    case h_2 => cases hc
    case h_1 l hl =>
      injection hc with hc; subst hc
      simp only [DRes.evs, DRes.ev] at hv
      split at hv
      case h_2 => cases hv
      case h_1 v hv1 =>
        split at hv
        case h_2 => cases hv
        case h_1 vs1 hvs1 =>
          injection hv with hv; subst hv
          obtain ⟨⟨us, h1, h2⟩, h3⟩ := results_list hr hf hF hH rs l hl vs1 hvs1
          refine ⟨⟨a.tmps.getD t undef :: us, ?_, ?_⟩, ?_⟩
          · simp only [List.mapM_cons, Sem.run_bind, Sem.run_pure, Result.andThen_ok, h1]
          · simp only [VRs]; exact ⟨hf.slot t v hv1, h2⟩
          · simp only [DV.lts, Bool.and_eq_true]; exact ⟨hF t v hv1, h3⟩
  | .cell c t :: rs, ds, hc, vs, hv => by
    simp only [cRes] at hc
    have one : ∀ {l : List DRes} {sz : Option Nat}, cRes P rs = some l → DRes.evs F H (.cell c sz :: l) = some vs → (∀ v, DRes.ev F H (.cell c sz) = some v → v.lt H.length = true ∧ ∃ u, (do loadVar t (← asAddr (a.tmps.getD c undef)) : Sem Value).run P W = .ok u W ∧ VR μ v u) →
        (∃ us, ((.cell c t :: rs).mapM fun
    | .tmp t => pure (a.tmps.getD t undef)
    | .cell c t => do loadVar t (← asAddr (a.tmps.getD c undef)) : Sem (List Value)).run P W = .ok us W ∧ VRs μ vs us) ∧ DV.lts H.length vs = true := by
      intro l sz hl hv hone
      simp only [DRes.evs] at hv
      split at hv
      case h_2 => cases hv
      case h_1 v hv1 =>
        split at hv
        case h_2 => cases hv
        case h_1 vs1 hvs1 =>
          injection hv with hv; subst hv
          obtain ⟨⟨us, h1, h2⟩, h3⟩ := results_list hr hf hF hH rs l hl vs1 hvs1
          obtain ⟨k1, u, k2, k3⟩ := hone v hv1
          refine ⟨⟨u :: us, ?_, ?_⟩, ?_⟩
          · simp only [Sem.run_bind] at k2
            simp only [List.mapM_cons, Sem.run_bind, k2, Sem.run_pure, Result.andThen_ok, h1]
          · simp only [VRs]; exact ⟨k3, h2⟩
          · simp only [DV.lts, Bool.and_eq_true]; exact ⟨k1, h3⟩
    split at hc
    · rename_i l i hl ha hi
      injection hc with hc; subst hc
      refine one hl hv fun v hv1 => ?_
      simp only [DRes.ev] at hv1
      split at hv1
      · rename_i b o hp
        split at hv1
        · rename_i vs' hvs'
          injection hv1 with hv1; subst hv1
          have := hf.slot c _ hp
          simp only [VR] at this
          obtain ⟨p, hp1, hp2⟩ := this
          obtain ⟨us, g1, g2, g3⟩ := cellsAt_VR hr hvs' hp1
          refine ⟨by simp only [DV.lt]; exact hH.cellsAt hvs', .agg us.toArray, ?_, by simp only [VR]; exact ⟨_, rfl, by simpa using g1⟩⟩
          rw [hp2]
          simp only [Sem.run_bind, asAddr, Sem.run_pure, Result.andThen_ok]
          exact run_loadVar_agg ha hi g2 g3
        · cases hv1
      · cases hv1
    · rename_i l i hl ha hi
      injection hc with hc; subst hc
      refine one hl hv fun v hv1 => ?_
      simp only [DRes.ev] at hv1
      split at hv1
      · rename_i b o hp
        have := hf.slot c _ hp
        simp only [VR] at this
        obtain ⟨p, hp1, hp2⟩ := this
        obtain ⟨u, g1, g2⟩ := cell_VR hr hv1 hp1
        refine ⟨hH.cell hv1, u, ?_, g2⟩
        rw [hp2]
        simp only [Sem.run_bind, asAddr, Sem.run_pure, Result.andThen_ok]
        unfold loadVar
        simp [run_isAgg ha, g1]
      · cases hv1
    · cases hc

theorem pack_VR {n : Nat} : ∀ {vs : List DV} {us : List Value}, VRs μ vs us → DV.lts n vs = true → VR μ (packR vs) (if h : us.toArray.size = 1 then us.toArray[0] else .tuple us.toArray) ∧ (packR vs).lt n = true
  | [], [], _, _ => ⟨by simp only [packR, VR]; exact ⟨#[], rfl, by simp only [VRs]⟩, by simp [packR, DV.lt, DV.lts]⟩
  | [v], [u], h2, h3 => by
    simp only [VRs, and_true] at h2
    simp only [DV.lts, Bool.and_true] at h3
    exact ⟨by simpa [packR] using h2, h3⟩
  | v :: v2 :: vs, u :: u2 :: us, h2, h3 => by
    refine ⟨?_, by simpa only [packR, DV.lt] using h3⟩
    rw [dif_neg (by simp)]
    simp only [packR, VR]
    exact ⟨_, rfl, by simpa using h2⟩
  | [v], u :: u2 :: us, h2, _ => by simp [VRs] at h2
  | v :: v2 :: vs, [u], h2, _ => by simp [VRs] at h2
  | [], u :: us, h2, _ => by simp [VRs] at h2
  | v :: vs, [], h2, _ => by simp [VRs] at h2

theorem results_sound (hr : Rel m μ H W) (hf : FR μ F a nt) (hF : WFF H.length F) (hH : WFH H) {kf : Func} {ds : List DRes} (hc : cRes P kf.results.toList = some ds) {vs : List DV} (hv : DRes.evs F H ds = some vs) :
    (∃ u, (results kf a.tmps).run P W = .ok u W ∧ VR μ (packR vs) u) ∧ (packR vs).lt H.length = true := by
  obtain ⟨⟨us, h1, h2⟩, h3⟩ := results_list hr hf hF hH _ _ hc _ hv
  have hrun : ∀ u, (if h : us.toArray.size = 1 then us.toArray[0] else .tuple us.toArray) = u → (results kf a.tmps).run P W = .ok u W := by
    intro u hu
    unfold results
    rw [Array.mapM_eq_mapM_toList]
    rw [Sem.run_bind, ← bind_pure_comp, Sem.run_bind]
    refine Eq.trans (congrArg (fun z => (Result.andThen (Result.andThen z _) _)) h1) ?_
    simp only [Result.andThen_ok, Sem.run_pure]
    rw [hu]
  obtain ⟨g1, g2⟩ := pack_VR h2 h3
  exact ⟨⟨_, hrun _ rfl, g1⟩, g2⟩

end
end Go.Proofs.Sh

namespace Go.Proofs.Sh
open Go Go.RowKit

/-! ### The shadow's own order, for code -/

def DC.clo : DC → Prop
  | .reg ops _ _ => ∀ o ∈ ops, o.o.closed = true
  | .seq a b => a.clo ∧ b.clo
  | .cond _ a b => a.clo ∧ b.clo
  | .block _ a => a.clo
  | .loop a => a.clo
  | _ => True

theorem strip_clo : ∀ (c : DC), c.strip.clo → c.clo
  | .skip, _ | .exit _, _ | .ret, _ | .gc _ _, _ | .stuck, _ => by simp only [DC.clo]
  | .reg _ _ _, h => by simpa only [DC.strip] using h
  | .seq a b, h => by
    simp only [DC.strip] at h
    split at h
    · rename_i ha
      refine ⟨?_, strip_clo b h⟩
      cases a <;> simp only [DC.isGc] at ha <;> first | (cases ha; done) | simp only [DC.clo]
    · exact ⟨strip_clo a h.1, strip_clo b h.2⟩
  | .cond _ a b, h => by simp only [DC.strip] at h; exact ⟨strip_clo a h.1, strip_clo b h.2⟩
  | .block _ a, h => by simp only [DC.strip] at h; exact strip_clo a h
  | .loop a, h => by simp only [DC.strip] at h; exact strip_clo a h

section
variable {P : Program} {nt : Nat}

theorem cOps_closed {ops : Array Oper} : ∀ (l : List Oper) (ds : List DOp), cOps P nt ops l = some ds → ∀ o ∈ ds, o.o.closed = true
  | [], ds, h => by simp only [cOps] at h; injection h with h; subst h; simp
  | o :: l, ds, h => by
    simp only [cOps] at h
    split at h
    case h_2 => cases h
    case h_1 dd hdd =>
      split at h
      case h_2 => cases h
      case h_1 ds' hds' =>
        injection h with h; subst h
        intro x hx
        rcases List.mem_cons.1 hx with rfl | hx
        · exact (cOper_parts hdd).2.2.2
        · exact cOps_closed l ds' hds' x hx

theorem comp_clo : ∀ (k : Code) (c : DC), comp P nt k = some c → c.clo := by
  intro k
  induction k <;> intro c h <;> simp only [comp] at h
  case region id ops draw =>
    split at h
    · rename_i l hl
      split at h
      · injection h with h; subst h
        exact cOps_closed _ _ hl
      · injection h with h; subst h; simp only [DC.clo]
    · injection h with h; subst h; simp only [DC.clo]
  case seq a b iha ihb =>
    split at h
    · split at h
      · injection h with h; subst h
        exact ⟨iha _ (by assumption), ihb _ (by assumption)⟩
      · cases h
    · cases h
  case cond x a b iha ihb =>
    split at h
    · split at h
      · split at h
        · injection h with h; subst h
          exact ⟨iha _ (by assumption), ihb _ (by assumption)⟩
        · cases h
      · cases h
    · injection h with h; subst h; simp only [DC.clo]
  case block id a iha =>
    split at h
    · injection h with h; subst h
      rename_i hh
      simp only [DC.clo]
      exact iha _ hh
    · cases h
  case loop a iha =>
    split at h
    · injection h with h; subst h
      rename_i hh
      simp only [DC.clo]
      exact iha _ hh
    · cases h
  all_goals first | (cases h; done) | (injection h with h; subst h; simp only [DC.clo])

end

section
variable {m g n : Nat} {call : Nat → Nat → List DV → DH → Option (DV × DH)} {quiet : Nat → Bool} {F F' : DF} {H H' : DH}

theorem dops_wf (hcw : CallWF call) : ∀ (ds : List DOp) (F : DF) (H : DH), (∀ o ∈ ds, o.o.closed = true) → WFF H.length F → WFH H → dops call m ds F H = some (F', H') → WFH H' ∧ WFF H'.length F'
  | [], F, H, _, hF, hH, h => by
    simp only [dops] at h; injection h with h; injection h with e1 e2; subst e1 e2; exact ⟨hH, hF⟩
  | o :: ds, F, H, hc, hF, hH, h => by
    simp only [dops] at h
    have hc' : ∀ o ∈ ds, o.o.closed = true := fun x hx => hc x (by simp [hx])
    split at h
    · cases h
    · exact dops_wf hcw ds _ _ hc' (hF.put (by simp [DV.undef, DV.lt, DV.lts])) hH h
    · split at h
      · rename_i hd
        obtain ⟨h1, h2, h3⟩ := dop_wf hcw (hc o (by simp)) hF hH hd
        exact dops_wf hcw ds _ _ hc' ((hF.mono h3).put h2) h1 h
      · cases h

theorem gc_wf {ρ : Ren} {bs : List Blk} (hg : g ≤ H.length) (hlow : WFH (H.take g)) (hb : renBlks g H ρ ρ = some bs) : WFH (H.take g ++ bs) := by
  obtain ⟨hlen, hat⟩ := renBlks_at ρ bs hb
  have hl : (H.take g).length = g := by simp; omega
  intro b x hx
  simp only [List.length_append, hl, hlen]
  rcases kept_get hg hx with ⟨h1, h2⟩ | ⟨h1, h2⟩
  · have := hlow b x (take_get.2 ⟨h1, h2⟩)
    rw [hl] at this
    exact DV.lts_mono (by omega) _ this
  · have hi : b - g < ρ.length := by have := (List.getElem?_eq_some_iff.1 h2).1; omega
    obtain ⟨y, hx'⟩ : ∃ y, ρ[b - g]? = some y := ⟨_, List.getElem?_eq_getElem hi⟩
    obtain ⟨b0, o, n⟩ := y
    obtain ⟨cs0, ty0, cs', k1, k2, k3, k4⟩ := hat _ b0 o n hx'
    rw [h2] at k3; injection k3 with k3; subst k3
    exact rens_lt _ _ k2

theorem gcF_wf (hg : g ≤ H.length) (hlow : WFH (H.take g)) (h : gcF g F H = some (F', H')) : WFH H' ∧ WFF H'.length F' := by
  unfold gcF at h
  simp only at h
  split at h
  case isFalse => cases h
  case isTrue hd =>
    split at h
    case h_2 => cases h
    case h_1 F1 hF =>
      split at h
      case h_2 => cases h
      case h_1 bs hb =>
        injection h with h; injection h with e1 e2; subst e1 e2
        refine ⟨gc_wf hg hlow hb, fun t v hv => ?_⟩
        obtain ⟨v0, g1, g2⟩ := renF_get hF hv
        have := ren_lt _ _ g2
        simp only [List.length_append, List.length_take]
        rw [(renBlks_at _ _ hb).1, Nat.min_eq_left hg]
        exact this

theorem dcode_wf (hcw : CallWF call) (hct : CallStay call) (hmg : m ≤ g) : ∀ (c : DC) (F : DF) (H : DH) (e : DE) (F' : DF) (H' : DH), c.clo → g ≤ H.length → (m = g → WFH (H.take g)) → WFH H → WFF H.length F → dcode call quiet n m g c F H = some (e, F', H') → WFH H' ∧ WFF H'.length F'
  | .skip, F, H, e, F', H', _, _, _, hH, hF, h => by
    simp only [dcode] at h; injection h with h; injection h with e1 h; injection h with e2 e3; subst e1 e2 e3
    exact ⟨hH, hF⟩
  | .stuck, F, H, e, F', H', _, _, _, hH, hF, h => by simp [dcode] at h
  | .exit id, F, H, e, F', H', _, _, _, hH, hF, h => by
    simp only [dcode] at h; injection h with h; injection h with e1 h; injection h with e2 e3; subst e1 e2 e3
    exact ⟨hH, hF⟩
  | .ret, F, H, e, F', H', _, _, _, hH, hF, h => by
    simp only [dcode] at h; injection h with h; injection h with e1 h; injection h with e2 e3; subst e1 e2 e3
    exact ⟨hH, hF⟩
  | .reg ops draw [], F, H, e, F', H', hc, _, _, hH, hF, h => by
    simp only [dcode] at h
    split at h
    · rename_i hd
      injection h with h; injection h with e1 h; injection h with e2 e3; subst e1 e2 e3
      exact dops_wf hcw ops F H hc hF hH hd
    · cases h
  | .reg ops draw (p :: chk), F, H, e, F', H', hc, _, _, hH, hF, h => by
    simp only [dcode] at h
    split at h
    · rename_i hd
      split at h
      · injection h with h; injection h with e1 h; injection h with e2 e3; subst e1 e2 e3
        exact dops_wf hcw ops F H hc hF hH (dopsC_dops ops _ _ _ _ _ hd)
      · cases h
    · cases h
  | .seq a b, F, H, e, F', H', hc, hg, hl, hH, hF, h => by
    simp only [dcode] at h
    split at h
    · rename_i F1 H1 ha
      obtain ⟨h1, h2⟩ := dcode_wf hcw hct hmg a F H _ _ _ hc.1 hg hl hH hF ha
      have hs := dcode_stay hct hmg a F H _ _ _ hg ha
      exact dcode_wf hcw hct hmg b F1 H1 _ _ _ hc.2 hs.1 (fun hm => by subst hm; rw [take_stay hg hs]; exact hl rfl) h1 h2 h
    · exact dcode_wf hcw hct hmg a F H _ _ _ hc.1 hg hl hH hF h
  | .cond x a b, F, H, e, F', H', hc, hg, hl, hH, hF, h => by
    simp only [dcode] at h
    split at h
    · exact dcode_wf hcw hct hmg a F H _ _ _ hc.1 hg hl hH hF h
    · exact dcode_wf hcw hct hmg b F H _ _ _ hc.2 hg hl hH hF h
    · cases h
  | .block id a, F, H, e, F', H', hc, hg, hl, hH, hF, h => by
    simp only [dcode] at h
    split at h
    · rename_i ha
      have h1 := dcode_wf hcw hct hmg a F H _ _ _ hc hg hl hH hF ha
      split at h <;> (injection h with h; injection h with e1 h; injection h with e2 e3; subst e1 e2 e3; exact h1)
    · exact dcode_wf hcw hct hmg a F H _ _ _ hc hg hl hH hF h
  | .loop a, F, H, e, F', H', hc, hg, hl, hH, hF, h => by
    simp only [dcode] at h
    have key : ∀ k F H, g ≤ H.length → (m = g → WFH (H.take g)) → WFH H → WFF H.length F → iter (dcode call quiet n m g a) k F H = some (e, F', H') → WFH H' ∧ WFF H'.length F' := by
      intro k
      induction k with
      | zero => intro F H _ _ _ _ h; simp [iter] at h
      | succ k ih =>
        intro F H hg hl hH hF h
        simp only [iter] at h
        split at h
        · rename_i F1 H1 ha
          obtain ⟨h1, h2⟩ := dcode_wf hcw hct hmg a F H _ _ _ hc hg hl hH hF ha
          have hs := dcode_stay hct hmg a F H _ _ _ hg ha
          exact ih F1 H1 hs.1 (fun hm => by subst hm; rw [take_stay hg hs]; exact hl rfl) h1 h2 h
        · exact dcode_wf hcw hct hmg a F H _ _ _ hc hg hl hH hF h
    exact key n F H hg hl hH hF h
  | .gc heap live, F, H, e, F', H', hc, hg, hl, hH, hF, h => by
    simp only [dcode] at h
    split at h
    · rename_i hm
      replace hm := hm.2; subst hm
      split at h
      · rename_i hgc
        injection h with h; injection h with e1 h; injection h with e2 e3; subst e1 e2 e3
        exact gcF_wf hg (hl rfl) hgc
      · cases h
    · injection h with h; injection h with e1 h; injection h with e2 e3; subst e1 e2 e3
      exact ⟨hH, hF.keep live⟩

theorem res_wf (hF : WFF H.length F) (hH : WFH H) : ∀ (rs : List DRes) (vs : List DV), DRes.evs F H rs = some vs → DV.lts H.length vs = true
  | [], vs, h => by simp only [DRes.evs] at h; injection h with h; subst h; simp [DV.lts]
  | r :: rs, vs, h => by
    simp only [DRes.evs] at h
    split at h
    · rename_i v hv
      split at h
      · rename_i vs1 hvs
        injection h with h; subst h
        simp only [DV.lts, Bool.and_eq_true]
        refine ⟨?_, res_wf hF hH rs vs1 hvs⟩
        cases r with
        | t k => exact hF k v hv
        | cell c sz =>
          simp only [DRes.ev] at hv
          split at hv
          · split at hv
            · exact hH.cell hv
            · split at hv
              · injection hv with hv; subst hv
                simp only [DV.lt]; exact hH.cellsAt (by assumption)
              · cases hv
          · cases hv
      · cases h
    · cases h

theorem pack_lt {k : Nat} {vs : List DV} (h : DV.lts k vs = true) : (packR vs).lt k = true := by
  match vs, h with
  | [], _ => simp [packR, DV.lt, DV.lts]
  | [v], h => simpa [packR, DV.lts] using h
  | v :: w :: l, h => simpa only [packR, DV.lt] using h

theorem initF_wf {k : Nat} {vs : List DV} (h : DV.lts k vs = true) : WFF k (initF 0 vs) := by
  intro t v hv
  exact DV.lts_get h (initF_get vs 0 t v hv).2

theorem take_all_stay {H1 : DH} (h : StayG H.length H.length H H1) : H1.take H.length = H := by
  rw [take_stay (Nat.le_refl _) h, List.take_length]

theorem gcR_app {v r : DV} {H1 H2 : DH} (h : gcR g v H1 H = some (r, H2)) : ∃ ρ bs, H2 = H ++ bs ∧ distinct ρ = true ∧ v.ren g ρ = some r ∧ renBlks g H1 ρ ρ = some bs ∧ ∀ x ∈ ρ, g ≤ x.1 := by
  unfold gcR at h
  simp only at h
  split at h
  · split at h
    · split at h
      · injection h with h; injection h with e1 e2; subst e1 e2
        exact ⟨_, _, rfl, by assumption, by assumption, by assumption, reach_ge _ _ _ (refs_ge v) (by simp)⟩
      · cases h
    · cases h
  · cases h

end
end Go.Proofs.Sh

namespace Go.Proofs.Sh
open Go Go.RowKit

section
variable {P : Program} {D : DP}

theorem compFn_parts {kf : Func} {np : Nat} {q gr : Bool} {fn : DFn} (h : compFn P kf np q gr = some fn) : ∃ c, kf.body = some c ∧ fn.np = np ∧ fn.ntmps = kf.ntmps ∧ fn.quiet = q ∧ cRes P kf.results.toList = some fn.res ∧ comp P kf.ntmps c = some fn.body := by
  unfold compFn at h
  split at h
  case h_1 => cases h
  case h_2 c hc =>
    split at h
    · rename_i d r hd hr
      injection h with h; subst h
      exact ⟨c, hc, rfl, rfl, rfl, hr, hd⟩
    · cases h

theorem Rel.none_below {m : Nat} {μ : LMap} {H : DH} {W : World} (hr : Rel m μ H W) : Rel H.length μ H W :=
  ⟨⟨hr.g.br, fun b x p hb hx _ _ => by have := (List.getElem?_eq_some_iff.1 hx).1; omega, hr.g.bd⟩, hr.dom⟩

/-- what a quiet call comes to, for whoever may write more -/
theorem Out.lower {m : Nat} {μ μ' : LMap} {H bs : DH} {W W' : World} {v : DV} {u : Value} (hr : Rel m μ H W) (hk : Kept H.length μ H W W') (hf : Fresh H.length μ H W μ' (H ++ bs)) (ho : ∀ b, b < H.length → μ' b = μ b)
    (hn : Rel H.length μ' (H ++ bs) W') (hv : VR μ' v u) : Out m μ H W v (H ++ bs) μ' u W' := by
  have same : ∀ k, k < W.heap.size → W'.heap[k]? = W.heap[k]? := fun k hlt => hk.block k hlt fun b x p hb hx _ _ _ => by
    have := (List.getElem?_eq_some_iff.1 hx).1; omega
  have new : ∀ b x p, H.length ≤ b → (H ++ bs)[b]? = some x → x ≠ .gone → μ' b = some p → W.heap.size ≤ p.blk := by
    intro b x p hb hx hg hp
    rcases hf b x p hx hg hp with h | ⟨b0, x0, p0, h1, h2, _⟩
    · exact h
    · have := (List.getElem?_eq_some_iff.1 h2).1
      have := h1 hb
      omega
  refine ⟨ho, ⟨⟨hn.g.br, fun b x p hmb hx hg hp => ?_, hn.g.bd⟩, hn.dom⟩, hv, ⟨hk.os, hk.tape, hk.output, hk.size, fun k hlt _ => same k hlt⟩, fun b x p hx hg hp => ?_⟩
  · by_cases hlt : b < H.length
    · rw [List.getElem?_append_left hlt] at hx
      rw [ho b hlt] at hp
      obtain ⟨k2, k3⟩ := hr.g.wr b x p hmb hx hg hp
      have hbd := hr.g.bd b p hp
      refine ⟨fun o hoo => (frozen_of_block (same p.blk hbd)).trans (k2 o hoo), fun b' x' p' hne hx' hg' hp' => ?_⟩
      by_cases hlt' : b' < H.length
      · rw [List.getElem?_append_left hlt'] at hx'
        rw [ho b' hlt'] at hp'
        exact k3 b' x' p' hne hx' hg' hp'
      · have := new b' x' p' (by omega) hx' hg' hp'
        omega
    · exact hn.g.wr b x p (by omega) hx hg hp
  · by_cases hlt : b < H.length
    · rw [List.getElem?_append_left hlt] at hx
      rw [ho b hlt] at hp
      exact .inr ⟨b, x, p, id, hx, hg, hp, rfl⟩
    · exact .inl (new b x p (by omega) hx hg hp)

theorem eval_start {args : List DV} {vs : Array Value} {nt : Nat} {μ : LMap} (hv : VRs μ args vs.toList) (hn : args.length ≤ nt) :
    FR μ (initF 0 args) { tmps := vs ++ Array.replicate (nt - vs.size) undef, defers := [] } nt := by
  have hl := VRs.len hv
  simp only [Array.length_toList] at hl
  refine ⟨fun t v h => ?_, by simp; omega, fun t v h => ?_⟩
  · obtain ⟨_, h⟩ := initF_get args 0 t v h
    have hlt := (List.getElem?_eq_some_iff.1 h).1
    obtain ⟨u, hu, hvr⟩ := VRs.get hv h
    simp only [Nat.sub_zero] at hu hlt
    have : (vs ++ Array.replicate (nt - vs.size) undef).getD t undef = u := by
      have h1 : (vs ++ Array.replicate (nt - vs.size) undef)[t]? = some u := by
        rw [Array.getElem?_append_left (by omega)]
        simpa using hu
      rw [Array.getD_eq_getD_getElem?, h1]; rfl
    rw [this]; exact hvr
  · obtain ⟨_, h⟩ := initF_get args 0 t v h
    have hlt := (List.getElem?_eq_some_iff.1 h).1
    omega

structure CallOk (P : Program) (quiet : Nat → Bool) (call : Nat → Nat → List DV → DH → Option (DV × DH)) : Prop where
  cs : CallSound P call
  cw : CallWF call
  cq : CallQuiet call quiet
  ct : CallStay call

/-- **Calls.** -/
theorem dcall_ok (hfit : Fits P D) : ∀ n, CallOk P D.quiet (dcall D n) := by
  intro n
  induction n with
  | zero =>
    refine ⟨?_, ?_, ?_, ?_⟩
    · intro f m args H r H' h; simp [dcall] at h
    · intro f m args H r H' h; simp [dcall] at h
    · intro f m args H r H' _ h; simp [dcall] at h
    · intro f m args H r H' _ h; simp [dcall] at h
  | succ n ih =>
    -- what a call of a function of the program is
    have open_ : ∀ {f m : Nat} {args : List DV} {H : DH} {r : DV} {H' : DH}, D.prim f = none → dcall D (n + 1) f m args H = some (r, H') →
        ∃ fn e F1 H1 vs, D.fn f = some fn ∧ args.length = fn.np ∧ fn.quiet = D.quiet f ∧ (fn.quiet = true ∨ (m ≤ H.length ∧ fn.gcr = false)) ∧
          dcode (dcall D n) D.quiet n (if fn.quiet then H.length else m) H.length fn.body (initF 0 args) H = some (e, F1, H1) ∧ (e = .normal ∨ e = .ret) ∧ DRes.evs F1 H1 fn.res = some vs ∧
          (if fn.gcr then gcR H.length (packR vs) H1 H else some (packR vs, H1)) = some (r, H') := by
      intro f m args H r H' hp h
      simp only [dcall, hp] at h
      split at h
      case h_1 => cases h
      case h_2 fn hfn =>
        split at h
        case isFalse => cases h
        case isTrue hc =>
          split at h
          · cases h
          · rename_i e F1 H1 hne hd
            split at h
            · rename_i vs hvs
              refine ⟨fn, e, F1, H1, vs, hfn, hc.1, hc.2.1, hc.2.2, hd, ?_, hvs, h⟩
              cases e with
              | normal => exact .inl rfl
              | ret => exact .inr rfl
              | exit id => exact absurd rfl (hne id)
            · cases h
          · cases h
    have parts : ∀ {f : Nat} {fn : DFn}, D.fn f = some fn → ∃ kf c, P.funcs[f]? = some kf ∧ kf.body = some c ∧ hasBody P f = true ∧ fn.np ≤ kf.ntmps ∧ cRes P kf.results.toList = some fn.res ∧ comp P kf.ntmps c = some fn.body.strip := by
      intro f fn hfn
      obtain ⟨kf, h1, h2, h3, h4⟩ := hfit.fn f fn hfn
      obtain ⟨c, g1, g2, g3, g4, g5, g6⟩ := compFn_parts h2
      refine ⟨kf, c, h1, g1, h3, ?_, g5, g6⟩
      have : fn.ntmps = kf.ntmps := g3
      omega
    have clo : ∀ {f : Nat} {fn : DFn}, D.fn f = some fn → fn.body.clo := by
      intro f fn hfn
      obtain ⟨kf, c, _, _, _, _, _, h⟩ := parts hfn
      exact strip_clo _ (comp_clo _ _ h)
    refine ⟨?_, ?_, ?_, ?_⟩
    · -- sound
      intro f m args H r H' h
      cases hp : D.prim f with
      | some φ =>
        simp only [dcall, hp] at h
        exact (hfit.prim f φ hp).sound m args H r H' h
      | none =>
        obtain ⟨fn, e, F1, H1, vs, hfn, hlen, hq, hm, hd, he, hvs, hres⟩ := open_ hp h
        obtain ⟨kf, c, hkf, hbody, hhas, hnp, hcr, hcc⟩ := parts hfn
        refine ⟨hhas, fun hH hargs μ W av hr hv => ?_⟩
        refine calls_of_wp hkf hbody ?_
        have hfr := eval_start hv (show args.length ≤ kf.ntmps by omega)
        have hff := initF_wf hargs
        have post : ∀ {R : Ending → World → Prop} {a' : Act} {W' : World}, (a'.defers = [] ∧ ∃ v, (results kf a'.tmps).run P W' = .ok v W' ∧ R (.returned v) W') → bodyPost P kf R e.ex a' W' := by
          intro R a' W' h'
          rcases he with rfl | rfl
          · exact h'
          · exact h'
        cases hqf : fn.quiet with
        | true =>
          rw [hqf] at hd
          simp only [if_true] at hd
          refine code_sound (μ0 := μ) ih.cs ih.cw ih.cq ih.ct hfit.mix (Nat.le_refl _) fn.body c hcc _ _ _ W e F1 H1 _ hd ⟨μ, fun _ _ => rfl, hr.none_below, hfr, ⟨Kept.refl, Fresh.refl⟩, rfl, hH, hff, Nat.le_refl _⟩ (fun _ => by rw [List.take_length]; exact hH) ?_
          intro a' W' hst
          obtain ⟨μ1, h1, h2, h3, h4, h5, h6, h7, h8⟩ := hst
          obtain ⟨⟨u, hu, hvr⟩, hlt⟩ := results_sound h2 h3 h7 h6 hcr hvs
          have hstay := take_all_stay (dcode_stay ih.ct (Nat.le_refl _) fn.body _ _ _ _ _ (Nat.le_refl _) hd)
          cases hgr : fn.gcr with
          | true =>
            rw [hgr] at hres
            simp only [if_true] at hres
            obtain ⟨ρ, bs, rfl, hdis, hren, hbs, hge⟩ := gcR_app hres
            obtain ⟨r1, r2, r3⟩ := gc_rel h2 h8 (by rw [hstay]; exact hH) hge hdis hbs
            rw [hstay] at r1 r2 r3
            have hold : ∀ b, b < H.length → moved H.length ρ μ1 b = μ b := fun b hb => (moved_lt hb).trans (h1 b hb)
            exact post ⟨h5, u, hu, u, _, rfl, Out.lower hr h4.1 (h4.2.trans h4.1.size r3) hold r1 (ren_VR _ _ _ hren hvr)⟩
          | false =>
            rw [hgr] at hres
            simp only [Bool.false_eq_true, if_false] at hres
            injection hres with hres; injection hres with e1 e2; subst e1 e2
            have hsp : H1 = H ++ H1.drop H.length := by conv => lhs; rw [← List.take_append_drop H.length H1, hstay]
            rw [hsp] at h2 h4 ⊢
            exact post ⟨h5, u, hu, u, _, rfl, Out.lower hr h4.1 h4.2 h1 h2 hvr⟩
        | false =>
          rw [hqf] at hd hm
          obtain ⟨hml, hgr⟩ : m ≤ H.length ∧ fn.gcr = false := by rcases hm with hm | hm; cases hm; exact hm
          rw [hgr] at hres
          simp only [Bool.false_eq_true, if_false] at hd hres
          injection hres with hres; injection hres with e1 e2; subst e1 e2
          refine code_sound (μ0 := μ) ih.cs ih.cw ih.cq ih.ct hfit.mix hml fn.body c hcc _ _ _ W e F1 H1 _ hd ⟨μ, fun _ _ => rfl, hr, hfr, ⟨Kept.refl, Fresh.refl⟩, rfl, hH, hff, Nat.le_refl _⟩ (fun _ => by rw [List.take_length]; exact hH) ?_
          intro a' W' hst
          obtain ⟨μ1, h1, h2, h3, h4, h5, h6, h7, h8⟩ := hst
          obtain ⟨⟨u, hu, hvr⟩, hlt⟩ := results_sound h2 h3 h7 h6 hcr hvs
          exact post ⟨h5, u, hu, u, _, rfl, h1, h2, hvr, h4.1, h4.2⟩
    · -- order
      intro f m args H r H' h hH hargs
      cases hp : D.prim f with
      | some φ =>
        simp only [dcall, hp] at h
        exact (hfit.prim f φ hp).wf m args H r H' h hH hargs
      | none =>
        obtain ⟨fn, e, F1, H1, vs, hfn, hlen, hq, hm, hd, he, hvs, hres⟩ := open_ hp h
        cases hqf : fn.quiet with
        | true =>
          rw [hqf] at hd
          simp only [if_true] at hd
          obtain ⟨w1, w2⟩ := dcode_wf ih.cw ih.ct (Nat.le_refl _) fn.body _ _ _ _ _ (clo hfn) (Nat.le_refl _) (fun _ => by rw [List.take_length]; exact hH) hH (initF_wf hargs) hd
          have hsg := dcode_stay ih.ct (Nat.le_refl _) fn.body _ _ _ _ _ (Nat.le_refl _) hd
          cases hgr : fn.gcr with
          | true =>
            rw [hgr] at hres
            simp only [if_true] at hres
            have hstay := take_all_stay hsg
            obtain ⟨ρ, bs, rfl, hdis, hren, hbs, hge⟩ := gcR_app hres
            have := gc_wf hsg.1 (by rw [hstay]; exact hH) hbs
            rw [hstay] at this
            refine ⟨this, ?_, by simp⟩
            have := ren_lt _ _ hren
            rw [List.length_append, (renBlks_at _ _ hbs).1]
            exact this
          | false =>
            rw [hgr] at hres
            simp only [Bool.false_eq_true, if_false] at hres
            injection hres with hres; injection hres with e1 e2; subst e1 e2
            exact ⟨w1, pack_lt (res_wf w2 w1 _ _ hvs), hsg.1⟩
        | false =>
          rw [hqf] at hd hm
          obtain ⟨hml, hgr⟩ : m ≤ H.length ∧ fn.gcr = false := by rcases hm with hm | hm; cases hm; exact hm
          rw [hgr] at hres
          simp only [Bool.false_eq_true, if_false] at hd hres
          injection hres with hres; injection hres with e1 e2; subst e1 e2
          obtain ⟨w1, w2⟩ := dcode_wf ih.cw ih.ct hml fn.body _ _ _ _ _ (clo hfn) (Nat.le_refl _) (fun _ => by rw [List.take_length]; exact hH) hH (initF_wf hargs) hd
          have hsg := dcode_stay ih.ct hml fn.body _ _ _ _ _ (Nat.le_refl _) hd
          exact ⟨w1, pack_lt (res_wf w2 w1 _ _ hvs), hsg.1⟩
    · -- quiet
      intro f m args H r H' hquiet h
      cases hp : D.prim f with
      | some φ =>
        simp only [dcall, hp] at h
        obtain ⟨k1, k2⟩ := (hfit.prim f φ hp).quiet hquiet m args H r H' h
        exact ⟨k1, fun m2 => by simp only [dcall, hp]; exact k2 m2⟩
      | none =>
        obtain ⟨fn, e, F1, H1, vs, hfn, hlen, hq, hm, hd, he, hvs, hres⟩ := open_ hp h
        have hqf : fn.quiet = true := hq.trans hquiet
        rw [hqf] at hd
        simp only [if_true] at hd
        have same : ∀ m2, dcall D (n + 1) f m2 args H = some (r, H') := by
          intro m2
          simp only [dcall, hp, hfn, hqf, true_or, and_true, if_true]
          rw [if_pos ⟨hlen, by rw [← hq, hqf]⟩, hd]
          rcases he with rfl | rfl
          · simp only [hvs]; exact hres
          · simp only [hvs]; exact hres
        refine ⟨?_, same⟩
        cases hgr : fn.gcr with
        | true =>
          rw [hgr] at hres
          simp only [if_true] at hres
          obtain ⟨ρ, bs, rfl, _⟩ := gcR_app hres
          exact ⟨bs, rfl⟩
        | false =>
          rw [hgr] at hres
          simp only [Bool.false_eq_true, if_false] at hres
          injection hres with hres; injection hres with e1 e2; subst e1 e2
          have hstay := take_all_stay (dcode_stay ih.ct (Nat.le_refl _) fn.body _ _ _ _ _ (Nat.le_refl _) hd)
          exact ⟨H1.drop H.length, by conv => lhs; rw [← List.take_append_drop H.length H1, hstay]⟩
    · -- below the fence
      intro f m args H r H' hml h
      cases hp : D.prim f with
      | some φ =>
        simp only [dcall, hp] at h
        exact (hfit.prim f φ hp).stay m args H r H' hml h
      | none =>
        obtain ⟨fn, e, F1, H1, vs, hfn, hlen, hq, hm, hd, he, hvs, hres⟩ := open_ hp h
        cases hqf : fn.quiet with
        | true =>
          rw [hqf] at hd
          simp only [if_true] at hd
          cases hgr : fn.gcr with
          | true =>
            rw [hgr] at hres
            simp only [if_true] at hres
            obtain ⟨ρ, bs, rfl, _⟩ := gcR_app hres
            exact .app hml _
          | false =>
            rw [hgr] at hres
            simp only [Bool.false_eq_true, if_false] at hres
            injection hres with hres; injection hres with e1 e2; subst e1 e2
            have hsg := dcode_stay ih.ct (Nat.le_refl _) fn.body _ _ _ _ _ (Nat.le_refl _) hd
            exact ⟨hsg.1, fun b hb => hsg.2 b (by omega)⟩
        | false =>
          rw [hqf] at hd hm
          obtain ⟨_, hgr⟩ : m ≤ H.length ∧ fn.gcr = false := by rcases hm with hm | hm; cases hm; exact hm
          rw [hgr] at hres
          simp only [Bool.false_eq_true, if_false] at hd hres
          injection hres with hres; injection hres with e1 e2; subst e1 e2
          exact dcode_stay ih.ct hml fn.body _ _ _ _ _ (Nat.le_refl _) hd

end
end Go.Proofs.Sh

