import Derived.Test.YtlllcknpdpjbpaaGreatDoorFrC
import GoSem.ClaimChange
import Derived.ChangeOld
import Derived.DataReads
import Derived.ChangeShapes
import Derived.WideShapes
import Derived.Carry
import Derived.RowKit3
import Derived.ProofKit
import Derived.OpenShut
import Derived.ChangeSame
import Derived.Deep.DeepHandedRow
import Derived.JoinedCond
import Derived.KernelRfl
import Derived.Shelf.SlIterI.Collect
namespace Go.Proofs.Sh
open Go Go.RowKit

/-! ### Tables of functions -/

inductive BT where
  | leaf
  | node (l : BT) (k : Nat) (v : DFn) (r : BT)

def BT.get : BT → Nat → Option DFn
  | .leaf, _ => none
  | .node l k v r, f => bif Nat.blt f k then l.get f else bif Nat.blt k f then r.get f else some v

def BT.All (Q : Nat → DFn → Prop) : BT → Prop
  | .leaf => True
  | .node l k v r => l.All Q ∧ Q k v ∧ r.All Q

theorem BT.all_get {Q : Nat → DFn → Prop} : ∀ {t : BT} {f : Nat} {v : DFn}, t.All Q → t.get f = some v → Q f v
  | .leaf, f, v, _, h => by simp [BT.get] at h
  | .node l k x r, f, v, hQ, h => by
    simp only [BT.get] at h
    obtain ⟨h1, h2, h3⟩ := hQ
    cases hb : Nat.blt f k with
    | true => rw [hb] at h; exact BT.all_get h1 h
    | false =>
      rw [hb] at h
      cases hb2 : Nat.blt k f with
      | true => rw [hb2] at h; exact BT.all_get h3 h
      | false =>
        rw [hb2] at h
        injection h with h
        have e : f = k := by
          have a1 : ¬ f < k := fun hlt => by rw [show Nat.blt f k = true by rw [Nat.blt_eq]; exact hlt] at hb; cases hb
          have a2 : ¬ k < f := fun hlt => by rw [show Nat.blt k f = true by rw [Nat.blt_eq]; exact hlt] at hb2; cases hb2
          omega
        subst e h
        exact h2

/-- one function fits -/
def FitsAt (P : Program) (f : Nat) (fn : DFn) : Prop :=
  ∃ kf, P.funcs[f]? = some kf ∧ compFn P kf fn.np fn.quiet fn.gcr = some fn.strip ∧ hasBody P f = true ∧ fn.np ≤ fn.ntmps

def noPrim : Nat → Option (Nat → List DV → DH → Option (DV × DH)) := fun _ => none

theorem fits_of {P : Program} {D : DP} {t : BT} (hm : P.follows .mixedOrders = true) (hp : ∀ f φ, D.prim f = some φ → PrimOk P f (D.quiet f) φ) (hf : D.fn = t.get) (ha : t.All (FitsAt P)) : Fits P D :=
  ⟨hm, hp, fun _ _ h => BT.all_get ha (by rw [← hf]; exact h)⟩

end Go.Proofs.Sh

namespace Go.Proofs.Sh
open Go Go.RowKit

/-! ### What a call without blocks comes to holds over every heap -/

theorem Rel.empty (W : World) : Rel 0 (fun _ => none) [] W :=
  ⟨⟨fun _ _ _ h => by simp at h, fun _ _ _ _ h => by simp at h, fun _ _ h => by cases h⟩, fun _ _ => rfl⟩

theorem WFH.nil : WFH [] := fun _ _ h => by simp at h

/-- the world may have grown -/
theorem Rel.later {m : Nat} {μ : LMap} {H : DH} {W W' : World} (hr : Rel m μ H W) (hs : W.heap.size ≤ W'.heap.size) (hb : ∀ k, k < W.heap.size → W'.heap[k]? = W.heap[k]?) : Rel m μ H W' :=
  ⟨⟨fun b x p hx hp => (hr.g.br b x p hx hp).mono (fun _ _ h => h) (hb _ (hr.g.bd b p hp)),
    fun b x p hm hx hg hp => let ⟨h1, h2⟩ := hr.g.wr b x p hm hx hg hp
      ⟨fun o ho => (frozen_of_block (hb _ (hr.g.bd b p hp))).trans (h1 o ho), h2⟩,
    fun b p hp => Nat.lt_of_lt_of_le (hr.g.bd b p hp) hs⟩, hr.dom⟩

/-- a thing that neither takes nor gives blocks -/
def flat (φ : List DV → Option DV) : Nat → List DV → DH → Option (DV × DH) := fun _ args H =>
  match φ args with
  | some v => some (v, H)
  | none => none

theorem flat_some {φ : List DV → Option DV} {m : Nat} {args : List DV} {H H' : DH} {r : DV} (h : flat φ m args H = some (r, H')) : φ args = some r ∧ H' = H := by
  unfold flat at h
  split at h
  · injection h with h; injection h with e1 e2; subst e1 e2; exact ⟨by assumption, rfl⟩
  · cases h

theorem PrimOk.flat {P : Program} {f : Nat} {q : Bool} {φ : List DV → Option DV} (hb : ∀ args v, φ args = some v → hasBody P f = true ∧ v.lt 0 = true)
    (h : ∀ args v, φ args = some v → ∀ (W : World) (vs : Array Value), (∀ μ : LMap, VRs μ args vs.toList → Calls P f vs W (fun e W' => ∃ u, e = .returned u ∧ (∀ μ' : LMap, VR μ' v u) ∧ Below W.heap.size W W'))) : PrimOk P f q (flat φ) where
  sound := by
    intro m args H r H' he
    obtain ⟨h1, rfl⟩ := flat_some he
    refine ⟨(hb args r h1).1, fun hH hl μ W vs hr hv => ?_⟩
    refine (h args r h1 W vs μ hv).mono ?_
    rintro e W' ⟨u, rfl, hu, hbl⟩
    exact ⟨u, μ, rfl, fun _ _ => rfl, hr.later hbl.size hbl.block, hu μ, ⟨hbl.os, hbl.tape, hbl.output, hbl.size, fun k hk _ => hbl.block k hk⟩, fun b x p hx hg hp => .inr ⟨b, x, p, id, hx, hg, hp, rfl⟩⟩
  wf := by
    intro m args H r H' he hH _
    obtain ⟨h1, rfl⟩ := flat_some he
    exact ⟨hH, DV.lt_mono (Nat.zero_le _) _ (hb args r h1).2, Nat.le_refl _⟩
  quiet := by
    intro _ m args H r H' he
    obtain ⟨h1, rfl⟩ := flat_some he
    exact ⟨⟨[], by simp⟩, fun m2 => he⟩
  stay := by
    intro m args H r H' _ he
    obtain ⟨_, rfl⟩ := flat_some he
    exact .refl

/-- **What evaluates over the empty heap is a thing.** -/
theorem PrimOk.here {P : Program} {D : DP} (hfit : Fits P D) {f : Nat} {q : Bool} {φ : List DV → Option DV}
    (h : ∀ args v, φ args = some v → DV.lts 0 args = true ∧ v.lt 0 = true ∧ ∃ n H', dcall D n f 0 args [] = some (v, H')) : PrimOk P f q (Sh.flat φ) := by
  refine PrimOk.flat (fun args v hv => ?_) fun args v hv W vs μ hvs => ?_
  · obtain ⟨_, h2, n, H', h3⟩ := h args v hv
    exact ⟨((dcall_ok hfit n).cs f 0 args [] v H' h3).1, h2⟩
  · obtain ⟨h1, h2, n, H', h3⟩ := h args v hv
    refine (((dcall_ok hfit n).cs f 0 args [] v H' h3).2 WFH.nil h1 (fun _ => none) W vs (Rel.empty W) (VRs.mono' (g := 0) (fun _ _ hb => absurd hb (Nat.not_lt_zero _)) _ _ h1 hvs)).mono ?_
    rintro e W' ⟨u, μ', rfl, ho⟩
    exact ⟨u, rfl, fun μ'' => VR.mono' (g := 0) (fun _ _ hb => absurd hb (Nat.not_lt_zero _)) _ _ h2 ho.val, ho.kept.os, ho.kept.tape, ho.kept.output, ho.kept.size, fun k hk => ho.kept.block k hk fun b x p _ hx => by simp at hx⟩

/-- a thing more -/
def DP.with (D : DP) (f : Nat) (φ : Nat → List DV → DH → Option (DV × DH)) : DP := { D with prim := fun g => if g = f then some φ else D.prim g }

theorem Fits.with {P : Program} {D : DP} (h : Fits P D) {f : Nat} {φ : Nat → List DV → DH → Option (DV × DH)} (hp : PrimOk P f (D.quiet f) φ) : Fits P (D.with f φ) :=
  ⟨h.mix, fun g ψ hg => by
    simp only [DP.with] at hg
    split at hg
    · rename_i e; injection hg with hg; subst e hg; exact hp
    · exact h.prim g ψ hg, h.fn⟩

/-- the closed call -/
def closed (v : DV) : List DV → Option DV
  | [] => some v
  | _ => none

theorem PrimOk.closed {P : Program} {D : DP} (hfit : Fits P D) {f n : Nat} {q : Bool} {v : DV} (hv : v.lt 0 = true) (h : (dcall D n f 0 [] []).map (fun x => x.1) = some v) : PrimOk P f q (Sh.flat (Sh.closed v)) := by
  refine PrimOk.here hfit fun args w hw => ?_
  cases args with
  | cons a l => simp [Sh.closed] at hw
  | nil =>
    simp only [Sh.closed, Option.some.injEq] at hw; subst hw
    refine ⟨by simp [DV.lts], hv, n, ?_⟩
    cases hd : dcall D n f 0 [] [] with
    | none => rw [hd] at h; cases h
    | some x => rw [hd] at h; simp at h; subst h; exact ⟨x.2, rfl⟩

/-- **A call of a function of the program.** -/
theorem calls_of {P : Program} {D : DP} (hfit : Fits P D) {n f : Nat} {args : List DV} {H H' : DH} {v : DV} (h : dcall D n f H.length args H = some (v, H')) (hH : WFH H) (hl : DV.lts H.length args = true)
    {μ : LMap} {W : World} {vs : Array Value} (hr : Rel H.length μ H W) (hv : VRs μ args vs.toList) (hs : v.lt 0 = true) :
    Calls P f vs W (fun e W' => ∃ u, e = .returned u ∧ (∀ μ' : LMap, VR μ' v u) ∧ Below W.heap.size W W') := by
  refine (((dcall_ok hfit n).cs f H.length args H v H' h).2 hH hl μ W vs hr hv).mono ?_
  rintro e W' ⟨u, μ', rfl, ho⟩
  exact ⟨u, rfl, fun μ'' => VR.mono' (g := 0) (fun _ _ hb => absurd hb (Nat.not_lt_zero _)) _ _ hs ho.val, ho.kept.os, ho.kept.tape, ho.kept.output, ho.kept.size, fun k hk => ho.kept.block k hk fun b x p hm hx => by
    have := (List.getElem?_eq_some_iff.1 hx).1; omega⟩

end Go.Proofs.Sh

namespace Go.Proofs.Sh
open Go Go.RowKit

/-! ### What comes in, as data of Lean's -/

-- how many values and letters
mutual
def bulk {H : Type} : DataW H → Nat
  | .lit (.string bytes) => bytes.length + 1
  | .lit _ => 1
  | .nil => 1
  | .ptr d => bulk d + 1
  | .slice elems spare => bulks elems + bulks spare + 1
  | .agg parts => bulks parts + 1
  | .iface _ d => bulk d + 1
  | .map entries => bulkEs entries + 1
  | .held _ => 1
def bulks {H : Type} : List (DataW H) → Nat
  | [] => 0
  | d :: r => bulk d + bulks r
def bulkEs {H : Type} : List (Lit × DataW H) → Nat
  | [] => 0
  | x :: r => bulkE x + bulkEs r
def bulkE {H : Type} : Lit × DataW H → Nat
  | (.string bytes, d) => bytes.length + bulk d + 1
  | (_, d) => bulk d + 1
end

/-- how data of Lean's lie in the shadow's cells -/
structure Cod (α : Type) where
  n : Nat
  rd : DH → List DV → α → Prop
  mono : ∀ {H : DH} {vs : List DV} {x : α} (L : DH), rd H vs x → rd (H ++ L) vs x
  bulk : α → Nat

abbrev Str := List UInt8

def cBool : Cod Bool := ⟨1, fun _ vs x => vs = [.bool x], fun _ h => h, fun _ => 1⟩
def cInt (k : IntKind) : Cod Int := ⟨1, fun _ vs x => vs = [.int k x] ∧ (Lit.int k x).wf = true, fun _ h => h, fun _ => 1⟩
def cStr : Cod Str := ⟨1, fun _ vs x => vs = [.str x], fun _ h => h, fun x => x.length + 1⟩
def cUnit : Cod Unit := ⟨0, fun _ vs _ => vs = [], fun _ h => h, fun _ => 0⟩
def Cod.pair {α β : Type} (a : Cod α) (b : Cod β) : Cod (α × β) :=
  ⟨a.n + b.n, fun H vs x => ∃ us ws, vs = us ++ ws ∧ us.length = a.n ∧ a.rd H us x.1 ∧ b.rd H ws x.2, fun L ⟨us, ws, h1, h2, h3, h4⟩ => ⟨us, ws, h1, h2, a.mono L h3, b.mono L h4⟩, fun x => a.bulk x.1 + b.bulk x.2⟩

/-- a row of such -/
def Cod.rds {α : Type} (c : Cod α) (H : DH) : List DV → List α → Prop
  | vs, [] => vs = []
  | vs, x :: xs => ∃ us ws, vs = us ++ ws ∧ us.length = c.n ∧ c.rd H us x ∧ Cod.rds c H ws xs

theorem Cod.rds_mono {α : Type} {c : Cod α} {H : DH} (L : DH) : ∀ {xs : List α} {vs : List DV}, c.rds H vs xs → c.rds (H ++ L) vs xs
  | [], _, h => h
  | _ :: _, _, ⟨us, ws, h1, h2, h3, h4⟩ => ⟨us, ws, h1, h2, c.mono L h3, Cod.rds_mono L h4⟩

theorem Cod.rds_len {α : Type} {c : Cod α} {H : DH} : ∀ {xs : List α} {vs : List DV}, c.rds H vs xs → vs.length = xs.length * c.n
  | [], vs, h => by simp only [Cod.rds] at h; subst h; simp
  | x :: xs, vs, ⟨us, ws, h1, h2, h3, h4⟩ => by
    subst h1
    simp [h2, Cod.rds_len h4, Nat.succ_mul, Nat.add_comm]

theorem cellsAt_app {H : DH} {b o n : Nat} {ds : List DV} (h : H.cellsAt b o n = some ds) (L : DH) : DH.cellsAt (H ++ L) b o n = some ds := by
  unfold DH.cellsAt at h ⊢
  cases hb : H[b]? with
  | none => rw [hb] at h; cases h
  | some x =>
    have hlt := (List.getElem?_eq_some_iff.1 hb).1
    rw [List.getElem?_append_left hlt, hb]
    rw [hb] at h; exact h

/-- a slice that is read: nil, or with cells -/
def RdSl {α : Type} (c : Cod α) (H : DH) (v : DV) (l : List α) : Prop :=
  (v = .nils ∧ l = []) ∨ ∃ b o k ds, v = .sl b o l.length k c.n ∧ l.length ≤ k ∧ b < H.length ∧ H.cellsAt b o (l.length * c.n) = some ds ∧ c.rds H ds l

theorem RdSl.mono {α : Type} {c : Cod α} {H : DH} {v : DV} {l : List α} (L : DH) (h : RdSl c H v l) : RdSl c (H ++ L) v l := by
  rcases h with h | ⟨b, o, k, ds, h1, h2, h3, h4, h5⟩
  · exact .inl h
  · exact .inr ⟨b, o, k, ds, h1, h2, by simp; omega, cellsAt_app h4 L, c.rds_mono L h5⟩

def sumN {α : Type} (f : α → Nat) : List α → Nat
  | [] => 0
  | x :: xs => f x + sumN f xs

def cSl {α : Type} (c : Cod α) : Cod (List α) :=
  ⟨1, fun H vs x => ∃ v, vs = [v] ∧ RdSl c H v x, fun L ⟨v, h1, h2⟩ => ⟨v, h1, h2.mono L⟩, fun l => sumN c.bulk l + 1⟩

/-! ### Blocks that are read alone -/

structure RO (μ : LMap) (H : DH) (W : World) : Prop where
  br : ∀ b x p, H[b]? = some x → μ b = some p → BlkR μ W p x
  bd : ∀ b p, μ b = some p → p.blk < W.heap.size
  dom : ∀ b, H.length ≤ b → μ b = none
  wf : WFH H

theorem RO.rel {μ : LMap} {H : DH} {W : World} (h : RO μ H W) : Rel H.length μ H W :=
  ⟨⟨h.br, fun b x p hm hx _ _ => by have := (List.getElem?_eq_some_iff.1 hx).1; omega, h.bd⟩, h.dom⟩

theorem RO.nil (W : World) : RO (fun _ => none) [] W := ⟨fun _ _ _ h => (by simp at h), fun _ _ h => (by cases h), fun _ _ => rfl, WFH.nil⟩

theorem RO.add {μ : LMap} {H : DH} {W : World} (h : RO μ H W) {x : Blk} {q : Loc} (hq : q.blk < W.heap.size) (hb : BlkR μ W q x) (hx : DV.lts H.length x.vals = true) : RO (upd μ H.length q) (H ++ [x]) W := by
  have hn : μ H.length = none := h.dom _ (Nat.le_refl _)
  have hmono := upd_mono (p := q) hn
  refine ⟨fun b y p hy hp => ?_, fun b p hp => ?_, fun b hb => ?_, fun b y hy => ?_⟩
  · rcases get_append_one hy with ⟨hlt, hy⟩ | ⟨rfl, rfl⟩
    · unfold upd at hp; rw [if_neg (by omega)] at hp
      exact (h.br b y p hy hp).mono hmono rfl
    · rw [upd_new] at hp; injection hp with hp; subst hp
      exact hb.mono hmono rfl
  · unfold upd at hp; split at hp
    · injection hp with hp; subst hp; exact hq
    · exact h.bd b p hp
  · simp at hb; unfold upd; rw [if_neg (by omega)]; exact h.dom b (by omega)
  · rcases get_append_one hy with ⟨hlt, hy⟩ | ⟨rfl, rfl⟩
    · exact DV.lts_mono (by simp) _ (h.wf b y hy)
    · exact DV.lts_mono (by simp) _ hx

/-- there is a block of cells -/
def HasCells (W : World) : Prop := ∃ (b : Nat) (cc : Array Value) (ty : Nat) (fr : Nat × Nat), W.heap[b]? = some (.cells cc ty fr)

/-- cells of the model, opened -/
def OpenAt {α : Type} (c : Cod α) (W : World) (cs : List Value) (w : Nat) : Prop :=
  ∀ (H : DH) (μ : LMap), RO μ H W → ∃ L μ' vs y, RO μ' (H ++ L) W ∧ (∀ b, b < H.length → μ' b = μ b) ∧ VRs μ' vs cs ∧ DV.lts (H ++ L).length vs = true ∧ vs.length = c.n ∧ c.rd (H ++ L) vs y ∧ c.bulk y ≤ w

/-- a type whose data are data of Lean's -/
def Opens {α : Type} (P : Program) (t : TypeId) (c : Cod α) : Prop :=
  P.cellsOf t = c.n ∧ ∀ {T : Type} (enc : TypeId × Value → T) (W : World), HasCells W → ∀ (fuel : Nat) (cs : List Value) (x : DataW T × List MemPlace),
    DataW.trod enc P W 0 (fun _ => true) true fuel t cs = some x → OpenAt c W cs (bulk x.1)

section
variable {P : Program}

theorem OpenAt.plain {α : Type} {c : Cod α} {W : World} {cs : List Value} {w : Nat} (vs : List DV) (y : α) (hv : ∀ μ, VRs μ vs cs) (hl : DV.lts 0 vs = true) (hn : vs.length = c.n) (hr : ∀ H, c.rd H vs y) (hw : c.bulk y ≤ w) : OpenAt c W cs w := by
  intro H μ h
  exact ⟨[], μ, vs, y, by simpa using h, fun _ _ => rfl, hv μ, DV.lts_mono (Nat.zero_le _) _ hl, hn, hr _, hw⟩

theorem bulk_pos {T : Type} (d : DataW T) : 1 ≤ bulk d := by
  cases d with
  | lit l => cases l <;> simp [bulk]
  | _ => simp [bulk]

theorem opens_bool {t : TypeId} (hu : P.underlying t = some .bool) (hc : P.cellsOf t = 1) : Opens P t cBool := by
  refine ⟨hc, fun {T} enc W _ fuel cs x h => ?_⟩
  cases fuel with
  | zero => simp [DataW.trod] at h
  | succ n =>
    unfold DataW.trod at h
    rw [hu] at h
    split at h <;> simp_all
    rename_i b
    exact .plain [.bool b] b (fun μ => by simp [VRs, VR]) (by simp [DV.lts, DV.lt]) rfl (fun H => rfl) (bulk_pos _)

theorem opens_int {t : TypeId} {k : IntKind} (hu : P.underlying t = some (.int k)) (hc : P.cellsOf t = 1) : Opens P t (cInt k) := by
  refine ⟨hc, fun {T} enc W _ fuel cs x h => ?_⟩
  cases fuel with
  | zero => simp [DataW.trod] at h
  | succ n =>
    unfold DataW.trod at h
    rw [hu] at h
    split at h <;> simp_all
    exact .plain [.int _ _] _ (fun μ => by simp [VRs, VR]) (by simp [DV.lts, DV.lt]) rfl (fun H => ⟨rfl, h.1.2⟩) (bulk_pos _)

theorem opens_str {t : TypeId} (hu : P.underlying t = some .string) (hc : P.cellsOf t = 1) : Opens P t cStr := by
  refine ⟨hc, fun {T} enc W _ fuel cs x h => ?_⟩
  cases fuel with
  | zero => simp [DataW.trod] at h
  | succ n =>
    unfold DataW.trod at h
    rw [hu] at h
    split at h <;> simp_all
    rename_i s
    obtain ⟨_, rfl⟩ := h
    exact .plain [.str s.data.toList] s.data.toList (fun μ => by simp [VRs, VR]) (by simp [DV.lts, DV.lt]) rfl (fun H => rfl) (by simp [cStr, bulk])

/-- the fields of a struct from an offset on -/
def OpensFs {α : Type} (P : Program) (fs : List Field) (off : Nat) (c : Cod α) : Prop :=
  ∀ (T : Type) (enc : TypeId × Value → T) (W : World), HasCells W → ∀ (fuel : Nat) (cs : List Value) (xs : List (DataW T × List MemPlace)), cs.length = off + c.n →
    fs.mapM (fun f => DataW.trod enc P W 0 (fun _ => true) true fuel f.type ((cs.drop f.offset).take (P.cellsOf f.type))) = some xs → OpenAt c W (cs.drop off) (bulks (xs.map (·.1)))

theorem opensFs_nil (off : Nat) : OpensFs P [] off cUnit := by
  intro T enc W _ fuel cs xs hl h
  simp at h; subst h
  have : cs.drop off = [] := by apply List.drop_eq_nil_of_le; rw [hl]; simp [cUnit]
  rw [this]
  exact .plain [] () (fun μ => by simp [VRs]) (by simp [DV.lts]) rfl (fun H => rfl) (by simp [cUnit])

theorem OpenAt.append {α β : Type} {c : Cod α} {d : Cod β} {W : World} {cs ds : List Value} {w1 w2 : Nat} (h1 : OpenAt c W cs w1) (h2 : OpenAt d W ds w2) : OpenAt (c.pair d) W (cs ++ ds) (w1 + w2) := by
  intro H μ h
  obtain ⟨L1, μ1, vs1, y1, r1, o1, v1, l1, n1, d1, b1⟩ := h1 H μ h
  obtain ⟨L2, μ2, vs2, y2, r2, o2, v2, l2, n2, d2, b2⟩ := h2 (H ++ L1) μ1 r1
  refine ⟨L1 ++ L2, μ2, vs1 ++ vs2, (y1, y2), by simpa using r2, fun b hb => (o2 b (by simp; omega)).trans (o1 b hb), ?_, ?_, ?_, ?_, ?_⟩
  · exact (VRs.mono' (g := (H ++ L1).length) (fun b p hb hp => by rw [o2 b hb]; exact hp) _ _ l1 v1).append v2
  · rw [DV.lts_append, Bool.and_eq_true]
    exact ⟨DV.lts_mono (by simp) _ l1, by simpa using l2⟩
  · simp [Cod.pair, n1, n2]
  · exact ⟨vs1, vs2, rfl, n1, by simpa using c.mono L2 d1, by simpa using d2⟩
  · simp only [Cod.pair]; omega

theorem opensFs_cons {α β : Type} {f : Field} {fs : List Field} {off : Nat} {c : Cod α} {d : Cod β} (ho : f.offset = off) (h1 : Opens P f.type c) (h2 : OpensFs P fs (off + c.n) d) : OpensFs P (f :: fs) off (c.pair d) := by
  intro T enc W hw fuel cs xs hl h
  rw [List.mapM_cons] at h
  cases hx : DataW.trod enc P W 0 (fun _ => true) true fuel f.type ((cs.drop f.offset).take (P.cellsOf f.type)) with
  | none => rw [hx] at h; simp at h
  | some x =>
    cases hxs : fs.mapM (fun f => DataW.trod enc P W 0 (fun _ => true) true fuel f.type ((cs.drop f.offset).take (P.cellsOf f.type))) with
    | none => rw [hx, hxs] at h; simp at h
    | some ys =>
      rw [hx, hxs] at h
      simp at h; subst h
      have a1 := h1.2 enc W hw fuel _ x hx
      have a2 := h2 T enc W hw fuel cs ys (by rw [hl]; simp [Cod.pair]; omega) hxs
      rw [ho, h1.1] at a1
      have e : cs.drop off = (cs.drop off).take c.n ++ cs.drop (off + c.n) := by rw [← List.drop_drop, List.take_append_drop]
      rw [e]
      simpa [bulks] using a1.append a2

theorem opens_struct {α : Type} {t : TypeId} {fs : Array Field} {c : Cod α} (hu : P.underlying t = some (.struct fs)) (hc : P.cellsOf t = c.n) (h : OpensFs P fs.toList 0 c) : Opens P t c := by
  refine ⟨hc, fun {T} enc W hw fuel cs x hx => ?_⟩
  cases fuel with
  | zero => simp [DataW.trod] at hx
  | succ n =>
    unfold DataW.trod at hx
    rw [hu] at hx
    simp only at hx
    split at hx
    · rename_i hl
      cases hm : fs.toList.mapM (fun f => DataW.trod enc P W 0 (fun _ => true) true n f.type ((cs.drop f.offset).take (P.cellsOf f.type))) with
      | none => rw [hm] at hx; simp at hx
      | some xs =>
        rw [hm] at hx
        simp at hx; subst hx
        have := h T enc W hw n cs xs (by rw [hl, hc]; omega) hm
        simp only [List.drop_zero] at this
        intro H μ hr
        obtain ⟨L, μ', vs, y, r1, r2, r3, r4, r5, r6, r7⟩ := this H μ hr
        exact ⟨L, μ', vs, y, r1, r2, r3, r4, r5, r6, by simp only [bulk]; omega⟩
    · simp at hx

/-- a row of cells of the model -/
def OpenRow {α : Type} (c : Cod α) (W : World) (cs : List Value) (k w : Nat) : Prop :=
  ∀ (H : DH) (μ : LMap), RO μ H W → ∃ L μ' vs ys, RO μ' (H ++ L) W ∧ (∀ b, b < H.length → μ' b = μ b) ∧ VRs μ' vs cs ∧ DV.lts (H ++ L).length vs = true ∧ ys.length = k ∧ c.rds (H ++ L) vs ys ∧ sumN c.bulk ys ≤ w

theorem openRow_nil {α : Type} {c : Cod α} {W : World} : OpenRow c W [] 0 0 := fun H μ h =>
  ⟨[], μ, [], [], by simpa using h, fun _ _ => rfl, by simp [VRs], by simp [DV.lts], rfl, rfl, Nat.le_refl _⟩

theorem openRow_cons {α : Type} {c : Cod α} {W : World} {cs ds : List Value} {k w1 w2 : Nat} (h1 : OpenAt c W cs w1) (h2 : OpenRow c W ds k w2) : OpenRow c W (cs ++ ds) (k + 1) (w1 + w2) := by
  intro H μ h
  obtain ⟨L1, μ1, vs1, y1, r1, o1, v1, l1, n1, d1, b1⟩ := h1 H μ h
  obtain ⟨L2, μ2, vs2, ys, r2, o2, v2, l2, n2, d2, b2⟩ := h2 (H ++ L1) μ1 r1
  refine ⟨L1 ++ L2, μ2, vs1 ++ vs2, y1 :: ys, by simpa using r2, fun b hb => (o2 b (by simp; omega)).trans (o1 b hb), ?_, ?_, ?_, ?_, ?_⟩
  · exact (VRs.mono' (g := (H ++ L1).length) (fun b p hb hp => by rw [o2 b hb]; exact hp) _ _ l1 v1).append v2
  · rw [DV.lts_append, Bool.and_eq_true]
    exact ⟨DV.lts_mono (by simp) _ l1, by simpa using l2⟩
  · simp [n2]
  · exact ⟨vs1, vs2, rfl, n1, by simpa using c.mono L2 d1, by simpa using d2⟩
  · simp only [sumN]; omega

theorem openRow_elems {α : Type} {c : Cod α} {W : World} {T : Type} {rd : Nat → Option (List Value)} {g : List Value → Option (DataW T × List MemPlace)} (hg : ∀ cs x, g cs = some x → OpenAt c W cs (bulk x.1)) :
    ∀ (l : List Nat) (xs : List (DataW T × List MemPlace)), l.mapM (fun i => (rd i).bind g) = some xs → ∃ css : List (List Value), css.length = l.length ∧ (∀ j i : Nat, l[j]? = some i → rd i = css[j]?) ∧ OpenRow c W css.flatten l.length (bulks (xs.map (·.1)))
  | [], xs, h => by
    simp at h; subst h
    exact ⟨[], rfl, fun j i hj => by simp at hj, openRow_nil⟩
  | i :: l, xs, h => by
    rw [List.mapM_cons] at h
    cases hi : (rd i).bind g with
    | none => rw [hi] at h; simp at h
    | some x =>
      cases hl : l.mapM (fun i => (rd i).bind g) with
      | none => rw [hi, hl] at h; simp at h
      | some ys =>
        rw [hi, hl] at h
        simp at h; subst h
        obtain ⟨css, e1, e2, e3⟩ := openRow_elems hg l ys hl
        cases hr : rd i with
        | none => rw [hr] at hi; simp at hi
        | some cs =>
          rw [hr] at hi
          simp only [Option.bind_some] at hi
          refine ⟨cs :: css, by simp [e1], fun j i' hj => ?_, ?_⟩
          · cases j with
            | zero => simp at hj; subst hj; simpa using hr
            | succ j => simp at hj; simpa using e2 j i' hj
          · simp only [List.flatten_cons, List.length_cons, List.map_cons, bulks]
            exact openRow_cons (hg cs x hi) e3

theorem flatten_get {β : Type} {n : Nat} : ∀ {css : List (List β)}, (∀ cs ∈ css, cs.length = n) → ∀ {i j : Nat} {cs : List β}, css[i]? = some cs → j < n → css.flatten[i * n + j]? = cs[j]?
  | [], _, i, j, cs, h, _ => by simp at h
  | c :: css, hl, i, j, cs, h, hj => by
    have hc : c.length = n := hl c (by simp)
    cases i with
    | zero =>
      simp at h; subst h
      simp only [Nat.zero_mul, Nat.zero_add, List.flatten_cons]
      rw [List.getElem?_append_left (by omega)]
    | succ i =>
      simp at h
      simp only [List.flatten_cons]
      rw [List.getElem?_append_right (by rw [hc, Nat.succ_mul]; omega), hc, show (i + 1) * n + j - n = i * n + j by rw [Nat.succ_mul]; omega]
      exact flatten_get (fun x hx => hl x (by simp [hx])) h hj

theorem cells_at {W : World} {a : Addr} {k n : Nat} {cs : List Value} (h : W.cells? 0 (a.add k) n = some cs) (hn : 0 < n) :
    (k = 0 → a.spot = none) ∧ cs.length = n ∧ ∃ (cc : Array Value) (ty : Nat) (fr : Nat × Nat), W.heap[a.block]? = some (.cells cc ty fr) ∧ a.off + k + n ≤ cc.size ∧ ∀ i, i < n → cc[a.off + k + i]? = cs[i]? := by
  obtain ⟨_, hl, hc⟩ := World.cells?_some h
  have hb : (a.add k).block = a.block := by unfold Addr.add; split <;> rfl
  have ho : (a.add k).off = a.off + k := by unfold Addr.add; split <;> simp_all
  have hb2 : ∀ i, ((a.add k).add i).block = a.block := fun i => by rw [← hb]; unfold Addr.add; split <;> rfl
  have ho2 : ∀ i, ((a.add k).add i).off = a.off + k + i := fun i => by rw [← ho]; generalize a.add k = c; unfold Addr.add; split <;> simp_all
  have h0 := hc 0 hn
  have e0 : (a.add k).add 0 = a.add k := by generalize a.add k = c; unfold Addr.add; rw [if_pos rfl]
  rw [e0] at h0
  have hsome : ∃ v, cs[0]? = some v := ⟨_, List.getElem?_eq_getElem (by omega)⟩
  obtain ⟨v0, hv0⟩ := hsome
  rw [hv0] at h0
  unfold World.cell? at h0
  rw [hb] at h0
  split at h0
  · rename_i cc ty fr hblk
    refine ⟨fun hk => ?_, hl, cc, ty, fr, hblk, ?_, fun i hi => ?_⟩
    · subst hk
      have : a.add 0 = a := by unfold Addr.add; rw [if_pos rfl]
      rw [this] at h0
      cases hs : a.spot with
      | none => rfl
      | some s => rw [hs] at h0; simp at h0
    · have hlast := hc (n - 1) (by omega)
      have : ∃ v, cs[n - 1]? = some v := ⟨_, List.getElem?_eq_getElem (by omega)⟩
      obtain ⟨v, hv⟩ := this
      rw [hv] at hlast
      unfold World.cell? at hlast
      rw [hb2, hblk] at hlast
      simp only at hlast
      split at hlast
      · cases hlast
      · rw [ho2] at hlast
        have := (Array.getElem?_eq_some_iff.1 hlast).1
        omega
    · have hi' := hc i hi
      have : ∃ v, cs[i]? = some v := ⟨_, List.getElem?_eq_getElem (by omega)⟩
      obtain ⟨v, hv⟩ := this
      rw [hv] at hi' ⊢
      unfold World.cell? at hi'
      rw [hb2, hblk] at hi'
      simp only at hi'
      split at hi'
      · cases hi'
      · rw [ho2] at hi'; exact hi'
  · cases h0

theorem opens_slice {α : Type} {t e : TypeId} {c : Cod α} (hu : P.underlying t = some (.slice e)) (hc : P.cellsOf t = 1) (hpos : 0 < c.n) (h : Opens P e c) : Opens P t (cSl c) := by
  refine ⟨hc, fun {T} enc W hw fuel cs x hx => ?_⟩
  cases fuel with
  | zero => simp [DataW.trod] at hx
  | succ n =>
    unfold DataW.trod at hx
    rw [hu] at hx
    split at hx
    all_goals first | (cases ‹some (TypeDesc.slice e) = some _›; done) | (simp at hx; done) | skip
    case h_7 =>
      simp at hx; subst hx
      exact .plain [.nils] [] (fun μ => by simp [VRs, VR]) (by simp [DV.lts, DV.lt]) rfl (fun H => ⟨_, rfl, .inl ⟨rfl, rfl⟩⟩) (by simp [cSl, sumN, bulk])
    case h_8 =>
      rename_i e' a len cap heq
      injection heq with heq; injection heq with heq; subst heq
      simp only at hx
      split at hx
      case isFalse => cases hx
      case isTrue hcap =>
        simp only [if_true, h.1] at hx
        cases hm : (List.range len).mapM (fun i => (W.cells? 0 (a.add (i * c.n)) c.n).bind (DataW.trod enc P W 0 (fun _ => true) true n e)) with
        | none => rw [hm] at hx; simp at hx
        | some elems =>
          rw [hm] at hx
          simp only [Option.bind_some] at hx
          cases hm2 : (List.range (cap - len)).mapM (fun j => (W.cells? 0 (a.add ((len + j) * c.n)) c.n).bind (DataW.trod enc P W 0 (fun _ => true) true n e)) with
          | none => rw [hm2] at hx; simp at hx
          | some rest =>
            rw [hm2] at hx
            simp only [Option.map_some, Option.some.injEq] at hx
            subst hx
            obtain ⟨css, l1, l2, l3⟩ := openRow_elems (c := c) (W := W) (fun cs x hx => h.2 enc W hw n cs x hx) _ _ hm
            rw [List.length_range] at l1 l3
            -- every element of the row is read
            have each : ∀ i, i < cap → ∃ cs, W.cells? 0 (a.add (i * c.n)) c.n = some cs := by
              intro i hi
              by_cases hlt : i < len
              · have := l2 i i (by simp [hlt])
                rw [this]; exact ⟨_, List.getElem?_eq_getElem (by omega)⟩
              · have := mapM_some_get hm2 (i - len) (i - len) (List.getElem?_range (by omega))
                have hr : ∃ y, rest[i - len]? = some y := ⟨_, List.getElem?_eq_getElem (by have := mapM_some_length hm2; rw [List.length_range] at this; omega)⟩
                obtain ⟨y, hy⟩ := hr
                rw [hy, show len + (i - len) = i by omega] at this
                cases hcs : W.cells? 0 (a.add (i * c.n)) c.n with
                | none => rw [hcs] at this; simp at this
                | some cs => exact ⟨cs, rfl⟩
            intro H μ hr
            obtain ⟨L, μ', vs, ys, r1, r2, r3, r4, r5, r6, r7⟩ := l3 H μ hr
            have hvl := Cod.rds_len r6
            -- a block for it
            have fin : ∀ (q : Loc) (ty : Nat), q.blk < W.heap.size → CellsR μ' W q vs ty → ((a = ⟨q.blk, q.base + 0, none⟩ ∧ q.base + 0 + cap * c.n ≤ q.room) ∨ (len = 0 ∧ cap = 0)) →
                ∃ L μ'' vs' y, RO μ'' (H ++ L) W ∧ (∀ b, b < H.length → μ'' b = μ b) ∧ VRs μ'' vs' [Value.slice (some a) len cap] ∧ DV.lts (H ++ L).length vs' = true ∧ vs'.length = (cSl c).n ∧ (cSl c).rd (H ++ L) vs' y ∧ (cSl c).bulk y ≤ bulk (DataW.slice (elems.map (·.1)) (rest.map (·.1))) := by
              intro q ty hq hcr hv
              refine ⟨L ++ [.cells vs ty], upd μ' (H ++ L).length q, [.sl (H ++ L).length 0 len len c.n], ys, ?_, ?_, ?_, ?_, rfl, ⟨_, rfl, .inr ⟨_, 0, len, vs, by rw [r5], by omega, by simp, ?_, ?_⟩⟩, ?_⟩
              · rw [← List.append_assoc]
                exact r1.add hq hcr (by simpa only [Blk.vals] using r4)
              · intro b hb
                unfold upd; rw [if_neg (by simp; omega)]; exact r2 b hb
              · simp only [VRs, VR, and_true]
                exact ⟨q, upd_new, a, cap, rfl, hcap.2.1, hcap.2.1, hv⟩
              · simp [DV.lts, DV.lt]
              · unfold DH.cellsAt
                rw [← List.append_assoc, List.getElem?_append_right (Nat.le_refl _)]
                simp only [Nat.sub_self, List.getElem?_cons_zero, Nat.zero_add, hvl, Nat.le_refl, if_true, List.drop_zero]
                rw [List.take_of_length_le (by omega)]
              · rw [← List.append_assoc]; exact c.rds_mono _ r6
              · simp only [cSl, bulk]; omega
            by_cases hz : cap = 0
            · obtain ⟨b, cc, ty, fr, hb⟩ := hw
              have hlen : len = 0 := by omega
              have hvs : vs = [] := by
                have : vs.length = 0 := by rw [hvl, r5, hlen]; simp
                exact List.length_eq_zero_iff.1 this
              refine fin ⟨b, 0, cc.size⟩ ty (Array.getElem?_eq_some_iff.1 hb).1 ⟨cc, fr, hb, rfl, by rw [hvs]; simp, fun i v hi => by rw [hvs] at hi; simp at hi⟩ (.inr ⟨hlen, hz⟩)
            · obtain ⟨cs0, hcs0⟩ := each 0 (by omega)
              obtain ⟨cs1, hcs1⟩ := each (cap - 1) (by omega)
              obtain ⟨s1, _, cc, ty, fr, hblk, _, _⟩ := cells_at hcs0 hpos
              obtain ⟨_, _, cc', ty', fr', hblk', s2, _⟩ := cells_at hcs1 hpos
              rw [hblk] at hblk'
              injection hblk' with hblk'; injection hblk' with e1 e2 e3; subst e1 e2 e3
              have hsp := s1 (by simp)
              have hroom : a.off + cap * c.n ≤ cc.size := by
                have : cap * c.n = (cap - 1) * c.n + c.n := by rw [← Nat.succ_mul]; congr 1; omega
                omega
              refine fin ⟨a.block, a.off, cc.size⟩ ty (Array.getElem?_eq_some_iff.1 hblk).1 ⟨cc, fr, hblk, rfl, ?_, fun i v hi => ?_⟩ (.inl ⟨?_, by simpa using hroom⟩)
              · rw [hvl, r5]
                have : len * c.n ≤ cap * c.n := Nat.mul_le_mul_right _ hcap.2.1
                simp only; omega
              · obtain ⟨u, hu', hvr⟩ := VRs.get r3 hi
                refine ⟨u, ?_, hvr⟩
                have hil : i < len * c.n := by have := (List.getElem?_eq_some_iff.1 hi).1; rw [hvl, r5] at this; exact this
                have hdiv : i / c.n < len := (Nat.div_lt_iff_lt_mul hpos).2 hil
                have hmod : i % c.n < c.n := Nat.mod_lt _ hpos
                have hall : ∀ cs ∈ css, cs.length = c.n := by
                  intro cs hcs
                  obtain ⟨j, hj⟩ := List.getElem?_of_mem hcs
                  have hjl : j < len := by have := (List.getElem?_eq_some_iff.1 hj).1; omega
                  have := l2 j j (by simp [hjl])
                  rw [hj] at this
                  exact (cells_at this hpos).2.1
                have hcsi : ∃ cs, css[i / c.n]? = some cs := ⟨_, List.getElem?_eq_getElem (by omega)⟩
                obtain ⟨cs, hcs⟩ := hcsi
                have hrd := l2 (i / c.n) (i / c.n) (by simp [hdiv])
                rw [hcs] at hrd
                obtain ⟨_, _, cc', ty', fr', hblk', _, hget⟩ := cells_at hrd hpos
                rw [hblk] at hblk'
                injection hblk' with hblk'; injection hblk' with e1 e2 e3; subst e1 e2 e3
                have h1 := hget (i % c.n) hmod
                have h2 := flatten_get hall hcs hmod
                have e : i / c.n * c.n + i % c.n = i := by rw [Nat.mul_comm]; exact Nat.div_add_mod i c.n
                rw [e] at h2
                rw [show a.off + i / c.n * c.n + i % c.n = a.off + i by omega] at h1
                simp only
                rw [h1, ← h2]; exact hu'
              · cases a; simp_all
end

/-! ### All arguments -/

/-- an aggregate as one value -/
def cAgg {α : Type} (c : Cod α) : Cod α :=
  ⟨1, fun H ws x => ∃ vs, ws = [.agg vs] ∧ vs.length = c.n ∧ c.rd H vs x, fun L ⟨vs, h1, h2, h3⟩ => ⟨vs, h1, h2, c.mono L h3⟩, c.bulk⟩

/-- a parameter's type whose values are data of Lean's -/
def OpensV {α : Type} (P : Program) (t : TypeId) (c : Cod α) : Prop :=
  ∀ (T : Type) (enc : TypeId × Value → T) (W : World) (base : Nat), HasCells W → ∀ (v : Value) (d : DataW T) (ps : List MemPlace), Value.okWide P W .any base t v →
    DataW.Trod enc P W 0 (fun _ => true) true t v d ps → OpenAt c W [v] (bulk d)

section
variable {P : Program}

theorem opensV_flat {α : Type} {t : TypeId} {c : Cod α} (h : Opens P t c) (hn : ∀ (W : World) (base : Nat) (v : Value), Value.okWide P W .any base t v → v.cells = #[v]) : OpensV P t c := by
  intro T enc W base hw v d ps hok ⟨fuel, ht⟩
  rw [hn W base v hok] at ht
  exact h.2 enc W hw fuel _ _ ht

theorem opensV_bool {t : TypeId} (hu : P.underlying t = some .bool) (hc : P.cellsOf t = 1) : OpensV P t cBool :=
  opensV_flat (opens_bool hu hc) fun _ _ _ h => by obtain ⟨_, rfl⟩ := WideShapes.okWide_bool hu h; rfl
theorem opensV_int {t : TypeId} {k : IntKind} (hu : P.underlying t = some (.int k)) (hc : P.cellsOf t = 1) : OpensV P t (cInt k) :=
  opensV_flat (opens_int hu hc) fun _ _ _ h => by obtain ⟨_, rfl⟩ := WideShapes.okWide_int hu h; rfl
theorem opensV_str {t : TypeId} (hu : P.underlying t = some .string) (hc : P.cellsOf t = 1) : OpensV P t cStr :=
  opensV_flat (opens_str hu hc) fun _ _ _ h => by obtain ⟨_, rfl⟩ := WideShapes.okWide_string hu h; rfl
theorem opensV_slice {α : Type} {t e : TypeId} {c : Cod α} (hu : P.underlying t = some (.slice e)) (hc : P.cellsOf t = 1) (hpos : 0 < c.n) (h : Opens P e c) : OpensV P t (cSl c) :=
  opensV_flat (opens_slice hu hc hpos h) fun _ _ _ h => by obtain ⟨_, _, _, rfl⟩ := WideShapes.okWide_slice hu h; rfl
theorem opensV_struct {α : Type} {t : TypeId} {fs : Array Field} {c : Cod α} (hu : P.underlying t = some (.struct fs)) (h : Opens P t c) : OpensV P t (cAgg c) := by
  intro T enc W base hw v d ps hok ⟨fuel, ht⟩
  obtain ⟨cs, rfl, _⟩ := WideShapes.okWide_struct hu hok
  intro H μ hr
  obtain ⟨L, μ', vs, y, r1, r2, r3, r4, r5, r6, r7⟩ := h.2 enc W hw fuel _ _ ht H μ hr
  refine ⟨L, μ', [.agg vs], y, r1, r2, ?_, by simp only [DV.lts, DV.lt, r4, Bool.and_true], rfl, ⟨vs, rfl, r5, r6⟩, r7⟩
  simp only [VRs, VR, and_true]
  exact ⟨cs, rfl, by simpa [Value.cells] using r3⟩

/-- opened arguments -/
def OpensAll {α : Type} (P : Program) (ts : List TypeId) (c : Cod α) : Prop :=
  ∀ (T : Type) (enc : TypeId × Value → T) (W : World) (base : Nat) (args : List Value) (ds : List (DataW T)) (ps : List MemPlace), HasCells W → (∀ (j : Nat) t v, ts[j]? = some t → args[j]? = some v → Value.okWide P W .any base t v) →
    DataW.TrodAll enc P W 0 (fun _ => true) true ts args ds ps → OpenAt c W args (bulks ds)

theorem opensAll_nil : OpensAll P [] cUnit := by
  intro T enc W base args ds ps hw hok h
  cases args with
  | cons a l => simp [DataW.TrodAll] at h
  | nil =>
    cases ds with
    | cons d l => simp [DataW.TrodAll] at h
    | nil => exact .plain [] () (fun μ => by simp [VRs]) (by simp [DV.lts]) rfl (fun H => rfl) (by simp [cUnit])

theorem opensAll_cons {α β : Type} {t : TypeId} {ts : List TypeId} {c : Cod α} {d : Cod β} (h1 : OpensV P t c) (h2 : OpensAll P ts d) : OpensAll P (t :: ts) (c.pair d) := by
  intro T enc W base args ds ps hw hok h
  cases args with
  | nil => simp [DataW.TrodAll] at h
  | cons a l =>
    cases ds with
    | nil => simp [DataW.TrodAll] at h
    | cons x ds =>
      obtain ⟨p, q, g1, g2, _⟩ := h
      have a1 := h1 T enc W base hw a x p (hok 0 t a rfl rfl) g1
      have a2 := h2 T enc W base l ds q hw (fun j t v hj hv => hok (j + 1) t v hj hv) g2
      simpa [bulks] using a1.append a2

end
end Go.Proofs.Sh

namespace Go.Proofs.Sh
open Go Go.RowKit Go.ChangeShapes Go.WideShapes Go.ChangeAt

/-! ### A law: what it takes is opened, it is called, what it took is as it was -/

theorem HasCells.of {W : World} {b : Nat} {cc : Array Value} {ty : Nat} {fr : Nat × Nat} (h : W.heap[b]? = some (.cells cc ty fr)) : HasCells W := ⟨b, cc, ty, fr, h⟩

theorem hasCells_of_shaped {P : Program} {W : World} (h : W.ShapedOpen P) (hg : 0 < P.globals.size) (h0 : (((begin P (fun _ _ => 0) default).world.heap[0]?).bind Obj.row?).isSome = true) : HasCells W := by
  obtain ⟨x, hx⟩ := Option.isSome_iff_exists.1 h0
  obtain ⟨cs, h1, _⟩ := h.1 0 x.1 x.2 hg hx
  exact ⟨0, cs, x.2, _, h1⟩

/-- **The law's call.** -/
theorem law_calls {α : Type} {P : Program} {D : DP} {B : Nat} (hfit : Fits P D) {n f : Nat} {ts : List TypeId} {c : Cod α} (ho : OpensAll P ts c)
    (hlaw : ∀ (H : DH) (vs : List DV) (x : α), WFH H → DV.lts H.length vs = true → c.rd H vs x → c.bulk x ≤ B → ∃ H', dcall D n f H.length vs H = some (.bool true, H'))
    {T : Type} {enc : TypeId × Value → T} {W : World} {base : Nat} {args : Array Value} {ds : List (DataW T)} {ps : List MemPlace} (hw : HasCells W)
    (hok : ∀ (j : Nat) t v, ts[j]? = some t → args.toList[j]? = some v → Value.okWide P W .any base t v) (ht : DataW.TrodAll enc P W 0 (fun _ => true) true ts args.toList ds ps) (hb : bulks ds ≤ B) :
    Calls P f args W (fun e W' => e = .returned (.bool true) ∧ Below W.heap.size W W') := by
  obtain ⟨L, μ, vs, y, r1, _, r3, r4, _, r6, r7⟩ := ho T enc W base args.toList ds ps hw hok ht [] _ (RO.nil W)
  obtain ⟨H', hd⟩ := hlaw _ vs y r1.wf r4 r6 (Nat.le_trans r7 hb)
  refine (calls_of hfit hd r1.wf r4 r1.rel r3 (by simp [DV.lt])).mono ?_
  rintro e W' ⟨u, rfl, hu, hbl⟩
  have := hu (fun _ => none)
  simp only [VR] at this
  subst this
  exact ⟨rfl, hbl⟩

/-- what is read is read behind it -/
theorem trodAll_below {T : Type} {enc : TypeId × Value → T} {P : Program} (hl : laidOutB P = true) {W W' : World} (hb : Below W.heap.size W W') : ∀ {ts : List TypeId} {vs : List Value} {ds : List (DataW T)} {ps : List MemPlace},
    (∀ t ∈ ts, P.readableRec t = true ∧ t < P.types.size) → DataW.TrodAll enc P W 0 (fun _ => true) true ts vs ds ps → ∀ sp : Nat → Bool, (∀ b, b < W.heap.size → sp b = true) → ∃ pa, DataW.TrodAll enc P W' 0 (fun b => decide (b < W.heap.size)) true ts vs ds pa ∧ pa = ps
  | [], [], [], ps, _, h, _, _ => ⟨ps, h, rfl⟩
  | t :: ts, v :: vs, d :: ds, ps, hr, h, sp, hs => by
    obtain ⟨p, q, h1, h2, rfl⟩ := h
    obtain ⟨pa, h3, rfl⟩ := trodAll_below hl hb (fun t ht => hr t (by simp [ht])) h2 sp hs
    have hlt : ∀ x ∈ p, x.block < W.heap.size := by
      obtain ⟨n, hn⟩ := h1
      exact DataW.trod_lt n _ _ _ hn
    exact ⟨p ++ pa, ⟨p, pa, Below.trod hl (hr t (by simp)).1 (hr t (by simp)).2 h1 hb hlt, h3, rfl⟩, rfl⟩
  | [], _ :: _, _, _, _, h, _, _ => by simp [DataW.TrodAll] at h
  | [], [], _ :: _, _, _, h, _, _ => by simp [DataW.TrodAll] at h
  | _ :: _, [], _, _, _, h, _, _ => by simp [DataW.TrodAll] at h
  | _ :: _, _ :: _, [], _, _, h, _, _ => by simp [DataW.TrodAll] at h

theorem trodAll_length {T : Type} {enc : TypeId × Value → T} {P : Program} {W : World} {base : Nat} {sp : Nat → Bool} {held : Bool} : ∀ {ts : List TypeId} {vs : List Value} {ds : List (DataW T)} {ps : List MemPlace}, DataW.TrodAll enc P W base sp held ts vs ds ps → ds.length = ts.length
  | [], [], [], _, _ => rfl
  | t :: ts, v :: vs, d :: ds, _, ⟨_, _, _, h, _⟩ => by simp [trodAll_length h]
  | [], _ :: _, _, _, h => by simp [DataW.TrodAll] at h
  | [], [], _ :: _, _, h => by simp [DataW.TrodAll] at h
  | _ :: _, [], _, _, h => by simp [DataW.TrodAll] at h
  | _ :: _, _ :: _, [], _, h => by simp [DataW.TrodAll] at h

theorem law_post {T : Type} {enc : TypeId × Value → T} {P : Program} {fn : Func} {s : ChangeSpec} {apart fresh handsOn : Bool} {W W' : World} {args : Array Value} {ds gs : List (DataW T)} {before pa : List MemPlace}
    (hW : DataW.Whole enc P fn.params.toList s.vars apart W args.toList ds gs before) (hv : s.vars = []) (hs : s.fn T (ds ++ gs) = { results := [.lit (.bool true)], args := ds })
    (ha : DataW.TrodAll enc P W' 0 (fun b => decide (b < W.heap.size)) true fn.params.toList args.toList ds pa) {tb : TypeId} (ht : fn.resultTypes.toList = [tb]) (hu : P.underlying tb = some .bool) (hb : Below W.heap.size W W') :
    s.post enc P fn apart fresh handsOn false W args (.bool true) W' := by
  have hsz : fn.resultTypes.size = 1 := by rw [← Array.length_toList, ht]; rfl
  refine ⟨ds, gs, before, [], pa, [], hW, ?_, ?_, ?_, hb.frame _, fun h => by cases h⟩
  · rw [hs, ht, hsz]
    exact trodAll_mk1 (shut_bool hu _)
  · rw [hs]; exact ha
  · rw [hs, hv]; rfl

end Go.Proofs.Sh

namespace Go.Proofs.Sh
open Go

/-! ### Evaluation over a heap that is not known -/

/-- what a function's end comes to -/
def finish (fn : DFn) (H : DH) : Option (DE × DF × DH) → Option (DV × DH)
  | some (.exit _, _, _) => none
  | some (_, F', H') => match DRes.evs F' H' fn.res with
    | some vs => if fn.gcr = true then gcR H.length (packR vs) H' H else some (packR vs, H')
    | none => none
  | none => none

section
variable {D : DP} {n f m : Nat} {fn : DFn} {args : List DV} {H : DH}

theorem dcall_quiet (hp : D.prim f = none) (hf : D.fn f = some fn) (hl : args.length = fn.np) (hq : D.quiet f = true) (hqf : fn.quiet = true) :
    dcall D (n + 1) f m args H = finish fn H (dcode (dcall D n) D.quiet n H.length H.length fn.body (initF 0 args) H) := by
  simp only [dcall, hp, hf, hl, hq, hqf, true_or, and_true, if_true]
  unfold finish
  split <;> simp_all
  split <;> simp_all

theorem dcall_loud (hp : D.prim f = none) (hf : D.fn f = some fn) (hl : args.length = fn.np) (hq : D.quiet f = false) (hqf : fn.quiet = false) (hg : fn.gcr = false) (hm : m ≤ H.length) :
    dcall D (n + 1) f m args H = finish fn H (dcode (dcall D n) D.quiet n m H.length fn.body (initF 0 args) H) := by
  simp only [dcall, hp, hf, hl, hq, hqf, hg, hm, and_true, or_true, if_true, Bool.false_eq_true, if_false]
  unfold finish
  split <;> simp_all
  split <;> simp_all

theorem dcall_prim {φ : Nat → List DV → DH → Option (DV × DH)} (hp : D.prim f = some φ) : dcall D (n + 1) f m args H = φ m args H := by
  simp only [dcall, hp]

end

/-! step by step: nothing is looked into before what is ahead of it is known -/
section
variable (call : Nat → Nat → List DV → DH → Option (DV × DH)) (quiet : Nat → Bool)

def thenC (n m g : Nat) : Option (DE × DF × DH) → DC → Option (DE × DF × DH)
  | some (.normal, F, H), b => dcode call quiet n m g b F H
  | r, _ => r
def condC (n m g : Nat) : Option DV → DC → DC → DF → DH → Option (DE × DF × DH)
  | some (.bool true), a, _, F, H => dcode call quiet n m g a F H
  | some (.bool false), _, b, F, H => dcode call quiet n m g b F H
  | _, _, _, _, _ => none
def blockC : Option (DE × DF × DH) → Nat → Option (DE × DF × DH)
  | some (.exit id', F, H), id => if id' = id then some (.normal, F, H) else some (.exit id', F, H)
  | r, _ => r
def opsC : Option (DF × DH) → Option (DE × DF × DH)
  | some (F, H) => some (.normal, F, H)
  | none => none
def opsCC (chk : List (Nat × Nat)) : Option (DF × DH × List (Bool × Option (List Nat))) → Option (DE × DF × DH)
  | some (F, H, feet) => if chkOk feet chk = true then some (.normal, F, H) else none
  | none => none
def opR (m : Nat) (d : Option Nat) (os : List DOp) (F : DF) : Option (DV × DH) → Option (DF × DH)
  | some (v, H) => dops call m os (F.put d v) H
  | none => none
def opG (m : Nat) (o : DOp) (os : List DOp) (F : DF) (H : DH) : Option Bool → Option (DF × DH)
  | none => none
  | some false => dops call m os (F.put o.d DV.undef) H
  | some true => opR call m o.d os F (dop call m F H o.o)
def footC (x : Bool × Option (List Nat)) : Option (DF × DH × List (Bool × Option (List Nat))) → Option (DF × DH × List (Bool × Option (List Nat)))
  | some (F, H, l) => some (F, H, x :: l)
  | none => none
def opRC (m : Nat) (d : Option Nat) (os : List DOp) (F : DF) (foot : Bool × Option (List Nat)) : Option (DV × DH) → Option (DF × DH × List (Bool × Option (List Nat)))
  | some (v, H) => footC foot (dopsC call quiet m os (F.put d v) H)
  | none => none
def opGC (m : Nat) (o : DOp) (os : List DOp) (F : DF) (H : DH) : Option Bool → Option (DF × DH × List (Bool × Option (List Nat)))
  | none => none
  | some false => footC (false, some []) (dopsC call quiet m os (F.put o.d DV.undef) H)
  | some true => opRC call quiet m o.d os F (o.o.foot quiet F H) (dop call m F H o.o)

variable {call quiet} {n m g : Nat} {F : DF} {H : DH}
theorem dcode_skip : dcode call quiet n m g .skip F H = some (.normal, F, H) := by simp only [dcode]
theorem dcode_exit {id : Nat} : dcode call quiet n m g (.exit id) F H = some (.exit id, F, H) := by simp only [dcode]
theorem dcode_ret : dcode call quiet n m g .ret F H = some (.ret, F, H) := by simp only [dcode]
theorem dcode_stuck : dcode call quiet n m g .stuck F H = none := by simp only [dcode]
theorem dcode_seq {a b : DC} : dcode call quiet n m g (.seq a b) F H = thenC call quiet n m g (dcode call quiet n m g a F H) b := by
  simp only [dcode]; unfold thenC; split <;> simp_all
theorem dcode_cond {x : DX} {a b : DC} : dcode call quiet n m g (.cond x a b) F H = condC call quiet n m g (x.ev F) a b F H := by
  simp only [dcode]; unfold condC; split <;> simp_all
theorem dcode_block {id : Nat} {a : DC} : dcode call quiet n m g (.block id a) F H = blockC (dcode call quiet n m g a F H) id := by
  simp only [dcode]; unfold blockC; split <;> simp_all
theorem dcode_reg {ops : List DOp} {d : Bool} : dcode call quiet n m g (.reg ops d []) F H = opsC (dops call m ops F H) := by
  simp only [dcode]; unfold opsC; split <;> simp_all
theorem dcode_regc {ops : List DOp} {d : Bool} {p : Nat × Nat} {chk : List (Nat × Nat)} : dcode call quiet n m g (.reg ops d (p :: chk)) F H = opsCC (p :: chk) (dopsC call quiet m ops F H) := by
  simp only [dcode]; unfold opsCC; split <;> simp_all
theorem dcode_keep {live : List Nat} : dcode call quiet n m g (.gc false live) F H = some (.normal, F.keep live, H) := by simp [dcode]
theorem dcode_keep_if {live : List Nat} {h : Bool} (hm : m ≠ g) : dcode call quiet n m g (.gc h live) F H = some (.normal, F.keep live, H) := by simp [dcode, hm]
theorem dcode_loop {a : DC} : dcode call quiet n m g (.loop a) F H = iter (dcode call quiet n m g a) n F H := by simp only [dcode]
theorem thenC_normal {b : DC} : thenC call quiet n m g (some (.normal, F, H)) b = dcode call quiet n m g b F H := rfl
theorem thenC_exit {b : DC} {id : Nat} : thenC call quiet n m g (some (.exit id, F, H)) b = some (.exit id, F, H) := rfl
theorem thenC_ret {b : DC} : thenC call quiet n m g (some (.ret, F, H)) b = some (.ret, F, H) := rfl
theorem thenC_none {b : DC} : thenC call quiet n m g none b = none := rfl
theorem condC_true {a b : DC} : condC call quiet n m g (some (.bool true)) a b F H = dcode call quiet n m g a F H := rfl
theorem condC_false {a b : DC} : condC call quiet n m g (some (.bool false)) a b F H = dcode call quiet n m g b F H := rfl
theorem blockC_normal {id : Nat} : blockC (some (.normal, F, H)) id = some (.normal, F, H) := rfl
theorem blockC_ret {id : Nat} : blockC (some (.ret, F, H)) id = some (.ret, F, H) := rfl
theorem blockC_exit {id id' : Nat} : blockC (some (.exit id', F, H)) id = if id' = id then some (.normal, F, H) else some (.exit id', F, H) := rfl
theorem opsC_some : opsC (some (F, H)) = some (.normal, F, H) := rfl
theorem opsCC_some {chk : List (Nat × Nat)} {feet : List (Bool × Option (List Nat))} : opsCC chk (some (F, H, feet)) = if chkOk feet chk = true then some (.normal, F, H) else none := rfl
theorem dops_nil : dops call m [] F H = some (F, H) := rfl
theorem dops_cons {o : DOp} {os : List DOp} : dops call m (o :: os) F H = opG call m o os F H (gdv F o.g) := by
  simp only [dops]; unfold opG opR; split <;> simp_all
  rfl
theorem opG_true {o : DOp} {os : List DOp} : opG call m o os F H (some true) = opR call m o.d os F (dop call m F H o.o) := rfl
theorem opG_false {o : DOp} {os : List DOp} : opG call m o os F H (some false) = dops call m os (F.put o.d DV.undef) H := rfl
theorem opR_some {d : Option Nat} {os : List DOp} {v : DV} : opR call m d os F (some (v, H)) = dops call m os (F.put d v) H := rfl
theorem dopsC_nil : dopsC call quiet m [] F H = some (F, H, []) := rfl
theorem dopsC_cons {o : DOp} {os : List DOp} : dopsC call quiet m (o :: os) F H = opGC call quiet m o os F H (gdv F o.g) := by
  simp only [dopsC]; unfold opGC opRC footC; split <;> simp_all <;> rfl
theorem opGC_true {o : DOp} {os : List DOp} : opGC call quiet m o os F H (some true) = opRC call quiet m o.d os F (o.o.foot quiet F H) (dop call m F H o.o) := rfl
theorem opGC_false {o : DOp} {os : List DOp} : opGC call quiet m o os F H (some false) = footC (false, some []) (dopsC call quiet m os (F.put o.d DV.undef) H) := rfl
theorem opRC_some {d : Option Nat} {os : List DOp} {v : DV} {foot : Bool × Option (List Nat)} : opRC call quiet m d os F foot (some (v, H)) = footC foot (dopsC call quiet m os (F.put d v) H) := rfl
theorem footC_some {x : Bool × Option (List Nat)} {l : List (Bool × Option (List Nat))} : footC x (some (F, H, l)) = some (F, H, x :: l) := rfl
def iterC (body : DF → DH → Option (DE × DF × DH)) (k : Nat) : Option (DE × DF × DH) → Option (DE × DF × DH)
  | some (.normal, F, H) => iter body k F H
  | r => r
theorem iter_succ {body : DF → DH → Option (DE × DF × DH)} {k : Nat} : iter body (k + 1) F H = iterC body k (body F H) := by
  simp only [iter]; unfold iterC; split <;> simp_all
theorem iterC_normal {body : DF → DH → Option (DE × DF × DH)} {k : Nat} : iterC body k (some (.normal, F, H)) = iter body k F H := rfl
theorem iterC_ret {body : DF → DH → Option (DE × DF × DH)} {k : Nat} : iterC body k (some (.ret, F, H)) = some (.ret, F, H) := rfl
theorem iterC_exit {body : DF → DH → Option (DE × DF × DH)} {k id : Nat} : iterC body k (some (.exit id, F, H)) = some (.exit id, F, H) := rfl
theorem finish_normal {fn : DFn} {H0 : DH} : finish fn H0 (some (.normal, F, H)) = match DRes.evs F H fn.res with
    | some vs => if fn.gcr = true then gcR H0.length (packR vs) H H0 else some (packR vs, H)
    | none => none := rfl
theorem finish_ret {fn : DFn} {H0 : DH} : finish fn H0 (some (.ret, F, H)) = match DRes.evs F H fn.res with
    | some vs => if fn.gcr = true then gcR H0.length (packR vs) H H0 else some (packR vs, H)
    | none => none := rfl
end

/-! results without blocks -/
mutual
theorem refs_closed {g : Nat} : ∀ (v : DV), v.lt 0 = true → v.refs g = []
  | .bool _, _ | .int _ _, _ | .flt _ _, _ | .str _, _ | .nilp, _ | .nils, _ | .nilm, _ | .nilf, _ | .nili, _ => by simp only [DV.refs]
  | .ptr _ _, h | .sl _ _ _ _ _, h | .mp _, h => by simp [DV.lt] at h
  | .fn _ k l, h => by simp only [DV.lt, Bool.and_eq_true] at h; simp only [DV.refs, refss_closed k h.1, refss_closed l h.2, List.append_nil]
  | .agg l, h | .tup l, h => by simp only [DV.lt] at h; simp only [DV.refs, refss_closed l h]
  | .ifc _ x, h => by simp only [DV.lt] at h; simp only [DV.refs, refs_closed x h]
theorem refss_closed {g : Nat} : ∀ (l : List DV), DV.lts 0 l = true → DV.refss g l = []
  | [], _ => by simp only [DV.refss]
  | a :: l, h => by simp only [DV.lts, Bool.and_eq_true] at h; simp only [DV.refss, refs_closed a h.1, refss_closed l h.2, List.append_nil]
end
mutual
theorem ren_closed {g : Nat} {ρ : Ren} : ∀ (v : DV), v.lt 0 = true → v.ren g ρ = some v
  | .bool _, _ | .int _ _, _ | .flt _ _, _ | .str _, _ | .nilp, _ | .nils, _ | .nilm, _ | .nilf, _ | .nili, _ => by simp only [DV.ren]
  | .ptr _ _, h | .sl _ _ _ _ _, h | .mp _, h => by simp [DV.lt] at h
  | .fn _ k l, h => by simp only [DV.lt, Bool.and_eq_true] at h; simp only [DV.ren, rens_closed k h.1, rens_closed l h.2]
  | .agg l, h | .tup l, h => by simp only [DV.lt] at h; simp only [DV.ren, rens_closed l h]
  | .ifc _ x, h => by simp only [DV.lt] at h; simp only [DV.ren, ren_closed x h]
theorem rens_closed {g : Nat} {ρ : Ren} : ∀ (l : List DV), DV.lts 0 l = true → DV.rens g ρ l = some l
  | [], _ => by simp only [DV.rens]
  | a :: l, h => by simp only [DV.lts, Bool.and_eq_true] at h; simp only [DV.rens, ren_closed a h.1, rens_closed l h.2]
end
theorem reach_nil {g : Nat} {H : DH} {ρ : Ren} : ∀ {k : Nat}, reach g H k [] ρ = ρ
  | 0 => by simp only [reach]
  | _ + 1 => by simp only [reach]
theorem gcR_closed {g : Nat} {v : DV} {H H0 : DH} (h : v.lt 0 = true) : gcR g v H H0 = some (v, H0) := by
  unfold gcR
  simp only [refs_closed v h, reach_nil, distinct, ren_closed v h, renBlks, List.append_nil, if_true]

theorem wrap64 {x : Int} (h1 : -9223372036854775808 ≤ x) (h2 : x ≤ 9223372036854775807) : IntKind.i64.wrap x = x := by
  simp only [IntKind.wrap, IntKind.bits, IntKind.signed]
  simp
  split <;> omega
theorem wrap64n {n : Nat} (h2 : n ≤ 9223372036854775807) : IntKind.i64.wrap (n : Int) = n := wrap64 (by omega) (by omega)

theorem lt_bool {g : Nat} {b : Bool} : DV.lt g (.bool b) = true := by simp only [DV.lt]
theorem lt_int {g : Nat} {k : IntKind} {x : Int} : DV.lt g (.int k x) = true := by simp only [DV.lt]
theorem lt_str {g : Nat} {s : List UInt8} : DV.lt g (.str s) = true := by simp only [DV.lt]
theorem lt_nilp {g : Nat} : DV.lt g (.nilp) = true := by simp only [DV.lt]
theorem lt_nils {g : Nat} : DV.lt g (.nils) = true := by simp only [DV.lt]
theorem lt_nilm {g : Nat} : DV.lt g (.nilm) = true := by simp only [DV.lt]
theorem lt_nilf {g : Nat} : DV.lt g (.nilf) = true := by simp only [DV.lt]
theorem lt_nili {g : Nat} : DV.lt g (.nili) = true := by simp only [DV.lt]
theorem lt_agg {g : Nat} {l : List DV} : DV.lt g (.agg l) = DV.lts g l := by simp only [DV.lt]
theorem lt_tup {g : Nat} {l : List DV} : DV.lt g (.tup l) = DV.lts g l := by simp only [DV.lt]
theorem lts_nil {g : Nat} : DV.lts g [] = true := by simp only [DV.lts]
theorem lts_cons {g : Nat} {a : DV} {l : List DV} : DV.lts g (a :: l) = (a.lt g && DV.lts g l) := by simp only [DV.lts]
theorem get_app_add {H l : DH} {k : Nat} : (H ++ l)[H.length + k]? = l[k]? := by
  rw [List.getElem?_append_right (by omega)]; congr 1; omega
theorem get_app_len {H l : DH} : (H ++ l)[H.length]? = l[0]? := by
  rw [List.getElem?_append_right (by omega)]; congr 1; omega
theorem get_app_old {H l : DH} {b : Nat} (h : b < H.length) : (H ++ l)[b]? = H[b]? := List.getElem?_append_left h
theorem set_app_add {H l : DH} {k : Nat} {x : Blk} : (H ++ l).set (H.length + k) x = H ++ l.set k x := by
  rw [List.set_append_right _ _ (by omega)]; congr 2; omega
theorem set_app_len {H l : DH} {x : Blk} : (H ++ l).set H.length x = H ++ l.set 0 x := by
  rw [List.set_append_right _ _ (by omega)]; congr 2; omega
theorem len_app_cons {H l : DH} {x : Blk} : (H ++ x :: l).length = (H ++ l).length + 1 := by simp; omega
theorem len_app_nil {H : DH} : (H ++ []).length = H.length := by simp

end Go.Proofs.Sh

namespace Go.Proofs
open Go.RowKit Go.Maps Go.Sort Go.Shelf
variable {P : Program} {ρ : Go.Shelf.Ren}

set_option maxRecDepth 100000 in
set_option maxHeartbeats 1000000 in
/-- an iterator over a map's keys, captured at any place -/
theorem keysE_in (L : SlLaysZI.n10 P ρ) {H : Type} (F : Fence) (n : Nat) (h10 : F.fn (ρ.f 10)) (hro : F.round = none) (hn : 1 ≤ n) (l Bm o b nn : Nat) (D0 : DataW H) {R : Value → Option (DataW H × List MemPlace)} (J : List Int → World → Prop)
    (hY : ∀ pre x W, J pre W → pre.length < Maps.size D0 → YieldAt F (n - 1) P l #[encZ x] W fun e W' => e = .returned (.bool true) ∧ J (pre ++ [x]) W' ∧ KeepsWalks W W')
    (W : World) (hJ : AbidesFrom W.heap.size J) (hm : W.cell? ⟨Bm, o, none⟩ = some (.map (some b))) (hown : W.ownsMap P (ρ.t 26) R b nn D0) (h0 : J [] W) :
    CallsIn F n P (ρ.f 10) #[.func (.yield l) #[] #[], .pointer (some ⟨Bm, o, none⟩)] W fun e W' => (∃ v, e = .returned v) ∧ ∃ ss : List Int, ss.Perm (intKeys D0) ∧ J ss W' := by
  have mixed := L.mixed; have t0 := L.t0; have a0 := L.a0; have z0 := L.z0; have v0 := L.v0; have t4 := L.t4; have a4 := L.a4; have z4 := L.z4; have v4 := L.v4; have t23 := L.t23; have a23 := L.a23; have z23 := L.z23; have v23 := L.v23; have t26 := L.t26; have a26 := L.a26; have z26 := L.z26; have v26 := L.v26; have t33 := L.t33; have a33 := L.a33; have z33 := L.z33; have v33 := L.v33
  have u0 := run_underlying L.t0; have u4 := run_underlying L.t4; have u23 := run_underlying L.t23; have u26 := run_underlying L.t26; have u33 := run_underlying L.t33
  obtain ⟨_, _, FG⟩ := L.f10
  refine callsIn_of_wp FG rfl h10 ?_ hro
  simp only [SlBodyZ.n10_ntmps ρ, List.size_toArray, List.length_cons, List.length_nil, Nat.reduceAdd, Nat.reduceSub, Array.replicate_succ, Array.replicate_zero, List.push_toArray, List.append_toArray, List.nil_append, List.cons_append]
  gi_wp2_with (first
    | (gi_at_range; refine wpListIn_range_own _ rfl _ (ρ.t 23) rfl (ρ.t 26) (ρ.t 3) (int_keyed L.t26) L.t23 _ b nn _ rfl hown ?_; intro w0 hrg0 hg0 hs0)
    | gi_in)
  go_frame
  gi_loopw [3] (fun _ wr => ∃ (left : Lit → Bool) (cnt : Nat) (ss : List Int), wr.ranges P (ρ.t 26) R b W.heap.size nn D0 left cnt ∧ ss.length + cnt ≤ Maps.size D0 ∧ CollectedI D0 left ss ∧ J ss wr)
    (fun _ wr => wr.rangeLeft b W.heap.size)
  case atStart =>
    exact ⟨_, _, [], hrg0, by simp, CollectedI.start D0, hJ [] W w0 none h0 hg0 (fun r e => by cases e)⟩
  case round =>
    obtain ⟨left, cnt, ss, hrg, hcs, hC, hJs⟩ := hrel
    gi_wp2_with (first
      | (gi_at_next; refine wpListIn_next_ranges _ rfl _ rfl (ρ.t 26) (int_keyed L.t26) R encZ id (fun key kl hk => by obtain ⟨x, hx, _⟩ := Maps.keyOf_i64 L.t26 hk; exact ⟨x, hx⟩) (fun v _ _ => ⟨v, rfl⟩) b W.heap.size nn _ _ _ rfl hrg ?_ ?_)
      | gi_in)
    · intro hc0 hl0
      gi_wp2
      go_end0
      exact ⟨⟨_, rfl⟩, ss, hC.perm hown (int_keyed L.t26) L.t26 hl0, hJs⟩
    · intro x c kl yd yp w2 cnt2 hkey hlk hv hat hrg2 hlt hg2 hs2 hen
      obtain ⟨x', ex, rfl, _⟩ := Maps.keyOf_i64 L.t26 hkey
      obtain rfl : x = x' := encZ_inj ex
      have hJ2 : J ss w2 := hJ ss wr w2 (some W.heap.size) hJs hg2 (fun r e => by cases e; exact ⟨Nat.le_refl _, hrg.iter_walk⟩)
      obtain ⟨fn, tmps, assign, body, hy, hR⟩ := hY ss x w2 hJ2 (by omega)
      clear hs2
      gi_wp2
      refine hR.mono ?_
      rintro e W3 ⟨rfl, hJ3, hk3⟩
      gi_wp2
      have hrg3 := hrg2.of_walks hk3
      go_roundw
      case rel => exact ⟨_, cnt2, ss ++ [x], hrg3, by simp; omega, hC.step hlk hat, hJ3⟩
      case measure => rw [hrg3.left_eq, hrg.left_eq]; exact hlt

end Go.Proofs
namespace Go.Proofs.Sh
open Go Go.RowKit Go.Maps Go.Sort Go.Shelf Go.Proofs
variable {P : Program} {ρ : Go.Shelf.Ren}

/-- slices.AppendSeq(nil, maps.Keys(m)), where there is nothing in m -/
def appSeq (keys : Nat) : Nat → List DV → DH → Option (DV × DH) := fun _ args H =>
  match args with
  | [.nils, .fn f [] [.ptr b 0]] => if f = keys then (match H.cell b 0 with
    | some (.mp x) => (match H[x]? with
      | some (.map [] _) => some (.nils, H)
      | _ => none)
    | _ => none) else none
  | _ => none

theorem appSeq_some {keys m : Nat} {args : List DV} {H H' : DH} {r : DV} (h : appSeq keys m args H = some (r, H')) :
    ∃ b x c, args = [.nils, .fn keys [] [.ptr b 0]] ∧ H.cell b 0 = some (.mp x) ∧ H[x]? = some (.map [] c) ∧ r = .nils ∧ H' = H := by
  unfold appSeq at h
  split at h
  case h_2 => cases h
  case h_1 f b =>
    split at h
    case isFalse => cases h
    case isTrue hf =>
      subst hf
      split at h
      case h_2 => cases h
      case h_1 x hx =>
        split at h
        case h_2 => cases h
        case h_1 c hc =>
          injection h with h; injection h with e1 e2; subst e1 e2
          exact ⟨b, x, c, rfl, hx, hc, rfl, rfl⟩

theorem PrimOk.appSeq {ρ' : Go.Shelf.Ren} (L : SlLaysZI.n11 P ρ) (L' : SlLaysZI.n10 P ρ') {f keys : Nat} {q : Bool} (hf : ρ.f 11 = f) (hk : ρ'.f 10 = keys) (hb : hasBody P f = true) : PrimOk P f q (appSeq keys) where
  sound := by
    intro m args H r H' he
    obtain ⟨b, x, c, rfl, h1, h2, rfl, rfl⟩ := appSeq_some he
    refine ⟨hb, fun hH hl μ W vs hr hv => ?_⟩
    obtain ⟨v0, v1, rfl⟩ : ∃ v0 v1, vs = #[v0, v1] := by
      have := VRs.len hv
      simp at this
      match vs, this with
      | ⟨[a, b]⟩, _ => exact ⟨a, b, rfl⟩
    simp only [VRs, VR, and_true] at hv
    obtain ⟨rfl, fs, cs, rfl, hfs, hcs⟩ := hv
    have hfs0 : fs = #[] := by
      have := VRs.len hfs
      exact Array.eq_empty_of_size_eq_zero (by simpa using this.symm)
    subst hfs0
    obtain ⟨u, rfl⟩ : ∃ u, cs = #[u] := by
      have := VRs.len hcs
      simp at this
      match cs, this with
      | ⟨[a]⟩, _ => exact ⟨a, rfl⟩
    simp only [VRs, VR, and_true] at hcs
    obtain ⟨p, hp, rfl⟩ := hcs
    obtain ⟨u, hu, hvr⟩ := cell_VR hr h1 hp
    simp only [VR] at hvr
    obtain ⟨q', hq, rfl⟩ := hvr
    obtain ⟨_, _, xs, hxs, hes⟩ := hr.g.br x (.map [] c) q' h2 hq
    have hxs0 : xs = #[] := by
      cases hl : xs.toList with
      | nil => simpa using hl
      | cons a l => rw [hl] at hes; simp [EntsR] at hes
    subst hxs0
    have hown : W.ownsMap P (ρ'.t 26) (fun _ => (none : Option (DataW Unit × List MemPlace))) q'.blk 0 (.map []) :=
      ⟨#[], c, hxs, ⟨by simp, (⟨by simp, by simp, by simp⟩ : _root_.Go.MapKept.Stamped #[] c), by simp⟩, Nat.le_refl _, rfl⟩
    have hpl : p.blk < W.heap.size := hr.g.bd b p hp
    have hgives : SeqGives Fence.wide 1 P (ρ'.f 10) #[.pointer (some ⟨p.blk, p.base + 0, none⟩)] encZ (fun ss => ss.Perm (intKeys (.map [] : DataW Unit))) 0 W := fun l J W1 hW hJ hY h0 => by
      have hown' : W1.ownsMap P (ρ'.t 26) (fun _ => (none : Option (DataW Unit × List MemPlace))) q'.blk 0 (.map []) := by
        have hbl := hown.lt
        obtain ⟨es, clock, hb, Ft, hs, hD⟩ := hown
        exact ⟨es, clock, (hW.block q'.blk hbl).trans hb, Ft, hs, hD⟩
      exact keysE_in L' Fence.wide 1 trivial rfl (Nat.le_refl _) l p.blk (p.base + 0) q'.blk 0 _ J (fun pre x W2 hj hl => hY pre x W2 hj (by simp [Maps.size] at hl)) W1 hJ ((hW.cell (p := ⟨p.blk, p.base + 0, none⟩) hpl).trans hu) hown' h0
    have h := AnyZI.appendSeq_in L Fence.wide 2 trivial rfl (Nat.le_refl _) (ρ'.f 10) #[.pointer (some ⟨p.blk, p.base + 0, none⟩)] trivial (L'.f10.enters rfl) _ 0 (Nat.zero_le _) (by omega) W hgives
    rw [hf, hk] at h
    refine (callsIn_wide.1 h).mono ?_
    rintro e W' ⟨v, ss, rfl, hS, _, hnil, hbl⟩
    have hss : ss = [] := by simpa [intKeys] using hS
    obtain rfl := hnil.2 hss
    exact ⟨_, μ, rfl, fun _ _ => rfl, hr.later hbl.size hbl.block, by simp only [VR], ⟨hbl.os, hbl.tape, hbl.output, hbl.size, fun k hk _ => hbl.block k hk⟩, fun b x p hx hg hp => .inr ⟨b, x, p, id, hx, hg, hp, rfl⟩⟩
  wf := by
    intro m args H r H' he hH _
    obtain ⟨_, _, _, _, _, _, rfl, rfl⟩ := appSeq_some he
    exact ⟨hH, by simp only [DV.lt], Nat.le_refl _⟩
  quiet := by
    intro _ m args H r H' he
    have he' := he
    obtain ⟨_, _, _, _, _, _, rfl, rfl⟩ := appSeq_some he
    exact ⟨⟨[], by simp⟩, fun m2 => he'⟩
  stay := by
    intro m args H r H' _ he
    obtain ⟨_, _, _, _, _, _, rfl, rfl⟩ := appSeq_some he
    exact .refl

end Go.Proofs.Sh

