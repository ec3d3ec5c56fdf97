import Derived.Test.YtlllcknpdpjbpaaGreatDoorNobLawEval
import Derived.Test.YtlllcknpdpjbpaaGreatDoorNobFits
import Derived.Test.YtlllcknpdpjbpaaGreatDoorFrD
import Derived.Test.YtlllcknpdpjbpaaGreatDoorRows
import Derived.Test.YtlllcknpdpjbpaaGreatDoorCards
import Derived.Test.YtlllcknpdpjbpaaGreatDoorTie
import Derived.Ground.GgzProg
import Derived.Deep.DeepHandedRow
/-
  A shard that nobody opened (a nil pointer, or one to a zero Shard) does nothing when it is told anything, Open refuses a nil disk and the number 9, and a shard that is opened prepares and votes: peeragelaw28.ShardNobody returns true, for every message and number; the row's own conditions alone (the listed tables are as the program's text lays them).
-/
namespace Go.Proofs.YtlllcknpdpjbpaaGreatDoor.shardNobody
open Go Go.RowKit Go.ChangeShapes Go.WideShapes Go.ChangeAt Go.Proofs.Sh
set_option linter.unusedVariables false
set_option maxRecDepth 100000

def cod3 := (cInt .i64)
theorem op3 : Opens Tryz.prog 3 cod3 := (opens_int Tryz.underlying3 (by kernel_rfl))
def cod4 := cBool
theorem op4 : Opens Tryz.prog 4 cod4 := (opens_bool Tryz.underlying4 (by kernel_rfl))
def cod9 := cStr
theorem op9 : Opens Tryz.prog 9 cod9 := (opens_str Tryz.underlying9 (by kernel_rfl))
def cod76 := (cod3.pair (cod9.pair cUnit))
theorem op76 : Opens Tryz.prog 76 cod76 := (opens_struct Tryz.underlying76 (by kernel_rfl) (opensFs_cons rfl op3 (opensFs_cons rfl op9 (opensFs_nil _))))
def cod22 := (cSl cod76)
theorem op22 : Opens Tryz.prog 22 cod22 := (opens_slice Tryz.underlying22 (by kernel_rfl) (by decide) op76)
def cod25 := (cSl cod9)
theorem op25 : Opens Tryz.prog 25 cod25 := (opens_slice Tryz.underlying25 (by kernel_rfl) (by decide) op9)
def cod210 := (cod9.pair (cod25.pair cUnit))
theorem op210 : Opens Tryz.prog 210 cod210 := (opens_struct Tryz.underlying210 (by kernel_rfl) (opensFs_cons rfl op9 (opensFs_cons rfl op25 (opensFs_nil _))))
def cod86 := (cSl cod210)
theorem op86 : Opens Tryz.prog 86 cod86 := (opens_slice Tryz.underlying86 (by kernel_rfl) (by decide) op210)
def cod88 := (cod9.pair (cod9.pair (cod3.pair (cod86.pair cUnit))))
theorem op88 : Opens Tryz.prog 88 cod88 := (opens_struct Tryz.underlying88 (by kernel_rfl) (opensFs_cons rfl op9 (opensFs_cons rfl op9 (opensFs_cons rfl op3 (opensFs_cons rfl op86 (opensFs_nil _))))))
def cod24 := (cSl cod88)
theorem op24 : Opens Tryz.prog 24 cod24 := (opens_slice Tryz.underlying24 (by kernel_rfl) (by decide) op88)
def cod78 := (cod76.pair (cod24.pair cUnit))
theorem op78 : Opens Tryz.prog 78 cod78 := (opens_struct Tryz.underlying78 (by kernel_rfl) (opensFs_cons rfl op76 (opensFs_cons rfl op24 (opensFs_nil _))))
def cod23 := (cSl cod78)
theorem op23 : Opens Tryz.prog 23 cod23 := (opens_slice Tryz.underlying23 (by kernel_rfl) (by decide) op78)
def cod26 := (cSl cod3)
theorem op26 : Opens Tryz.prog 26 cod26 := (opens_slice Tryz.underlying26 (by kernel_rfl) (by decide) op3)
def cod28 := (cod3.pair (cod3.pair (cod3.pair (cod3.pair (cod4.pair (cod3.pair (cod22.pair (cod23.pair (cod24.pair (cod25.pair (cod26.pair cUnit)))))))))))
theorem op28 : Opens Tryz.prog 28 cod28 := (opens_struct Tryz.underlying28 (by kernel_rfl) (opensFs_cons rfl op3 (opensFs_cons rfl op3 (opensFs_cons rfl op3 (opensFs_cons rfl op3 (opensFs_cons rfl op4 (opensFs_cons rfl op3 (opensFs_cons rfl op22 (opensFs_cons rfl op23 (opensFs_cons rfl op24 (opensFs_cons rfl op25 (opensFs_cons rfl op26 (opensFs_nil _)))))))))))))
def cArgs := ((cAgg cod28).pair (cod3.pair cUnit))
theorem opArgs : OpensAll Tryz.prog [28, 3] cArgs := (opensAll_cons (opensV_struct Tryz.underlying28 op28) (opensAll_cons (opensV_int Tryz.underlying3 (by kernel_rfl)) opensAll_nil))

theorem apS_ok : SlLaysZI.n11 Tryz.prog ⟨fun | 11 => 188 | n => n, fun | 24 => 26 | 26 => 3 | 28 => 188 | 0 => 0 | 33 => 197 | 4 => 4 | n => n, fun | n => n⟩ := {
  mixed := by kernel_rfl
  f11 := ⟨Tryz.f188.name, by decide, Tryz.func188.trans (congrArg some (by kernel_rfl))⟩
  t0 := Tryz.underlying0
  a0 := Tryz.isAgg0
  z0 := Tryz.sizeOf0
  v0 := Tryz.zeroValue0
  t24 := Tryz.underlying26
  a24 := Tryz.isAgg26
  z24 := Tryz.sizeOf26
  v24 := Tryz.zeroValue26
  t26 := Tryz.underlying3
  a26 := Tryz.isAgg3
  z26 := Tryz.sizeOf3
  v26 := Tryz.zeroValue3
  t28 := Tryz.underlying188
  a28 := Tryz.isAgg188
  z28 := Tryz.sizeOf188
  v28 := Tryz.zeroValue188
  i26 := by kernel_rfl }
theorem keyS_ok : SlLaysZI.n10 Tryz.prog ⟨fun | 10 => 149 | n => n, fun | 33 => 197 | 23 => 35 | 0 => 0 | 4 => 4 | 26 => 3 | 3 => 58 | n => n, fun | n => n⟩ := {
  mixed := by kernel_rfl
  f10 := ⟨Tryz.f149.name, by decide, Tryz.func149.trans (congrArg some (by kernel_rfl))⟩
  t0 := Tryz.underlying0
  a0 := Tryz.isAgg0
  z0 := Tryz.sizeOf0
  v0 := Tryz.zeroValue0
  t4 := Tryz.underlying4
  a4 := Tryz.isAgg4
  z4 := Tryz.sizeOf4
  v4 := Tryz.zeroValue4
  t23 := Tryz.underlying35
  a23 := Tryz.isAgg35
  z23 := Tryz.sizeOf35
  v23 := Tryz.zeroValue35
  t26 := Tryz.underlying3
  a26 := Tryz.isAgg3
  z26 := Tryz.sizeOf3
  v26 := Tryz.zeroValue3
  t33 := Tryz.underlying197
  a33 := Tryz.isAgg197
  z33 := Tryz.sizeOf197
  v33 := Tryz.zeroValue197 }

theorem fits0 : Fits Tryz.prog theD := by
  refine fits_of (t := tab) (by kernel_rfl) (fun f φ h => ?_) rfl fits_tab
  by_cases hf : f = N.slices_AppendSeq_int_int
  · subst hf
    have : φ = appSeq N.maps_Keys_map_int_shard_prepared_int_shard_prepared_S1 := by
      simp only [theD, if_true] at h
      exact (Option.some.inj h).symm
    subst this
    exact PrimOk.appSeq apS_ok keyS_ok rfl rfl (by kernel_rfl)
  · simp only [theD, if_neg hf] at h
    cases h
theorem fitsLaw : Fits Tryz.prog D1 := fits0.with (PrimOk.closed fits0 (by simp only [DV.lt]) one_ok)

theorem law_true (H : DH) (vs : List DV) (x : _) (hx : cArgs.rd H vs x) : ∃ H', dcall D1 20 3 H.length vs H = some (.bool true, H') := by
  obtain ⟨⟨a0, a1, a2, a3, y, a5, x6, x7, x8, x9, x10, u⟩, id, u'⟩ := x
  simp only [cArgs, Cod.pair, cAgg, cod28, cod3, cod4, cInt, cBool, cUnit] at hx
  obtain ⟨us, ws, rfl, _, ⟨cs, rfl, _, b0, r0, rfl, _, ⟨rfl, _⟩, b1, r1, rfl, _, ⟨rfl, _⟩, b2, r2, rfl, _, ⟨rfl, _⟩, b3, r3, rfl, _, ⟨rfl, _⟩, b4, r4, rfl, _, rfl, b5, r5, rfl, _, ⟨rfl, _⟩, b6, r6, rfl, _, ⟨v6, rfl, _⟩, b7, r7, rfl, _, ⟨v7, rfl, _⟩, b8, r8, rfl, _, ⟨v8, rfl, _⟩, b9, r9, rfl, _, ⟨v9, rfl, _⟩, b10, r10, rfl, _, ⟨v10, rfl, _⟩, rfl⟩, ws1, ws2, rfl, _, ⟨rfl, _⟩, rfl⟩ := hx
  exact law_eval H 0 a0 a1 a2 a3 a5 id y v6 v7 v8 v9 v10

theorem own : ownKnob Tryz.prog.godebug = none := by kernel_rfl
theorem laidOut : laidOutB Tryz.prog = true := by kernel_rfl
theorem readable : ∀ t ∈ [28, 3], Tryz.prog.readableRec t = true ∧ t < Tryz.prog.types.size := by
  intro t ht
  simp only [List.mem_cons, List.not_mem_nil, or_false] at ht
  rcases ht with rfl | rfl
  all_goals exact ⟨by kernel_rfl, of_decide_eq_true (by kernel_rfl)⟩

theorem contract (H : Type) (enc : TypeId × Value → H) (W : World) (base : Nat) (args : Array Value) (ds gs : List (DataW H)) (before : List MemPlace)
    (hval : ∀ (j : Nat) t v, Tryz.f3.params[j]? = some t → args[j]? = some v → Value.okWide Tryz.prog W .any base t v)
    (hW : DataW.Whole enc Tryz.prog Tryz.f3.params.toList Rows.shardNobodySpec.vars false W args.toList ds gs before) (hc : HasCells W) :
    Calls Tryz.prog 3 args W fun e W' => ∃ v, e = .returned v ∧ Rows.shardNobodySpec.post enc Tryz.prog Tryz.f3 false true false false W args v W' := by
  have hW' := hW
  obtain ⟨p, q, hA, hV, rfl, hfz, hnd⟩ := hW
  rw [Tryz.params3] at hA hval
  obtain ⟨rfl, rfl⟩ := trodVars_none hV
  refine (law_calls fitsLaw opArgs (fun H vs x _ _ h3 _ => law_true H vs x h3) hc (fun j t v hj hv => hval j t v (by simpa using hj) (by simpa using hv)) hA (Nat.le_refl _)).mono ?_
  rintro e W' ⟨rfl, hbl⟩
  obtain ⟨pa, ht, rfl⟩ := trodAll_below laidOut hbl (fun t ht => readable t (by simpa using ht)) hA (fun _ => true) (fun _ _ => rfl)
  refine ⟨_, rfl, law_post hW' rfl ?_ (by rw [Tryz.params3]; exact ht) (tb := 4) rfl Tryz.underlying4 hbl⟩
  have hl := trodAll_length hA
  match ds, hl with
  | [d1, d2], _ => rfl

noncomputable def laidWorld (os : Os) : World :=
  let w0 := World.holding Tryz.prog os ⟨#[], #[], []⟩
  { w0 with heap := (w0.heap.modify 1 fun
      | .cells _ t frozen => .cells (Go.Pinned.utf8FirstZ.map fun (z : Nat) => Value.int .u8 (z : Int)).toArray t frozen
      | o => o).modify 2 fun
      | .cells _ t frozen => .cells (#[128, 191, 160, 191, 128, 159, 144, 191, 128, 143, 0, 0, 0, 0, 0, 0, 0, 0, 0, 0, 0, 0, 0, 0, 0, 0, 0, 0, 0, 0, 0, 0].map fun z => Value.int .u8 z) t frozen
      | o => o }
abbrev zeros : Array Value := #[.agg #[.int .i64 0, .int .i64 0, .int .i64 0, .int .i64 0, .bool false, .int .i64 0, .slice none 0 0, .slice none 0 0, .slice none 0 0, .slice none 0 0, .slice none 0 0], .int .i64 0]
theorem laid_met (os : Os) : laidMet Tryz.prog Rows.shardNobodyRow.laid ((laidWorld os).forCall (fun _ _ => 0) ⟨#[], zeros, []⟩).memory :=
  laidMet_of_run' 8 (by kernel_rfl) (by kernel_rfl)
theorem reads (os : Os) {H : Type} (enc : TypeId × Value → H) : ∃ places, DataW.whole enc Tryz.prog ((laidWorld os).forCall (fun _ _ => 0) ⟨#[], zeros, []⟩).memory Tryz.f3.params.toList Rows.shardNobodySpec.vars false zeros.toList 8 =
    some ([.agg [.lit (.int .i64 0), .lit (.int .i64 0), .lit (.int .i64 0), .lit (.int .i64 0), .lit (.bool false), .lit (.int .i64 0), .nil, .nil, .nil, .nil, .nil], .lit (.int .i64 0)], [], places) :=
  ⟨[], by kernel_rfl⟩

set_option maxRecDepth 100000 in
theorem lifted (os : Os) (started : os.Started) (H : Type) (enc : TypeId × Value → H) (F : Stop.Interp) :
    ReturnsInHanded {} Tryz.checked os 3 .any ((OpenSpec.ofChange Rows.shardNobodySpec).preRow enc Tryz.prog Tryz.f3 Rows.shardNobodyRow.domain false Rows.shardNobodyRow.laid) (((OpenSpec.ofChange Rows.shardNobodySpec).at F).post enc Tryz.prog Tryz.f3 false true false false) := by
  obtain ⟨places, hx⟩ := reads os enc
  refine returnsInHanded_of_row (C := Tryz.checked) (s := OpenSpec.ofChange Rows.shardNobodySpec) own started (by kernel_rfl) Tryz.func3
    (witness_row_at (enc := enc) (C := Tryz.checked) false (laidWorld os) zeros rfl (by kernel_rfl) (by kernel_rfl) (by kernel_rfl)
      (OpenSpec.preRow_of_cond 8 hx (by kernel_rfl) (fun k hk => by cases hk) (by kernel_rfl) (laid_met os))) ?_
  intro W base args ds gs before hval hW _ _ _ _ hsh _
  exact contract H enc W base args ds gs before hval hW (hasCells_of_shaped hsh (of_decide_eq_true (by kernel_rfl)) (by kernel_rfl))

theorem j1 : (Rows.shardNobodyRow.inPlace == Tryz.prog.inPlace 3) = true := by kernel_rfl
theorem j2 : (Rows.shardNobodyRow.unfollowed == Tryz.prog.unfollowed 3) = true := by kernel_rfl
theorem j3 : (Rows.shardNobodyRow.recurses == Tryz.prog.recurses 3) = true := by kernel_rfl
theorem j4 : (Rows.shardNobodyRow.named == Tryz.prog.varsNamed 3) = true := by kernel_rfl
theorem j5 : Tryz.prog.funcNamed "peerage/peeragelaw28.ShardNobody" = some 3 := by kernel_rfl
set_option maxHeartbeats 40000000 in
theorem joined : joinedFacts Tryz.prog 3 Tryz.f3 (OpenSpec.ofChange Rows.shardNobodySpec).bare Rows.shardNobodyRow = true := by
  unfold joinedFacts
  repeat' (with_reducible refine Bool.and_eq_true_iff.2 ⟨?_, ?_⟩)
  all_goals first
    | with_reducible exact j1
    | with_reducible exact j2
    | with_reducible exact j3
    | with_reducible exact j4
    | as_aux_lemma => kernel_rfl
theorem wrapper : Tryz.f3.isWrapper Tryz.prog Rows.shardNobodyRow.wrapper Rows.shardNobodyRow.mainSum := by
  unfold Func.isWrapper; first | (rw [if_pos (by decide +kernel)]; kernel_rfl) | (rw [if_neg (by decide +kernel)]; exact ⟨rfl, rfl⟩)
theorem inst : Tryz.f3.isInstance Tryz.prog Rows.shardNobodyRow.origin Rows.shardNobodyRow.targs := of_decide_eq_true (by kernel_rfl)
theorem said : Rows.ShardNobodySaid :=
  OpenClaim.holds_of_cond 3 Tryz.f3 rfl rfl rfl rfl rfl rfl rfl ⟨rfl, rfl, rfl, rfl, rfl⟩ rfl rfl rfl rfl rfl j5 Tryz.func3 joined inst wrapper
    (fun os started H enc _ F => by rw [OpenClaim.pre_eq_preRow]; exact lifted os started H enc F)

theorem looks : true = Tryz.prog.looks [] := by kernel_rfl
theorem plain (f : FuncId) (fn : Func) (hf : Tryz.pinned.checked.prog.funcNamed "peerage/peeragelaw28.ShardNobody" = some f) (hfn : Tryz.pinned.checked.prog.funcs[f]? = some fn) :
    true = Tryz.pinned.checked.prog.looks [] ∧ ∀ (j : Nat) t, fn.params[j]? = some t → Tryz.pinned.checked.prog.wantsStandIn t = false := by
  obtain rfl : f = 3 := Option.some.inj (j5.symm.trans hf) |>.symm
  obtain rfl : fn = Tryz.f3 := (Option.some.inj (Tryz.func3.symm.trans hfn)).symm
  refine ⟨looks, fun j t ht => ?_⟩
  rw [Tryz.params3] at ht
  have ht' : t ∈ [28, 3] := by simpa using Array.mem_of_getElem? ht
  simp only [List.mem_cons, List.not_mem_nil, or_false] at ht'
  rcases ht' with rfl | rfl
  all_goals (show Tryz.prog.wantsStandIn _ = false; kernel_rfl)
theorem wft : Rows.shardNobodyRow.wfByText (OpenSpec.ofChange Rows.shardNobodySpec) = true := by kernel_rfl
theorem mainIs : Tryz.pinned.checked.prog.mainIs = some (true, "05456fa26f96d7da3dbbb689bf29da0bd26d92d46135f1b712013681afec4e9b".toList) := by kernel_rfl
theorem goesBy : false = Rows.shardNobodyRow.goesBy Tryz.pinned.checked.prog := by kernel_rfl

theorem card : Rows.ShardNobodyCardSaid :=
  Claim7.holds_tied_plain_at .later [] _ _ _ _ said (fun _ h => by cases h) wft (fun _ h => by cases h) shardNobody_row_tie rfl ⟨rfl, rfl⟩ mainIs rfl plain goesBy
end Go.Proofs.YtlllcknpdpjbpaaGreatDoor.shardNobody
namespace Go.Proofs.YtlllcknpdpjbpaaGreatDoor
theorem shardNobody_holds : Rows.ShardNobodyCardSaid := shardNobody.card
end Go.Proofs.YtlllcknpdpjbpaaGreatDoor
