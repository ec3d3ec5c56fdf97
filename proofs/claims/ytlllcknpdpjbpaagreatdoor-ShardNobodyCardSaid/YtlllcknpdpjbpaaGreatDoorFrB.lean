import Derived.Test.YtlllcknpdpjbpaaGreatDoorFrA
namespace Go.Proofs.Sh
open Go Go.RowKit

section
variable {P : Program} {m : Nat} {μ : LMap} {H H' : DH} {W : World} {F : DF} {a : Act} {nt : Nat} {call : Nat → Nat → List DV → DH → Option (DV × DH)} {quiet : Nat → Bool} {q : Bool} {o : Oper} {d : DO} {v : DV}

/-- what an operation that is no call comes to -/
def Done (P : Program) (m : Nat) (μ : LMap) (H : DH) (W : World) (a : Act) (o : Oper) (v : DV) (H' : DH) : Prop :=
  ∃ u W' μ' n, (execOp a.eval o).run P W = .ok n W' ∧ (n = .value u ∨ (n = .skip ∧ u = Go.undef)) ∧ Out m μ H W v H' μ' u W'

theorem Done.val {s : Sem Value} (hs : ∀ ρ, ρ = a.eval → execOp ρ o = (do pure (.value (← s)))) {u : Value} {W' : World} {μ' : LMap} (hrun : s.run P W = .ok u W') (h : Out m μ H W v H' μ' u W') : Done P m μ H W a o v H' := by
  refine ⟨u, W', μ', .value u, ?_, .inl rfl, h⟩
  rw [hs _ rfl]
  simp [hrun]

theorem Done.pureVal (hr : Rel m μ H W) {s : Sem Value} (hs : ∀ ρ, ρ = a.eval → execOp ρ o = (do pure (.value (← s)))) {u : Value} (hrun : s.run P W = .ok u W) (h : VR μ v u) : Done P m μ H W a o v H :=
  Done.val hs hrun (Out.same hr h)

theorem ev_some {x : DX} {F : DF} {α : Type} {f : DV → Option α} {r : α} (h : (match x.ev F with | some v => f v | none => none) = some r) : ∃ v, x.ev F = some v ∧ f v = some r := by
  split at h
  · exact ⟨_, by assumption, h⟩
  · cases h

theorem cEq_cases {neg : Bool} {t : Nat} {x y : Operand} (hc : cEq P neg t x y = some d) : ∃ dx dy, cX x = some dx ∧ cX y = some dy ∧ ((∃ k, d = .eq k neg dx dy) ∨ ∃ l, d = .eqs neg l dx dy) := by
  unfold cEq at hc
  split at hc
  case h_2 => cases hc
  case h_1 dx dy hx hy =>
    refine ⟨dx, dy, hx, hy, ?_⟩
    split at hc
    case h_2 =>
      split at hc
      case h_2 => cases hc
      case h_1 =>
        split at hc
        case isTrue => cases hc
        case isFalse => injection hc with hc; exact .inl ⟨_, hc.symm⟩
    case h_6 =>
      split at hc
      case isFalse => cases hc
      case isTrue => injection hc with hc; exact .inl ⟨_, hc.symm⟩
    case h_7 =>
      split at hc
      case isTrue => cases hc
      case isFalse =>
        split at hc
        case h_2 => cases hc
        case h_1 l hl => injection hc with hc; exact .inr ⟨_, hc.symm⟩
    case h_8 => cases hc
    all_goals (injection hc with hc; exact .inl ⟨_, hc.symm⟩)

theorem cEq_sound (hr : Rel m μ H W) (hf : FR μ F a nt) {neg : Bool} {t yt : Nat} {x y : Operand} (ho : o.op = .binOp (opOf neg) t x y yt) (hc : cEq P neg t x y = some d) (hd : dop call m F H d = some (v, H')) : Done P m μ H W a o v H' := by
  have hex : ∀ ρ, ρ = a.eval → execOp ρ o = (do pure (.value (← (do eqGuard (opOf neg) t x y (a.eval x) (a.eval y); binOp (opOf neg) t (a.eval x) (a.eval y) : Sem Value)))) := by
    intro ρ e; subst e; unfold execOp; rw [ho]
  obtain ⟨dx, dy, hx, hy, ⟨k, rfl⟩ | ⟨l, rfl⟩⟩ := cEq_cases hc
  · simp only [dop] at hd
    split at hd
    case h_2 => cases hd
    case h_1 va vb hva hvb =>
      split at hd
      case h_2 => cases hd
      case h_1 r hr' =>
        injection hd with hd; injection hd with e1 e2; subst e1 e2
        exact Done.pureVal hr hex (cEq_run hc hr' (cX_VR hf hx hva) (cX_VR hf hy hvb) nilConst_spec nilConst_spec) (by simp only [VR])
  · simp only [dop] at hd
    split at hd
    case h_2 => cases hd
    case h_1 la lb hva hvb =>
      split at hd
      case h_2 => cases hd
      case h_1 r hr' =>
        injection hd with hd; injection hd with e1 e2; subst e1 e2
        exact Done.pureVal hr hex (cEqs_run hc hr' (cX_VR hf hx hva) (cX_VR hf hy hvb)) (by simp only [VR])

theorem cBin_sound (hr : Rel m μ H W) (hf : FR μ F a nt) {op : BinOp} {t yt : Nat} {x y : Operand} (ho : o.op = .binOp op t x y yt) (hc : cBin P op t x y = some d) (hd : dop call m F H d = some (v, H')) : Done P m μ H W a o v H' := by
  have hex : ∀ ρ, ρ = a.eval → execOp ρ o = (do pure (.value (← (do eqGuard op t x y (a.eval x) (a.eval y); binOp op t (a.eval x) (a.eval y) : Sem Value)))) := by
    intro ρ e; subst e; unfold execOp; rw [ho]
  unfold cBin at hc
  split at hc
  case isTrue hnum =>
    split at hc
    case h_2 => cases hc
    case h_1 dx dy hx hy =>
      injection hc with hc; subst hc
      simp only [dop] at hd
      split at hd
      case h_2 => cases hd
      case h_1 va vb hva hvb =>
        split at hd
        case h_2 => cases hd
        case h_1 r hr' =>
          injection hd with hd; injection hd with e1 e2; subst e1 e2
          obtain ⟨u, hu, hvr⟩ := bin_run (P := P) (W := W) hr' (cX_VR hf hx hva) (cX_VR hf hy hvb) t x y
          exact Done.pureVal hr hex hu hvr
  case isFalse hnum =>
    split at hc
    · exact cEq_sound (neg := false) hr hf ho hc hd
    · exact cEq_sound (neg := true) hr hf ho hc hd
    · cases hc

theorem cConv_sound (hr : Rel m μ H W) (hf : FR μ F a nt) {s t : Nat} {x : Operand} (ho : o.op = .convert s t x) (hc : cConv P s t x = some d) (hd : dop call m F H d = some (v, H')) : Done P m μ H W a o v H' := by
  have hex : ∀ ρ, ρ = a.eval → execOp ρ o = (do pure (.value (← convert s t (a.eval x)))) := by
    intro ρ e; subst e; unfold execOp; rw [ho]
  unfold cConv at hc
  split at hc
  case h_1 => cases hc
  case h_2 dx hx =>
    split at hc
    case h_1 k hs ht =>
      injection hc with hc; subst hc
      simp only [dop] at hd
      split at hd
      case h_2 => cases hd
      case h_1 k' n hv =>
        injection hd with hd; injection hd with e1 e2; subst e1 e2
        have := cX_VR hf hx hv
        simp only [VR] at this
        refine Done.pureVal hr hex (u := .int k (k.wrap n)) ?_ (by simp only [VR])
        rw [this]; unfold convert; simp [run_underlying hs, run_underlying ht, Conv.intToInt]
    case h_2 k hs ht =>
      injection hc with hc; subst hc
      simp only [dop] at hd
      split at hd
      case h_2 => cases hd
      case h_1 k' n hv =>
        injection hd with hd; injection hd with e1 e2; subst e1 e2
        have := cX_VR hf hx hv
        simp only [VR] at this
        refine Done.pureVal hr hex (u := .string (Utf8.encode n)) ?_ (by simp only [VR])
        rw [this]; unfold convert; simp [run_underlying hs, run_underlying ht, Conv.intToString]
    case h_3 hs ht =>
      injection hc with hc; subst hc
      simp only [dop] at hd
      split at hd
      case h_2 => cases hd
      case h_1 s' hv =>
        injection hd with hd; injection hd with e1 e2; subst e1 e2
        have := cX_VR hf hx hv
        simp only [VR] at this
        refine Done.pureVal hr hex (u := .string ⟨⟨s'⟩⟩) ?_ (by simp only [VR])
        rw [this]; unfold convert; simp [run_underlying hs, run_underlying ht]
    case h_4 e hs ht =>
      split at hc
      case h_2 => cases hc
      case h_1 he =>
        injection hc with hc; subst hc
        simp only [dop] at hd
        split at hd
        case h_2 => cases hd
        case h_1 vx hvx =>
          split at hd
          case h_2 => cases hd
          case h_1 s' hs' =>
            injection hd with hd; injection hd with e1 e2; subst e1 e2
            have hvr := cX_VR hf hx hvx
            have hrun := b2s_run (P := P) hr hs' hvr
            refine Done.pureVal hr hex (u := .string ⟨⟨s'⟩⟩) ?_ (by simp only [VR])
            have hshape : ∃ ad l c, a.eval x = .slice ad l c := by
              unfold b2sD at hs'
              split at hs'
              · simp only [VR] at hvr; exact ⟨_, _, _, hvr⟩
              · simp only [VR] at hvr; obtain ⟨p, hp, ad, c', e, _⟩ := hvr; exact ⟨_, _, _, e⟩
              · cases hs'
            obtain ⟨ad, l, c, e⟩ := hshape
            rw [e] at hrun ⊢
            rw [run_convert_bytes_string W s t _ ad l c hs he ht]
            exact hrun
    case h_5 e hs ht =>
      split at hc
      case h_2 => cases hc
      case h_1 he =>
        injection hc with hc; subst hc
        simp only [dop] at hd
        split at hd
        case h_2 => cases hd
        case h_1 s' hv =>
          injection hd with hd; injection hd with e1 e2; subst e1 e2
          have := cX_VR hf hx hv
          simp only [VR] at this
          obtain ⟨u, W', μ', hrun, hout⟩ := op_s2b (P := P) hr (s := s') hs ht he
          refine Done.val hex ?_ hout
          rw [this]; exact hrun
    case h_6 => cases hc

end
end Go.Proofs.Sh

namespace Go.Proofs.Sh
open Go Go.RowKit

section
variable {P : Program} {m : Nat} {μ : LMap} {H H' : DH} {W : World} {F : DF} {a : Act} {nt : Nat} {call : Nat → Nat → List DV → DH → Option (DV × DH)} {quiet : Nat → Bool} {q : Bool} {o : Oper} {d : DO} {v : DV}

theorem cSlice_sound (hr : Rel m μ H W) (hf : FR μ F a nt) {t : Nat} {x : Operand} {lo hi mx : Option Operand} (ho : o.op = .slice t x lo hi mx) (hc : cSlice P t x lo hi mx = some d) (hd : dop call m F H d = some (v, H')) : Done P m μ H W a o v H' := by
  have hex : ∀ ρ, ρ = a.eval → execOp ρ o = (do pure (.value (← Instr.sliceAt t (a.eval x) (lo.map a.eval) (hi.map a.eval) (mx.map a.eval)))) := by
    intro ρ e; subst e; unfold execOp; rw [ho]
  unfold cSlice at hc
  split at hc
  case h_2 => cases hc
  case h_1 dx l h m' hx hl hh hm =>
    split at hc
    case h_1 ht =>
      split at hc
      case isTrue => cases hc
      case isFalse hms =>
        injection hc with hc; subst hc
        have hm0 : mx = none := by
          have : m' = none := by cases m' with | none => rfl | some _ => exact absurd rfl hms
          subst this
          unfold cXo at hm
          split at hm
          · rfl
          · split at hm <;> cases hm
        subst hm0
        simp only [dop] at hd
        split at hd
        case h_2 => cases hd
        case h_1 s hv =>
          split at hd
          case h_2 => cases hd
          case h_1 kh h2 =>
            split at hd
            case h_2 => cases hd
            case h_1 kl h3 =>
              injection hd with hd; injection hd with e1 e2; subst e1 e2
              exact Done.pureVal hr hex (op_ssl hf ht hl hh h2 h3 (cX_VR hf hx hv)) (by simp only [VR])
    case h_2 e ht =>
      split at hc
      case h_2 => cases hc
      case h_1 i hi' =>
        split at hc
        case isTrue => cases hc
        case isFalse hmh0 =>
          injection hc with hc; subst hc
          have hmh : m'.isSome = true → h.isSome = true := by
            intro h1
            cases hh' : h with
            | none => subst hh'; simp [h1] at hmh0
            | some _ => rfl
          simp only [dop] at hd
          split at hd
          · rename_i hv
            split at hd
            case h_2 => cases hd
            case h_1 kx kh kl h1 h2 h3 =>
              injection hd with hd; injection hd with e1 e2; subst e1 e2
              have hvr := cX_VR hf hx hv
              simp only [VR] at hvr
              have hvr2 := hvr
              refine Done.pureVal hr hex (u := .slice none 0 0) ?_ (by simp only [VR])
              rw [hvr]
              exact op_sls_nil hf ht hi' hl hh hm hmh h1 h2 h3
          · rename_i b o' n c e' hv
            split at hd
            case isFalse => cases hd
            case isTrue he =>
              subst he
              split at hd
              case h_2 => cases hd
              case h_1 kx h1 =>
                split at hd
                case h_2 => cases hd
                case h_1 kh h2 =>
                  split at hd
                  case h_2 => cases hd
                  case h_1 kl h3 =>
                    split at hd
                    case isFalse => cases hd
                    case isTrue hkk =>
                      injection hd with hd; injection hd with e1 e2; subst e1 e2
                      have hnc : h.isSome = true ∨ n ≤ kx := by
                        cases hh' : h with
                        | none => subst hh'; simp [bnd] at h2; right; omega
                        | some _ => left; rfl
                      obtain ⟨u, hu, hvr⟩ := op_sls (P := P) (W := W) hf ht hi' hl hh hm hmh h1 h2 h3 hnc (cX_VR hf hx hv)
                      exact Done.pureVal hr hex hu hvr
          · cases hd
    case h_3 n e ht =>
      split at hc
      case h_2 => cases hc
      case h_1 i hi' =>
        split at hc
        case isTrue => cases hc
        case isFalse hms =>
          injection hc with hc; subst hc
          have hm0 : mx = none := by
            have : m' = none := by cases m' with | none => rfl | some _ => exact absurd rfl hms
            subst this
            unfold cXo at hm
            split at hm
            · rfl
            · split at hm <;> cases hm
          subst hm0
          simp only [dop] at hd
          split at hd
          case h_2 => cases hd
          case h_1 b o' hv =>
            split at hd
            case h_2 => cases hd
            case h_1 kh h2 =>
              split at hd
              case h_2 => cases hd
              case h_1 kl h3 =>
                split at hd
                case h_2 => cases hd
                case h_1 vs hvs =>
                  injection hd with hd; injection hd with e1 e2; subst e1 e2
                  obtain ⟨u, hu, hvr⟩ := op_asl (P := P) hr hf ht hi' hl hh h2 h3 hvs (cX_VR hf hx hv)
                  exact Done.pureVal hr hex hu hvr
    case h_4 => cases hc

theorem zok_spec {i : TypeInfo} (h : zok i = true) : ∃ z, i.zero = some z ∧ z.cells.size = i.size := by
  unfold zok at h
  split at h
  · exact ⟨_, by assumption, by simpa using h⟩
  · cases h

theorem cBuiltin_sound (hr : Rel m μ H W) (hf : FR μ F a nt) {c : Call} {b : Builtin} (ho : o.op = .call c) (hb : c.callee = .builtin b) (hc : cBuiltin P b c.argTypes c.args.toList = some d) (hd : dop call m F H d = some (v, H')) : Done P m μ H W a o v H' := by
  have hex : ∀ (s : Sem Value), (builtin b c.argTypes o.type (c.args.map fun | .const _ => true | _ => false) (c.args.map a.eval) = (do pure (.value (← s)))) → ∀ ρ, ρ = a.eval → execOp ρ o = (do pure (.value (← s))) := by
    intro s hs ρ e; subst e; unfold execOp; rw [ho]; simp only
    unfold resolve; rw [hb]
    simp only [pure_bind]
    exact hs
  unfold cBuiltin at hc
  split at hc
  · -- len
    rename_i x t hargs hts
    have hargs' : c.args = #[x] := by rw [← Array.toArray_toList (xs := c.args), hargs]
    have hb2 : builtin .len c.argTypes o.type (c.args.map fun | .const _ => true | _ => false) (c.args.map a.eval) = (do pure (.value (← Builtin.len_ c.argTypes o.type #[a.eval x]))) := by
      rw [hargs']; simp [builtin]
    split at hc
    · rename_i dx hx ht
      injection hc with hc; subst hc
      simp only [dop] at hd
      split at hd
      case h_2 => cases hd
      case h_1 s hv =>
        injection hd with hd; injection hd with e1 e2; subst e1 e2
        exact Done.pureVal hr (hex _ hb2) (op_len_str ht hts (cX_VR hf hx hv)) (by simp only [VR])
    · rename_i dx e hx ht
      injection hc with hc; subst hc
      simp only [dop] at hd
      split at hd
      · rename_i hv
        injection hd with hd; injection hd with e1 e2; subst e1 e2
        exact Done.pureVal hr (hex _ hb2) (op_len_nil ht hts (cX_VR hf hx hv)) (by simp only [VR])
      · rename_i b o' n c' e' hv
        injection hd with hd; injection hd with e1 e2; subst e1 e2
        exact Done.pureVal hr (hex _ hb2) (op_len_sl ht hts (cX_VR hf hx hv)) (by simp only [VR])
      · cases hd
    · rename_i dx kt et hx ht
      injection hc with hc; subst hc
      simp only [dop] at hd
      split at hd
      case h_2 => cases hd
      case h_1 w hv =>
        split at hd
        case h_2 => cases hd
        case h_1 es hes =>
          injection hd with hd; injection hd with e1 e2; subst e1 e2
          exact Done.pureVal hr (hex _ hb2) (op_lenm hr ht hts hes (cX_VR hf hx hv)) (by simp only [VR])
    · cases hc
  · -- append
    rename_i x y t hargs hts
    have hargs' : c.args = #[x, y] := by rw [← Array.toArray_toList (xs := c.args), hargs]
    have hb2 : builtin .append c.argTypes o.type (c.args.map fun | .const _ => true | _ => false) (c.args.map a.eval) = (do pure (.value (← Builtin.append_ c.argTypes o.type #[a.eval x, a.eval y]))) := by
      rw [hargs']; simp [builtin]
    split at hc
    case h_2 => cases hc
    case h_1 dx dy e u hx hy ht hu =>
      split at hc
      case h_2 => cases hc
      case h_1 i hi =>
        split at hc
        case isFalse => cases hc
        case isTrue hcond =>
          obtain ⟨h1, h2, h3, h4⟩ := hcond
          injection hc with hc; subst hc
          simp only [dop] at hd
          split at hd
          case h_2 => cases hd
          case h_1 va vb hva hvb =>
            obtain ⟨z, hz, hzs⟩ := zok_spec h4
            obtain ⟨u, W', μ', hrun, hout⟩ := op_app (P := P) (ty0 := o.type) hr (ts := c.argTypes) ⟨⟨t, hts, ht⟩, ⟨u, hu, h1⟩, hi, h2, h3, ⟨z, hz⟩⟩ hd (cX_VR hf hx hva) (cX_VR hf hy hvb) (fun z' hz' => by rw [hz] at hz'; injection hz' with e; subst e; exact hzs)
            exact Done.val (hex _ hb2) hrun hout
  · -- copy
    rename_i x y t hargs hts
    have hargs' : c.args = #[x, y] := by rw [← Array.toArray_toList (xs := c.args), hargs]
    have hb2 : builtin .copy c.argTypes o.type (c.args.map fun | .const _ => true | _ => false) (c.args.map a.eval) = (do pure (.value (← Builtin.copy_ c.argTypes o.type #[a.eval x, a.eval y]))) := by
      rw [hargs']; simp [builtin]
    split at hc
    case h_2 => cases hc
    case h_1 dx dy e hx hy ht =>
      split at hc
      case h_2 => cases hc
      case h_1 i hi =>
        injection hc with hc; subst hc
        simp only [dop] at hd
        split at hd
        · rename_i vb hva hvb
          split at hd
          case h_2 => cases hd
          case h_1 k hk =>
            injection hd with hd; injection hd with e1 e2; subst e1 e2
            have hvr := cX_VR hf hx hva
            simp only [VR] at hvr
            refine Done.pureVal hr (hex _ hb2) (u := .int .i64 0) ?_ (by simp only [VR])
            rw [hvr]
            exact op_cpy_nil hts ht hi hk (cX_VR hf hy hvb)
        · rename_i b o' n c' e' vb hva hvb
          split at hd
          case isFalse => cases hd
          case isTrue he =>
            subst he
            split at hd
            case h_2 => cases hd
            case h_1 k hk =>
              split at hd
              case h_2 => cases hd
              case h_1 vs hvs =>
                split at hd
                case h_2 => cases hd
                case h_1 H2 hput =>
                  injection hd with hd; injection hd with e1 e2; subst e1 e2
                  obtain ⟨u, W', μ', hrun, hout⟩ := op_cpy (P := P) (ty0 := o.type) hr hts ht hi hk hvs hput (cX_VR hf hx hva) (cX_VR hf hy hvb)
                  exact Done.val (hex _ hb2) hrun hout
        · cases hd
  · -- delete
    rename_i x k t hargs hts
    have hargs' : c.args = #[x, k] := by rw [← Array.toArray_toList (xs := c.args), hargs]
    have hb2 : builtin .delete c.argTypes o.type (c.args.map fun | .const _ => true | _ => false) (c.args.map a.eval) = (do pure (.value (← Builtin.delete_ c.argTypes o.type #[a.eval x, a.eval k]))) := by
      rw [hargs']; simp [builtin]
    split at hc
    case h_2 => cases hc
    case h_1 dx dk kt et hx hk ht =>
      split at hc
      case h_2 => cases hc
      case h_1 kd hkd =>
        injection hc with hc; subst hc
        simp only [dop] at hd
        split at hd
        · rename_i wk hvx hvk
          injection hd with hd; injection hd with e1 e2; subst e1 e2
          have hvr := cX_VR hf hx hvx
          simp only [VR] at hvr
          refine Done.pureVal hr (hex _ hb2) (u := .tuple #[]) ?_ (by simp only [VR]; exact ⟨#[], rfl, by simp only [VRs]⟩)
          rw [hvr]
          unfold Builtin.delete_
          simp only [hts, List.getElem?_toArray, List.getElem?_cons_zero, List.getElem?_cons_succ, Sem.run_bind, run_underlying ht, Result.andThen_ok, run_checkKey hkd, Sem.run_pure]
        · rename_i b wk hvx hvk
          split at hd
          case h_2 => cases hd
          case h_1 es clock hb =>
            split at hd
            · rename_i i v' hfe
              split at hd
              case h_2 => cases hd
              case h_1 H2 hset =>
                injection hd with hd; injection hd with e1 e2; subst e1 e2
                obtain ⟨W', hrun, hout⟩ := op_mdl (P := P) hr ht hkd hb (cX_VR hf hx hvx) (cX_VR hf hk hvk) hts (ty := o.type) hfe hset
                exact Done.val (hex _ hb2) hrun hout
            · rename_i hfe
              split at hd
              case h_2 => cases hd
              case h_1 H2 hset =>
                injection hd with hd; injection hd with e1 e2; subst e1 e2
                obtain ⟨W', hrun, hout⟩ := op_mdl (P := P) hr ht hkd hb (cX_VR hf hx hvx) (cX_VR hf hk hvk) hts (ty := o.type) hfe hset
                exact Done.val (hex _ hb2) hrun hout
            · cases hd
        · cases hd
  · -- min
    rename_i x y hargs
    have hargs' : c.args = #[x, y] := by rw [← Array.toArray_toList (xs := c.args), hargs]
    have hb2 : builtin .min c.argTypes o.type (c.args.map fun | .const _ => true | _ => false) (c.args.map a.eval) = (do pure (.value (← Builtin.min_ c.argTypes o.type #[a.eval x, a.eval y]))) := by
      rw [hargs']; simp [builtin]
    split at hc
    case h_2 => cases hc
    case h_1 dx dy hx hy =>
      injection hc with hc; subst hc
      simp only [dop] at hd
      split at hd
      case h_2 => cases hd
      case h_1 k va k' vb hva hvb =>
        split at hd
        case isFalse => cases hd
        case isTrue hk =>
          subst hk
          injection hd with hd; injection hd with e1 e2; subst e1 e2
          have h1 := cX_VR hf hx hva
          have h2 := cX_VR hf hy hvb
          simp only [VR] at h1 h2
          refine Done.pureVal hr (hex _ hb2) (u := .int k (if vb < va then vb else va)) ?_ (by simp only [VR, Bool.false_eq_true, if_false])
          rw [h1, h2]; unfold Builtin.min_; simp [Builtin.min2]
  · -- max
    rename_i x y hargs
    have hargs' : c.args = #[x, y] := by rw [← Array.toArray_toList (xs := c.args), hargs]
    have hb2 : builtin .max c.argTypes o.type (c.args.map fun | .const _ => true | _ => false) (c.args.map a.eval) = (do pure (.value (← Builtin.max_ c.argTypes o.type #[a.eval x, a.eval y]))) := by
      rw [hargs']; simp [builtin]
    split at hc
    case h_2 => cases hc
    case h_1 dx dy hx hy =>
      injection hc with hc; subst hc
      simp only [dop] at hd
      split at hd
      case h_2 => cases hd
      case h_1 k va k' vb hva hvb =>
        split at hd
        case isFalse => cases hd
        case isTrue hk =>
          subst hk
          injection hd with hd; injection hd with e1 e2; subst e1 e2
          have h1 := cX_VR hf hx hva
          have h2 := cX_VR hf hy hvb
          simp only [VR] at h1 h2
          refine Done.pureVal hr (hex _ hb2) (u := .int k (if vb > va then vb else va)) ?_ (by simp only [VR, if_true])
          rw [h1, h2]; unfold Builtin.max_; simp [Builtin.max2]
  · cases hc

end
end Go.Proofs.Sh

namespace Go.Proofs.Sh
open Go Go.RowKit

section
variable {P : Program} {m : Nat} {μ : LMap} {H H' : DH} {W : World} {F : DF} {a : Act} {nt : Nat} {call : Nat → Nat → List DV → DH → Option (DV × DH)} {quiet : Nat → Bool} {q : Bool} {o : Oper} {d : DO} {v : DV}

theorem mv_sound (hr : Rel m μ H W) (hf : FR μ F a nt) {x : Operand} {dx : DX} (hx : cX x = some dx) (ho : ∀ ρ, execOp ρ o = pure (.value (ρ x))) (hd : dop call m F H (.mv dx) = some (v, H')) : Done P m μ H W a o v H' := by
  simp only [dop] at hd
  split at hd
  case h_2 => cases hd
  case h_1 va hv =>
    injection hd with hd; injection hd with e1 e2; subst e1 e2
    refine ⟨a.eval x, W, μ, .value (a.eval x), ?_, .inl rfl, Out.same hr (cX_VR hf hx hv)⟩
    rw [ho]; rfl

theorem op_sound (hr : Rel m μ H W) (hf : FR μ F a nt) (hc : cOp P o.op = some d) (hnc : d.isCall = false) (hd : dop call m F H d = some (v, H')) : Done P m μ H W a o v H' := by
  generalize ho : o.op = op at hc
  cases op <;> simp only [cOp] at hc
  case move x =>
    split at hc
    case h_2 => cases hc
    case h_1 dx hx => injection hc with hc; subst hc; exact mv_sound hr hf hx (fun ρ => by unfold execOp; rw [ho]) hd
  case assign x =>
    split at hc
    case h_2 => cases hc
    case h_1 dx hx => injection hc with hc; subst hc; exact mv_sound hr hf hx (fun ρ => by unfold execOp; rw [ho]) hd
  case pick c x y =>
    split at hc
    case h_2 => cases hc
    case h_1 dc dx dy hcc hx hy =>
      injection hc with hc; subst hc
      simp only [dop] at hd
      have hex : ∀ (b : Bool) (u : Value), a.eval c = .bool b → u = (if b then a.eval x else a.eval y) → VR μ v u → H' = H → Done P m μ H W a o v H' := by
        intro b u hb hu hvr e
        subst e
        refine ⟨u, W, μ, .value u, ?_, .inl rfl, Out.same hr hvr⟩
        unfold execOp; rw [ho]; simp only [hb, hu]
        cases b <;> rfl
      split at hd
      · rename_i hv
        split at hd
        case h_2 => cases hd
        case h_1 va hva =>
          injection hd with hd; injection hd with e1 e2; subst e1
          have h1 := cX_VR hf hcc hv
          simp only [VR] at h1
          exact hex true _ h1 rfl (cX_VR hf hx hva) e2.symm
      · rename_i hv
        split at hd
        case h_2 => cases hd
        case h_1 va hva =>
          injection hd with hd; injection hd with e1 e2; subst e1
          have h1 := cX_VR hf hcc hv
          simp only [VR] at h1
          exact hex false _ h1 rfl (cX_VR hf hy hva) e2.symm
      · cases hd
  case alloc t =>
    split at hc
    case h_2 => cases hc
    case h_1 z hz =>
      injection hc with hc; subst hc
      simp only [dop] at hd
      injection hd with hd; injection hd with e1 e2; subst e1 e2
      obtain ⟨u, W', μ', hrun, hout⟩ := op_alloc (P := P) hr hz
      exact Done.val (fun ρ e => by subst e; unfold execOp; rw [ho]) hrun hout
  case box t x =>
    split at hc
    case h_2 => cases hc
    case h_1 dx hx =>
      injection hc with hc; subst hc
      simp only [dop] at hd
      split at hd
      case h_2 => cases hd
      case h_1 va hva =>
        injection hd with hd; injection hd with e1 e2; subst e1 e2
        obtain ⟨u, W', μ', hrun, hout⟩ := op_box (P := P) hr (t := t) (cX_VR hf hx hva)
        exact Done.val (fun ρ e => by subst e; unfold execOp; rw [ho]) hrun hout
  case build t ps =>
    have hex : ∀ ρ, ρ = a.eval → execOp ρ o = (do pure (.value (← Instr.build t (ps.map fun (i, x) => (i, a.eval x))))) := fun ρ e => by subst e; unfold execOp; rw [ho]
    have hprs : (ps.map fun (x : Nat × Operand) => (x.1, a.eval x.2)).toList = ps.toList.map fun x => (x.1, a.eval x.2) := by simp
    split at hc
    · rename_i z fs hz ht
      split at hc
      case h_2 => cases hc
      case h_1 places hpl =>
        split at hc
        case h_2 => cases hc
        case h_1 l hl =>
          injection hc with hc; subst hc
          simp only [dop] at hd
          split at hd
          case h_2 => cases hd
          case h_1 lv hlv =>
            split at hd
            case h_2 => cases hd
            case h_1 cs hcs =>
              injection hd with hd; injection hd with e1 e2; subst e1 e2
              obtain ⟨i, zv, hi, hzv, hs, hdz⟩ := zeroOf_spec hz
              obtain ⟨cc, h1, h2⟩ := fill_run hf ps.toList l hl lv hlv z cs zv.cells (dvsL_VR hdz) hcs
              refine Done.pureVal hr hex (u := .agg cc) ?_ (by simp only [VR]; exact ⟨cc, rfl, h2⟩)
              refine run_build W t _ cc ?_
              unfold Program.built
              simp only [hi, ht, hzv, hpl]
              rw [hprs]; exact h1
    · rename_i z n e hz ht
      split at hc
      case h_2 => cases hc
      case h_1 ie hie =>
        split at hc
        case h_2 => cases hc
        case h_1 l hl =>
          injection hc with hc; subst hc
          simp only [dop] at hd
          split at hd
          case h_2 => cases hd
          case h_1 lv hlv =>
            split at hd
            case h_2 => cases hd
            case h_1 cs hcs =>
              injection hd with hd; injection hd with e1 e2; subst e1 e2
              obtain ⟨i, zv, hi, hzv, hs, hdz⟩ := zeroOf_spec hz
              obtain ⟨cc, h1, h2⟩ := fill_run hf ps.toList l hl lv hlv z cs zv.cells (dvsL_VR hdz) hcs
              refine Done.pureVal hr hex (u := .agg cc) ?_ (by simp only [VR]; exact ⟨cc, rfl, h2⟩)
              refine run_build W t _ cc ?_
              unfold Program.built
              simp only [hi, ht, hzv, hie]
              rw [hprs]; exact h1
    · cases hc
  case buildSlice t n ps =>
    have hprs : (ps.map fun (x : Nat × Operand) => (x.1, a.eval x.2)).toList = ps.toList.map fun x => (x.1, a.eval x.2) := by simp
    split at hc
    case h_2 => cases hc
    case h_1 e ht =>
      split at hc
      case h_2 => cases hc
      case h_1 i z hi hz =>
        split at hc
        case isFalse => cases hc
        case isTrue hcond =>
          obtain ⟨hsz, hpos, hzl⟩ := hcond
          split at hc
          case h_2 => cases hc
          case h_1 l hl =>
            injection hc with hc; subst hc
            simp only [dop] at hd
            split at hd
            case h_2 => cases hd
            case h_1 lv hlv =>
              split at hd
              case h_2 => cases hd
              case h_1 cs hcs =>
                injection hd with hd; injection hd with e1 e2; subst e1 e2
                obtain ⟨i', zv, hi', hzv, hs, hdz⟩ := zeroOf_spec hz
                rw [hi] at hi'; injection hi' with hi'; subst hi'
                have hrep := reps_VRs (μ := μ) (dvsL_VR hdz) (by omega) n
                rw [hs] at hrep
                obtain ⟨cc, h1, h2⟩ := fill_run hf ps.toList l hl lv hlv (reps n z) cs _ hrep hcs
                have hout := Out.newBlk hr (cs := cs) (cc := cc) (ty := e) h2
                have hcl : cs.length = n * i.size := by
                  have hfl : ∀ (lv : List (Nat × Nat × DV)) (z cs : List DV), fillD z lv = some cs → cs.length = z.length := by
                    intro lv
                    induction lv with
                    | nil => intro z cs h; simp only [fillD] at h; injection h with h; rw [h]
                    | cons y ys ih =>
                      intro z cs h
                      obtain ⟨o1, n1, v1⟩ := y
                      simp only [fillD] at h
                      split at h
                      case isFalse => cases h
                      case isTrue hc => rw [ih _ _ h]; simp; omega
                  rw [hfl lv _ _ hcs, reps_len, hzl]
                have hccl : cc.size = n * i.size := by have := VRs.len h2; simp at this; omega
                refine Done.val (u := .slice (some ⟨W.heap.size, 0, none⟩) n n) (W' := W.alloc (.cells cc e)) (fun ρ e' => by subst e'; unfold execOp; rw [ho]) ?_ ⟨hout.old, hout.rel, ?_, hout.kept, hout.fresh⟩
                · unfold Instr.buildSlice
                  have hbig : ¬ (n * i.size > 2 ^ 24) := by
                    have : (2:Nat) ^ 24 = 16777216 := by decide
                    omega
                  simp only [Sem.run_bind, run_underlying ht, Result.andThen_ok, run_sizeOf hi, hbig, if_false]
                  by_cases h0 : n * i.size = 0
                  · have hn0 : n = 0 := by
                      rcases Nat.mul_eq_zero.1 h0 with h | h <;> omega
                    subst hn0
                    rw [← hprs] at h1
                    have harr : ∀ f : Nat → Value, (Array.range (0 * i.size)).map f = #[] := fun f => Array.eq_empty_of_size_eq_zero (by simp)
                    rw [harr] at h1
                    rw [if_pos (Nat.zero_mul _)]
                    simp only [Sem.run_bind, Sem.run_pure, Result.andThen_ok]
                    rw [harr, h1]
                    simp [newRow]
                  · rw [← hprs] at h1
                    rw [if_neg h0]
                    simp only [Sem.run_bind, run_zeroValue hi hzv, Result.andThen_ok, Sem.run_pure, hs]
                    rw [h1]
                    simp [newRow]
                · simp only [VR]
                  exact ⟨_, upd_new, _, _, rfl, Nat.le_refl _, Nat.le_refl _, .inl ⟨by simp, by simp [hccl]⟩⟩
  case load t x =>
    have hex : ∀ ρ, ρ = a.eval → execOp ρ o = (do pure (.value (← Instr.loadAt t (a.eval x)))) := fun ρ e => by subst e; unfold execOp; rw [ho]
    split at hc
    · rename_i dx i hx ha hi
      injection hc with hc; subst hc
      simp only [dop] at hd
      split at hd
      case h_2 => cases hd
      case h_1 b o' hv =>
        split at hd
        case h_2 => cases hd
        case h_1 vs hvs =>
          injection hd with hd; injection hd with e1 e2; subst e1 e2
          obtain ⟨u, hu, hvr⟩ := op_loada (P := P) hr hi hvs (cX_VR hf hx hv) ha
          exact Done.pureVal hr hex hu hvr
    · rename_i dx i hx ha hi
      injection hc with hc; subst hc
      simp only [dop] at hd
      split at hd
      case h_2 => cases hd
      case h_1 b o' hv =>
        split at hd
        case h_2 => cases hd
        case h_1 v' hv' =>
          injection hd with hd; injection hd with e1 e2; subst e1 e2
          obtain ⟨u, hu, hvr⟩ := op_load1 (P := P) hr hv' (cX_VR hf hx hv) ha
          exact Done.pureVal hr hex hu hvr
    · cases hc
  case store t x y =>
    split at hc
    case h_2 => cases hc
    case h_1 dx dy i hx hy hi =>
      injection hc with hc; subst hc
      simp only [dop] at hd
      split at hd
      case h_2 => cases hd
      case h_1 b o' v' hv hv' =>
        split at hd
        case isFalse => cases hd
        case isTrue hn =>
          split at hd
          case h_2 => cases hd
          case h_1 H2 hput =>
            injection hd with hd; injection hd with e1 e2; subst e1 e2
            obtain ⟨W', hrun, hout⟩ := op_store (P := P) hr hn hput hi rfl (cX_VR hf hx hv) (cX_VR hf hy hv')
            refine ⟨Go.undef, W', μ, .skip, ?_, .inr ⟨rfl, rfl⟩, hout⟩
            unfold execOp; rw [ho]
            simp [hrun]
  case binOp op t x y yt => exact cBin_sound hr hf ho hc hd
  case unOp op t x =>
    cases op <;> simp only [] at hc
    case not =>
      split at hc
      case h_2 => cases hc
      case h_1 dx hx =>
        injection hc with hc; subst hc
        simp only [dop] at hd
        split at hd
        case h_2 => cases hd
        case h_1 b hv =>
          injection hd with hd; injection hd with e1 e2; subst e1 e2
          have := cX_VR hf hx hv
          simp only [VR] at this
          refine Done.pureVal hr (s := Op.unary .not (a.eval x)) (fun ρ e => by subst e; unfold execOp; rw [ho]) (u := .bool (!b)) ?_ (by simp only [VR])
          rw [this]; rfl
    case neg =>
      split at hc
      case h_2 => cases hc
      case h_1 dx hx =>
        injection hc with hc; subst hc
        simp only [dop] at hd
        split at hd
        case h_2 => cases hd
        case h_1 k n hv =>
          injection hd with hd; injection hd with e1 e2; subst e1 e2
          have := cX_VR hf hx hv
          simp only [VR] at this
          refine Done.pureVal hr (s := Op.unary .neg (a.eval x)) (fun ρ e => by subst e; unfold execOp; rw [ho]) (u := .int k (k.wrap (0 - n))) ?_ (by simp only [VR])
          rw [this]; rfl
    all_goals cases hc
  case convert s t x => exact cConv_sound hr hf ho hc hd
  case slice t x lo hi mx => exact cSlice_sound hr hf ho hc hd
  case fieldAddr t x f =>
    split at hc
    case h_2 => cases hc
    case h_1 dx fs hx ht =>
      split at hc
      case h_2 => cases hc
      case h_1 fl hfl =>
        split at hc
        case h_2 => cases hc
        case h_1 i hi =>
          split at hc
          case isTrue => cases hc
          case isFalse hz =>
            injection hc with hc; subst hc
            simp only [dop] at hd
            split at hd
            case h_2 => cases hd
            case h_1 b o' hv =>
              injection hd with hd; injection hd with e1 e2; subst e1 e2
              obtain ⟨u, hu, hvr⟩ := op_fld (P := P) (W := W) ht hfl hi hz (cX_VR hf hx hv)
              exact Done.pureVal hr (fun ρ e => by subst e; unfold execOp; rw [ho]) hu hvr
  case indexAddr t x j =>
    have hex : ∀ ρ, ρ = a.eval → execOp ρ o = (do pure (.value (← Instr.indexAt t (a.eval x) (a.eval j)))) := fun ρ e => by subst e; unfold execOp; rw [ho]
    split at hc
    · rename_i dx dj e hx hj ht
      split at hc
      case h_2 => cases hc
      case h_1 i hi =>
        injection hc with hc; subst hc
        simp only [dop] at hd
        split at hd
        case h_2 => cases hd
        case h_1 b o' n c' e' k jj hv hvj =>
          split at hd
          case isFalse => cases hd
          case isTrue hcond =>
            obtain ⟨h0, h1, he⟩ := hcond
            subst he
            injection hd with hd; injection hd with e1 e2; subst e1 e2
            obtain ⟨u, hu, hvr⟩ := op_ixa (P := P) (W := W) ht hi h0 h1 (cX_VR hf hx hv) (cX_VR hf hj hvj)
            exact Done.pureVal hr hex hu hvr
    · rename_i dx dj n e hx hj ht
      split at hc
      case h_2 => cases hc
      case h_1 i hi =>
        injection hc with hc; subst hc
        simp only [dop] at hd
        split at hd
        case h_2 => cases hd
        case h_1 b o' k jj hv hvj =>
          split at hd
          case isFalse => cases hd
          case isTrue hcond =>
            obtain ⟨h0, h1⟩ := hcond
            injection hd with hd; injection hd with e1 e2; subst e1 e2
            obtain ⟨u, hu, hvr⟩ := op_ixp (P := P) (W := W) ht hi h0 h1 (cX_VR hf hx hv) (cX_VR hf hj hvj)
            exact Done.pureVal hr hex hu hvr
    · cases hc
  case index t x j =>
    split at hc
    case h_2 => cases hc
    case h_1 dx dj hx hj ht =>
      injection hc with hc; subst hc
      simp only [dop] at hd
      split at hd
      case h_2 => cases hd
      case h_1 s k jj hv hvj =>
        split at hd
        case isFalse => cases hd
        case isTrue h0 =>
          split at hd
          case h_2 => cases hd
          case h_1 c hcc =>
            injection hd with hd; injection hd with e1 e2; subst e1 e2
            exact Done.pureVal hr (fun ρ e => by subst e; unfold execOp; rw [ho]) (op_ixs ht h0 hcc (cX_VR hf hx hv) (cX_VR hf hj hvj)) (by simp only [byteV, VR])
  case call c =>
    unfold cCall at hc
    split at hc
    · rename_i b hb
      exact cBuiltin_sound hr hf ho hb hc hd
    · split at hc
      case h_2 => cases hc
      case h_1 xs hxs =>
        split at hc
        case isFalse => cases hc
        case isTrue => injection hc with hc; subst hc; simp [DO.isCall] at hnc
    · split at hc
      case h_2 => cases hc
      case h_1 => injection hc with hc; subst hc; simp [DO.isCall] at hnc
    · cases hc
  case makeFunc fn first caps =>
    cases fn <;> simp only [] at hc <;> first | (cases hc; done) | skip
    rename_i f
    split at hc
    case h_2 => cases hc
    case h_1 k l hk hl =>
      split at hc
      case isFalse => cases hc
      case isTrue hbody =>
        injection hc with hc; subst hc
        simp only [dop] at hd
        split at hd
        case h_2 => cases hd
        case h_1 us vs hus hvs =>
          injection hd with hd; injection hd with e1 e2; subst e1 e2
          have h1 := cXs_VR hf hk hus
          have h2 := cXs_VR hf hl hvs
          refine Done.pureVal hr (fun ρ e => by subst e; unfold execOp; rw [ho]) (u := .func (.func f) (first.map a.eval) (caps.map a.eval)) ?_ ?_
          · simp [Instr.makeFunc]
          · simp only [VR]; exact ⟨_, _, rfl, by simpa using h1, by simpa using h2⟩
  case makeMap t res =>
    cases res <;> simp only [] at hc <;> first | (cases hc; done) | skip
    injection hc with hc; subst hc
    simp only [dop] at hd
    injection hd with hd; injection hd with e1 e2; subst e1 e2
    obtain ⟨u, W', μ', hrun, hout⟩ := op_mkm (P := P) hr (t := t)
    exact Done.val (fun ρ e => by subst e; unfold execOp; rw [ho]; rfl) hrun hout
  case lookup t x k ok =>
    split at hc
    case h_2 => cases hc
    case h_1 dx dk kt et hx hk ht =>
      split at hc
      case h_2 => cases hc
      case h_1 kd z hkd hz =>
        injection hc with hc; subst hc
        simp only [dop] at hd
        split at hd
        case h_2 => cases hd
        case h_1 vx vk hvx hvk =>
          split at hd
          case h_2 => cases hd
          case h_1 es hes =>
            have hex : ∀ ρ, ρ = a.eval → execOp ρ o = (do pure (.value (← Instr.lookup t (a.eval x) (a.eval k) ok))) := fun ρ e => by subst e; unfold execOp; rw [ho]
            split at hd
            · rename_i i y hfe
              injection hd with hd; injection hd with e1 e2; subst e1 e2
              obtain ⟨w, hrun, hvr⟩ := op_lku (P := P) hr ht hkd hz (ok := ok) hes (cX_VR hf hx hvx) (cX_VR hf hk hvk) hfe
              exact Done.pureVal hr hex hrun hvr
            · rename_i hfe
              injection hd with hd; injection hd with e1 e2; subst e1 e2
              obtain ⟨w, hrun, hvr⟩ := op_lku (P := P) hr ht hkd hz (ok := ok) hes (cX_VR hf hx hvx) (cX_VR hf hk hvk) hfe
              exact Done.pureVal hr hex hrun hvr
            · cases hd
  case mapUpdate t x k y =>
    split at hc
    case h_2 => cases hc
    case h_1 dx dk dy kt et hx hk hy ht =>
      split at hc
      case h_2 => cases hc
      case h_1 kd hkd =>
        injection hc with hc; subst hc
        simp only [dop] at hd
        split at hd
        case h_2 => cases hd
        case h_1 b vk vy hvx hvk hvy =>
          split at hd
          case h_2 => cases hd
          case h_1 es clock hb =>
            have fin : ∀ {H2 : DH}, (∃ W', (Instr.mapUpdate t (a.eval x) (a.eval k) (a.eval y)).run P W = .ok () W' ∧ Out m μ H W DV.undef H2 μ Go.undef W') → Done P m μ H W a o DV.undef H2 := by
              intro H2 ⟨W', hrun, hout⟩
              refine ⟨Go.undef, W', μ, .skip, ?_, .inr ⟨rfl, rfl⟩, hout⟩
              unfold execOp; rw [ho]
              simp [hrun]
            split at hd
            · rename_i i y' hfe
              split at hd
              case h_2 => cases hd
              case h_1 H2 hset =>
                injection hd with hd; injection hd with e1 e2; subst e1 e2
                exact fin (op_mup (P := P) hr ht hkd hb (cX_VR hf hx hvx) (cX_VR hf hk hvk) (cX_VR hf hy hvy) hfe hset)
            · rename_i hfe
              split at hd
              case h_2 => cases hd
              case h_1 H2 hset =>
                injection hd with hd; injection hd with e1 e2; subst e1 e2
                exact fin (op_mup (P := P) hr ht hkd hb (cX_VR hf hx hvx) (cX_VR hf hk hvk) (cX_VR hf hy hvy) hfe hset)
            · cases hd
  case range t x =>
    split at hc
    case h_2 => cases hc
    case h_1 dx kt et hx ht =>
      injection hc with hc; subst hc
      simp only [dop] at hd
      have hex : ∀ ρ, ρ = a.eval → execOp ρ o = (do pure (.value (← Instr.range t (a.eval x)))) := fun ρ e => by subst e; unfold execOp; rw [ho]
      split at hd
      · rename_i hv
        obtain ⟨u, W', μ', hrun, hout⟩ := op_rng (P := P) hr ht (x := .nilm) (cX_VR hf hx hv) hd
        exact Done.val hex hrun hout
      · rename_i b hv
        obtain ⟨u, W', μ', hrun, hout⟩ := op_rng (P := P) hr ht (x := .mp b) (cX_VR hf hx hv) hd
        exact Done.val hex hrun hout
      · cases hd
  case next x isStr =>
    cases isStr <;> simp only [] at hc <;> first | (cases hc; done) | skip
    split at hc
    case h_2 => cases hc
    case h_1 dx hx =>
      injection hc with hc; subst hc
      simp only [dop] at hd
      split at hd
      case h_2 => cases hd
      case h_1 r hv =>
        have hex : ∀ ρ, ρ = a.eval → execOp ρ o = (do pure (.value (← Instr.next (a.eval x) false o.type))) := fun ρ e => by subst e; unfold execOp; rw [ho]
        split at hd
        · rename_i s1 s2 s3 hi
          obtain ⟨u, W', hrun, hout⟩ := op_nxt (P := P) hr hi (cX_VR hf hx hv) (ty := o.type) hd
          exact Done.val hex hrun hout
        · rename_i b s1 s2 s3 hi
          obtain ⟨u, W', hrun, hout⟩ := op_nxt (P := P) hr hi (cX_VR hf hx hv) (ty := o.type) hd
          exact Done.val hex hrun hout
        · cases hd
  case entry x =>
    split at hc
    case h_2 => cases hc
    case h_1 dx hx =>
      injection hc with hc; subst hc
      simp only [dop] at hd
      split at hd
      case h_2 => cases hd
      case h_1 r hv =>
        split at hd
        case h_2 => cases hd
        case h_1 b s1 seen s2 hi =>
          split at hd
          case h_2 => cases hd
          case h_1 es clock hb =>
            split at hd
            case isFalse => cases hd
            case isTrue hcl =>
              split at hd
              case h_2 => cases hd
              case h_1 s hs =>
                split at hd
                case h_2 => cases hd
                case h_1 e hf' =>
                  injection hd with hd; injection hd with e1 e2; subst e1 e2
                  obtain ⟨u, hrun, hvr⟩ := op_ent (P := P) hr hi hb hcl hs hf' (cX_VR hf hx hv)
                  exact Done.pureVal hr (s := Instr.entry (a.eval x)) (fun ρ e => by subst e; unfold execOp; rw [ho]) hrun hvr
  case extract x i =>
    split at hc
    case h_2 => cases hc
    case h_1 dx hx =>
      injection hc with hc; subst hc
      simp only [dop] at hd
      split at hd
      case h_2 => cases hd
      case h_1 l hv =>
        split at hd
        case h_2 => cases hd
        case h_1 w hw =>
          injection hd with hd; injection hd with e1 e2; subst e1 e2
          have := cX_VR hf hx hv
          simp only [VR] at this
          obtain ⟨cs, hcs, hvs⟩ := this
          obtain ⟨u, hu, hvr⟩ := VRs.get hvs hw
          refine Done.pureVal hr (s := Instr.extract (a.eval x) i) (fun ρ e => by subst e; unfold execOp; rw [ho]) (u := u) ?_ hvr
          rw [hcs]
          have : cs[i]? = some u := by simpa using hu
          simp [Instr.extract, this]
  case field t x f =>
    split at hc
    case h_2 => cases hc
    case h_1 dx fs hx ht =>
      split at hc
      case h_2 => cases hc
      case h_1 fl hfl =>
        split at hc
        · rename_i i ha hi
          injection hc with hc; subst hc
          simp only [dop] at hd
          split at hd
          case h_2 => cases hd
          case h_1 l hv =>
            split at hd
            case isFalse => cases hd
            case isTrue hn =>
              injection hd with hd; injection hd with e1 e2; subst e1 e2
              have := cX_VR hf hx hv
              simp only [VR] at this
              obtain ⟨cs, hcs, hvs⟩ := this
              refine Done.pureVal hr (s := Instr.field t (a.eval x) f) (fun ρ e => by subst e; unfold execOp; rw [ho]) (u := .agg (cs.extract fl.offset (fl.offset + i.size))) ?_ ?_
              · rw [hcs]
                unfold Instr.field
                simp only [Sem.run_bind, run_underlying ht, Result.andThen_ok, hfl, asAgg, Sem.run_pure]
                unfold Go.part
                simp [run_isAgg ha, run_sizeOf hi]
              · simp only [VR]
                refine ⟨_, rfl, ?_⟩
                have := (hvs.drop fl.offset).take i.size
                simpa [List.drop_take] using this
        · rename_i ha
          injection hc with hc; subst hc
          simp only [dop] at hd
          split at hd
          case h_2 => cases hd
          case h_1 l hv =>
            split at hd
            case h_2 => cases hd
            case h_1 w hw =>
              injection hd with hd; injection hd with e1 e2; subst e1 e2
              have := cX_VR hf hx hv
              simp only [VR] at this
              obtain ⟨cs, hcs, hvs⟩ := this
              obtain ⟨u, hu, hvr⟩ := VRs.get hvs hw
              refine Done.pureVal hr (s := Instr.field t (a.eval x) f) (fun ρ e => by subst e; unfold execOp; rw [ho]) (u := u) ?_ hvr
              rw [hcs]
              have : cs[fl.offset]? = some u := by simpa using hu
              unfold Instr.field
              simp only [Sem.run_bind, run_underlying ht, Result.andThen_ok, hfl, asAgg, Sem.run_pure]
              unfold Go.part
              simp [run_isAgg ha, this]
        · cases hc
  case nilCheck x =>
    split at hc
    case h_2 => cases hc
    case h_1 dx hx =>
      injection hc with hc; subst hc
      simp only [dop] at hd
      have key : ∀ w, dx.ev F = some w → w = v → H' = H → ((∃ ad, a.eval x = .pointer (some ad)) ∨ (∃ f fs c, a.eval x = .func (.func f) fs c) ∨ ∃ t u, a.eval x = .iface t u) → Done P m μ H W a o v H' := by
        intro w hw e1 e2 hok
        subst e1 e2
        have hvr := cX_VR hf hx hw
        refine ⟨a.eval x, W, μ, .value (a.eval x), ?_, .inl rfl, Out.same hr hvr⟩
        unfold execOp; rw [ho]
        simp only
        rcases hok with ⟨ad, e⟩ | ⟨f, fs, c, e⟩ | ⟨t, u, e⟩ <;> rw [e] <;> rfl
      split at hd
      · rename_i b o' hv
        injection hd with hd; injection hd with e1 e2
        have hu := cX_VR hf hx hv
        simp only [VR] at hu; obtain ⟨p, hp, hu⟩ := hu
        exact key _ hv e1 e2.symm (.inl ⟨_, hu⟩)
      · rename_i f fst caps hv
        injection hd with hd; injection hd with e1 e2
        have hu := cX_VR hf hx hv
        simp only [VR] at hu; obtain ⟨fs, cs, hu, _⟩ := hu
        exact key _ hv e1 e2.symm (.inr (.inl ⟨_, _, _, hu⟩))
      · rename_i t' w hv
        injection hd with hd; injection hd with e1 e2
        have hu := cX_VR hf hx hv
        simp only [VR] at hu; obtain ⟨w', hu, _⟩ := hu
        exact key _ hv e1 e2.symm (.inr (.inr ⟨_, _, hu⟩))
      · cases hd
  case makeInterface t x =>
    split at hc
    · cases hc
    · rename_i dx td hnot hx ht
      injection hc with hc; subst hc
      simp only [dop] at hd
      split at hd
      case h_2 => cases hd
      case h_1 w hv =>
        injection hd with hd; injection hd with e1 e2; subst e1 e2
        have hvr := cX_VR hf hx hv
        refine Done.pureVal hr (s := Instr.makeInterface t (a.eval x)) (fun ρ e => by subst e; unfold execOp; rw [ho]) (u := .iface t (a.eval x)) ?_ (by simp only [VR]; exact ⟨_, rfl, hvr⟩)
        unfold Instr.makeInterface
        simp only [Sem.run_bind, run_underlying ht, Result.andThen_ok]
        cases td <;> first | rfl | exact absurd ht (hnot _)
    · cases hc
  case makeSlice t l c =>
    split at hc
    case h_2 => cases hc
    case h_1 dl dc e hl hcx ht =>
      split at hc
      case h_2 => cases hc
      case h_1 i z hi hz =>
        split at hc
        case isFalse => cases hc
        case isTrue hcond =>
          obtain ⟨hzl, hpos, hb1⟩ := hcond
          injection hc with hc; subst hc
          simp only [dop] at hd
          split at hd
          case h_2 => cases hd
          case h_1 l' c' hvl hvc =>
            split at hd
            case isFalse => cases hd
            case isTrue hcond =>
              obtain ⟨h0, h1, h2⟩ := hcond
              injection hd with hd; injection hd with e1 e2; subst e1 e2
              obtain ⟨u, W', μ', hrun, hout⟩ := op_mks (P := P) hr ht hi hz hpos h0 h1 h2 hb1 (cX_VR hf hl hvl) (cX_VR hf hcx hvc)
              exact Done.val (fun ρ e => by subst e; unfold execOp; rw [ho]) hrun hout
  all_goals cases hc
end
end Go.Proofs.Sh

namespace Go.Proofs.Sh
open Go Go.RowKit

/-! ### The shadow's own order: no value names a block that isn't there -/

def WFF (n : Nat) (F : DF) : Prop := ∀ t v, F.get t = some v → v.lt n = true

def CallWF (call : Nat → Nat → List DV → DH → Option (DV × DH)) : Prop :=
  ∀ f m args H r H', call f m args H = some (r, H') → WFH H → DV.lts H.length args = true → WFH H' ∧ r.lt H'.length = true ∧ H.length ≤ H'.length

theorem WFF.mono {n n' : Nat} {F : DF} (h : WFF n F) (hn : n ≤ n') : WFF n' F := fun t v hv => DV.lt_mono hn v (h t v hv)

theorem ev_lt {n : Nat} {F : DF} {d : DX} {v : DV} (hc : d.closed = true) (hF : WFF n F) (h : d.ev F = some v) : v.lt n = true := by
  cases d with
  | t k => exact hF k v h
  | k w => simp only [DX.ev] at h; injection h with h; subst h; exact DV.lt_mono (Nat.zero_le _) _ hc

theorem evs_lt {n : Nat} {F : DF} (hF : WFF n F) : ∀ {ds : List DX}, ds.all DX.closed = true → ∀ {vs : List DV}, DX.evs F ds = some vs → DV.lts n vs = true
  | [], _, vs, hv => by
    simp only [DX.evs] at hv; injection hv with hv; subst hv; simp [DV.lts]
  | d :: ds, h, vs, hv => by
    simp only [List.all_cons, Bool.and_eq_true] at h
    simp only [DX.evs] at hv
    split at hv
    case h_2 => cases hv
    case h_1 v1 hv1 =>
      split at hv
      case h_2 => cases hv
      case h_1 vs1 hvs1 =>
        injection hv with hv; subst hv
        simp only [DV.lts, Bool.and_eq_true]
        exact ⟨ev_lt h.1 hF hv1, evs_lt hF h.2 hvs1⟩

theorem WFH.pushB {H : DH} (h : WFH H) {y : Blk} (hc : DV.lts (H.length + 1) y.vals = true) : WFH (H ++ [y]) := by
  intro b x hb
  rcases get_append_one hb with ⟨_, hb⟩ | ⟨_, e⟩
  · exact DV.lts_mono (by simp) _ (h b x hb)
  · subst e; simpa using hc

theorem WFH.push {H : DH} (h : WFH H) {cs : List DV} {ty : Nat} (hc : DV.lts (H.length + 1) cs = true) : WFH (H ++ [.cells cs ty]) := h.pushB hc

theorem WFH.cell {H : DH} (h : WFH H) {b o : Nat} {v : DV} (hc : H.cell b o = some v) : v.lt H.length = true := by
  unfold DH.cell at hc
  split at hc
  · exact DV.lts_get (h _ (.cells _ _) (by assumption)) hc
  · cases hc

theorem WFH.cellsAt {H : DH} (h : WFH H) {b o n : Nat} {vs : List DV} (hc : H.cellsAt b o n = some vs) : DV.lts H.length vs = true := by
  unfold DH.cellsAt at hc
  split at hc
  · rename_i cs ty hg
    split at hc
    · injection hc with hc; subst hc; exact DV.lts_take _ (DV.lts_drop _ (h _ (.cells _ _) hg))
    · cases hc
  · cases hc

theorem WFH.setB {H : DH} (h : WFH H) {b : Nat} {y : Blk} (hc : DV.lts H.length y.vals = true) : WFH (H.set b y) := by
  intro b' x hb
  rw [List.length_set]
  rcases set_get hb with ⟨_, e, _⟩ | ⟨_, hb⟩
  · subst e; exact hc
  · exact h b' x hb

theorem WFH.set {H : DH} (h : WFH H) {b : Nat} {cs : List DV} {ty : Nat} (hc : DV.lts H.length cs = true) : WFH (H.set b (.cells cs ty)) := h.setB hc

theorem WFH.kill {H : DH} (h : WFH H) {b : Nat} : WFH (H.set b .gone) := h.setB (by simp [Blk.vals, DV.lts])

theorem WFH.put {H H' : DH} (h : WFH H) {m b o : Nat} {vs : List DV} (hp : H.put m b o vs = some H') (hv : DV.lts H.length vs = true) : WFH H' ∧ H'.length = H.length := by
  unfold DH.put at hp
  split at hp
  · rename_i cs ty hg
    split at hp
    · injection hp with hp; subst hp
      refine ⟨h.set ?_, by simp⟩
      rw [DV.lts_append, DV.lts_append, Bool.and_eq_true, Bool.and_eq_true]
      exact ⟨⟨DV.lts_take _ (h _ (.cells _ _) hg), hv⟩, DV.lts_drop _ (h _ (.cells _ _) hg)⟩
    · cases hp
  · cases hp

theorem ents_lts_append {n : Nat} : ∀ {es es' : List Ent}, DV.lts n (entVals (es ++ es')) = (DV.lts n (entVals es) && DV.lts n (entVals es'))
  | [], es' => by simp [entVals, DV.lts]
  | e :: es, es' => by simp [entVals, DV.lts, ents_lts_append (es := es), Bool.and_assoc]

theorem ents_lts_modify {n : Nat} {k v : DV} (hk : k.lt n = true) (hv : v.lt n = true) : ∀ {es : List Ent} (i : Nat), DV.lts n (entVals es) = true → DV.lts n (entVals (es.modify i fun e => { e with k := k, v := v })) = true
  | [], i, _ => by simp [entVals, DV.lts]
  | e :: es, 0, h => by simp only [List.modify_zero_cons, entVals, DV.lts, Bool.and_eq_true] at *; exact ⟨hk, hv, h.2.2⟩
  | e :: es, i + 1, h => by simp only [List.modify_succ_cons, entVals, DV.lts, Bool.and_eq_true] at *; exact ⟨h.1, h.2.1, ents_lts_modify hk hv i h.2.2⟩

theorem ents_lts_erase {n : Nat} : ∀ {es : List Ent} (i : Nat), DV.lts n (entVals es) = true → DV.lts n (entVals (es.eraseIdx i)) = true
  | [], i, _ => by simp [entVals, DV.lts]
  | e :: es, 0, h => by simp only [List.eraseIdx_zero, List.tail_cons, entVals, DV.lts, Bool.and_eq_true] at *; exact h.2.2
  | e :: es, i + 1, h => by simp only [List.eraseIdx_cons_succ, entVals, DV.lts, Bool.and_eq_true] at *; exact ⟨h.1, h.2.1, ents_lts_erase i h.2.2⟩

theorem ents_lts_mem {n : Nat} : ∀ {es : List Ent} {e : Ent}, DV.lts n (entVals es) = true → e ∈ es → e.k.lt n = true ∧ e.v.lt n = true
  | [], e, _, h => by simp at h
  | x :: es, e, hl, h => by
    simp only [entVals, DV.lts, Bool.and_eq_true] at hl
    rcases List.mem_cons.1 h with rfl | h
    · exact ⟨hl.1, hl.2.1⟩
    · exact ents_lts_mem hl.2.2 h

theorem findE_lt {n kd : Nat} {k : DV} : ∀ {es : List Ent} {i j : Nat} {v : DV}, DV.lts n (entVals es) = true → findE kd k es i = some (some (j, v)) → v.lt n = true
  | [], i, j, v, _, h => by simp [findE] at h
  | e :: es, i, j, v, hl, h => by
    simp only [entVals, DV.lts, Bool.and_eq_true] at hl
    simp only [findE] at h
    split at h
    · injection h with h; injection h with h; injection h with _ h; subst h; exact hl.2.1
    · exact findE_lt hl.2.2 h
    · cases h

theorem mapAt_lts {H : DH} (h : WFH H) {x : DV} {es : List Ent} (hx : mapAt H x = some es) : DV.lts H.length (entVals es) = true := by
  unfold mapAt at hx
  split at hx
  · injection hx with hx; subst hx; simp [entVals, DV.lts]
  · split at hx
    · injection hx with hx; subst hx; exact h _ (.map _ _) (by assumption)
    · cases hx
  · cases hx

theorem WFH.setAt {H H' : DH} (h : WFH H) {m b : Nat} {y : Blk} (hs : H.setAt m b y = some H') (hc : DV.lts H.length y.vals = true) : WFH H' ∧ H'.length = H.length := by
  unfold DH.setAt at hs
  split at hs
  · injection hs with hs; subst hs; exact ⟨h.setB hc, by simp⟩
  · cases hs

theorem bytes_lts {n : Nat} (s : List UInt8) : DV.lts n (s.map byteV) = true := by
  induction s with
  | nil => simp [DV.lts]
  | cons c s ih => simp [DV.lts, byteV, DV.lt]; exact ih

theorem srcCells_lts {H : DH} (h : WFH H) {e n : Nat} {v : DV} {vs : List DV} (hs : srcCells H e n v = some vs) : DV.lts H.length vs = true := by
  unfold srcCells at hs
  split at hs
  · injection hs with hs; subst hs; simp [DV.lts]
  · split at hs
    · exact h.cellsAt hs
    · cases hs
  · split at hs
    · injection hs with hs; subst hs; exact bytes_lts _
    · cases hs
  · cases hs

theorem dapp_wf {m e ty bts : Nat} {H H' : DH} {x y r : DV} (h : dapp m H e ty bts x y = some (r, H')) (hH : WFH H) (hx : x.lt H.length = true) : WFH H' ∧ r.lt H'.length = true ∧ H.length ≤ H'.length := by
  unfold dapp at h
  split at h
  · cases h
  · split at h
    · split at h
      · injection h with h; injection h with e1 e2; subst e1 e2; exact ⟨hH, hx, Nat.le_refl _⟩
      · injection h with h; injection h with e1 e2; subst e1 e2; exact ⟨hH, hx, Nat.le_refl _⟩
      · cases h
    · split at h
      · cases h
      · rename_i src hsrc
        have hs := srcCells_lts hH hsrc
        split at h
        · split at h
          · injection h with h; injection h with e1 e2; subst e1 e2
            exact ⟨hH.push (DV.lts_mono (by omega) _ hs), by simp [DV.lt], by simp⟩
          · cases h
        · split at h
          · split at h
            · split at h
              · rename_i H2 hput
                injection h with h; injection h with e1 e2; subst e1 e2
                obtain ⟨h1, h2⟩ := hH.put hput hs
                exact ⟨h1, by simpa [DV.lt, h2] using hx, by omega⟩
              · cases h
            · cases h
          · split at h
            · rename_i cs ty' hg
              split at h
              · injection h with h; injection h with e1 e2; subst e1 e2
                refine ⟨(hH.kill).push (by
                  rw [List.length_set, DV.lts_append, Bool.and_eq_true]
                  exact ⟨DV.lts_mono (by omega) _ (DV.lts_drop _ (hH _ (.cells _ _) hg)), DV.lts_mono (by omega) _ hs⟩), by simp [DV.lt], by simp⟩
              · cases h
            · cases h
        · cases h

theorem evps_lt {n : Nat} {F : DF} (hF : WFF n F) : ∀ {l : List (Nat × Nat × DX)}, (l.all fun p => p.2.2.closed) = true → ∀ {lv : List (Nat × Nat × DV)}, evps F l = some lv → ∀ x ∈ lv, x.2.2.lt n = true
  | [], _, lv, hl => by
    simp only [evps] at hl; injection hl with hl; subst hl; simp
  | (off, k, d) :: rest, h, lv, hl => by
    simp only [List.all_cons, Bool.and_eq_true] at h
    simp only [evps] at hl
    split at hl
    case h_2 => cases hl
    case h_1 v hv =>
      split at hl
      case h_2 => cases hl
      case h_1 lv' hlv' =>
        injection hl with hl; subst hl
        intro y hy
        rcases List.mem_cons.1 hy with rfl | hy
        · exact ev_lt h.1 hF hv
        · exact evps_lt hF h.2 hlv' y hy

theorem fillD_lts {n : Nat} : ∀ {lv : List (Nat × Nat × DV)} {z cs : List DV}, fillD z lv = some cs → DV.lts n z = true → (∀ x ∈ lv, x.2.2.lt n = true) → DV.lts n cs = true
  | [], z, cs, h, hz, _ => by simp only [fillD] at h; injection h with h; subst h; exact hz
  | (o, k, v) :: lv, z, cs, h, hz, hv => by
    simp only [fillD] at h
    split at h
    · refine fillD_lts h ?_ fun x hx => hv x (by simp [hx])
      rw [DV.lts_append, DV.lts_append, Bool.and_eq_true, Bool.and_eq_true]
      exact ⟨⟨DV.lts_take _ hz, DV.lts_cells (hv (o, k, v) (by simp))⟩, DV.lts_drop _ hz⟩
    · cases h

theorem reps_lts {n k : Nat} {z : List DV} (hz : DV.lts n z = true) : DV.lts n (reps k z) = true := by
  induction k with
  | zero => simp [reps, DV.lts]
  | succ k ih =>
    unfold reps at *
    rw [List.replicate_succ, List.flatten_cons, DV.lts_append, Bool.and_eq_true]
    exact ⟨hz, ih⟩

theorem bin_lt {op : BinOp} {v w r : DV} {n : Nat} (h : bin op v w = some r) : r.lt n = true := by
  unfold bin at h
  split at h
  · split at h
    · split at h <;> first | (cases h; done) | (injection h with h; subst h; rfl)
    · split at h <;> first | (cases h; done) | (injection h with h; subst h; rfl)
    · split at h
      · split at h <;> first | (cases h; done) | (injection h with h; subst h; rfl) | (split at h <;> first | (cases h; done) | (injection h with h; subst h; rfl))
      · cases h
  · split at h <;> first | (cases h; done) | (injection h with h; subst h; rfl) | (split at h <;> first | (cases h; done) | (injection h with h; subst h; rfl))
  · split at h
    · split at h <;> first | (cases h; done) | (injection h with h; subst h; rfl)
    · cases h
  · cases h


section
variable {P : Program} {call : Nat → Nat → List DV → DH → Option (DV × DH)} {m : Nat} {F : DF} {H H' : DH} {d : DO} {v : DV}

theorem lts_app {n : Nat} {a b : List DV} (ha : DV.lts n a = true) (hb : DV.lts n b = true) : DV.lts n (a ++ b) = true := by
  rw [DV.lts_append, ha, hb]; rfl

theorem dop_wf (hcall : CallWF call) (hc : d.closed = true) (hF : WFF H.length F) (hH : WFH H) (h : dop call m F H d = some (v, H')) : WFH H' ∧ v.lt H'.length = true ∧ H.length ≤ H'.length := by
  have same : ∀ {r : DV}, some (r, H) = some (v, H') → r.lt H.length = true → WFH H' ∧ v.lt H'.length = true ∧ H.length ≤ H'.length := by
    intro r e hr
    injection e with e; injection e with e1 e2; subst e1 e2
    exact ⟨hH, hr, Nat.le_refl _⟩
  cases d <;> simp only [dop] at h <;> simp only [DO.closed, Bool.and_eq_true] at hc
  case mv x =>
    split at h
    · exact same h (ev_lt hc hF (by assumption))
    · cases h
  case pick c x y =>
    split at h
    · split at h
      · exact same h (ev_lt hc.1.2 hF (by assumption))
      · cases h
    · split at h
      · exact same h (ev_lt hc.2 hF (by assumption))
      · cases h
    · cases h
  case new z ty =>
    injection h with h; injection h with e1 e2; subst e1 e2
    exact ⟨hH.push (DV.lts_mono (Nat.zero_le _) _ hc), by simp [DV.lt], by simp⟩
  case box x ty =>
    split at h
    · rename_i w hw
      injection h with h; injection h with e1 e2; subst e1 e2
      exact ⟨hH.push (DV.lts_mono (by omega) _ (DV.lts_cells (ev_lt hc hF hw))), by simp [DV.lt], by simp⟩
    · cases h
  case build z ps =>
    split at h
    · rename_i l hl
      split at h
      · rename_i cs hcs
        exact same h (by simp only [DV.lt]; exact fillD_lts hcs (DV.lts_mono (Nat.zero_le _) _ hc.1) (evps_lt hF hc.2 hl))
      · cases h
    · cases h
  case bsl z n e ty ps =>
    split at h
    · rename_i l hl
      split at h
      · rename_i cs hcs
        injection h with h; injection h with e1 e2; subst e1 e2
        exact ⟨hH.push (DV.lts_mono (by omega) _ (fillD_lts hcs (reps_lts (DV.lts_mono (Nat.zero_le H.length) _ hc.1)) (evps_lt hF hc.2 hl))), by simp [DV.lt], by simp⟩
      · cases h
    · cases h
  case ld x =>
    split at h
    · split at h
      · exact same h (hH.cell (by assumption))
      · cases h
    · cases h
  case lda n x =>
    split at h
    · split at h
      · exact same h (by simp only [DV.lt]; exact hH.cellsAt (by assumption))
      · cases h
    · cases h
  case st n x w =>
    split at h
    · rename_i b o w' hx hw
      split at h
      · split at h
        · rename_i H2 hput
          injection h with h; injection h with e1 e2; subst e1 e2
          obtain ⟨h1, h2⟩ := hH.put hput (DV.lts_cells (ev_lt hc.2 hF hw))
          exact ⟨h1, by simp [DV.undef, DV.lt, DV.lts], by omega⟩
        · cases h
      · cases h
    · cases h
  case bin op x y =>
    split at h
    · split at h
      · exact same h (bin_lt (by assumption))
      · cases h
    · cases h
  case eq k neg x y =>
    split at h
    · split at h
      · exact same h rfl
      · cases h
    · cases h
  case eqs neg fs x y =>
    split at h
    · split at h
      · exact same h rfl
      · cases h
    · cases h
  case not x => split at h <;> first | exact same h rfl | cases h
  case neg x => split at h <;> first | exact same h rfl | cases h
  case cvi k x => split at h <;> first | exact same h rfl | cases h
  case cvs x => split at h <;> first | exact same h rfl | cases h
  case sts x => split at h <;> first | exact same h rfl | cases h
  case s2b ty x =>
    split at h
    · injection h with h; injection h with e1 e2; subst e1 e2
      exact ⟨hH.push (bytes_lts _), by simp [DV.lt], by simp⟩
    · cases h
  case b2s x =>
    split at h
    · split at h
      · exact same h rfl
      · cases h
    · cases h
  case ssl x lo hi =>
    split at h
    · split at h
      · split at h
        · exact same h rfl
        · cases h
      · cases h
    · cases h
  case sls e x lo hi mx =>
    split at h
    · split at h
      · exact same h rfl
      · cases h
    · rename_i b o n c e' hx
      have hb := ev_lt hc hF hx
      split at h
      · split at h
        · split at h
          · split at h
            · split at h
              · exact same h (by simpa [DV.lt] using hb)
              · cases h
            · cases h
          · cases h
        · cases h
      · cases h
    · cases h
  case asl n e x lo hi =>
    split at h
    · rename_i b o hx
      have hb := ev_lt hc hF hx
      split at h
      · split at h
        · split at h
          · exact same h (by simpa [DV.lt] using hb)
          · cases h
        · cases h
      · cases h
    · cases h
  case fld off x =>
    split at h
    · rename_i b o hx
      have hb := ev_lt hc hF hx
      exact same h (by simpa [DV.lt] using hb)
    · cases h
  case ixa e x i =>
    split at h
    · rename_i hx hi
      have hb := ev_lt hc hF hx
      split at h
      · exact same h (by simpa [DV.lt] using hb)
      · cases h
    · cases h
  case ixp n e x i =>
    split at h
    · rename_i hx hi
      have hb := ev_lt hc hF hx
      split at h
      · exact same h (by simpa [DV.lt] using hb)
      · cases h
    · cases h
  case ixs x i =>
    split at h
    · split at h
      · split at h
        · exact same h rfl
        · cases h
      · cases h
    · cases h
  case len s x =>
    cases s <;> simp only at h
    · split at h <;> first | exact same h rfl | cases h
    · split at h <;> first | exact same h rfl | cases h
  case app e ty bts x y =>
    split at h
    · rename_i va vb hva hvb
      exact dapp_wf h hH (ev_lt hc.1 hF hva)
    · cases h
  case cpy e x y =>
    split at h
    · split at h
      · exact same h rfl
      · cases h
    · split at h
      · split at h
        · split at h
          · rename_i vs hvs
            split at h
            · rename_i H2 hput
              injection h with h; injection h with e1 e2; subst e1 e2
              obtain ⟨h1, h2⟩ := hH.put hput (srcCells_lts hH hvs)
              exact ⟨h1, rfl, by omega⟩
            · cases h
          · cases h
        · cases h
      · cases h
    · cases h
  case mm mx x y =>
    split at h
    · split at h
      · exact same h rfl
      · cases h
    · cases h
  case call f xs =>
    split at h
    · rename_i vs hvs
      exact hcall _ _ _ _ _ _ h hH (evs_lt hF hc hvs)
    · cases h
  case callv x xs =>
    split at h
    · rename_i f fst caps vs hx hvs
      have hfn := ev_lt hc.1 hF hx
      simp only [DV.lt, Bool.and_eq_true] at hfn
      exact hcall _ _ _ _ _ _ h hH (lts_app (lts_app hfn.1 (evs_lt hF hc.2 hvs)) hfn.2)
    · cases h
  case mkf f us xs =>
    split at h
    · rename_i us' vs' hus hvs
      exact same h (by simp only [DV.lt, Bool.and_eq_true]; exact ⟨evs_lt hF hc.1 hus, evs_lt hF hc.2 hvs⟩)
    · cases h
  case mkm =>
    injection h with h; injection h with e1 e2; subst e1 e2
    exact ⟨hH.pushB (by simp [Blk.vals, entVals, DV.lts]), by simp [DV.lt], by simp⟩
  case lku kd z ok x k =>
    split at h
    · rename_i vx vk hvx hvk
      split at h
      · rename_i es hes
        have hl := mapAt_lts hH hes
        split at h
        · rename_i i y hf
          have := findE_lt hl hf
          refine same h ?_
          cases ok <;> simp [DV.lt, DV.lts, this]
        · refine same h ?_
          have := DV.lt_mono (Nat.zero_le H.length) z hc.1.1
          cases ok <;> simp [DV.lt, DV.lts, this]
        · cases h
      · cases h
    · cases h
  case mup kd x k y =>
    split at h
    · rename_i b vk vy hvx hvk hvy
      have hk := ev_lt hc.1.2 hF hvk
      have hy := ev_lt hc.2 hF hvy
      split at h
      · rename_i es clock hb
        have hl : DV.lts H.length (entVals es) = true := hH _ (.map _ _) hb
        split at h
        · split at h
          · rename_i hs
            injection h with h; injection h with e1 e2; subst e1 e2
            obtain ⟨h1, h2⟩ := hH.setAt hs (by simp only [Blk.vals]; exact ents_lts_modify hk hy _ hl)
            exact ⟨h1, by simp [DV.undef, DV.lt, DV.lts], by omega⟩
          · cases h
        · split at h
          · rename_i hs
            injection h with h; injection h with e1 e2; subst e1 e2
            obtain ⟨h1, h2⟩ := hH.setAt hs (by simp only [Blk.vals]; rw [ents_lts_append]; simp [hl, entVals, DV.lts, hk, hy])
            exact ⟨h1, by simp [DV.undef, DV.lt, DV.lts], by omega⟩
          · cases h
        · cases h
      · cases h
    · cases h
  case mdl kd x k =>
    split at h
    · exact same h (by simp [DV.lt, DV.lts])
    · split at h
      · rename_i es clock hb
        have hl : DV.lts H.length (entVals es) = true := hH _ (.map _ _) hb
        split at h
        · split at h
          · rename_i hs
            injection h with h; injection h with e1 e2; subst e1 e2
            obtain ⟨h1, h2⟩ := hH.setAt hs (by simp only [Blk.vals]; exact ents_lts_erase _ hl)
            exact ⟨h1, by simp [DV.lt, DV.lts], by omega⟩
          · cases h
        · split at h
          · rename_i hs
            injection h with h; injection h with e1 e2; subst e1 e2
            obtain ⟨h1, h2⟩ := hH.setAt hs (by simp only [Blk.vals]; exact hl)
            exact ⟨h1, by simp [DV.lt, DV.lts], by omega⟩
          · cases h
        · cases h
      · cases h
    · cases h
  case lenm x =>
    split at h
    · split at h
      · exact same h rfl
      · cases h
    · cases h
  case rng x =>
    split at h
    · injection h with h; injection h with e1 e2; subst e1 e2
      exact ⟨hH.pushB (by simp [Blk.vals, DV.lts]), by simp [DV.lt], by simp⟩
    · rename_i b hx
      have hb := ev_lt hc hF hx
      simp only [DV.lt, decide_eq_true_eq] at hb
      split at h
      · injection h with h; injection h with e1 e2; subst e1 e2
        exact ⟨hH.pushB (by simp [Blk.vals, DV.lts, DV.lt]; omega), by simp [DV.lt], by simp⟩
      · cases h
    · cases h
  case nxt x =>
    split at h
    · rename_i r hx
      split at h
      · exact same h (by simp [DV.lt, DV.lts])
      · rename_i b since seen last hi
        have hib := hH _ (.iter (some b) since seen last) hi
        split at h
        · rename_i es clock hb
          have hl : DV.lts H.length (entVals es) = true := hH _ (.map _ _) hb
          split at h
          · cases h
          · split at h
            · exact same h (by simp [DV.lt, DV.lts])
            · rename_i e hone
              have hmem : e ∈ es := (List.mem_filter.1 (by rw [hone]; simp : e ∈ es.filter fun e => !seen.contains e.born)).1
              obtain ⟨k1, k2⟩ := ents_lts_mem hl hmem
              split at h
              · split at h
                · rename_i hs
                  injection h with h; injection h with e1 e2; subst e1 e2
                  obtain ⟨h1, h2⟩ := hH.setAt hs (by simpa [Blk.vals] using hib)
                  exact ⟨h1, by rw [h2]; simp [DV.lt, DV.lts, k1, k2], by omega⟩
                · cases h
              · cases h
            · cases h
        · cases h
      · cases h
    · cases h
  case ent x =>
    split at h
    · rename_i r hx
      split at h
      · split at h
        · rename_i es clock hb
          have hl : DV.lts H.length (entVals es) = true := hH _ (.map _ _) hb
          split at h
          · split at h
            · split at h
              · rename_i e hf
                obtain ⟨k1, k2⟩ := ents_lts_mem hl (List.mem_of_find?_eq_some hf)
                exact same h (by simp [DV.lt, DV.lts, k1, k2])
              · cases h
            · cases h
          · cases h
        · cases h
      · cases h
    · cases h
  case fldv off sz x =>
    cases sz with
    | none =>
      simp only at h
      split at h
      · rename_i l hx
        split at h
        · exact same h (DV.lts_get (by simpa [DV.lt] using ev_lt hc hF hx) (by assumption))
        · cases h
      · cases h
    | some n =>
      simp only at h
      split at h
      · rename_i l hx
        split at h
        · exact same h (by simp only [DV.lt]; exact DV.lts_take _ (DV.lts_drop _ (by simpa [DV.lt] using ev_lt hc hF hx)))
        · cases h
      · cases h
  case stuck => cases h
  case ext x i =>
    split at h
    · rename_i l hx
      split at h
      · exact same h (DV.lts_get (by simpa [DV.lt] using ev_lt hc hF hx) (by assumption))
      · cases h
    · cases h
  case nck x =>
    split at h
    · exact same h (ev_lt hc hF (by assumption))
    · exact same h (ev_lt hc hF (by assumption))
    · exact same h (ev_lt hc hF (by assumption))
    · cases h
  case mki t x =>
    split at h
    · exact same h (by simp only [DV.lt]; exact ev_lt hc hF (by assumption))
    · cases h
  case mks z e ty bts l c =>
    split at h
    · split at h
      · injection h with h; injection h with e1 e2; subst e1 e2
        exact ⟨hH.push (reps_lts (DV.lts_mono (Nat.zero_le _) _ hc)), by simp [DV.lt], by simp⟩
      · cases h
    · cases h
end
end Go.Proofs.Sh

namespace Go.Proofs.Sh
open Go Go.RowKit

def CallSound (P : Program) (call : Nat → Nat → List DV → DH → Option (DV × DH)) : Prop :=
  ∀ f m args H r H', call f m args H = some (r, H') → hasBody P f = true ∧ (WFH H → DV.lts H.length args = true → ∀ μ W (vs : Array Value), Rel m μ H W → VRs μ args vs.toList →
    Calls P f vs W (fun e W' => ∃ u μ', e = .returned u ∧ Out m μ H W r H' μ' u W'))

section
variable {P : Program} {m : Nat} {μ : LMap} {H H' : DH} {W : World} {F : DF} {a : Act} {nt : Nat} {call : Nat → Nat → List DV → DH → Option (DV × DH)} {o : Oper} {d : DO} {v : DV}

theorem callFunc_run {f : Nat} (h : hasBody P f = true) (args : Array Value) : (callFunc f args).run P W = .ok (.enter f args) W := by
  unfold hasBody at h
  split at h
  case h_2 => cases h
  case h_1 fn hfn =>
    rw [Bool.and_eq_true] at h
    have hn : (fn.name == "runtime.NumGoroutine") = false := by simpa using h.2
    have hb : fn.body.isNone = false := by
      have := h.1
      cases hb : fn.body with
      | none => rw [hb] at this; cases this
      | some _ => rfl
    unfold callFunc
    simp only [Sem.run_bind, run_program, Result.andThen_ok, hfn, hn, hb, Bool.false_eq_true, if_false, Sem.run_pure]

theorem cOp_isCall {op : Op} (hc : cOp P op = some d) (hcall : d.isCall = true) : ∃ c, op = .call c ∧ cCall P c = some d := by
  cases op <;> simp only [cOp] at hc
  case call c => exact ⟨c, rfl, hc⟩
  case binOp op t x y yt =>
    exfalso
    unfold cBin at hc
    split at hc
    · split at hc
      · injection hc with hc; subst hc; cases hcall
      · cases hc
    · split at hc
      · obtain ⟨_, _, _, _, ⟨_, rfl⟩ | ⟨_, rfl⟩⟩ := cEq_cases hc <;> cases hcall
      · obtain ⟨_, _, _, _, ⟨_, rfl⟩ | ⟨_, rfl⟩⟩ := cEq_cases hc <;> cases hcall
      · cases hc
  case convert s t x =>
    exfalso
    unfold cConv at hc
    repeat' (split at hc)
    all_goals first | (cases hc; done) | (injection hc with hc; subst hc; cases hcall)
  case slice t x lo hi mx =>
    exfalso
    unfold cSlice at hc
    repeat' (split at hc)
    all_goals first | (cases hc; done) | (injection hc with hc; subst hc; cases hcall)
  case unOp op t x =>
    exfalso
    cases op <;> simp only [] at hc
    all_goals (repeat' (split at hc))
    all_goals first | (cases hc; done) | (injection hc with hc; subst hc; cases hcall)
  case makeFunc fn first caps =>
    exfalso
    cases fn <;> simp only [] at hc
    all_goals (repeat' (split at hc))
    all_goals first | (cases hc; done) | (injection hc with hc; subst hc; cases hcall)
  case makeMap t r =>
    exfalso
    cases r <;> simp only [] at hc <;> first | (cases hc; done) | (injection hc with hc; subst hc; cases hcall)
  case next x b =>
    exfalso
    cases b <;> simp only [] at hc
    all_goals (repeat' (split at hc))
    all_goals first | (cases hc; done) | (injection hc with hc; subst hc; cases hcall)
  all_goals exfalso
  all_goals (repeat' (split at hc))
  all_goals first | (cases hc; done) | (injection hc with hc; subst hc; cases hcall)

theorem cBuiltin_notCall {b : Builtin} {ts : Array Nat} {xs : List Operand} (hc : cBuiltin P b ts xs = some d) : d.isCall = false := by
  unfold cBuiltin at hc
  repeat' (split at hc)
  all_goals first | (cases hc; done) | (injection hc with hc; subst hc; rfl)

/-- a call, of whatever kind -/
theorem call_wp (hcs : CallSound P call) (hr : Rel m μ H W) (hf : FR μ F a nt) (hF : WFF H.length F) (hH : WFH H) (hc : cOp P o.op = some d) (hcl : d.closed = true) (hcall : d.isCall = true) (hd : dop call m F H d = some (v, H')) :
    ∃ f vs, (execOp a.eval o).run P W = .ok (.enter f vs) W ∧ Calls P f vs W (fun e W' => ∃ u μ', e = .returned u ∧ Out m μ H W v H' μ' u W') := by
  obtain ⟨c, ho, hcc⟩ := cOp_isCall hc hcall
  unfold cCall at hcc
  split at hcc
  · rw [cBuiltin_notCall hcc] at hcall; cases hcall
  · rename_i f hcallee
    split at hcc
    case h_2 => cases hcc
    case h_1 xs hxs =>
      split at hcc
      case isFalse => cases hcc
      case isTrue hb =>
        injection hcc with hcc; subst hcc
        simp only [dop] at hd
        split at hd
        case h_2 => cases hd
        case h_1 vs hvs =>
          have hvr := cXs_VR hf hxs hvs
          have hlt := evs_lt hF (by simpa [DO.closed] using hcl) hvs
          obtain ⟨hbody, hcalls⟩ := hcs f m vs H v H' hd
          refine ⟨f, c.args.map a.eval, ?_, hcalls hH hlt μ W _ hr (by simpa using hvr)⟩
          unfold execOp; rw [ho]
          simp only [Sem.run_bind]
          unfold resolve
          rw [hcallee]
          simp only [Act.eval, Deferred.ofValue, Sem.run_pure, Result.andThen_ok]
          unfold invoke
          simp only
          rw [callFunc_run hbody]
          simp
  · rename_i x hnf hcallee
    split at hcc
    case h_2 => cases hcc
    case h_1 dx xs hx hxs =>
      injection hcc with hcc; subst hcc
      simp only [dop] at hd
      split at hd
      case h_2 => cases hd
      case h_1 f fst caps vs hxv hvs =>
        simp only [DO.closed, Bool.and_eq_true] at hcl
        have hvr := cXs_VR hf hxs hvs
        have hfn := cX_VR hf hx hxv
        simp only [VR] at hfn
        obtain ⟨fs, cs, hcs', hfst, hcaps⟩ := hfn
        have hvl := ev_lt hcl.1 hF hxv
        simp only [DV.lt, Bool.and_eq_true] at hvl
        have hlt := lts_app (lts_app hvl.1 (evs_lt hF hcl.2 hvs)) hvl.2
        obtain ⟨hbody, hcalls⟩ := hcs f m (fst ++ vs ++ caps) H v H' hd
        refine ⟨f, fs ++ c.args.map a.eval ++ cs, ?_, hcalls hH hlt μ W _ hr (by simpa using (hfst.append hvr).append hcaps)⟩
        unfold execOp; rw [ho]
        simp only [Sem.run_bind]
        unfold resolve
        rw [hcallee]
        simp only [hcs', Deferred.ofValue, Sem.run_pure, Result.andThen_ok]
        unfold invoke
        simp only
        rw [callFunc_run hbody]
  · cases hcc

/-- one operation, whatever it is -/
theorem oper_wp (hcs : CallSound P call) (hr : Rel m μ H W) (hf : FR μ F a nt) (hF : WFF H.length F) (hH : WFH H) (hc : cOp P o.op = some d) (hcl : d.closed = true) (hd : dop call m F H d = some (v, H'))
    {next : Act → World → Prop} {Q : Exit → Act → World → Prop} (hnext : ∀ u W' μ', Out m μ H W v H' μ' u W' → next (a.put o.dst u) W') : o.wp P a W next Q := by
  unfold Oper.wp
  cases hcall : d.isCall with
  | false =>
    obtain ⟨u, W', μ', n, hrun, hn, hout⟩ := op_sound hr hf hc hcall hd
    rw [hrun]
    have := hnext u W' μ' hout
    rcases hn with rfl | ⟨rfl, rfl⟩
    · exact this
    · exact this
  | true =>
    obtain ⟨f, vs, hrun, hcalls⟩ := call_wp hcs hr hf hF hH hc hcl hcall hd
    rw [hrun]
    exact hcalls.mono fun e W' ⟨u, μ', he, hout⟩ => by subst he; exact hnext u W' μ' hout

/-! ### Guards -/

theorem unstuck {call : Nat → Nat → List DV → DH → Option (DV × DH)} {d : DO} (h : d = .stuck ∨ cOp P o.op = some d) (hd : dop call m F H d = some (v, H')) : cOp P o.op = some d := by
  rcases h with rfl | h
  · simp only [dop] at hd; cases hd
  · exact h

theorem guard_sound (hf : FR μ F a nt) {ops : Array Oper} {dd : DOp} (hc : cOper P nt ops o = some dd) {b : Bool} (hg : gdv F dd.g = some b) : Region.wanted o (yielded ops a.tmps) = b ∧ (dd.o = .stuck ∨ cOp P o.op = some dd.o) ∧ dd.d = o.dst ∧ (∀ t, o.dst = some t → t < nt) ∧ dd.o.closed = true := by
  unfold cOper at hc
  split at hc
  case isFalse => cases hc
  case isTrue hdst =>
    have hlt : ∀ t, o.dst = some t → t < nt := by
      intro t ht; rw [ht] at hdst; simpa [dstOk] using hdst
    simp only at hc
    have key : ∀ d', d' = (match cOp P o.op with | some d => if d.closed = true then d else .stuck | none => .stuck) → (d' = DO.stuck ∨ cOp P o.op = some d') ∧ d'.closed = true := by
      intro d' hd'
      split at hd'
      · rename_i d2 h2
        split at hd'
        · rename_i hcl; subst hd'; exact ⟨.inr h2, hcl⟩
        · subst hd'; exact ⟨.inl rfl, rfl⟩
      · subst hd'; exact ⟨.inl rfl, rfl⟩
    obtain ⟨hor, hcl⟩ := key _ rfl
    split at hc
    · rename_i hog
      injection hc with hc; subst hc
      simp only [gdv] at hg; injection hg with hg; subst hg
      exact ⟨by simp [Region.wanted, hog], hor, rfl, hlt, hcl⟩
    · rename_i j w hog
      split at hc
      case h_2 => cases hc
      case h_1 t ht =>
        split at hc
        case isFalse => cases hc
        case isTrue htn =>
          injection hc with hc; subst hc
          refine ⟨?_, hor, rfl, hlt, hcl⟩
          have hty : (a.tmps[t]? : Option Value) = some (a.tmps.getD t Go.undef) := by
            have : t < a.tmps.size := by rw [hf.size]; exact htn
            rw [Array.getElem?_eq_getElem this]; simp [this]
          simp only [gdv] at hg
          split at hg
          · rename_i b' hb
            injection hg with hg; subst hg
            have := hf.slot t _ hb
            simp only [VR] at this
            rw [this] at hty
            simp [Region.wanted, hog, yielded, ht, hty]
          · rename_i hb
            injection hg with hg; subst hg
            have := hf.slot t _ hb
            simp only [VR] at this
            obtain ⟨cs, hcs, _⟩ := this
            rw [hcs] at hty
            simp [Region.wanted, hog, yielded, ht, hty]
          · cases hg

end
end Go.Proofs.Sh

namespace Go.Proofs.Sh
open Go Go.RowKit

/-- Where a walk stands. -/
def St (m g nt : Nat) (μ0 : LMap) (H0 : DH) (W0 : World) (F : DF) (H : DH) (a : Act) (W : World) : Prop :=
  ∃ μ, (∀ b, b < g → μ b = μ0 b) ∧ Rel m μ H W ∧ FR μ F a nt ∧ (Kept m μ0 H0 W0 W ∧ Fresh m μ0 H0 W0 μ H) ∧ a.defers = [] ∧ WFH H ∧ WFF H.length F ∧ g ≤ H.length

section
variable {P : Program} {m g nt : Nat} {μ μ0 : LMap} {H H' H0 : DH} {W0 W : World} {F F' : DF} {a : Act} {call : Nat → Nat → List DV → DH → Option (DV × DH)} {o : Oper} {d : DO} {v : DV}

theorem put_defers (a : Act) (d : Option Nat) (u : Value) : (a.put d u).defers = a.defers := by
  cases d <;> rfl

theorem Rel.mono_of_old (hr : Rel m μ H W) {μ' : LMap} (h : ∀ b, b < H.length → μ' b = μ b) : ∀ b p, μ b = some p → μ' b = some p := by
  intro b p hp
  by_cases hb : b < H.length
  · rw [h b hb]; exact hp
  · rw [hr.dom b (by omega)] at hp; cases hp

theorem WFF.put {n : Nat} (h : WFF n F) {d : Option Nat} (hv : v.lt n = true) : WFF n (F.put d v) := by
  intro t x hx
  rcases put_get hx with ⟨_, rfl⟩ | ⟨_, hx⟩
  · exact hv
  · exact h t x hx

theorem St.step {μ' : LMap} {u : Value} {W' : World} {dst : Option Nat} (h1 : ∀ b, b < g → μ b = μ0 b) (h2 : Rel m μ H W) (h3 : FR μ F a nt) (h4 : Kept m μ0 H0 W0 W ∧ Fresh m μ0 H0 W0 μ H) (h5 : a.defers = []) (h7 : WFF H.length F) (h8 : g ≤ H.length)
    (hd : ∀ t, dst = some t → t < nt) (hout : Out m μ H W v H' μ' u W') (hw : WFH H' ∧ v.lt H'.length = true ∧ H.length ≤ H'.length) : St m g nt μ0 H0 W0 (F.put dst v) H' (a.put dst u) W' := by
  obtain ⟨w1, w2, w3⟩ := hw
  exact ⟨μ', fun b hb => (hout.old b (by omega)).trans (h1 b hb), hout.rel, (h3.mono (h2.mono_of_old hout.old)).put hd hout.val, ⟨h4.1.trans h4.2 hout.kept, h4.2.trans h4.1.size hout.fresh⟩, by rw [put_defers]; exact h5, w1, (h7.mono w3).put w2, by omega⟩

theorem St.skip {dst : Option Nat} (h : St m g nt μ0 H0 W0 F H a W) (hd : ∀ t, dst = some t → t < nt) : St m g nt μ0 H0 W0 (F.put dst DV.undef) H (a.put dst Go.undef) W := by
  obtain ⟨μ, h1, h2, h3, h4, h5, h6, h7, h8⟩ := h
  exact ⟨μ, h1, h2, h3.put hd undef_VR, h4, by rw [put_defers]; exact h5, h6, h7.put (by simp [DV.undef, DV.lt, DV.lts]), h8⟩

theorem ops_text (hcs : CallSound P call) (hcw : CallWF call) {ops : Array Oper} {Q : Exit → Act → World → Prop} : ∀ (l : List Oper) (ds : List DOp) (k : Nat), (∀ j : Nat, l[j]? = ops[k + j]?) → cOps P nt ops l = some ds → ∀ (F : DF) (H : DH) (a : Act) (W : World), dops call m ds F H = some (F', H') →
    St m g nt μ0 H0 W0 F H a W → (∀ a' W', St m g nt μ0 H0 W0 F' H' a' W' → Q .normal a' W') → wpOps P ops Q (List.range' k l.length) a W
  | [], ds, k, _, hc, F, H, a, W, hd, hst, hQ => by
    simp only [cOps] at hc; injection hc with hc; subst hc
    simp only [dops] at hd; injection hd with hd; injection hd with e1 e2; subst e1 e2
    exact hQ a W hst
  | o :: l, ds, k, hl, hc, F, H, a, W, hd, hst, hQ => by
    simp only [cOps] at hc
    split at hc
    case h_2 => cases hc
    case h_1 dd hdd =>
      split at hc
      case h_2 => cases hc
      case h_1 ds' hds' =>
        injection hc with hc; subst hc
        have h0 : ops[k]? = some o := by simpa using (hl 0).symm
        have hl' : ∀ j : Nat, l[j]? = ops[k + 1 + j]? := fun j => by have := hl (j + 1); simpa [Nat.add_assoc, Nat.add_comm 1 j] using this
        rw [List.length_cons, List.range'_succ, wpOps]
        rw [h0]
        simp only
        simp only [dops] at hd
        obtain ⟨μ, h1, h2, h3, h4, h5, h6, h7, h8⟩ := hst
        split at hd
        case h_1 => cases hd
        case h_2 hg =>
          obtain ⟨hw, _, hdst, hlt, _⟩ := guard_sound h3 hdd hg
          rw [hw]
          simp only [Bool.false_eq_true, if_false]
          rw [hdst] at hd
          exact ops_text hcs hcw l ds' (k + 1) hl' hds' _ _ _ _ hd (St.skip ⟨μ, h1, h2, h3, h4, h5, h6, h7, h8⟩ hlt) hQ
        case h_3 hg =>
          obtain ⟨hw, hop, hdst, hlt, hcl⟩ := guard_sound h3 hdd hg
          rw [hw]
          simp only [if_true]
          split at hd
          case h_2 => cases hd
          case h_1 v H1 hdop =>
            rw [hdst] at hd
            refine .inl (oper_wp hcs h2 h3 h7 h6 (unstuck hop hdop) hcl hdop fun u W' μ' hout => ?_)
            exact ops_text hcs hcw l ds' (k + 1) hl' hds' _ _ _ _ hd (St.step h1 h2 h3 h4 h5 h7 h8 hlt hout (dop_wf hcw hcl h7 h6 hdop)) hQ

theorem region_text (hcs : CallSound P call) (hcw : CallWF call) {ops : Array Oper} {id : Nat} {Q : Exit → Act → World → Prop} {ds : List DOp} (hc : cOps P nt ops ops.toList = some ds) (hd : dops call m ds F H = some (F', H'))
    (hst : St m g nt μ0 H0 W0 F H a W) (hQ : ∀ a' W', St m g nt μ0 H0 W0 F' H' a' W' → Q .normal a' W') : (Code.region id ops false).wp P Q a W := by
  refine wp_region ?_
  have := ops_text hcs hcw (Q := Q) ops.toList ds 0 (by simp) hc F H a W hd hst hQ
  rw [List.range_eq_range']
  simpa using this

end
end Go.Proofs.Sh

namespace Go.Proofs.Sh
open Go Go.RowKit

section
variable {call : Nat → Nat → List DV → DH → Option (DV × DH)} {quiet : Nat → Bool} {m : Nat} {F F2 : DF} {H H' : DH} {d : DO} {v : DV}

/-! ### An operation looks at its own slots alone -/

theorem ev_congr {x : DX} (h : ∀ t ∈ x.tmp, F.get t = F2.get t) : x.ev F = x.ev F2 := by
  cases x with
  | t n => exact h n (by simp [DX.tmp])
  | k v => rfl

theorem evs_congr : ∀ {xs : List DX}, (∀ t ∈ xs.flatMap DX.tmp, F.get t = F2.get t) → DX.evs F xs = DX.evs F2 xs
  | [], _ => rfl
  | x :: xs, h => by
    simp only [DX.evs]
    rw [ev_congr (x := x) fun t ht => h t (by simp [ht]), evs_congr (xs := xs) fun t ht => h t (by simp at ht ⊢; exact .inr ht)]

theorem evps_congr : ∀ {ps : List (Nat × Nat × DX)}, (∀ t ∈ ps.flatMap (fun p => p.2.2.tmp), F.get t = F2.get t) → evps F ps = evps F2 ps
  | [], _ => rfl
  | (o, n, x) :: ps, h => by
    simp only [evps]
    rw [ev_congr (x := x) fun t ht => h t (by simp [ht]), evps_congr (ps := ps) fun t ht => h t (by simp at ht ⊢; exact .inr ht)]

theorem bnd_congr {dflt top : Nat} {x : Option DX} (h : ∀ t ∈ DX.tmpO x, F.get t = F2.get t) : bnd F dflt top x = bnd F2 dflt top x := by
  cases x with
  | none => rfl
  | some x => simp only [bnd]; rw [ev_congr h]

theorem dop_congr (h : ∀ t ∈ d.tmps, F.get t = F2.get t) : dop call m F H d = dop call m F2 H d := by
  cases d <;> simp only [DO.tmps, List.mem_append] at h
  case len s x => cases s <;> (simp only [dop]; rw [ev_congr h])
  case fldv off sz x => cases sz <;> (simp only [dop]; rw [ev_congr h])
  case stuck => simp only [dop]
  case mkm => simp only [dop]
  case mup kd x k y =>
    simp only [dop]
    rw [ev_congr (x := x) fun t ht => h t (.inl (.inl ht)), ev_congr (x := k) fun t ht => h t (.inl (.inr ht)), ev_congr (x := y) fun t ht => h t (.inr ht)]
  case sls e x lo hi mx =>
    simp only [dop]
    rw [ev_congr (x := x) fun t ht => h t (.inl (.inl (.inl ht)))]
    have h1 : ∀ a b, bnd F a b lo = bnd F2 a b lo := fun a b => bnd_congr fun t ht => h t (.inl (.inl (.inr ht)))
    have h2 : ∀ a b, bnd F a b hi = bnd F2 a b hi := fun a b => bnd_congr fun t ht => h t (.inl (.inr ht))
    have h3 : ∀ a b, bnd F a b mx = bnd F2 a b mx := fun a b => bnd_congr fun t ht => h t (.inr ht)
    simp only [h1, h2, h3]
  case ssl x lo hi =>
    simp only [dop]
    rw [ev_congr (x := x) fun t ht => h t (.inl (.inl ht))]
    have h1 : ∀ a b, bnd F a b lo = bnd F2 a b lo := fun a b => bnd_congr fun t ht => h t (.inl (.inr ht))
    have h2 : ∀ a b, bnd F a b hi = bnd F2 a b hi := fun a b => bnd_congr fun t ht => h t (.inr ht)
    simp only [h1, h2]
  case asl n e x lo hi =>
    simp only [dop]
    rw [ev_congr (x := x) fun t ht => h t (.inl (.inl ht))]
    have h1 : ∀ a b, bnd F a b lo = bnd F2 a b lo := fun a b => bnd_congr fun t ht => h t (.inl (.inr ht))
    have h2 : ∀ a b, bnd F a b hi = bnd F2 a b hi := fun a b => bnd_congr fun t ht => h t (.inr ht)
    simp only [h1, h2]
  case pick c x y =>
    simp only [dop]
    rw [ev_congr (x := c) fun t ht => h t (.inl (.inl ht)), ev_congr (x := x) fun t ht => h t (.inl (.inr ht)), ev_congr (x := y) fun t ht => h t (.inr ht)]
  case build z ps => simp only [dop]; rw [evps_congr h]
  case bsl z n e ty ps => simp only [dop]; rw [evps_congr h]
  case call f xs => simp only [dop]; rw [evs_congr h]
  case mkf f us xs => simp only [dop]; rw [evs_congr (xs := us) fun t ht => h t (.inl ht), evs_congr (xs := xs) fun t ht => h t (.inr ht)]
  case callv x xs =>
    simp only [dop]
    rw [ev_congr (x := x) fun t ht => h t (.inl ht), evs_congr (xs := xs) fun t ht => h t (.inr ht)]
  all_goals simp only [dop]
  all_goals first
    | (rw [ev_congr h]; done)
    | (rename_i x y; rw [ev_congr (x := x) fun t ht => h t (.inl ht), ev_congr (x := y) fun t ht => h t (.inr ht)]; done)
    | skip

theorem foot_congr (h : ∀ t ∈ d.tmps, F.get t = F2.get t) : d.foot quiet F H = d.foot quiet F2 H := by
  cases d <;> simp only [DO.tmps, List.mem_append] at h <;> simp only [DO.foot]
  case callv x xs => rw [ev_congr (x := x) fun t ht => h t (.inl ht)]
  case asl n e x lo hi => rw [ev_congr (x := x) fun t ht => h t (.inl (.inl ht))]
  case mup kd x k y => rw [ev_congr (x := x) fun t ht => h t (.inl (.inl ht))]
  all_goals first
    | (rw [ev_congr h]; done)
    | (rename_i x y; rw [ev_congr (x := x) fun t ht => h t (.inl ht), ev_congr (x := y) fun t ht => h t (.inr ht)]; done)
    | (rename_i x y; rw [ev_congr (x := x) fun t ht => h t (.inl ht)]; done)

end
end Go.Proofs.Sh

namespace Go.Proofs.Sh
open Go Go.RowKit

/-- calls of quiet functions: whatever the fence; they add blocks of their own -/
def CallQuiet (call : Nat → Nat → List DV → DH → Option (DV × DH)) (quiet : Nat → Bool) : Prop :=
  ∀ f m args H r H', quiet f = true → call f m args H = some (r, H') → (∃ L, H' = H ++ L) ∧ ∀ m2, call f m2 args H = some (r, H')

/-! ### A heap of which some blocks alone are there -/

def rest (H : DH) (K : Nat → Bool) : DH := H.mapIdx fun b x => if K b = true then x else .gone

section
variable {call : Nat → Nat → List DV → DH → Option (DV × DH)} {quiet : Nat → Bool} {m : Nat} {F F2 : DF} {H H' : DH} {d : DO} {v : DV} {K : Nat → Bool}

theorem rest_get (b : Nat) : (rest H K)[b]? = (H[b]?).map fun x => if K b = true then x else .gone := by
  unfold rest; rw [List.getElem?_mapIdx]

theorem rest_in {b : Nat} (h : K b = true) : (rest H K)[b]? = H[b]? := by
  rw [rest_get]; cases H[b]? <;> simp [h]

theorem rest_some {b : Nat} {x : Blk} (h : (rest H K)[b]? = some x) : (K b = true ∧ H[b]? = some x) ∨ x = .gone := by
  rw [rest_get] at h
  cases hb : H[b]? with
  | none => rw [hb] at h; cases h
  | some y =>
    rw [hb] at h
    simp only [Option.map_some, Option.some.injEq] at h
    by_cases hk : K b = true
    · rw [if_pos hk] at h; exact .inl ⟨hk, by rw [h]⟩
    · rw [if_neg hk] at h; exact .inr h.symm

theorem rest_len : (rest H K).length = H.length := by unfold rest; simp

theorem rest_all : rest H (fun _ => true) = H := by
  apply List.ext_getElem?
  intro i
  rw [rest_in rfl]

theorem rest_set {b : Nat} {x : Blk} (h : K b = true) : rest (H.set b x) K = (rest H K).set b x := by
  apply List.ext_getElem?
  intro i
  rw [rest_get, List.getElem?_set, List.getElem?_set, rest_len, rest_get]
  by_cases e : b = i
  · subst e
    by_cases hb : b < H.length
    · simp [hb, h]
    · simp [hb]
  · simp [e]

theorem rest_app {L : List Blk} (h : ∀ b, H.length ≤ b → K b = true) : rest (H ++ L) K = rest H K ++ L := by
  apply List.ext_getElem?
  intro i
  by_cases hi : i < H.length
  · rw [List.getElem?_append_left (by rw [rest_len]; exact hi), rest_get, rest_get, List.getElem?_append_left hi]
  · rw [rest_in (h i (by omega)), List.getElem?_append_right (by omega), List.getElem?_append_right (by rw [rest_len]; omega), rest_len]

theorem rest_cell {b o : Nat} (h : K b = true) : (rest H K).cell b o = H.cell b o := by
  unfold DH.cell; rw [rest_in h]

theorem rest_cellsAt {b o n : Nat} (h : K b = true) : (rest H K).cellsAt b o n = H.cellsAt b o n := by
  unfold DH.cellsAt; rw [rest_in h]

theorem rest_put {b o : Nat} {vs : List DV} (h : K b = true) (hp : H.put m b o vs = some H') : (rest H K).put m b o vs = some (rest H' K) := by
  unfold DH.put at *
  rw [rest_in h]
  split at hp
  · split at hp
    · rename_i hc
      rw [if_pos hc]
      injection hp with hp; subst hp
      rw [rest_set h]
    · cases hp
  · cases hp

theorem rest_setAt {b : Nat} {x : Blk} (h : K b = true) (hp : H.setAt m b x = some H') : (rest H K).setAt m b x = some (rest H' K) := by
  unfold DH.setAt at *
  split at hp
  · rename_i hc
    rw [if_pos hc]
    injection hp with hp; subst hp
    rw [rest_set h]
  · cases hp

theorem rest_srcCells {e n : Nat} {y : DV} (h : ∀ b ∈ blks (some y), K b = true) : srcCells (rest H K) e n y = srcCells H e n y := by
  cases y <;> simp only [srcCells]
  rename_i b o n' c e'
  rw [rest_cellsAt (h b (by simp [blks]))]

theorem rest_b2s {y : DV} (h : ∀ b ∈ blks (some y), K b = true) : b2sD (rest H K) y = b2sD H y := by
  unfold b2sD
  split
  · rfl
  · rename_i b o n c
    rw [rest_cellsAt (h b (by simp [blks]))]
  · rfl

theorem rest_mapAt {y : DV} (h : ∀ b ∈ blks (some y), K b = true) : mapAt (rest H K) y = mapAt H y := by
  cases y <;> simp only [mapAt]
  rename_i b
  rw [rest_in (h b (by simp [blks]))]

theorem dapp_rest {e ty bts : Nat} {x y : DV} (hx : ∀ b ∈ blks (some x), K b = true) (hy : ∀ b ∈ blks (some y), K b = true) (hn : ∀ b, H.length ≤ b → K b = true) (h : dapp m H e ty bts x y = some (v, H')) : dapp m (rest H K) e ty bts x y = some (v, rest H' K) := by
  unfold dapp at *
  split at h
  · cases h
  · rename_i n hsl
    split at h
    · rename_i h0
      rw [if_pos h0]
      split at h
      · injection h with h; injection h with e1 e2; subst e1 e2; rfl
      · injection h with h; injection h with e1 e2; subst e1 e2; rfl
      · cases h
    · rename_i h0
      rw [if_neg h0, rest_srcCells hy]
      split at h
      · cases h
      · rename_i src hsrc
        split at h
        · split at h
          · rename_i hc
            rw [if_pos hc]
            injection h with h; injection h with e1 e2; subst e1 e2
            rw [rest_app hn, rest_len]
          · cases h
        · rename_i b o k c e'
          have hb := hx b (by simp [blks])
          split at h
          · rename_i hf
            rw [if_pos hf]
            split at h
            · rename_i he
              rw [if_pos he]
              split at h
              · rename_i H2 hput
                injection h with h; injection h with e1 e2; subst e1 e2
                rw [rest_put hb hput]
              · cases h
            · cases h
          · rename_i hf
            rw [if_neg hf, rest_in hb]
            split at h
            · rename_i cs ty' hg
              split at h
              · rename_i hc
                rw [if_pos hc]
                injection h with h; injection h with e1 e2; subst e1 e2
                rw [rest_app (by simpa using hn), rest_set hb, rest_len]
              · cases h
            · cases h
        · cases h

theorem iblks_rest {x : Option DV} (h : ∀ b ∈ iblks H x, K b = true) : iblks (rest H K) x = iblks H x := by
  unfold iblks at *
  split
  · rename_i r o
    simp only at h
    have hr : K r = true := by
      apply h
      split <;> simp
    rw [rest_in hr]
  · rfl

/-- An operation on the blocks that it looks into alone. -/
theorem dop_rest {S : List Nat} (hS : (d.foot quiet F H).2 = some S) (hK : ∀ b ∈ S, K b = true) (hn : ∀ b, H.length ≤ b → K b = true) (h : dop call m F H d = some (v, H')) : dop call m F (rest H K) d = some (v, rest H' K) := by
  have same : ∀ {r : DV}, some (r, H) = some (v, H') → some (r, rest H K) = some (v, rest H' K) := by
    intro r e
    injection e with e; injection e with e1 e2; subst e1 e2; rfl
  have one : ∀ {r : Nat → DV} {x : Blk}, some (r H.length, H ++ [x]) = some (v, H') → some (r (rest H K).length, rest H K ++ [x]) = some (v, rest H' K) := by
    intro r x e
    injection e with e; injection e with e1 e2; subst e1 e2
    rw [rest_app hn, rest_len]
  cases d
  case call f xs => simp [DO.foot] at hS
  case callv x xs =>
    simp only [DO.foot] at hS
    split at hS <;> cases hS
  case new z ty => simp only [dop] at h ⊢; exact one (r := fun n => .ptr n 0) h
  case mkm => simp only [dop] at h ⊢; exact one (r := fun n => .mp n) h
  case box x ty =>
    simp only [dop] at h ⊢
    split at h
    · exact one (r := fun n => .ptr n 0) h
    · cases h
  case bsl z n e ty ps =>
    simp only [dop] at h ⊢
    split at h
    · split at h
      · rename_i hcs; (try simp only [hcs]); exact one (r := fun k => .sl k 0 n n e) h
      · cases h
    · cases h
  case s2b ty x =>
    simp only [dop] at h ⊢
    split at h
    · rename_i s hs; exact one (r := fun k => .sl k 0 s.length s.length 1) h
    · cases h
  case mks z e ty bts l c =>
    simp only [dop] at h ⊢
    split at h
    · rename_i l' c' hl' hc'
      split at h
      · rename_i hcond; rw [if_pos hcond]; exact one (r := fun k => .sl k 0 l'.toNat c'.toNat e) h
      · cases h
    · cases h
  case ld x =>
    simp only [dop] at h ⊢
    simp only [DO.foot] at hS; injection hS with hS; subst hS
    split at h
    · rename_i b o hx
      rw [rest_cell (hK b (by simp [hx, blks]))]
      split at h
      · rename_i hc; (try simp only [hc]); exact same h
      · cases h
    · cases h
  case lda n x =>
    simp only [dop] at h ⊢
    simp only [DO.foot] at hS; injection hS with hS; subst hS
    split at h
    · rename_i b o hx
      rw [rest_cellsAt (hK b (by simp [hx, blks]))]
      split at h
      · rename_i hc; (try simp only [hc]); exact same h
      · cases h
    · cases h
  case b2s x =>
    simp only [dop] at h ⊢
    simp only [DO.foot] at hS; injection hS with hS; subst hS
    split at h
    · rename_i y hx
      rw [rest_b2s (by rw [← hx]; exact hK)]
      split at h
      · rename_i hc; (try simp only [hc]); exact same h
      · cases h
    · cases h
  case asl n e x lo hi =>
    simp only [dop] at h ⊢
    simp only [DO.foot] at hS; injection hS with hS; subst hS
    split at h
    · rename_i b o hx
      rw [rest_cellsAt (hK b (by simp [hx, blks]))]
      split at h
      · rename_i hh hhi
        try simp only [hhi]
        split at h
        · rename_i ll hll
          try simp only [hll]
          split at h
          · rename_i hc; (try simp only [hc]); exact same h
          · cases h
        · cases h
      · cases h
    · cases h
  case st n x y =>
    simp only [dop] at h ⊢
    simp only [DO.foot] at hS; injection hS with hS; subst hS
    split at h
    · rename_i b o w hx hw
      split at h
      · rename_i hc
        rw [if_pos hc]
        split at h
        · rename_i H2 hput
          injection h with h; injection h with e1 e2; subst e1 e2
          rw [rest_put (hK b (by simp [hx, blks])) hput]
        · cases h
      · cases h
    · cases h
  case app e ty bts x y =>
    simp only [dop] at h ⊢
    simp only [DO.foot] at hS; injection hS with hS; subst hS
    split at h
    · rename_i a b hx hy
      exact dapp_rest (fun c hc => hK c (by rw [hx]; simp [hc])) (fun c hc => hK c (by rw [hy]; simp [hc])) hn h
    · cases h
  case cpy e x y =>
    simp only [dop] at h ⊢
    simp only [DO.foot] at hS; injection hS with hS; subst hS
    split at h
    · rename_i w hx hy
      split at h
      · rename_i hc; (try simp only [hc]); exact same h
      · cases h
    · rename_i b o n c e' w hx hy
      split at h
      · rename_i he
        rw [if_pos he]
        split at h
        · rename_i k hk
          rw [rest_srcCells (fun c hc => hK c (by rw [hy]; simp [hc]))]
          split at h
          · rename_i vs hvs
            try simp only [hvs]
            split at h
            · rename_i H2 hput
              injection h with h; injection h with e1 e2; subst e1 e2
              rw [rest_put (hK b (by simp [hx, blks])) hput]
            · cases h
          · cases h
        · cases h
      · cases h
    · cases h
  case lku kd z ok x k =>
    simp only [dop] at h ⊢
    simp only [DO.foot] at hS; injection hS with hS; subst hS
    split at h
    · rename_i vx vk hx hk
      rw [rest_mapAt (by rw [← hx]; exact hK)]
      split at h
      · rename_i es hes
        try simp only [hes]
        split at h
        · rename_i hf; (try simp only [hf]); exact same h
        · rename_i hf; (try simp only [hf]); exact same h
        · cases h
      · cases h
    · cases h
  case lenm x =>
    simp only [dop] at h ⊢
    simp only [DO.foot] at hS; injection hS with hS; subst hS
    split at h
    · rename_i y hx
      rw [rest_mapAt (by rw [← hx]; exact hK)]
      split at h
      · rename_i hc; (try simp only [hc]); exact same h
      · cases h
    · cases h
  case rng x =>
    simp only [dop] at h ⊢
    simp only [DO.foot] at hS; injection hS with hS; subst hS
    split at h
    · exact one (r := fun n => .ptr n 0) h
    · rename_i b hx
      rw [rest_in (hK b (by simp [hx, blks]))]
      split at h
      · rename_i hc; (try simp only [hc]); exact one (r := fun n => .ptr n 0) h
      · cases h
    · cases h
  case mup kd x k y =>
    simp only [dop] at h ⊢
    simp only [DO.foot] at hS; injection hS with hS; subst hS
    split at h
    · rename_i b vk vy hx hk hy
      have hb := hK b (by simp [hx, blks])
      rw [rest_in hb]
      split at h
      · rename_i es clock hes
        try simp only [hes]
        split at h
        · rename_i hf
          try simp only [hf]
          split at h
          · rename_i hs
            injection h with h; injection h with e1 e2; subst e1 e2
            rw [rest_setAt hb hs]
          · cases h
        · rename_i hf
          try simp only [hf]
          split at h
          · rename_i hs
            injection h with h; injection h with e1 e2; subst e1 e2
            rw [rest_setAt hb hs]
          · cases h
        · cases h
      · cases h
    · cases h
  case mdl kd x k =>
    simp only [dop] at h ⊢
    simp only [DO.foot] at hS; injection hS with hS; subst hS
    split at h
    · exact same h
    · rename_i b vk hx hk
      have hb := hK b (by simp [hx, blks])
      rw [rest_in hb]
      split at h
      · rename_i es clock hes
        try simp only [hes]
        split at h
        · rename_i hf
          try simp only [hf]
          split at h
          · rename_i hs
            injection h with h; injection h with e1 e2; subst e1 e2
            rw [rest_setAt hb hs]
          · cases h
        · rename_i hf
          try simp only [hf]
          split at h
          · rename_i hs
            injection h with h; injection h with e1 e2; subst e1 e2
            rw [rest_setAt hb hs]
          · cases h
        · cases h
      · cases h
    · cases h
  case nxt x =>
    simp only [dop] at h ⊢
    simp only [DO.foot] at hS; injection hS with hS; subst hS
    split at h
    · rename_i r hx
      rw [hx] at hK
      have hr : K r = true := by
        apply hK; simp only [iblks]; split <;> simp
      rw [rest_in hr]
      split at h
      · rename_i hi; (try simp only [hi]); exact same h
      · rename_i b since seen last hi
        have hb : K b = true := by
          apply hK; simp only [iblks, hi]; simp
        try simp only [hi]
        rw [rest_in hb]
        split at h
        · rename_i es clock hes
          try simp only [hes]
          split at h
          · cases h
          · rename_i hc
            rw [if_neg hc]
            split at h
            · rename_i hnil; (try simp only [hnil]); exact same h
            · rename_i e hone
              try simp only [hone]
              split at h
              · rename_i hlt
                rw [if_pos hlt]
                split at h
                · rename_i hs
                  injection h with h; injection h with e1 e2; subst e1 e2
                  rw [rest_setAt hr hs]
                · cases h
              · cases h
            · cases h
        · cases h
      · cases h
    · cases h
  case ent x =>
    simp only [dop] at h ⊢
    simp only [DO.foot] at hS; injection hS with hS; subst hS
    split at h
    · rename_i r hx
      rw [hx] at hK
      have hr : K r = true := by
        apply hK; simp only [iblks]; split <;> simp
      rw [rest_in hr]
      split at h
      · rename_i b since seen last hi
        have hb : K b = true := by
          apply hK; simp only [iblks, hi]; simp
        try simp only [hi]
        rw [rest_in hb]
        split at h
        · rename_i es clock hes
          try simp only [hes]
          split at h
          · rename_i hc
            rw [if_pos hc]
            split at h
            · rename_i hs
              try simp only [hs]
              split at h
              · rename_i hf; (try simp only [hf]); exact same h
              · cases h
            · cases h
          · cases h
        · cases h
      · cases h
    · cases h
  case len s x =>
    cases s <;> simp only [dop] at h ⊢
    all_goals (repeat' (split at h))
    all_goals first | (cases h; done) | exact same h
  case fldv off sz x =>
    cases sz <;> simp only [dop] at h ⊢
    · split at h
      · split at h
        · rename_i hc; (try simp only [hc]); exact same h
        · cases h
      · cases h
    · split at h
      · split at h
        · rename_i hc; rw [if_pos hc]; exact same h
        · cases h
      · cases h
  all_goals simp only [dop] at h ⊢
  all_goals (repeat' (split at h))
  all_goals first
    | (cases h; done)
    | exact same h
    | (rw [if_pos (by assumption)]; exact same h)
    | (rw [if_pos (by assumption), if_pos (by assumption)]; exact same h)
    | (rename_i hh; simp only [hh] at *; exact same h)
    | (simp only [*, if_true] at *; exact same h)
    | skip

end

/-! ### What an operation waits for -/

theorem testBit_mask {acc : List Nat} {o : Oper} {i : Nat} (h : (maskOf acc o).testBit i = true) : ∃ e ∈ o.after, Region.binds .any e = true ∧ (i = e.on ∨ (acc.getD e.on 0).testBit i = true) := by
  unfold maskOf at h
  have key : ∀ (l : List Edge) (s : Nat), (l.foldl (fun s e => if Region.binds .any e then s ||| 2 ^ e.on ||| acc.getD e.on 0 else s) s).testBit i = true → s.testBit i = true ∨ ∃ e ∈ l, Region.binds .any e = true ∧ (i = e.on ∨ (acc.getD e.on 0).testBit i = true) := by
    intro l
    induction l with
    | nil => intro s h; exact .inl h
    | cons e l ih =>
      intro s h
      rw [List.foldl_cons] at h
      rcases ih _ h with h | ⟨e', he', h'⟩
      · by_cases hb : Region.binds .any e = true
        · rw [if_pos hb, Nat.testBit_or, Nat.testBit_or, Bool.or_eq_true, Bool.or_eq_true, Nat.testBit_two_pow] at h
          rcases h with (h | h) | h
          · exact .inl h
          · exact .inr ⟨e, by simp, hb, .inl (of_decide_eq_true h).symm⟩
          · exact .inr ⟨e, by simp, hb, .inr h⟩
        · rw [if_neg hb] at h; exact .inl h
      · exact .inr ⟨e', by simp [he'], h'⟩
  rcases key _ _ h with h | ⟨e, he, h⟩
  · simp at h
  · exact ⟨e, by simpa using he, h⟩

theorem befL_len : ∀ (os : List Oper) (acc : List Nat), (befL os acc).length = acc.length + os.length
  | [], acc => by simp [befL]
  | o :: os, acc => by rw [befL, befL_len]; simp; omega

theorem befL_old : ∀ (os : List Oper) (acc : List Nat) (i : Nat), i < acc.length → (befL os acc)[i]? = acc[i]?
  | [], acc, i, _ => rfl
  | o :: os, acc, i, h => by rw [befL, befL_old os _ i (by simp; omega), List.getElem?_append_left h]

theorem befL_at : ∀ (os : List Oper) (acc : List Nat) (j : Nat) (o : Oper), os[j]? = some o → (befL os acc)[acc.length + j]? = some (maskOf ((befL os acc).take (acc.length + j)) o)
  | [], acc, j, o, h => by simp at h
  | o' :: os, acc, 0, o, h => by
    simp at h; subst h
    rw [befL]
    rw [befL_old os _ _ (by simp)]
    have ht : (befL os (acc ++ [maskOf acc o'])).take acc.length = acc := by
      apply List.ext_getElem?
      intro i
      rw [List.getElem?_take]
      by_cases hi : i < acc.length
      · rw [if_pos hi, befL_old os _ i (by simp; omega), List.getElem?_append_left hi]
      · rw [if_neg hi, List.getElem?_eq_none (by omega)]
    simp [ht]
  | o' :: os, acc, j + 1, o, h => by
    simp at h
    rw [befL]
    have := befL_at os (acc ++ [maskOf acc o']) j o h
    simp only [List.length_append, List.length_singleton] at this
    rw [show acc.length + (j + 1) = acc.length + 1 + j from by omega]
    exact this

theorem edgesOk_spec {ops : List Oper} (h : edgesOk ops = true) {i : Nat} {o : Oper} (ho : ops[i]? = some o) {e : Edge} (he : e ∈ o.after) (hb : Region.binds .any e = true) : e.on < i := by
  unfold edgesOk at h
  rw [List.all_eq_true] at h
  have hi : i < ops.length := (List.getElem?_eq_some_iff.1 ho).1
  have := h i (by simpa using hi)
  rw [ho] at this
  simp only [List.all_eq_true, Bool.or_eq_true, Bool.not_eq_true', decide_eq_true_eq] at this
  rcases this e (by simpa using he) with h' | h'
  · rw [hb] at h'; cases h'
  · exact h'

/-- what is listed is listed behind all that it waits for -/
theorem waits {ops : List Oper} (hE : edgesOk ops = true) {L : Nat → Prop} (hL : ∀ k o, L k → ops[k]? = some o → ∀ e ∈ o.after, Region.binds .any e = true → L e.on) :
    ∀ (j : Nat) (o : Oper), ops[j]? = some o → (∀ e ∈ o.after, Region.binds .any e = true → L e.on) → ∀ i, ((befL ops []).getD j 0).testBit i = true → L i := by
  intro j
  induction j using Nat.strongRecOn with
  | _ j ih =>
    intro o ho hdep i hbit
    have hat := befL_at ops [] j o ho
    simp only [List.length_nil, Nat.zero_add] at hat
    rw [List.getD_eq_getElem?_getD, hat] at hbit
    obtain ⟨e, he, hb, h⟩ := testBit_mask hbit
    have hlt := edgesOk_spec hE ho he hb
    rcases h with rfl | h
    · exact hdep e he hb
    · have hjl : j < ops.length := (List.getElem?_eq_some_iff.1 ho).1
      have hget : ((befL ops []).take j).getD e.on 0 = (befL ops []).getD e.on 0 := by
        rw [List.getD_eq_getElem?_getD, List.getD_eq_getElem?_getD, List.getElem?_take, if_pos hlt]
      rw [hget] at h
      obtain ⟨o', ho'⟩ : ∃ o', ops[e.on]? = some o' := ⟨_, List.getElem?_eq_getElem (by omega)⟩
      exact ih e.on hlt o' ho' (hL e.on o' (hdep e he hb) ho') i h

end Go.Proofs.Sh

namespace Go.Proofs.Sh
open Go Go.RowKit

section
variable {call : Nat → Nat → List DV → DH → Option (DV × DH)} {quiet : Nat → Bool} {m : Nat} {F F2 : DF} {H H' : DH} {d : DO} {v : DV} {K : Nat → Bool}

theorem foot_touch0 (h : d.touch = 0) : d.foot quiet F H = (false, some []) := by
  cases d <;> simp only [DO.touch] at h <;> first | (cases h; done) | rfl

theorem foot_touch1 (h : d.touch = 1) : (d.foot quiet F H).1 = false := by
  cases d <;> simp only [DO.touch] at h <;> first | (cases h; done) | rfl

theorem foot_call (h : d.isCall = false) : ∃ S, (d.foot quiet F H).2 = some S := by
  cases d <;> simp only [DO.isCall] at h <;> first | (cases h; done) | exact ⟨_, rfl⟩

theorem touch_call (h : d.isCall = true) : d.touch = 2 ∧ (d.foot quiet F H).2 = none ∧ d.makes = true := by
  cases d <;> simp only [DO.isCall] at h <;> first | (cases h; done) | skip
  · exact ⟨rfl, rfl, rfl⟩
  · refine ⟨rfl, ?_, rfl⟩
    simp only [DO.foot]; split <;> rfl

/-- what writes nothing adds blocks of its own, whatever the fence -/
theorem dop_calm (hq : CallQuiet call quiet) (hw : (d.foot quiet F H).1 = false) (h : dop call m F H d = some (v, H')) : (∃ L, H' = H ++ L) ∧ ∀ m2, dop call m2 F H d = some (v, H') := by
  have same : ∀ {r : DV}, some (r, H) = some (v, H') → ∃ L, H' = H ++ L := by
    intro r e
    injection e with e; injection e with e1 e2; subst e1 e2
    exact ⟨[], by simp⟩
  have one : ∀ {r : DV} {x : Blk}, some (r, H ++ [x]) = some (v, H') → ∃ L, H' = H ++ L := by
    intro r x e
    injection e with e; injection e with e1 e2; subst e1 e2
    exact ⟨[x], rfl⟩
  cases d
  case call f xs =>
    simp only [DO.foot, Bool.not_eq_false'] at hw
    simp only [dop] at h
    split at h
    · rename_i vs hvs
      obtain ⟨h1, h2⟩ := hq f m vs H v H' hw h
      exact ⟨h1, fun m2 => by simp only [dop, hvs]; exact h2 m2⟩
    · cases h
  case callv x xs =>
    simp only [dop] at h
    split at h
    · rename_i f fst caps vs hx hvs
      simp only [DO.foot, hx, Bool.not_eq_false'] at hw
      obtain ⟨h1, h2⟩ := hq f m _ H v H' hw h
      exact ⟨h1, fun m2 => by simp only [dop, hx, hvs]; exact h2 m2⟩
    · cases h
  case st => simp [DO.foot] at hw
  case app => simp [DO.foot] at hw
  case cpy => simp [DO.foot] at hw
  case mup => simp [DO.foot] at hw
  case mdl => simp [DO.foot] at hw
  case nxt => simp [DO.foot] at hw
  case len s x =>
    refine ⟨?_, fun m2 => by cases s <;> exact h⟩
    cases s <;> simp only [dop] at h
    all_goals (repeat' (split at h))
    all_goals first | (cases h; done) | exact same h
  case fldv off sz x =>
    refine ⟨?_, fun m2 => by cases sz <;> exact h⟩
    cases sz <;> simp only [dop] at h
    all_goals (repeat' (split at h))
    all_goals first | (cases h; done) | exact same h
  all_goals refine ⟨?_, fun m2 => h⟩
  all_goals simp only [dop] at h
  all_goals (repeat' (split at h))
  all_goals first | (cases h; done) | exact same h | exact one h

theorem put_frame {b o : Nat} {vs : List DV} (h : H.put m b o vs = some H') : H'.length = H.length ∧ ∀ b', b' ≠ b → H'[b']? = H[b']? := by
  unfold DH.put at h
  split at h
  · split at h
    · injection h with h; subst h
      refine ⟨by simp, fun b' hb => ?_⟩
      rw [List.getElem?_set, if_neg (fun e => hb e.symm)]
    · cases h
  · cases h

theorem setAt_frame {b : Nat} {x : Blk} (h : H.setAt m b x = some H') : H'.length = H.length ∧ ∀ b', b' ≠ b → H'[b']? = H[b']? := by
  unfold DH.setAt at h
  split at h
  · injection h with h; subst h
    refine ⟨by simp, fun b' hb => ?_⟩
    rw [List.getElem?_set, if_neg (fun e => hb e.symm)]
  · cases h

theorem dapp_frame {e ty bts : Nat} {x y : DV} (h : dapp m H e ty bts x y = some (v, H')) {b : Nat} (hb : b < H.length) (hne : b ∉ blks (some x)) : H'[b]? = H[b]? := by
  unfold dapp at h
  split at h
  · cases h
  · split at h
    · split at h
      · injection h with h; injection h with e1 e2; subst e1 e2; rfl
      · injection h with h; injection h with e1 e2; subst e1 e2; rfl
      · cases h
    · split at h
      · cases h
      · split at h
        · split at h
          · injection h with h; injection h with e1 e2; subst e1 e2
            exact List.getElem?_append_left hb
          · cases h
        · rename_i b0 o k c e'
          have hb0 : b ≠ b0 := fun e => hne (by simp [blks, e])
          split at h
          · split at h
            · split at h
              · rename_i H2 hput
                injection h with h; injection h with e1 e2; subst e1 e2
                exact (put_frame hput).2 b hb0
              · cases h
            · cases h
          · split at h
            · split at h
              · injection h with h; injection h with e1 e2; subst e1 e2
                rw [List.getElem?_append_left (by simpa using hb), List.getElem?_set, if_neg (fun e => hb0 e.symm)]
              · cases h
            · cases h
        · cases h

/-- what is not in an operation's reach stays -/
theorem dop_frame (hq : CallQuiet call quiet) {S : List Nat} (hS : (d.foot quiet F H).2 = some S) (h : dop call m F H d = some (v, H')) {b : Nat} (hb : b < H.length) (hne : b ∉ S) : H'[b]? = H[b]? := by
  cases hw : (d.foot quiet F H).1 with
  | false =>
    obtain ⟨⟨L, hL⟩, _⟩ := dop_calm hq hw h
    rw [hL]; exact List.getElem?_append_left hb
  | true =>
    cases d <;> simp only [DO.foot] at hw hS <;> first | (cases hw; done) | skip
    case call f xs => cases hS
    case callv x xs => split at hS <;> cases hS
    case st n x y =>
      injection hS with hS; subst hS
      simp only [dop] at h
      split at h
      · rename_i b0 o w hx hw'
        have hb0 : b ≠ b0 := fun e => hne (by simp [hx, blks, e])
        split at h
        · split at h
          · rename_i H2 hput
            injection h with h; injection h with e1 e2; subst e1 e2
            exact (put_frame hput).2 b hb0
          · cases h
        · cases h
      · cases h
    case app e ty bts x y =>
      injection hS with hS; subst hS
      simp only [dop] at h
      split at h
      · rename_i va vb hx hy
        exact dapp_frame h hb (fun hm => hne (by rw [hx]; simp [hm]))
      · cases h
    case cpy e x y =>
      injection hS with hS; subst hS
      simp only [dop] at h
      split at h
      · split at h
        · injection h with h; injection h with e1 e2; subst e1 e2; rfl
        · cases h
      · rename_i b0 o n c e' w hx hy
        have hb0 : b ≠ b0 := fun e => hne (by simp [hx, blks, e])
        split at h
        · split at h
          · split at h
            · split at h
              · rename_i H2 hput
                injection h with h; injection h with e1 e2; subst e1 e2
                exact (put_frame hput).2 b hb0
              · cases h
            · cases h
          · cases h
        · cases h
      · cases h
    case mup kd x k y =>
      injection hS with hS; subst hS
      simp only [dop] at h
      split at h
      · rename_i b0 vk vy hx hk hy
        have hb0 : b ≠ b0 := fun e => hne (by simp [hx, blks, e])
        split at h
        · split at h
          · split at h
            · rename_i hs
              injection h with h; injection h with e1 e2; subst e1 e2
              exact (setAt_frame hs).2 b hb0
            · cases h
          · split at h
            · rename_i hs
              injection h with h; injection h with e1 e2; subst e1 e2
              exact (setAt_frame hs).2 b hb0
            · cases h
          · cases h
        · cases h
      · cases h
    case mdl kd x k =>
      injection hS with hS; subst hS
      simp only [dop] at h
      split at h
      · injection h with h; injection h with e1 e2; subst e1 e2; rfl
      · rename_i b0 vk hx hk
        have hb0 : b ≠ b0 := fun e => hne (by simp [hx, blks, e])
        split at h
        · split at h
          · split at h
            · rename_i hs
              injection h with h; injection h with e1 e2; subst e1 e2
              exact (setAt_frame hs).2 b hb0
            · cases h
          · split at h
            · rename_i hs
              injection h with h; injection h with e1 e2; subst e1 e2
              exact (setAt_frame hs).2 b hb0
            · cases h
          · cases h
        · cases h
      · cases h
    case nxt x =>
      injection hS with hS; subst hS
      simp only [dop] at h
      split at h
      · rename_i r hx
        have hb0 : b ≠ r := fun e => hne (by rw [hx]; simp only [iblks]; split <;> simp [e])
        split at h
        · injection h with h; injection h with e1 e2; subst e1 e2; rfl
        · split at h
          · split at h
            · cases h
            · split at h
              · injection h with h; injection h with e1 e2; subst e1 e2; rfl
              · split at h
                · split at h
                  · rename_i hs
                    injection h with h; injection h with e1 e2; subst e1 e2
                    exact (setAt_frame hs).2 b hb0
                  · cases h
                · cases h
              · cases h
          · cases h
        · cases h
      · cases h

/-- what makes no memory makes none -/
theorem dop_made (hm : d.makes = false) (h : dop call m F H d = some (v, H')) : H'.length = H.length := by
  have same : ∀ {r : DV}, some (r, H) = some (v, H') → H'.length = H.length := by
    intro r e
    injection e with e; injection e with e1 e2; subst e1 e2; rfl
  cases d <;> simp only [DO.makes] at hm <;> first | (cases hm; done) | skip
  case len s x =>
    cases s <;> simp only [dop] at h
    all_goals (repeat' (split at h))
    all_goals first | (cases h; done) | exact same h
  case fldv off sz x =>
    cases sz <;> simp only [dop] at h
    all_goals (repeat' (split at h))
    all_goals first | (cases h; done) | exact same h
  all_goals simp only [dop] at h
  all_goals (repeat' (split at h))
  all_goals first
    | (cases h; done)
    | exact same h
    | (rename_i hp; injection h with h; injection h with e1 e2; subst e1 e2; exact (put_frame hp).1)
    | (rename_i hp; injection h with h; injection h with e1 e2; subst e1 e2; exact (setAt_frame hp).1)

theorem blks_lt {x : DX} {n : Nat} (hc : x.closed = true) (hF : WFF n F) {b : Nat} (hb : b ∈ blks (x.ev F)) : b < n := by
  cases hx : x.ev F with
  | none => rw [hx] at hb; simp [blks] at hb
  | some w =>
    rw [hx] at hb
    have := ev_lt hc hF hx
    cases w <;> simp [blks] at hb <;> subst hb <;> simpa [DV.lt] using this

theorem iblks_lt {x : DX} (hc : x.closed = true) (hF : WFF H.length F) (hH : WFH H) {b : Nat} (hb : b ∈ iblks H (x.ev F)) : b < H.length := by
  unfold iblks at hb
  split at hb
  · rename_i r o hx
    have hr := ev_lt hc hF hx
    simp only [DV.lt, decide_eq_true_eq] at hr
    split at hb
    · rename_i b' s1 s2 s3 hi
      have := hH _ (.iter (some b') s1 s2 s3) hi
      simp [Blk.vals, DV.lts, DV.lt] at this
      simp at hb
      rcases hb with rfl | rfl
      · exact hr
      · exact this
    · simp at hb; subst hb; exact hr
  · simp at hb

end
end Go.Proofs.Sh

