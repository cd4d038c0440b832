/- The evaluator of the functions' texts, and its proof (part 2). No condition. -/
import Derived.Test.YtanckmepopmjkabGreatT1
import Derived.KernelRfl
import Derived.DataReads
set_option linter.unusedVariables false
set_option linter.unusedSimpArgs false
namespace Go.Tx
open Go.RowKit

section
variable {E : Env} {V : Lv E} {Γ : Nat → Option (TI E)} {P : Program} {c : Cx} {g g' : Gh} {s s0 : St E} {w w' : World} {a : Act}

/-- What an operation that leaves memory alone comes to. -/
def PureS (P : Program) (V : Lv E) (s0 : St E) (run : Value → Value → Sem Value) (x y : AV E) (ef : Ef E) : Prop :=
  ef.wb = [] ∧ ef.wr = [] ∧ ∀ (c : Cx) (g : Gh) (s : St E) (w : World) (ux uy : Value), RelG V c g s w → Ag s s0 ef → RepA V c g s w x ux → RepA V c g s w y uy → ∃ v, (run ux uy).run P w = .ok v w ∧ RepA V c g s w ef.v v
theorem shift_ok {x : AV E} {o : Nat} {K : Ef E → Prop} (h : shift s0 o x K) : ∃ ef, K ef ∧ ef.wb = [] ∧ ef.wr = [] ∧ ∀ (c : Cx) (g : Gh) (s : St E) (w : World) (u : Value), RelG V c g s w → Ag s s0 ef → RepA V c g s w x u → ∃ b off, u = .pointer (some ⟨b, off, none⟩) ∧ RepA V c g s w ef.v (.pointer (some ⟨b, off + o, none⟩)) := by
  unfold shift at h
  split at h
  · rename_i b gn off
    split at h
    · rename_i g' ty cells hb
      split at h
      · rename_i hg
        have hg := Nat.eq_of_beq_eq_true hg
        subst hg
        refine ⟨_, h, rfl, rfl, fun c g s w u hm ha hx => ?_⟩
        obtain ⟨bx, h1, h2, h3⟩ := hx
        have h4 := h1
        rw [ha.1 b (by simp), hb] at h4
        injection h4 with h4
        subst h4
        exact ⟨_, _, h3 rfl, _, h1, h2, fun _ => rfl⟩
      · cases h
    · cases h
  · rename_i r v i off
    split at h
    · rename_i v' e t' xs hr
      split at h
      · rename_i hg
        have hg := Nat.eq_of_beq_eq_true hg
        subst hg
        refine ⟨_, h, rfl, rfl, fun c g s w u hm ha hx => ?_⟩
        obtain ⟨row, h1, h2, h3⟩ := hx
        have h4 := h1
        rw [ha.2 r (by simp), hr] at h4
        injection h4 with h4
        subst h4
        obtain ⟨h5, h6, k, n, cap, h7, h8⟩ := h3 rfl rfl
        exact ⟨_, _, h8, _, h1, h2, fun _ _ => ⟨h5, h6, k, n, cap, h7, by rw [Nat.add_assoc]⟩⟩
      · cases h
    · cases h
  · rename_i fr ls
    refine ⟨_, h, rfl, rfl, fun c g s w u hm ha hx => ?_⟩
    obtain ⟨b, off, h1, h2, h3⟩ := hx
    exact ⟨_, _, h1, b, _, rfl, h2, CellsAt.drop h3 o⟩
  · cases h
theorem fieldAddr_sound (hT : TabOk P V Γ) {t : TypeId} {x : AV E} {f : Nat} {K : Ef E → Prop} (h : fieldAddrE Γ s0 t x f K) :
    ∃ ef, K ef ∧ PureS P V s0 (fun u _ => Instr.fieldAt t u f) x x ef := by
  unfold fieldAddrE at h
  obtain ⟨ti, h1, h2⟩ := tyE_out h
  clear h
  obtain ⟨d, q1, q2, q3, q4⟩ := (hT t ti h1).d
  split at h2
  · rename_i fs hk
    rw [hk] at q3
    obtain ⟨fields, rfl, q5, q6⟩ := q3
    split at h2
    · rename_i o u hf
      obtain ⟨fd, k1, k2, k3, _, iu, k4, k5, _⟩ := q6 f o u hf
      obtain ⟨ef, e1, e2, e3, e4⟩ := shift_ok (V := V) h2
      refine ⟨ef, e1, e2, e3, fun c g s w ux uy hm ha hx _ => ?_⟩
      obtain ⟨b, off, rfl, e5⟩ := e4 c g s w ux hm ha hx
      refine ⟨_, ?_, e5⟩
      simp [Instr.fieldAt, run_underlying q1, k1, Instr.sureAddr, fieldPlace, sizeOf, typeInfo, k3, k4, k5, k2, addr_add]
    · cases h2
  · cases h2
theorem nilCheck_sound {x : AV E} {K : Ef E → Prop} (h : shift s0 0 x K) : ∃ ef, K ef ∧ ef.wb = [] ∧ ef.wr = [] ∧ ∀ (c : Cx) (g : Gh) (s : St E) (w : World) (u : Value), RelG V c g s w → Ag s s0 ef → RepA V c g s w x u → (∃ b off, u = .pointer (some ⟨b, off, none⟩)) ∧ RepA V c g s w ef.v u := by
  obtain ⟨ef, e1, e2, e3, e4⟩ := shift_ok (V := V) h
  refine ⟨ef, e1, e2, e3, fun c g s w u hm ha hx => ?_⟩
  obtain ⟨b, off, rfl, e5⟩ := e4 c g s w u hm ha hx
  exact ⟨⟨_, _, rfl⟩, e5⟩
theorem run_indexAt_arr {t e : TypeId} {n : Nat} (h : P.underlying t = some (.array n e)) {sz : Nat} (hs : ∀ w, (sizeOf e).run P w = .ok sz w) (b off : Nat) (k : IntKind) (i : Int) (h0 : 0 ≤ i) (h1 : i < n) (w : World) :
    (Instr.indexAt t (.pointer (some ⟨b, off, none⟩)) (.int k i)).run P w = .ok (.pointer (some ⟨b, off + i.toNat * sz, none⟩)) w := by
  simp [Instr.indexAt, asIntOf, run_underlying h, Instr.sureAddr, h0, h1, hs, addr_add]
theorem run_indexAt_sl {t e : TypeId} (h : P.underlying t = some (.slice e)) {sz : Nat} (hs : ∀ w, (sizeOf e).run P w = .ok sz w) (b off len cap : Nat) (k : IntKind) (i : Int) (h0 : 0 ≤ i) (h1 : i < len) (w : World) :
    (Instr.indexAt t (.slice (some ⟨b, off, none⟩) len cap) (.int k i)).run P w = .ok (.pointer (some ⟨b, off + i.toNat * sz, none⟩)) w := by
  simp [Instr.indexAt, asIntOf, run_underlying h, h0, h1, hs, addr_add]
theorem arrIx_out {n : Nat} {i : Int} {lo hi : Option Int} {K : Nat → Prop} (h : arrIx n i lo hi K) : 0 ≤ i ∧ i < n ∧ K i.toNat := by
  unfold arrIx at h
  split at h
  · rename_i a _
    obtain ⟨h1, h2⟩ := Ob_out h
    obtain ⟨h3, h4⟩ := cM_out h2
    have h3 := Nat.le_of_ble_eq_true h3
    subst h1
    exact ⟨by omega, by omega, h4⟩
  · split at h
    · unfold ixE2 at h
      obtain ⟨a, b, h1, h2⟩ := h
      rcases (show i = 0 ∨ i = 1 by omega) with rfl | rfl
      · exact ⟨h1, h2, a rfl⟩
      · exact ⟨h1, h2, b rfl⟩
    · unfold ixE3 at h
      obtain ⟨a, b, d, h1, h2⟩ := h
      rcases (show i = 0 ∨ i = 1 ∨ i = 2 by omega) with rfl | rfl | rfl
      · exact ⟨h1, h2, a rfl⟩
      · exact ⟨h1, h2, b rfl⟩
      · exact ⟨h1, h2, d rfl⟩
    · unfold ixE4 at h
      obtain ⟨a, b, d, e, h1, h2⟩ := h
      rcases (show i = 0 ∨ i = 1 ∨ i = 2 ∨ i = 3 by omega) with rfl | rfl | rfl | rfl
      · exact ⟨h1, h2, a rfl⟩
      · exact ⟨h1, h2, b rfl⟩
      · exact ⟨h1, h2, d rfl⟩
      · exact ⟨h1, h2, e rfl⟩
    · cases h
theorem idxAddr_sound (hV : LvOk V) (hT : TabOk P V Γ) {t : TypeId} {x y : AV E} {K : Ef E → Prop} (h : idxAddrE V Γ s0 t x y K) :
    ∃ ef, K ef ∧ PureS P V s0 (fun u v => Instr.indexAt t u v) x y ef := by
  unfold idxAddrE at h
  split at h
  · rename_i k i lo hi
    obtain ⟨ti, h1, h2⟩ := tyE_out h
    clear h
    obtain ⟨d, q1, q2, q3, q4⟩ := (hT t ti h1).d
    split at h2
    · rename_i n e hk
      rw [hk] at q3
      obtain ⟨rfl, _⟩ := q3
      obtain ⟨te, h3, h4⟩ := tyE_out h2
      obtain ⟨i0, i1, h5⟩ := arrIx_out h4
      obtain ⟨ef, e1, e2, e3, e4⟩ := shift_ok (V := V) h5
      refine ⟨ef, e1, e2, e3, fun c g s w ux uy hm ha hx hy => ?_⟩
      obtain ⟨b, off, rfl, e5⟩ := e4 c g s w ux hm ha hx
      obtain ⟨rfl, _⟩ := RepP.intv hy
      exact ⟨_, run_indexAt_arr q1 (run_size (hT e te h3)) b off k i i0 i1 w, e5⟩
    · rename_i e hk
      rw [hk] at q3
      have q3 : d = .slice e := q3
      subst q3
      obtain ⟨te, h3, h4⟩ := tyE_out h2
      clear h2
      have hte := hT e te h3
      split at h4
      · rename_i r v
        split at h4
        · rename_i v' e' t' xs hr
          split at h4
          · rename_i hg hty
            have hg := Nat.eq_of_beq_eq_true hg
            subst hg
            have hT' : tsz V t' = te.size := by rw [← hte.el, of_decide_eq_true hty]
            obtain ⟨⟨i0, i1⟩, h5⟩ := Ob_out h4
            refine ⟨_, h5, rfl, rfl, fun c g s w ux uy hm ha hx hy => ?_⟩
            obtain ⟨row, k1, k2, k3⟩ := hx
            have hrs := (ha.2 r (by simp)).trans hr
            have k1' := k1
            rw [hrs] at k1
            injection k1 with k1
            subst k1
            have hux : ux = g.rv r := k3 rfl rfl
            obtain ⟨rfl, _⟩ := RepP.intv hy
            obtain ⟨cells, o1, o2, o3⟩ := hm.row r _ hrs rfl
            rcases o1.2 with ⟨p1, p2⟩ | ⟨b, cap, cur, p1, p2, p3, p4, p5, p6, p7⟩
            · have p2 : xs.length = 0 := p2
              omega
            · have p1 : g.rv r = .slice (some ⟨b, 0, none⟩) xs.length cap := p1
              rw [hux, p1]
              refine ⟨_, run_indexAt_sl q1 (run_size hte) b 0 xs.length cap k i i0 i1 w, _, k1', Nat.le_refl _, fun _ _ => ⟨i0, i1, b, _, _, p1, ?_⟩⟩
              show Value.pointer (some ⟨b, 0 + i.toNat * te.size, none⟩) = .pointer (some ⟨b, i.toNat * tsz V t' + 0, none⟩)
              rw [hT', Nat.zero_add, Nat.add_zero]
          · cases h4
        · cases h4
      · rename_i fr t' xs
        split at h4
        · rename_i hty
          have hT' : tsz V t' = te.size := by rw [← hte.el, of_decide_eq_true hty]
          obtain ⟨⟨i0, i1⟩, h5⟩ := Ob_out h4
          refine ⟨_, h5, rfl, rfl, fun c g s w ux uy hm ha hx hy => ?_⟩
          obtain ⟨rfl, _⟩ := RepP.intv hy
          have hlt : i.toNat < xs.length := by omega
          have hget : xs[i.toNat]? = some (xs.getD i.toNat (dflt E t')) := by rw [List.getD_eq_getElem?_getD, List.getElem?_eq_getElem hlt]; rfl
          have hx : RepP V w (FF c g) (.row fr t' xs) ux := hx
          cases hx with
          | nil => simp at hlt
          | row u hl hm' hF hc hr =>
            rename_i b o cap
            refine ⟨_, run_indexAt_sl q1 (run_size hte) b o xs.length cap k i i0 i1 w, b, _, rfl, hF, fun q l hq => ?_⟩
            rw [List.getElem?_map] at hq
            obtain ⟨l0, hq0, rfl⟩ := Option.map_eq_some_iff.1 hq
            refine ⟨u i.toNat q, ?_, hr _ _ _ _ hget hq0⟩
            have := hc _ _ _ _ hget hq0
            rw [hT'] at this
            rw [Nat.add_assoc]
            exact this
        · cases h4
      · cases h4
    · cases h2
  · cases h
end
end Go.Tx
set_option linter.unusedVariables false
set_option linter.unusedSimpArgs false
namespace Go.Tx
open Go.RowKit
section
variable {E : Env} {V : Lv E} {Γ : Nat → Option (TI E)} {P : Program} {s : St E}
theorem Ob_in {p q : Prop} (h : p) (k : q) : Ob p q := by unfold Ob; exact ⟨h, k⟩
theorem arith_one {op : BinOp} {k : IntKind} {x y : Int} {xl xh yl yh : Option Int} {K : Lf E → Prop} (h : arith op k x xl xh y yl yh K) : ∃ l, K l ∧ arith op k x xl xh y yl yh (· = l) := by
  unfold arith at h ⊢
  split at h
  · exact ⟨_, h, rfl⟩
  · dsimp only at h ⊢
    cases hz : isZ xl xh <;> rw [hz] at h <;> exact ⟨_, h, rfl⟩
  · cases hz : (single xl xh || single yl yh) <;> rw [hz] at h <;> exact ⟨_, h, rfl⟩
  · obtain ⟨h0, h⟩ := Ob_out h
    cases h1 : geO 0 xl <;> rw [h1] at h
    · exact ⟨_, h, Ob_in h0 rfl⟩
    · cases h2 : (geO 1 yl && leO (mxK k) xh) <;> rw [h2] at h <;> exact ⟨_, h, Ob_in h0 rfl⟩
  · obtain ⟨h0, h⟩ := Ob_out h
    cases h1 : geO 0 xl <;> rw [h1] at h
    · exact ⟨_, h, Ob_in h0 rfl⟩
    · cases h2 : (geO 1 yl && single yl yh) <;> rw [h2] at h <;> exact ⟨_, h, Ob_in h0 rfl⟩
  all_goals first | exact ⟨_, h, rfl⟩ | cases h
theorem shiftE_one {op : BinOp} {k : IntKind} {x y : Int} {xl xh yl : Option Int} {lit : Option Nat} {K : Lf E → Prop} (h : shiftE op k x xl xh y yl lit K) : ∃ l, K l ∧ shiftE op k x xl xh y yl lit (· = l) := by
  unfold shiftE at h ⊢
  split at h
  · exact ⟨_, h, rfl⟩
  · exact ⟨_, h, rfl⟩
  · obtain ⟨h0, h⟩ := cM_out h
    exact ⟨_, h, by simp only [cM, h0]⟩
  · obtain ⟨h0, h⟩ := cM_out h
    exact ⟨_, h, by simp only [cM, h0]⟩
  · obtain ⟨h0, h⟩ := Ob_out h
    exact ⟨_, h, Ob_in h0 rfl⟩
  · obtain ⟨h0, h⟩ := Ob_out h
    exact ⟨_, h, Ob_in h0 rfl⟩
  · cases h
theorem shiftE_mono {op : BinOp} {k : IntKind} {x y : Int} {xl xh yl : Option Int} {lit : Option Nat} {K K' : Lf E → Prop} (h : shiftE op k x xl xh y yl lit K) (hk : ∀ l, K l → K' l) : shiftE op k x xl xh y yl lit K' := by
  unfold shiftE at h ⊢
  split at h
  · exact hk _ h
  · exact hk _ h
  · obtain ⟨h0, h⟩ := cM_out h; simp only [cM, h0]; exact hk _ h
  · obtain ⟨h0, h⟩ := cM_out h; simp only [cM, h0]; exact hk _ h
  · obtain ⟨h0, h⟩ := Ob_out h; exact Ob_in h0 (hk _ h)
  · obtain ⟨h0, h⟩ := Ob_out h; exact Ob_in h0 (hk _ h)
  · cases h
theorem arith_mono {op : BinOp} {k : IntKind} {x y : Int} {xl xh yl yh : Option Int} {K K' : Lf E → Prop} (h : arith op k x xl xh y yl yh K) (hk : ∀ l, K l → K' l) : arith op k x xl xh y yl yh K' := by
  unfold arith at h ⊢
  split at h
  · exact hk _ h
  · dsimp only at h ⊢
    cases hz : isZ xl xh <;> rw [hz] at h <;> exact hk _ h
  · cases hz : (single xl xh || single yl yh) <;> rw [hz] at h <;> exact hk _ h
  · obtain ⟨h0, h⟩ := Ob_out h
    refine Ob_in h0 ?_
    cases h1 : geO 0 xl <;> rw [h1] at h
    · exact hk _ h
    · cases h2 : (geO 1 yl && leO (mxK k) xh) <;> rw [h2] at h <;> exact hk _ h
  · obtain ⟨h0, h⟩ := Ob_out h
    refine Ob_in h0 ?_
    cases h1 : geO 0 xl <;> rw [h1] at h
    · exact hk _ h
    · cases h2 : (geO 1 yl && single yl yh) <;> rw [h2] at h <;> exact hk _ h
  all_goals first | exact hk _ h | cases h
theorem tyE_in {t : TypeId} {ti : TI E} {K : TI E → Prop} (h : Γ t = some ti) (k : K ti) : tyE Γ t K := by simp only [tyE, h]; exact k
theorem binE_one {op : BinOp} {t : TypeId} {x y : AV E} {lit : Option Nat} {K : AV E → Prop} (h : binE Γ op t x y lit K) : ∃ v, K v ∧ binE Γ op t x y lit (· = v) := by
  unfold binE at h ⊢
  split at h
  · split at h
    · obtain ⟨l, h1, h2⟩ := shiftE_one h
      exact ⟨_, h1, shiftE_mono h2 (fun l e => by rw [e])⟩
    · obtain ⟨l, h1, h2⟩ := shiftE_one h
      exact ⟨_, h1, shiftE_mono h2 (fun l e => by rw [e])⟩
    · split at h
      · rename_i hk
        obtain ⟨l, h1, h2⟩ := arith_one h
        refine ⟨_, h1, ?_⟩
        exact arith_mono h2 (fun l e => by rw [e])
      · cases h
  · split at h
    · obtain ⟨ti, h1, h⟩ := tyE_out h
      cases hk : ti.kd <;> rw [hk] at h <;> first | cases h | exact ⟨_, h, tyE_in h1 (by rw [hk])⟩
    · obtain ⟨ti, h1, h⟩ := tyE_out h
      cases hk : ti.kd <;> rw [hk] at h <;> first | cases h | exact ⟨_, h, tyE_in h1 (by rw [hk])⟩
    · cases h
  · split at h
    · obtain ⟨h0, h⟩ := Ob_out h
      exact ⟨_, h, Ob_in h0 rfl⟩
    · exact ⟨_, h, rfl⟩
    · exact ⟨_, h, rfl⟩
    · cases h
  · rename_i xs ys
    split at h
    · obtain ⟨ti, h1, h⟩ := tyE_out h
      split at h
      · rename_i hk hb
        exact ⟨_, h, tyE_in h1 (by simp only [hk, hb])⟩
      · cases h
    · obtain ⟨ti, h1, h⟩ := tyE_out h
      split at h
      · rename_i hk hb
        exact ⟨_, h, tyE_in h1 (by simp only [hk, hb])⟩
      · cases h
    · cases h
  · cases h
theorem unE_one {op : UnOp} {x : AV E} {K : AV E → Prop} (h : unE op x K) : ∃ v, K v ∧ unE op x (· = v) := by
  unfold unE at h ⊢
  split at h
  · exact ⟨_, h, rfl⟩
  · exact ⟨_, h, rfl⟩
  · split at h
    · exact ⟨_, h, rfl⟩
    · cases h
  · cases h
theorem maxE_one {x y : AV E} {K : AV E → Prop} (h : maxE x y K) : ∃ v, K v ∧ maxE x y (· = v) := by
  unfold maxE at h ⊢
  split at h
  · split at h
    · rename_i hk; exact ⟨_, h, by simp only [hk]⟩
    · cases h
  · cases h
theorem minE_one {x y : AV E} {K : AV E → Prop} (h : minE x y K) : ∃ v, K v ∧ minE x y (· = v) := by
  unfold minE at h ⊢
  split at h
  · split at h
    · rename_i hk; exact ⟨_, h, by simp only [hk]⟩
    · cases h
  · cases h
end
section
variable {E : Env} {V : Lv E} {Γ : Nat → Option (TI E)} {P : Program} {c : Cx} {g g' : Gh} {s s0 : St E} {w w' : World} {a : Act}
theorem maxE_sound {x y : AV E} {K : AV E → Prop} (h : maxE x y K) {ux uy : Value} (hx : RepA V c g s w x ux) (hy : RepA V c g s w y uy) : ∃ v u, K v ∧ (Builtin.max2 ux uy).run P w = .ok u w ∧ RepA V c g s w v u := by
  unfold maxE at h
  split at h
  · split at h
    · rename_i hk
      have hk := of_decide_eq_true hk
      subst hk
      obtain ⟨rfl, hx1, hx2⟩ := RepP.intv hx
      obtain ⟨rfl, hy1, hy2⟩ := RepP.intv hy
      exact ⟨_, _, h, by simp [Builtin.max2]; rfl, .int (lim_mx hx1 hy1) (bnd_max hx2 hy2)⟩
    · cases h
  · cases h
theorem minE_sound {x y : AV E} {K : AV E → Prop} (h : minE x y K) {ux uy : Value} (hx : RepA V c g s w x ux) (hy : RepA V c g s w y uy) : ∃ v u, K v ∧ (Builtin.min2 ux uy).run P w = .ok u w ∧ RepA V c g s w v u := by
  unfold minE at h
  split at h
  · split at h
    · rename_i hk
      have hk := of_decide_eq_true hk
      subst hk
      obtain ⟨rfl, hx1, hx2⟩ := RepP.intv hx
      obtain ⟨rfl, hy1, hy2⟩ := RepP.intv hy
      exact ⟨_, _, h, by simp [Builtin.min2]; rfl, .int (lim_mn hx1 hy1) (bnd_min hx2 hy2)⟩
    · cases h
  · cases h
/-- The values beside the operands' values. -/
inductive AllA (V : Lv E) (c : Cx) (g : Gh) (s : St E) (w : World) : List (AV E) → List Value → Prop where
  | nil : AllA V c g s w [] []
  | cons {x v r rv} (h : RepA V c g s w x v) (hr : AllA V c g s w r rv) : AllA V c g s w (x :: r) (v :: rv)
theorem foldE_sound (f : AV E → AV E → (AV E → Prop) → Prop) (m : Value → Value → Sem Value) (h1 : ∀ x y K, f x y K → ∃ v, K v ∧ f x y (· = v))
    (h2 : ∀ (c : Cx) (g : Gh) (s : St E) (w : World) (x y : AV E) K ux uy, f x y K → RepA V c g s w x ux → RepA V c g s w y uy → ∃ v u, K v ∧ (m ux uy).run P w = .ok u w ∧ RepA V c g s w v u) :
    ∀ (r : List (AV E)) (x : AV E) (K : AV E → Prop), foldE f x r K → ∃ v, K v ∧ ∀ (c : Cx) (g : Gh) (s : St E) (w : World) (ux : Value) (us : List Value), RepA V c g s w x ux → AllA V c g s w r us → ∃ u, (us.foldlM m ux).run P w = .ok u w ∧ RepA V c g s w v u := by
  intro r
  induction r with
  | nil =>
    intro x K h
    refine ⟨_, h, fun c g s w ux us hx hr => ?_⟩
    cases hr
    exact ⟨_, rfl, hx⟩
  | cons y r ih =>
    intro x K h
    obtain ⟨z, h3, h4⟩ := h1 _ _ _ h
    obtain ⟨v, h5, h6⟩ := ih z K h3
    refine ⟨v, h5, fun c g s w ux us hx hr => ?_⟩
    cases hr with
    | cons hy hr =>
      obtain ⟨z', u, e, k1, k2⟩ := h2 c g s w x y _ _ _ h4 hx hy
      subst e
      obtain ⟨u', k3, k4⟩ := h6 c g s w u _ k2 hr
      exact ⟨u', by simp only [List.foldlM_cons, Sem.run_bind, k1, Result.andThen_ok]; exact k3, k4⟩
theorem rowRead_len {F : Fr → Nat → Prop} {fr : Fr} {t : Ty} {xs : List (El E t)} {v : Value} (h : RowRead V w F fr t xs v) : ∃ A cap, v = .slice A xs.length cap ∧ xs.length ≤ cap ∧ xs.length ≤ maxLen := by
  obtain ⟨A, cap, h1, h2, h3, _⟩ := h
  exact ⟨A, cap, h1, h2, h3⟩
theorem lim_nat {n : Nat} (h : n ≤ maxLen) : lim .i64 (n : Int) := by
  unfold maxLen at h
  exact ⟨by show (-9223372036854775808 : Int) ≤ n; omega, by show (n : Int) ≤ 9223372036854775807; omega⟩
theorem lenS_sound {t ty : TypeId} {x : AV E} {K : Ef E → Prop} (q1 : P.underlying t = some .string) (h : lenS x K) : ∃ ef, K ef ∧ PureS P V s0 (fun u _ => Builtin.len_ #[t] ty #[u]) x x ef := by
  unfold lenS at h
  split at h
  · rename_i b
    refine ⟨_, h, rfl, rfl, fun c g s w ux uy hm ha hx _ => ?_⟩
    have hl := RepP.strl hx
    have e := RepP.strv hx
    subst e
    exact ⟨.int .i64 (b.size : Int), by simp [Builtin.len_, run_underlying q1, goInt], .int (lim_nat hl) ⟨by rintro _ ⟨⟩; exact Int.natCast_nonneg _, nofun⟩⟩
  · cases h
theorem lenR_sound {t ty e : TypeId} {x : AV E} {K : Ef E → Prop} (q1 : P.underlying t = some (.slice e)) (h : rowOf s0 .bool x fun _ xs _ rr => K ⟨[], rr, .f (.lf (.int .i64 (xs.length : Int) (some 0) none)), [], []⟩) :
    ∃ ef, K ef ∧ PureS P V s0 (fun u _ => Builtin.len_ #[t] ty #[u]) x x ef := by
  obtain ⟨t', xs, fr, rr, h3, hro⟩ := rowOf_eq h
  refine ⟨_, h3, rfl, rfl, fun c g s w ux uy hm ha hx _ => ?_⟩
  obtain ⟨t2, xs2, fr2, _, he, hr⟩ := rowOf_sound (hro s ha.2) hm hx
  cases he
  obtain ⟨A, cap, rfl, hl1, hl2⟩ := rowRead_len hr
  exact ⟨.int .i64 (xs.length : Int), by simp [Builtin.len_, run_underlying q1, goInt], .int (lim_nat hl2) ⟨by rintro _ ⟨⟩; exact Int.natCast_nonneg _, nofun⟩⟩
theorem lenE_sound (hT : TabOk P V Γ) {t ty : TypeId} {x : AV E} {K : Ef E → Prop} (h : lenE Γ s0 t x K) : ∃ ef, K ef ∧ PureS P V s0 (fun u _ => Builtin.len_ #[t] ty #[u]) x x ef := by
  unfold lenE at h
  obtain ⟨ti, h1, h2⟩ := tyE_out h
  clear h
  obtain ⟨d, q1, q2, q3, q4⟩ := (hT t ti h1).d
  cases hk : ti.kd with
  | str =>
    rw [hk] at q4 h2
    have q4 : d = .string := q4
    subst q4
    exact lenS_sound q1 h2
  | _ =>
    rw [hk] at h2
    cases hk2 : ti.k with
    | slice e =>
      rw [hk2] at q3 h2
      have q3 : d = .slice e := q3
      subst q3
      exact lenR_sound q1 h2
    | _ => rw [hk2] at h2; cases h2
theorem fieldE_sound (hT : TabOk P V Γ) {t : TypeId} {x : AV E} {f : Nat} {K : AV E → Prop} (h : fieldE Γ t x f K) :
    ∃ v, K v ∧ ∀ (c : Cx) (g : Gh) (s : St E) (w : World) (ux : Value), RepA V c g s w x ux → ∃ u, (Instr.field t ux f).run P w = .ok u w ∧ RepA V c g s w v u := by
  unfold fieldE at h
  obtain ⟨ti, h1, h2⟩ := tyE_out h
  clear h
  obtain ⟨d, q1, q2, q3, q4⟩ := (hT t ti h1).d
  split at h2
  · rename_i ls fs hk
    rw [hk] at q3
    obtain ⟨fields, rfl, q5, q6⟩ := q3
    split at h2
    · rename_i o u hf
      obtain ⟨fd, k1, k2, k3, _⟩ := q6 f o u hf
      obtain ⟨v, h3, h4⟩ := valOf_one h2
      refine ⟨v, h3, fun c g s w ux hx => ?_⟩
      obtain ⟨cs, rfl, hr⟩ := hx
      obtain ⟨v', u', e, k4, k5⟩ := valOf_part (s := s) (P := P) hT h4 hr
      subst e
      exact ⟨u', by simp [Instr.field, run_underlying q1, k1, asAgg, k2, k3, k4], k5⟩
    · cases h2
  · cases h2
theorem bt_lim (s : ByteArray) (i : Int) : lim .u8 (bt s i) := by
  unfold bt
  split
  · rename_i h
    have := (s[i.toNat]'h).toNat_lt
    exact ⟨by show (0 : Int) ≤ _; omega, by show _ ≤ (255 : Int); omega⟩
  · exact ⟨by decide, by decide⟩
theorem indexE_sound (hT : TabOk P V Γ) {t : TypeId} {x y : AV E} {K : AV E → Prop} (h : indexE Γ t x y K) :
    ∃ v, K v ∧ ∀ (c : Cx) (g : Gh) (s : St E) (w : World) (ux uy : Value), RepA V c g s w x ux → RepA V c g s w y uy → ∃ u, (Instr.index t ux uy).run P w = .ok u w ∧ RepA V c g s w v u := by
  unfold indexE at h
  split at h
  · rename_i b _ i _ _
    obtain ⟨ti, h1, h2⟩ := tyE_out h
    obtain ⟨d, q1, q2, q3, q4⟩ := (hT t ti h1).d
    split at h2
    · rename_i hk
      rw [hk] at q4
      have q4 : d = .string := q4
      subst q4
      obtain ⟨⟨i0, i1⟩, h3⟩ := Ob_out h2
      refine ⟨_, h3, fun c g s w ux uy hx hy => ?_⟩
      have e := RepP.strv hx
      subst e
      obtain ⟨rfl, _⟩ := RepP.intv hy
      have hlt : i.toNat < b.size := by omega
      refine ⟨_, ?_, .int (bt_lim b i) (inB_none _)⟩
      have hg : b[i.toNat]? = some (b[i.toNat]'hlt) := by simp [hlt]
      simp [Instr.index, asIntOf, run_underlying q1, i0, hg, bt, hlt]
    · cases h2
  · rename_i ls _ i lo hi
    obtain ⟨ti, h1, h2⟩ := tyE_out h
    obtain ⟨d, q1, q2, q3, q4⟩ := (hT t ti h1).d
    split at h2
    · rename_i n e hk
      rw [hk] at q3
      obtain ⟨rfl, _⟩ := q3
      obtain ⟨te, h3, h4⟩ := tyE_out h2
      obtain ⟨i0, i1, h5⟩ := arrIx_out h4
      obtain ⟨v, h6, h7⟩ := valOf_one h5
      refine ⟨v, h6, fun c g s w ux uy hx hy => ?_⟩
      obtain ⟨cs, rfl, hr⟩ := hx
      obtain ⟨rfl, _⟩ := RepP.intv hy
      obtain ⟨v', u', e', k4, k5⟩ := valOf_part (s := s) (P := P) hT h7 hr
      subst e'
      refine ⟨u', ?_, k5⟩
      simp only [Instr.index, asIntOf, Sem.run_bind, Sem.run_pure, Result.andThen_ok, run_underlying q1]
      rw [if_pos ⟨i0, i1⟩]
      simp only [Sem.run_bind, run_size (hT e te h3), Result.andThen_ok]
      exact k4
    · cases h2
  · cases h
theorem extract_sound {x : AV E} {i : Nat} {vs : List (Fv E)} {v : Fv E} (hx : x = .tup vs) (hi : vs[i]? = some v) (c : Cx) (g : Gh) (s : St E) (w : World) (ux : Value) (hr : RepA V c g s w x ux) : ∃ u, (Instr.extract ux i).run P w = .ok u w ∧ RepA V c g s w (.f v) u := by
  subst hx
  obtain ⟨us, rfl, h1, h2⟩ := hr
  obtain ⟨u, h3, h4⟩ := h2 i v hi
  exact ⟨u, by simp [Instr.extract, h3], h4⟩
end
end Go.Tx
set_option linter.unusedVariables false
set_option linter.unusedSimpArgs false
namespace Go.Tx
open Go.RowKit
section
variable {E : Env} {V : Lv E} {Γ : Nat → Option (TI E)} {P : Program} {c : Cx} {g g' : Gh} {s s0 : St E} {w w' : World} {a : Act}
theorem size_strOfNums (xs : List Int) : (strOfNums xs).size = xs.length := by
  simp [strOfNums, ByteArray.size]
theorem getD_int (xs : List Int) (i : Nat) (hi : i < xs.length) : xs.getD i 0 = xs[i] := by rw [List.getD_eq_getElem?_getD, List.getElem?_eq_getElem hi]; rfl
theorem convE_sound (hT : TabOk P V Γ) {src dst : TypeId} {x : AV E} {K : Ef E → Prop} (h : convE Γ s0 src dst x K) : ∃ ef, K ef ∧ PureS P V s0 (fun u _ => convert src dst u) x x ef := by
  unfold convE at h
  obtain ⟨ti, h1, h2⟩ := tyE_out h
  clear h
  obtain ⟨si, h3, h4⟩ := tyE_out h2
  clear h2
  obtain ⟨d, q1, q2, q3, q4⟩ := (hT dst ti h1).d
  obtain ⟨d', p1, p2, p3, p4⟩ := (hT src si h3).d
  split at h4
  · rename_i k' hk
    rw [hk] at q4
    have q4 : d = .int k' := q4
    subst q4
    split at h4
    · rename_i k n lo hi
      split at h4
      · rename_i hkk
        have hkk := of_decide_eq_true hkk
        subst hkk
        refine ⟨_, h4, rfl, rfl, fun c g s w ux uy hm ha hx _ => ?_⟩
        obtain ⟨rfl, hx1, hx2⟩ := RepP.intv hx
        refine ⟨.int k n, ?_, hx⟩
        have : (convert src dst (.int k n)).run P w = .ok (.int k (k.wrap n)) w := by
          simp only [convert, Sem.run_bind, run_underlying p1, run_underlying q1, Result.andThen_ok]
          cases d' <;> rfl
        rw [this, wrap_lim hx1]
      · refine ⟨_, h4, rfl, rfl, fun c g s w ux uy hm ha hx _ => ?_⟩
        obtain ⟨rfl, hx1, hx2⟩ := RepP.intv hx
        refine ⟨.int k' (k'.wrap n), ?_, wrL_rep hx2⟩
        simp only [convert, Sem.run_bind, run_underlying p1, run_underlying q1, Result.andThen_ok]
        cases d' <;> rfl
    · cases h4
  · rename_i hk
    rw [hk] at q4
    have q4 : d = .string := q4
    subst q4
    split at h4
    · rename_i e hk2
      rw [hk2] at p3
      have p3 : d' = .slice e := p3
      subst p3
      obtain ⟨te, h5, h6⟩ := tyE_out h4
      clear h4
      obtain ⟨de, r1, r2, r3, r4⟩ := (hT e te h5).d
      split at h6
      · rename_i hk3
        rw [hk3] at r4
        have r4 : de = .int .u8 := r4
        subst r4
        obtain ⟨t', xs, fr, rr, h7, hro⟩ := rowOf_eq h6
        split at h7
        · rename_i xs
          refine ⟨_, h7, rfl, rfl, fun c g s w ux uy hm ha hx _ => ?_⟩
          obtain ⟨t2, xs2, fr2, _, he, hr⟩ := rowOf_sound (hro s ha.2) hm hx
          cases he
          obtain ⟨A, cap, rfl, hl1, hl2, hl3⟩ := hr
          refine ⟨.string (strOfNums xs), ?_, .str (Nat.le_trans (Nat.le_of_eq (size_strOfNums xs)) hl2)⟩
          cases A with
          | none =>
            have : xs = [] := by
              rcases hl3 with h | ⟨b, o, h, _⟩
              · exact h
              · cases h
            subst this
            exact run_convert_bytes_nil w src e p1 r1 _ _ dst q1
          | some ad =>
            rcases hl3 with h | ⟨b, o, h, hc⟩
            · have h : xs = [] := h
              subst h
              obtain ⟨ab, ao, asp⟩ := ad
              have : (convert src dst (.slice (some ⟨ab, ao, asp⟩) 0 cap)).run P w = .ok (.string (strOfNums [])) w := by
                simp only [convert, Sem.run_bind, run_underlying p1, run_underlying q1, run_underlying r1, Result.andThen_ok]
                simp [Conv.bytesToString, loadCells, loadCellsFrom, strOfNums]
                rfl
              exact this
            · injection h with h
              subst h
              refine run_convert_bytes_arg w src e p1 r1 b o xs.length cap xs rfl (fun i hi => ?_) dst q1
              obtain ⟨u, k1, k2⟩ := hc i xs[i] 0 _ (List.getElem?_eq_getElem hi) rfl
              have e1 : u = .int .u8 xs[i] := (RepP.intv k2).1
              subst e1
              have : (i * tsz V (.int .u8) + 0) = i := by simp [tsz]
              rw [this] at k1
              rw [k1]
              exact congrArg (fun n => some (Value.int .u8 n)) (getD_int xs i hi).symm
        · cases h7
      · cases h6
    · rename_i hk2
      rw [hk2] at p3
      split at h4
      · rename_i b
        refine ⟨_, h4, rfl, rfl, fun c g s w ux uy hm ha hx _ => ?_⟩
        have e := RepP.strv hx
        subst e
        refine ⟨_, ?_, hx⟩
        simp only [convert, Sem.run_bind, run_underlying p1, run_underlying q1, Result.andThen_ok]
        cases d' <;> first | rfl | skip
      · cases h4
    · cases h4
  · cases h4
/-! ## Parts of strings and rows -/
theorem numOf_run {x : Option (AV E)} {n : Option Int} (h : numOf x = some n) {v : Option Value} (hx : ∀ y, x = some y → ∃ u, v = some u ∧ RepA V c g s w y u) (hn : x = none → v = none) : (n = none ∧ v = none) ∨ ∃ k l, n = some l ∧ v = some (.int k l) := by
  unfold numOf at h
  split at h
  · injection h with h; exact .inl ⟨h.symm, hn rfl⟩
  · injection h with h
    obtain ⟨u, h1, h2⟩ := hx _ rfl
    obtain ⟨rfl, _⟩ := RepP.intv h2
    exact .inr ⟨_, _, h.symm, h1⟩
  · cases h
theorem run_bound {k : IntKind} {i : Int} {y : Nat} (code : BoundsCode) (h0 : 0 ≤ i) (h1 : i ≤ y) : (Instr.sliceBound (.int k i) y code).run P w = .ok i.toNat w := by
  simp [Instr.sliceBound, asIntOf, h0, h1]
theorem extract_le (b : ByteArray) (l h : Nat) (hb : b.size ≤ maxLen) : (b.extract l h).size ≤ maxLen := by
  rw [ByteArray.size_extract]
  omega
/-- What a part comes to. -/
def SliceS (P : Program) (V : Lv E) (s0 : St E) (t : TypeId) (x : AV E) (lo hi : Option (AV E)) (ef : Ef E) : Prop :=
  ef.wb = [] ∧ ef.wr = [] ∧ ∀ (c : Cx) (g : Gh) (s : St E) (w : World) (ux : Value) (vl vh : Option Value), RelG V c g s w → Ag s s0 ef → RepA V c g s w x ux →
    (∀ y, lo = some y → ∃ u, vl = some u ∧ RepA V c g s w y u) → (lo = none → vl = none) → (∀ y, hi = some y → ∃ u, vh = some u ∧ RepA V c g s w y u) → (hi = none → vh = none) →
    ∃ v, (Instr.sliceAt t ux vl vh none).run P w = .ok v w ∧ RepA V c g s w ef.v v
theorem run_slice_str {t : TypeId} (q1 : P.underlying t = some .string) (b : ByteArray) (vl vh : Option Value) (l h : Nat) (hh : (match vh with | some v => Instr.sliceBound v b.size .sliceAlen | none => pure b.size : Sem Nat).run P w = .ok h w)
    (hl : (match vl with | some v => Instr.sliceBound v h .sliceB | none => pure 0 : Sem Nat).run P w = .ok l w) : (Instr.sliceAt t (.string b) vl vh none).run P w = .ok (.string (b.extract l h)) w := by
  have h1 : (Instr.sliceBounds false b.size b.size vl vh none).run P w = .ok (l, h, b.size) w := by
    cases vl <;> cases vh <;> simp_all [Instr.sliceBounds]
  simp [Instr.sliceAt, run_underlying q1, Instr.slice, h1]
theorem run_slice_row {t e : TypeId} {sz : Nat} (q1 : P.underlying t = some (.slice e)) (hs : (sizeOf e).run P w = .ok sz w) (A : Option Addr) (len cap : Nat) (vl vh : Option Value) (l h : Nat) (hh : (match vh with | some v => Instr.sliceBound v cap .sliceAcap | none => pure len : Sem Nat).run P w = .ok h w)
    (hl : (match vl with | some v => Instr.sliceBound v h .sliceB | none => pure 0 : Sem Nat).run P w = .ok l w) : (Instr.sliceAt t (.slice A len cap) vl vh none).run P w = .ok (.slice (if cap = l then A else A.map (·.add (l * sz))) (h - l) (cap - l)) w := by
  have h1 : (Instr.sliceBounds true len cap vl vh none).run P w = .ok (l, h, cap) w := by
    cases vl <;> cases vh <;> simp_all [Instr.sliceBounds]
  simp [Instr.sliceAt, run_underlying q1, Instr.slice, h1, hs]
theorem sliceE_sound (hV : LvOk V) (hT : TabOk P V Γ) {t : TypeId} {x : AV E} {lo hi : Option (AV E)} {K : Ef E → Prop} (h : sliceE Γ s0 t x lo hi K) : ∃ ef, K ef ∧ SliceS P V s0 t x lo hi ef := by
  unfold sliceE at h
  obtain ⟨ti, h1, h2⟩ := tyE_out h
  clear h
  obtain ⟨d, q1, q2, q3, q4⟩ := (hT t ti h1).d
  split at h2
  · rename_i b
    split at h2
    · rename_i l hh hk hlo hhi
      rw [hk] at q4
      have q4 : d = .string := q4
      subst q4
      obtain ⟨⟨b1, b2, b3⟩, h3⟩ := Ob_out h2
      refine ⟨_, h3, rfl, rfl, fun c g s w ux vl vh hm ha hx x1 x2 x3 x4 => ?_⟩
      have hsz := RepP.strl hx
      have e := RepP.strv hx
      subst e
      obtain ⟨k1, l1, e1, rfl⟩ := (numOf_run hlo x1 x2).resolve_left (fun h => by cases h.1)
      obtain ⟨k2, l2, e2, rfl⟩ := (numOf_run hhi x3 x4).resolve_left (fun h => by cases h.1)
      cases e1
      cases e2
      exact ⟨_, run_slice_str q1 b _ _ l.toNat hh.toNat (run_bound _ (by omega) b3) (run_bound _ b1 (by omega)), .str (extract_le _ _ _ hsz)⟩
    · rename_i l hk hlo hhi
      rw [hk] at q4
      have q4 : d = .string := q4
      subst q4
      obtain ⟨⟨b1, b2⟩, h3⟩ := Ob_out h2
      refine ⟨_, h3, rfl, rfl, fun c g s w ux vl vh hm ha hx x1 x2 x3 x4 => ?_⟩
      have hsz := RepP.strl hx
      have e := RepP.strv hx
      subst e
      obtain ⟨k1, l1, e1, rfl⟩ := (numOf_run hlo x1 x2).resolve_left (fun h => by cases h.1)
      obtain ⟨_, rfl⟩ := (numOf_run hhi x3 x4).resolve_right (fun ⟨_, _, h, _⟩ => by cases h)
      cases e1
      exact ⟨_, run_slice_str q1 b _ _ l.toNat b.size rfl (run_bound _ b1 (by omega)), .str (extract_le _ _ _ hsz)⟩
    · rename_i hh hk hlo hhi
      rw [hk] at q4
      have q4 : d = .string := q4
      subst q4
      obtain ⟨⟨b1, b2⟩, h3⟩ := Ob_out h2
      refine ⟨_, h3, rfl, rfl, fun c g s w ux vl vh hm ha hx x1 x2 x3 x4 => ?_⟩
      have hsz := RepP.strl hx
      have e := RepP.strv hx
      subst e
      obtain ⟨_, rfl⟩ := (numOf_run hlo x1 x2).resolve_right (fun ⟨_, _, h, _⟩ => by cases h)
      obtain ⟨k2, l2, e2, rfl⟩ := (numOf_run hhi x3 x4).resolve_left (fun h => by cases h.1)
      cases e2
      exact ⟨_, run_slice_str q1 b _ _ 0 hh.toNat (run_bound _ b1 b2) rfl, .str (extract_le _ _ _ hsz)⟩
    · cases h2
  · rename_i fr t' xs
    split at h2
    · rename_i e hk
      rw [hk] at q3
      have q3 : d = .slice e := q3
      subst q3
      obtain ⟨te, h3, h4⟩ := tyE_out h2
      clear h2
      have hte := hT e te h3
      split at h4
      · rename_i hh hty hlo hhi
        obtain ⟨⟨b1, b2⟩, h5⟩ := Ob_out h4
        refine ⟨_, h5, rfl, rfl, fun c g s w ux vl vh hm ha hx x1 x2 x3 x4 => ?_⟩
        obtain ⟨_, rfl⟩ := (numOf_run hlo x1 x2).resolve_right (fun ⟨_, _, h, _⟩ => by cases h)
        obtain ⟨k2, l2, e2, rfl⟩ := (numOf_run hhi x3 x4).resolve_left (fun h => by cases h.1)
        cases e2
        have hx : RepP V w (FF c g) (.row fr t' xs) ux := hx
        cases hx with
        | nil =>
          rename_i A cap
          have : hh = 0 := by simp at b2; omega
          subst this
          refine ⟨_, run_slice_row q1 (run_size hte w) A 0 cap _ _ 0 0 (run_bound _ (by omega) (by omega)) rfl, ?_⟩
          exact .nil
        | row u hl hm' hF hc hr =>
          rename_i b o cap
          have hn : hh.toNat ≤ xs.length := by omega
          have hlt : (xs.take hh.toNat).length = hh.toNat := by simp; omega
          refine ⟨_, run_slice_row q1 (run_size hte w) _ xs.length cap _ _ 0 hh.toNat (run_bound _ (by omega) (by omega)) rfl, ?_⟩
          have e1 : (if cap = 0 then (some (⟨b, o, none⟩ : Addr)) else (some (⟨b, o, none⟩ : Addr)).map (·.add (0 * te.size))) = some ⟨b, o, none⟩ := by
            split
            · rfl
            · simp [Addr.add]
          rw [e1, Nat.sub_zero, Nat.sub_zero]
          have := RepP.row (V := V) (w := w) (F := FF c g) (fr := fr) (xs := xs.take hh.toNat) (b := b) (o := o) (c := cap) u (by omega) (by omega) hF (fun j x i l hj hi => hc j x i l (by rw [List.getElem?_take] at hj; split at hj; exact hj; cases hj) hi)
            (fun j x i l hj hi => hr j x i l (by rw [List.getElem?_take] at hj; split at hj; exact hj; cases hj) hi)
          rw [hlt] at this
          exact this
      · rename_i l hty hlo hhi
        have hT' : tsz V t' = te.size := by rw [← hte.el, of_decide_eq_true hty]
        obtain ⟨⟨b1, b2⟩, h5⟩ := Ob_out h4
        refine ⟨_, h5, rfl, rfl, fun c g s w ux vl vh hm ha hx x1 x2 x3 x4 => ?_⟩
        obtain ⟨k1, l1, e1, rfl⟩ := (numOf_run hlo x1 x2).resolve_left (fun h => by cases h.1)
        obtain ⟨_, rfl⟩ := (numOf_run hhi x3 x4).resolve_right (fun ⟨_, _, h, _⟩ => by cases h)
        cases e1
        have hx : RepP V w (FF c g) (.row fr t' xs) ux := hx
        cases hx with
        | nil =>
          rename_i A cap
          have : l = 0 := by simp at b2; omega
          subst this
          refine ⟨_, run_slice_row q1 (run_size hte w) A 0 cap _ _ 0 0 rfl (run_bound _ (by omega) (by omega)), ?_⟩
          exact .nil
        | row u hl hm' hF hc hr =>
          rename_i b o cap
          have hn : l.toNat ≤ xs.length := by omega
          refine ⟨_, run_slice_row q1 (run_size hte w) _ xs.length cap _ _ l.toNat xs.length rfl (run_bound _ b1 (by omega)), ?_⟩
          have hlt : (xs.drop l.toNat).length = xs.length - l.toNat := by simp
          by_cases hcap : cap = l.toNat
          · rw [if_pos hcap]
            have h0 : xs.drop l.toNat = [] := List.drop_eq_nil_of_le (by omega)
            have h1 : xs.length - l.toNat = 0 := by omega
            rw [h0, h1]
            exact .nil
          · rw [if_neg hcap]
            show RepP V w (FF c g) _ (.slice (some ((⟨b, o, none⟩ : Addr).add (l.toNat * te.size))) _ _)
            rw [addr_add]
            have := RepP.row (V := V) (w := w) (F := FF c g) (fr := fr) (xs := xs.drop l.toNat) (b := b) (o := o + l.toNat * te.size) (c := cap - l.toNat) (fun j i => u (l.toNat + j) i) (by omega) (by omega) hF (fun j x i l' hj hi => ?_) (fun j x i l' hj hi => ?_)
            · rw [hlt] at this; exact this
            · rw [List.getElem?_drop] at hj
              have := hc _ x i l' hj hi
              rw [← this]
              congr 2
              rw [hT', Nat.add_mul]
              omega
            · rw [List.getElem?_drop] at hj
              exact hr _ x i l' hj hi
      · cases h4
    · cases h2
  · rename_i r vr
    split at h2
    · rename_i e hk
      rw [hk] at q3
      have q3 : d = .slice e := q3
      subst q3
      obtain ⟨te, h3, h4⟩ := tyE_out h2
      clear h2
      have hte := hT e te h3
      split at h4
      · rename_i ver' e' t' xs hrw
        split at h4
        · rename_i hh hv hlo hhi
          have hv := Nat.eq_of_beq_eq_true hv
          subst hv
          obtain ⟨⟨b1, b2⟩, h5⟩ := Ob_out h4
          refine ⟨_, h5, rfl, rfl, fun c g s w ux vl vh hm ha hx x1 x2 x3 x4 => ?_⟩
          obtain ⟨_, rfl⟩ := (numOf_run hlo x1 x2).resolve_right (fun ⟨_, _, h, _⟩ => by cases h)
          obtain ⟨k2, l2, e2, rfl⟩ := (numOf_run hhi x3 x4).resolve_left (fun h => by cases h.1)
          cases e2
          obtain ⟨row, k1, k3, k4⟩ := hx
          have hrs := (ha.2 r (by simp)).trans hrw
          have k1' := k1
          rw [hrs] at k1
          injection k1 with k1
          subst k1
          have hux : ux = g.rv r := k4 rfl rfl
          obtain ⟨cells, o1, o2, o3⟩ := hm.row r _ hrs rfl
          have hread := own_read (hm.row r _ hrs rfl)
          obtain ⟨A, cap, e3, hl1, hl2⟩ := rowRead_len hread
          have e3 : g.rv r = .slice A xs.length cap := e3
          have hl1 : xs.length ≤ cap := hl1
          rw [hux, e3]
          refine ⟨_, run_slice_row q1 (run_size hte w) A xs.length cap _ _ 0 hh.toNat (run_bound _ (by omega) (by omega)) rfl, _, k1', Nat.le_refl _, fun _ _ => ⟨?_, A, cap, e3, ?_⟩⟩
          · show hh.toNat ≤ xs.length; omega
          · have e1 : (if cap = 0 then A else A.map (·.add (0 * te.size))) = A := by
              split
              · rfl
              · cases A <;> simp [Addr.add]
            rw [e1, Nat.sub_zero, Nat.sub_zero]
        · cases h4
      · cases h4
    · cases h2
  · cases h2
end
end Go.Tx
set_option linter.unusedVariables false
set_option linter.unusedSimpArgs false
namespace Go.Tx
open Go.RowKit
section
variable {E : Env} {V : Lv E} {Γ : Nat → Option (TI E)} {P : Program} {c : Cx} {g g' : Gh} {s s0 : St E} {w w' : World} {a : Act}

def argF (imm lent : Nat → Prop) (fr : Fr) (k : Nat) : Prop :=
  match fr with
  | .lent => imm k ∨ lent k
  | _ => imm k
inductive ArgsRep (V : Lv E) (w : World) (F : Fr → Nat → Prop) : List (PA E) → List Value → List Nat → Prop where
  | nil : ArgsRep V w F [] [] []
  | lf {l v ps vs bs} (h : RepP V w F l v) (r : ArgsRep V w F ps vs bs) : ArgsRep V w F (.lf l :: ps) (v :: vs) bs
  | agg {ls ps vs bs} {cs : Array Value} (h : RepL V w F ls cs.toList) (r : ArgsRep V w F ps vs bs) : ArgsRep V w F (.agg ls :: ps) (.agg cs :: vs) bs
  | ref {ty ls b ps vs bs} {cs : Array Value} (hb : w.heap[b]? = some (.cells cs ty (0, 0))) (h : RepL V w F ls cs.toList) (r : ArgsRep V w F ps vs bs) : ArgsRep V w F (.ref ty ls :: ps) (.pointer (some ⟨b, 0, none⟩) :: vs) (b :: bs)
inductive ResRep (V : Lv E) (n0 : Nat) (w : World) (F : Fr → Nat → Prop) : List (RV E) → List Value → List Nat → Prop where
  | nil : ResRep V n0 w F [] [] []
  | lf {l v rs vs bs} (h : RepP V w F l v) (r : ResRep V n0 w F rs vs bs) : ResRep V n0 w F (.lf l :: rs) (v :: vs) bs
  | agg {ls rs vs bs} {cs : Array Value} (h : RepL V w F ls cs.toList) (r : ResRep V n0 w F rs vs bs) : ResRep V n0 w F (.agg ls :: rs) (.agg cs :: vs) bs
  | own {e t xs v rs vs bs} (cells : List Value) (ho : w.ownsRow n0 e (tsz V t) v xs.length cells) (hel : ElRep V w F t xs cells) (hs : 0 < tsz V t) (r : ResRep V n0 w F rs vs bs) : ResRep V n0 w F (.own e t xs :: rs) (v :: vs) (v.ownBlock.toList ++ bs)
  | ref {ty ls b rs vs bs} {cs : Array Value} (hb : w.heap[b]? = some (.cells cs ty (0, 0))) (h : RepL V w F ls cs.toList) (hn : n0 ≤ b) (r : ResRep V n0 w F rs vs bs) : ResRep V n0 w F (.ref ty ls :: rs) (.pointer (some ⟨b, 0, none⟩) :: vs) (b :: bs)
/-- The variables that were handed on hold these cells now. -/
inductive RefsRep (V : Lv E) (w w' : World) (F : Fr → Nat → Prop) : List Nat → List (List (Lf E)) → Prop where
  | nil : RefsRep V w w' F [] []
  | cons {b bs ls cs ty} {c0 c1 : Array Value} (h0 : w.heap[b]? = some (.cells c0 ty (0, 0))) (h1 : w'.heap[b]? = some (.cells c1 ty (0, 0))) (h : RepL V w' F ls c1.toList) (r : RefsRep V w w' F bs cs) : RefsRep V w w' F (b :: bs) (ls :: cs)
def tupV : List Value → Value
  | [v] => v
  | vs => .tuple vs.toArray
structure Post (V : Lv E) (w w' : World) (imm lent : Nat → Prop) (rbs : List Nat) (res : List (RV E)) (cells : List (List (Lf E))) (v : Value) : Prop where
  os : w'.os = w.os
  tape : w'.tape = w.tape
  output : w'.output = w.output
  size : w.heap.size ≤ w'.heap.size
  old : ∀ k, k < w.heap.size → k ∉ rbs → w'.heap[k]? = w.heap[k]?
  res : ∃ (Zn : Nat → Prop) (us : List Value) (bs : List Nat), (∀ k, Zn k → w.heap.size ≤ k ∧ k < w'.heap.size) ∧ bs.Nodup ∧ (∀ b ∈ bs, ¬ Zn b) ∧ v = tupV us ∧
    ResRep V w.heap.size w' (fun fr k => Zn k ∨ argF imm lent fr k ∧ fr ≠ .made) res us bs ∧ RefsRep V w w' (fun fr k => Zn k ∨ argF imm lent fr k ∧ fr ≠ .made) rbs cells
/-- A call of function 'f' comes to a value and a world that 'R' takes. -/
def Enters (P : Program) (f : FuncId) (args : Array Value) (w : World) (R : Value → World → Prop) : Prop :=
  ∀ (o : Oper) (a : Act) (next : Act → World → Prop) (Q : Exit → Act → World → Prop), (∀ v w', R v w' → next (a.put o.dst v) w') → o.upon P a next Q ((callFunc f args).run P w)
theorem Enters.mono {f : FuncId} {args : Array Value} {R R' : Value → World → Prop} (h : Enters P f args w R) (hr : ∀ v w', R v w' → R' v w') : Enters P f args w R' :=
  fun o a next Q hn => h o a next Q fun v w' hv => hn v w' (hr v w' hv)
theorem enters_of_calls {f : FuncId} {fn : Func} {args : Array Value} {R : Value → World → Prop} (hf : P.funcs[f]? = some fn) (hb : fn.body.isSome = true) (hn : (fn.name == "runtime.NumGoroutine") = false)
    (h : Calls P f args w fun e w' => ∃ v, e = .returned v ∧ R v w') : Enters P f args w R := by
  intro o a next Q hk
  have : (callFunc f args).run P w = .ok (.enter f args) w := by
    have h1 : fn.name ≠ "runtime.NumGoroutine" := by simpa using hn
    obtain ⟨c, hc⟩ := Option.isSome_iff_exists.1 hb
    simp [callFunc, hf, h1, hc, mark]
  rw [this, Oper.upon_enter]
  refine h.mono fun e w' he => ?_
  obtain ⟨v, rfl, hv⟩ := he
  exact hk v w' hv
def CSem (P : Program) (V : Lv E) (f : FuncId) (ps : List (PA E)) (res : List (RV E)) (cells : List (List (Lf E))) : Prop :=
  ∀ (w : World) (imm lent : Nat → Prop) (vs : List Value) (rbs : List Nat), (∀ k, imm k ∨ lent k → k < w.heap.size ∧ k ∉ rbs) → rbs.Nodup → ArgsRep V w (argF imm lent) ps vs rbs →
    Enters P f vs.toArray w fun v w' => Post V w w' imm lent rbs res cells v

theorem nodup_iff {l : List Nat} : nodup l = true ↔ l.Nodup := by
  induction l with
  | nil => simp [nodup]
  | cons n r ih =>
    simp only [nodup, Bool.and_eq_true, Bool.not_eq_true', ih, List.nodup_cons]
    refine and_congr ⟨fun h hm => ?_, fun h => ?_⟩ Iff.rfl
    · have := List.any_eq_false.1 h n hm
      exact this (Nat.beq_refl n)
    · exact List.any_eq_false.2 fun x hx e => h (by rw [Nat.eq_of_beq_eq_true e]; exact hx)
theorem updL_cases {α : Type} (f : Nat → Option α) : ∀ (l : List (Nat × α)) (n : Nat) (x : α), updL f l n = some x → (n, x) ∈ l ∨ (n ∉ keys l ∧ f n = some x)
  | [], n, x, h => .inr ⟨by simp [keys], h⟩
  | (m, y) :: r, n, x, h => by
    simp only [updL] at h
    by_cases hn : n = m
    · subst hn
      rw [upd_eq] at h
      injection h with h
      subst h
      exact .inl (by simp)
    · rw [upd_ne _ _ hn] at h
      rcases updL_cases f r n x h with h | ⟨h1, h2⟩
      · exact .inl (List.mem_cons_of_mem _ h)
      · exact .inr ⟨by simp [keys, hn, h1], h2⟩
theorem mem_keys {α : Type} {l : List (Nat × α)} {n : Nat} {x : α} (h : (n, x) ∈ l) : n ∈ keys l := by
  induction l with
  | nil => cases h
  | cons y r ih =>
    obtain ⟨m, z⟩ := y
    rcases List.mem_cons.1 h with h | h
    · injection h with h1 h2; subst h1; simp [keys]
    · simp [keys, ih h]
theorem updL_mem {α : Type} (f : Nat → Option α) : ∀ (l : List (Nat × α)), (keys l).Nodup → ∀ n x, (n, x) ∈ l → updL f l n = some x
  | [], _, n, x, h => by cases h
  | (m, y) :: r, hd, n, x, h => by
    simp only [keys, List.nodup_cons] at hd
    rcases List.mem_cons.1 h with h | h
    · injection h with h1 h2
      subst h1 h2
      simp only [updL, upd_eq]
    · have hn : n ≠ m := fun e => hd.1 (e ▸ mem_keys h)
      simp only [updL]
      rw [upd_ne _ _ hn]
      exact updL_mem f r hd.2 n x h
/-- The world behind a call: the variables that were handed on have turned, and there are new blocks, some of them read only. -/
theorem RelG.callStep (h : RelG V c g s w) (wb : List (Nat × Bx E)) (Zn : Nat → Prop) (hos : w'.os = w.os) (htape : w'.tape = w.tape) (hout : w'.output = w.output) (hsize : w.heap.size ≤ w'.heap.size)
    (hsame : ∀ k, k < w.heap.size → (∀ b ∈ keys wb, g.bb b ≠ k) → w'.heap[k]? = w.heap[k]?) (hzn : ∀ k, Zn k → w.heap.size ≤ k ∧ k < w'.heap.size) (hnd : (keys wb).Nodup)
    (hwb : ∀ b bx, (b, bx) ∈ wb → (∃ bx0, s.bx b = some bx0 ∧ bx.gen = bx0.gen) ∧ ∃ cs : Array Value, w'.heap[g.bb b]? = some (.cells cs bx.ty (0, 0)) ∧ RepL V w' (FF c ⟨fun k => g.Z k ∨ Zn k, g.bb, g.rv⟩) bx.cells cs.toList) :
    RelG V c ⟨fun k => g.Z k ∨ Zn k, g.bb, g.rv⟩ ⟨s.sl, updL s.bx wb, s.rw⟩ w' ∧ Later c g ⟨fun k => g.Z k ∨ Zn k, g.bb, g.rv⟩ s ⟨s.sl, updL s.bx wb, s.rw⟩ w w' := by
  have hkey : ∀ b, b ∈ keys wb → ∃ bx, (b, bx) ∈ wb := by
    intro b hb
    clear hsame hnd hwb
    induction wb with
    | nil => cases hb
    | cons y r ih =>
      obtain ⟨m, z⟩ := y
      rcases List.mem_cons.1 hb with hb | hb
      · subst hb; exact ⟨z, by simp⟩
      · obtain ⟨x, hx⟩ := ih hb; exact ⟨x, List.mem_cons_of_mem _ hx⟩
  have hno : ∀ k, FF c g .lent k → ∀ b ∈ keys wb, g.bb b ≠ k := fun k hk b hb => by
    obtain ⟨bx, hx⟩ := hkey b hb
    obtain ⟨⟨bx0, h1, _⟩, _⟩ := hwb b bx hx
    exact h.FFbox hk h1
  have hF : ∀ b k, FF c g b k → w'.heap[k]? = w.heap[k]? := fun b k hk => hsame k (h.FFlt (FF.false b k hk)) (hno k (FF.false b k hk))
  have hE : ∀ b k, FF c g b k → FF c ⟨fun k => g.Z k ∨ Zn k, g.bb, g.rv⟩ b k := FF.ext fun k hk => .inl hk
  have hold : ∀ b bx, updL s.bx wb b = some bx → ∃ bx0, s.bx b = some bx0 := by
    intro b bx hb
    rcases updL_cases _ _ _ _ hb with hb | ⟨_, hb⟩
    · obtain ⟨⟨bx0, h1, _⟩, _⟩ := hwb b bx hb
      exact ⟨bx0, h1⟩
    · exact ⟨bx, hb⟩
  have hrk : ∀ r row, s.rw r = some row → row.live = true → ∀ k, (g.rv r).ownBlock = some k → w'.heap[k]? = w.heap[k]? := by
    intro r row hr hl k hk
    refine hsame k (h.rowLt hr hl hk).2.1 fun b hb => ?_
    obtain ⟨bx, hx⟩ := hkey b hb
    obtain ⟨⟨bx0, h1, _⟩, _⟩ := hwb b bx hx
    exact (h.rowAt r row hr hl k hk).2 b bx0 h1
  refine ⟨⟨hos.trans h.os, htape.trans h.tape, hout.trans h.output, Nat.le_trans h.size hsize, fun k h1 h2 => ?_, h.imm, fun k hk => ?_, fun b bx hb => ?_, fun b bx hb => ?_, fun b b' bx bx' h1 h2 he => ?_, fun r row hr hl => ?_, fun r row hr hl k hk => ⟨?_, fun b bx hb => ?_⟩, h.rowInj⟩,
    ⟨fun k hk => .inl hk, fun k hk => hF .lent k hk, fun b x hx => ?_, fun r x h => ⟨x, h, Nat.le_refl _, fun h1 _ => ⟨h1, rfl, rfl, rfl⟩⟩⟩⟩
  · rw [hsame k (Nat.lt_of_lt_of_le h1 h.size) fun b hb e => ?_]
    · exact h.old k h1 h2
    · obtain ⟨bx, hx⟩ := hkey b hb
      obtain ⟨⟨bx0, h3, _⟩, _⟩ := hwb b bx hx
      rcases (h.boxAt b bx0 h3).1 with h4 | h4
      · omega
      · exact h2 (e ▸ h4)
  · rcases hk with hk | hk
    · exact ⟨(h.zed k hk).1, Nat.lt_of_lt_of_le (h.zed k hk).2 hsize⟩
    · exact ⟨Nat.le_trans h.size (hzn k hk).1, (hzn k hk).2⟩
  · rcases updL_cases _ _ _ _ hb with hb | ⟨hn, hb⟩
    · exact (hwb b bx hb).2
    · obtain ⟨cs, h1, h2⟩ := h.box b bx hb
      refine ⟨cs, ?_, h2.move hE hF⟩
      rw [hsame _ (heap_lt h1) fun b' hb' e => ?_]
      · exact h1
      · obtain ⟨bx', hx'⟩ := hkey b' hb'
        obtain ⟨⟨bx0, h3, _⟩, _⟩ := hwb b' bx' hx'
        have := h.boxInj b' b bx0 bx h3 hb e
        exact hn (this ▸ hb')
  · obtain ⟨bx0, h1⟩ := hold b bx hb
    refine ⟨(h.boxAt b bx0 h1).1, ?_⟩
    rintro (hz | hz)
    · exact (h.boxAt b bx0 h1).2 hz
    · have h5 : w.heap.size ≤ g.bb b := (hzn _ hz).1
      have h6 : g.bb b < w.heap.size := h.boxLt h1
      omega
  · obtain ⟨y1, h3⟩ := hold b bx h1
    obtain ⟨y2, h4⟩ := hold b' bx' h2
    exact h.boxInj b b' y1 y2 h3 h4 he
  · obtain ⟨cells, h1, h2, h3⟩ := h.row r row hr hl
    exact ⟨cells, ownsRow_heap h1 (fun k hk => hrk r row hr hl k hk), h2.move hE hF, h3⟩
  · rintro (hz | hz)
    · exact (h.rowAt r row hr hl k hk).1 hz
    · have := (hzn _ hz).1; have := (h.rowLt hr hl hk).2.1; omega
  · obtain ⟨bx0, h1⟩ := hold b bx hb
    exact (h.rowAt r row hr hl k hk).2 b bx0 h1
  · by_cases hb : b ∈ keys wb
    · obtain ⟨bx, hbx⟩ := hkey b hb
      obtain ⟨⟨bx0, h1, h2⟩, _⟩ := hwb b bx hbx
      rw [hx] at h1
      injection h1 with h1
      subst h1
      exact ⟨bx, updL_mem _ _ hnd _ _ hbx, by omega, fun _ => rfl⟩
    · exact ⟨x, by rw [show (⟨s.sl, updL s.bx wb, s.rw⟩ : St E).bx b = updL s.bx wb b from rfl, updL_ne _ _ _ hb]; exact hx, Nat.le_refl _, fun _ => rfl⟩
end
end Go.Tx
set_option linter.unusedVariables false
set_option linter.unusedSimpArgs false
namespace Go.Tx
open Go.RowKit
section
variable {E : Env} {V : Lv E} {Γ : Nat → Option (TI E)} {P : Program} {c : Cx} {g g' : Gh} {s s0 : St E} {w w' : World} {a : Act}

/-! ## What is handed on -/
theorem RowRead.lent {F F' : Fr → Nat → Prop} {t : Ty} {xs : List (El E t)} {v : Value} (h : RowRead V w F .made t xs v) (hm : Mono F) (hF : ∀ b k, F b k → F' b k) (hb : ∀ k, v.ownBlock = some k → F' .lent k) : RepP V w F' (.row .lent t xs) v := by
  obtain ⟨A, cap, rfl, h1, h2, h3⟩ := h
  rcases h3 with h3 | ⟨b, o, rfl, h4⟩
  · subst h3; exact .nil
  · refine .row (fun j i => (w.cell? ⟨b, o + (j * tsz V t + i), none⟩).getD undef) h1 h2 (hb b rfl) (fun j x i l hj hi => ?_) (fun j x i l hj hi => ?_)
    · obtain ⟨u, h5, h6⟩ := h4 j x i l hj hi; rw [h5]; rfl
    · obtain ⟨u, h5, h6⟩ := h4 j x i l hj hi
      rw [h5]
      have := (h6.weak hm .lent (Fr.le_lent _)).move hF (fun _ _ _ => rfl)
      rw [flag_flag] at this
      exact this
theorem ownRead (hm : RelG V c g s w) {r v' : Nat} {e : TypeId} {t : Ty} {xs : List (El E t)} (hr : s.rw r = some ⟨true, v', e, t, xs⟩) {m : Option Nat} {v : Value} (hv : OwnVal g r ⟨true, v', e, t, xs⟩ m v) :
    RowRead V w (FF c g) .made t (tkO m xs) v ∧ v.ownBlock = (g.rv r).ownBlock := by
  have h := own_read (hm.row r _ hr rfl)
  cases m with
  | none => have hv : v = g.rv r := hv; subst hv; exact ⟨h, rfl⟩
  | some n =>
    obtain ⟨hn, A, cap, h1, rfl⟩ := hv
    have h : RowRead V w (FF c g) .made t xs (g.rv r) := h
    have h1 : g.rv r = .slice A xs.length cap := h1
    rw [h1] at h
    refine ⟨h.take n hn, ?_⟩
    rw [h1]
    cases A <;> rfl
/-- A row of the caller's own, that is handed on. -/
def handed (g : Gh) (s : St E) (rr : List Nat) (k : Nat) : Prop := ∃ r ∈ rr, ∃ row, s.rw r = some row ∧ row.live = true ∧ (g.rv r).ownBlock = some k
theorem paOf_sound (hT : TabOk P V Γ) {tt : TypeId} {x : AV E} {K : PA E → List Nat → List Nat → Prop} (h : paOf Γ s0 tt x K) :
    ∃ p rb rr, K p rb rr ∧ ∀ (c : Cx) (g : Gh) (s : St E) (w : World) (F' : Fr → Nat → Prop) (v : Value), RelG V c g s w → (∀ b ∈ rb, s.bx b = s0.bx b) → (∀ r ∈ rr, s.rw r = s0.rw r) → RepA V c g s w x v →
      (∀ b k, FF c g b k → F' b k) → (∀ k, handed g s rr k → F' .lent k) → ∀ ps vs bs, ArgsRep V w F' ps vs bs → ArgsRep V w F' (p :: ps) (v :: vs) (rb.map g.bb ++ bs) := by
  unfold paOf at h
  split at h
  · exact ⟨_, _, _, h, fun c g s w F' v hm _ _ hx hF _ ps vs bs hr => .lf (hx.move hF fun _ _ _ => rfl) hr⟩
  · refine ⟨_, _, _, h, fun c g s w F' v hm _ _ hx hF _ ps vs bs hr => ?_⟩
    obtain ⟨cs, rfl, hx⟩ := hx
    exact .agg (hx.move hF fun _ _ _ => rfl) hr
  · obtain ⟨ti, h1, h2⟩ := tyE_out h
    split at h2
    · obtain ⟨te, h3, h4⟩ := tyE_out h2
      refine ⟨_, _, _, h4, fun c g s w F' v hm _ _ hx hF _ ps vs bs hr => ?_⟩
      have hx : v = .slice none 0 0 := hx
      subst hx
      exact .lf .nil hr
    · cases h2
  · rename_i b gn
    split at h
    · rename_i g' ty cells hb
      split at h
      · rename_i hg
        have hg := Nat.eq_of_beq_eq_true hg
        subst hg
        refine ⟨_, _, _, h, fun c g s w F' v hm ha _ hx hF _ ps vs bs hr => ?_⟩
        have hbs : s.bx b = some ⟨gn, ty, cells⟩ := (ha b (by simp)).trans hb
        obtain ⟨bx, h1, h2, h3⟩ := hx
        rw [hbs] at h1
        injection h1 with h1
        subst h1
        have h3 : v = .pointer (some ⟨g.bb b, 0, none⟩) := h3 rfl
        subst h3
        obtain ⟨cs, h4, h5⟩ := hm.box b _ hbs
        exact .ref h4 (h5.move hF fun _ _ _ => rfl) hr
      · cases h
    · cases h
  · rename_i r vr m
    unfold rowOf at h
    dsimp only at h
    split at h
    · rename_i ver' e t xs hr
      split at h
      · rename_i hb
        have hb := Nat.eq_of_beq_eq_true hb
        subst hb
        have key : ∀ (K : PA E → List Nat → List Nat → Prop), K (.lf (.row .lent t (tkO m xs))) [] [r] → ∃ p rb rr, K p rb rr ∧ ∀ (c : Cx) (g : Gh) (s : St E) (w : World) (F' : Fr → Nat → Prop) (v : Value), RelG V c g s w → (∀ b ∈ rb, s.bx b = s0.bx b) → (∀ r ∈ rr, s.rw r = s0.rw r) → RepA V c g s w (.f (.own r vr m)) v →
            (∀ b k, FF c g b k → F' b k) → (∀ k, handed g s rr k → F' .lent k) → ∀ ps vs bs, ArgsRep V w F' ps vs bs → ArgsRep V w F' (p :: ps) (v :: vs) (rb.map g.bb ++ bs) := by
          intro K hk
          refine ⟨_, _, _, hk, fun c g s w F' v hm _ ha hx hF hl ps vs bs hrest => ?_⟩
          have hrs := (ha r (by simp)).trans hr
          obtain ⟨row, h1, h2, h3⟩ := hx
          rw [hrs] at h1
          injection h1 with h1
          subst h1
          obtain ⟨h4, h5⟩ := ownRead hm hrs (h3 rfl rfl)
          refine .lf (h4.lent (FF.mono c g) hF fun k hk => hl k ⟨r, by simp, _, hrs, rfl, ?_⟩) hrest
          rw [← h5]; exact hk
        split at h
        · exact key K h
        · exact key K h
      · cases h
    · cases h
  · cases h
theorem pasOf_sound (hT : TabOk P V Γ) : ∀ (xs : List (AV E)) (ts : List TypeId) (K : List (PA E) → List Nat → List Nat → Prop), pasOf Γ s0 xs ts K →
    ∃ ps rb rr, K ps rb rr ∧ ∀ (c : Cx) (g : Gh) (s : St E) (w : World) (F' : Fr → Nat → Prop) (vs : List Value), RelG V c g s w → (∀ b ∈ rb, s.bx b = s0.bx b) → (∀ r ∈ rr, s.rw r = s0.rw r) → AllA V c g s w xs vs →
      (∀ b k, FF c g b k → F' b k) → (∀ k, handed g s rr k → F' .lent k) → ArgsRep V w F' ps vs (rb.map g.bb)
  | [], ts, K, h => by
    refine ⟨[], [], [], by cases ts <;> exact h, fun c g s w F' vs hm _ _ hx hF _ => ?_⟩
    cases hx
    exact .nil
  | x :: r, [], K, h => by cases h
  | x :: r, t :: ts, K, h => by
    simp only [pasOf] at h
    obtain ⟨p, rb, rr, h1, h2⟩ := paOf_sound hT h
    obtain ⟨ps, rb', rr', h3, h4⟩ := pasOf_sound hT r ts _ h1
    refine ⟨_, _, _, h3, fun c g s w F' vs hm hb hr hx hF hl => ?_⟩
    cases hx with
    | cons hx hxr =>
      have := h2 c g s w F' _ hm (fun b hb' => hb b (List.mem_append_left _ hb')) (fun q hq => hr q (List.mem_append_left _ hq)) hx hF (fun k ⟨q, hq, hk⟩ => hl k ⟨q, List.mem_append_left _ hq, hk⟩) _ _ _
        (h4 c g s w F' _ hm (fun b hb' => hb b (List.mem_append_right _ hb')) (fun q hq => hr q (List.mem_append_right _ hq)) hxr hF (fun k ⟨q, hq, hk⟩ => hl k ⟨q, List.mem_append_right _ hq, hk⟩))
      rw [List.map_append]
      exact this

/-! ## With less trust -/
theorem RepP.strip {F : Fr → Nat → Prop} {l l' : Lf E} {v : Value} (h : RepP V w F l v) (hm : Mono F) (he : strip l = strip l') (hle : leL [l] [l'] = true) : RepP V w F l' v := by
  cases l with
  | int k n lo hi =>
    cases l' with
    | int k' n' lo' hi' =>
      simp only [Tx.strip, Lf.int.injEq] at he
      obtain ⟨rfl, rfl, _⟩ := he
      cases lo' <;> cases hi' <;> first | (cases hle; done) | exact h.fgt
    | _ => simp [Tx.strip] at he
  | bool b =>
    cases l' with
    | bool b' => simp only [Tx.strip, Lf.bool.injEq] at he; subst he; exact h
    | _ => simp [Tx.strip] at he
  | str b =>
    cases l' with
    | str b' => simp only [Tx.strip, Lf.str.injEq] at he; subst he; exact h
    | _ => simp [Tx.strip] at he
  | row fr t xs =>
    cases l' with
    | row fr' t' xs' =>
      simp only [Tx.strip, Lf.row.injEq, true_and] at he
      obtain ⟨rfl, he⟩ := he
      cases he
      simp only [leL, Bool.and_true] at hle
      exact h.weak hm fr' hle
    | _ => simp [Tx.strip] at he
theorem leL_cons {l l' : Lf E} {r r' : List (Lf E)} (h : leL (l :: r) (l' :: r') = true) : leL [l] [l'] = true ∧ leL r r' = true := by
  cases l with
  | int k n lo hi =>
    cases l' with
    | int k' n' lo' hi' => cases lo' <;> cases hi' <;> first | (cases h; done) | exact ⟨rfl, h⟩
    | _ => cases h
  | bool b =>
    cases l' with
    | bool b' => exact ⟨rfl, h⟩
    | _ => cases h
  | str b =>
    cases l' with
    | str b' => exact ⟨rfl, h⟩
    | _ => cases h
  | row fr t xs =>
    cases l' with
    | row fr' t' xs' =>
      simp only [leL, Bool.and_true, Bool.and_eq_true] at h ⊢
      exact h
    | _ => cases h
theorem RepL.nil {F : Fr → Nat → Prop} : RepL V w F [] [] := ⟨rfl, fun i l h => by simp at h⟩
theorem RepL.cons {F : Fr → Nat → Prop} {l : Lf E} {v : Value} {ls : List (Lf E)} {vs : List Value} (h : RepP V w F l v) (hr : RepL V w F ls vs) : RepL V w F (l :: ls) (v :: vs) := by
  refine ⟨by simp [hr.1], fun i x hi => ?_⟩
  cases i with
  | zero => injection hi with hi; subst hi; exact ⟨v, rfl, h⟩
  | succ i => exact hr.2 i x (by simpa using hi)
theorem RepL.uncons {F : Fr → Nat → Prop} {l : Lf E} {ls : List (Lf E)} {cs : List Value} (h : RepL V w F (l :: ls) cs) : ∃ v vs, cs = v :: vs ∧ RepP V w F l v ∧ RepL V w F ls vs := by
  cases cs with
  | nil => have := h.1; simp at this
  | cons v vs =>
    refine ⟨v, vs, rfl, ?_, by have := h.1; simpa using this, fun i x hi => ?_⟩
    · obtain ⟨u, h1, h2⟩ := h.2 0 l rfl; injection h1 with h1; subst h1; exact h2
    · obtain ⟨u, h1, h2⟩ := h.2 (i + 1) x (by simpa using hi); exact ⟨u, by simpa using h1, h2⟩
theorem RepL.strip {F : Fr → Nat → Prop} (hm : Mono F) : ∀ (ls ls' : List (Lf E)) (cs : List Value), RepL V w F ls cs → ls.map strip = ls'.map strip → leL ls ls' = true → RepL V w F ls' cs
  | [], ls', cs, h, he, _ => by
    cases ls' with
    | nil => exact h
    | cons => simp at he
  | l :: r, [], cs, h, he, _ => by simp at he
  | l :: r, l' :: r', cs, h, he, hle => by
    obtain ⟨v, vs, rfl, h1, h2⟩ := h.uncons
    simp only [List.map_cons, List.cons.injEq] at he
    obtain ⟨h3, h4⟩ := leL_cons hle
    exact .cons (h1.strip hm he.1 h3) (RepL.strip hm r r' vs h2 he.2 h4)
theorem ArgsRep.strip {F : Fr → Nat → Prop} (hm : Mono F) {ps : List (PA E)} {vs : List Value} {bs : List Nat} (h : ArgsRep V w F ps vs bs) : ∀ (ps' : List (PA E)), ps.map stripP = ps'.map stripP → leP ps ps' = true → ArgsRep V w F ps' vs bs := by
  induction h with
  | nil =>
    intro ps' he _
    cases ps' with
    | nil => exact .nil
    | cons => simp at he
  | lf h _ ih =>
    intro ps' he hle
    cases ps' with
    | nil => simp at he
    | cons p r =>
      simp only [List.map_cons, List.cons.injEq] at he
      cases p <;> simp only [stripP, reduceCtorEq, false_and, PA.lf.injEq] at he
      simp only [leP, Bool.and_eq_true] at hle
      exact .lf (h.strip hm he.1 hle.1) (ih _ he.2 hle.2)
  | agg h _ ih =>
    intro ps' he hle
    cases ps' with
    | nil => simp at he
    | cons p r =>
      simp only [List.map_cons, List.cons.injEq] at he
      cases p <;> simp only [stripP, reduceCtorEq, false_and, PA.agg.injEq] at he
      simp only [leP, Bool.and_eq_true] at hle
      exact .agg (RepL.strip hm _ _ _ h he.1 hle.1) (ih _ he.2 hle.2)
  | ref hb h _ ih =>
    intro ps' he hle
    cases ps' with
    | nil => simp at he
    | cons p r =>
      simp only [List.map_cons, List.cons.injEq] at he
      cases p <;> simp only [stripP, reduceCtorEq, false_and, PA.ref.injEq] at he
      simp only [leP, Bool.and_eq_true] at hle
      obtain ⟨⟨rfl, he1⟩, he2⟩ := he
      exact .ref hb (RepL.strip hm _ _ _ h he1 hle.1) (ih _ he2 hle.2)
theorem argF_mono (imm lent : Nat → Prop) : Mono (argF imm lent) := by
  intro a b k hl h
  cases a <;> cases b <;> simp [Fr.le] at hl <;> simp only [argF] at h ⊢ <;> first | exact h | exact .inl h
end
end Go.Tx
set_option linter.unusedVariables false
set_option linter.unusedSimpArgs false
namespace Go.Tx
open Go.RowKit
section
variable {E : Env} {V : Lv E} {Γ : Nat → Option (TI E)} {P : Program} {c : Cx} {g g' : Gh} {s s0 : St E} {w w' : World} {a : Act}

theorem RepP.moveAt {F F' : Fr → Nat → Prop} {l : Lf E} {v : Value} (h : RepP V w F l v) (hF : ∀ k, F l.fr k → F' l.fr k) : RepP V w F' l v := by
  have key : ∀ {l v}, RepP V w F l v → ∀ b, (∀ k, F b k → F' b k) → ∀ l0, l = flag b l0 → RepP V w F' l v := by
    intro l v h b hF
    induction h with
    | int x y => intro l0 _; exact .int x y
    | bool => intro l0 _; exact .bool
    | str h => intro l0 _; exact .str h
    | nil => intro l0 _; exact .nil
    | row u hl hm' hFb hc hr ih =>
      intro l0 he
      cases l0 <;> simp [flag] at he
      obtain ⟨rfl, rfl, he⟩ := he
      exact .row u hl hm' (hF _ hFb) hc (fun j x i l h1 h2 => ih j x i l h1 h2 l rfl)
  exact key h l.fr hF l (by cases l <;> rfl)
theorem noLent_mem {ls : List (Lf E)} (h : noLent ls = true) : ∀ l ∈ ls, l.fr ≠ .lent := by
  induction ls with
  | nil => intro l hl; cases hl
  | cons x r ih =>
    have hx : x.fr ≠ .lent ∧ noLent r = true := by
      cases x with
      | row fr t xs => cases fr <;> first | (cases h; done) | exact ⟨nofun, h⟩
      | _ => exact ⟨nofun, h⟩
    intro l hl
    rcases List.mem_cons.1 hl with rfl | hl
    · exact hx.1
    · exact ih hx.2 l hl
theorem RepL.moveAt {F F' : Fr → Nat → Prop} {ls : List (Lf E)} {cs : List Value} (h : RepL V w F ls cs) (hn : noLent ls = true) (hF : ∀ b k, b ≠ .lent → F b k → F' b k) : RepL V w F' ls cs :=
  ⟨h.1, fun i l hl => let ⟨u, h1, h2⟩ := h.2 i l hl; ⟨u, h1, h2.moveAt fun k => hF _ k (noLent_mem hn l (List.mem_of_getElem? hl))⟩⟩
theorem ElRep.moveAt {F F' : Fr → Nat → Prop} {t : Ty} {xs : List (El E t)} {cs : List Value} (h : ElRep V w F t xs cs) (hF : ∀ k, F .made k → F' .made k) : ElRep V w F' t xs cs := by
  intro j x i l h1 h2
  obtain ⟨u, h3, h4⟩ := h j x i l h1 h2
  refine ⟨u, h3, h4.moveAt fun k => ?_⟩
  have : (flag .made l).fr = .made := by cases l <;> rfl
  rw [this]
  exact hF k
theorem ownsRow_base {base base' : Nat} {e : TypeId} {size n : Nat} {v : Value} {xs : List Value} (h : w.ownsRow base e size v n xs) (hb : base' ≤ base) : w.ownsRow base' e size v n xs := by
  refine ⟨h.1, ?_⟩
  rcases h.2 with h | ⟨b, cap, cur, h1, h2, h3⟩
  · exact .inl h
  · exact .inr ⟨b, cap, cur, h1, Nat.le_trans hb h2, h3⟩

/-! ## The variables that were handed on -/
theorem refsNow_out : ∀ (rb : List Nat) (cells : List (List (Lf E))) (K : List (Nat × Bx E) → Prop), refsNow s0 rb cells K →
    ∃ wb, K wb ∧ keys wb = rb ∧ (∀ b ∈ rb, ∃ bx, s0.bx b = some bx) ∧ ∀ (s : St E), (∀ b ∈ rb, s.bx b = s0.bx b) → ∀ (c : Cx) (g : Gh) (w w' : World) (F F' : Fr → Nat → Prop), RelG V c g s w → RefsRep V w w' F (rb.map g.bb) cells → noLentC cells = true → (∀ b k, b ≠ .lent → F b k → F' b k) →
      ∀ b bx, (b, bx) ∈ wb → (∃ bx0, s.bx b = some bx0 ∧ bx.gen = bx0.gen) ∧ ∃ cs : Array Value, w'.heap[g.bb b]? = some (.cells cs bx.ty (0, 0)) ∧ RepL V w' F' bx.cells cs.toList
  | [], [], K, h => ⟨[], h, rfl, fun b hb => (by cases hb), fun s _ c g w w' F F' _ _ _ _ b bx hb => by cases hb⟩
  | [], _ :: _, K, h => by cases h
  | _ :: _, [], K, h => by cases h
  | b0 :: bs, x :: cs, K, h => by
    simp only [refsNow] at h
    split at h
    · rename_i gn ty cells0 hb0
      obtain ⟨wb, h1, h2, h2', h3⟩ := refsNow_out bs cs _ h
      refine ⟨_, h1, by simp [keys, h2], fun b hb => (List.mem_cons.1 hb).elim (fun e => ⟨_, e ▸ hb0⟩) (h2' b), fun s ha c g w w' F F' hm hr hn hF b bx hb => ?_⟩
      simp only [noLentC, Bool.and_eq_true] at hn
      have hs0 := (ha b0 (by simp)).trans hb0
      cases hr with
      | cons h4 h5 h6 h7 =>
        rcases List.mem_cons.1 hb with he | hb
        · injection he with e1 e2
          subst e1 e2
          obtain ⟨cs0, h8, _⟩ := hm.box b _ hs0
          rw [h8] at h4
          injection h4 with h4
          injection h4 with h9 h10
          subst h10
          exact ⟨⟨_, hs0, rfl⟩, _, h5, h6.moveAt hn.1 hF⟩
        · exact h3 s (fun b hb => ha b (List.mem_cons_of_mem _ hb)) c g w w' F F' hm h7 hn.2 hF b bx hb
    · cases h

/-! ## The results -/
inductive AllF (V : Lv E) (c : Cx) (g : Gh) (s : St E) (w : World) : List (Fv E) → List Value → Prop where
  | nil : AllF V c g s w [] []
  | cons {x v r rv} (h : RepF V c g s w x v) (hr : AllF V c g s w r rv) : AllF V c g s w (x :: r) (v :: rv)
theorem AllF.later {s' : St E} {r : List (Fv E)} {rv : List Value} (h : AllF V c g s w r rv) (hl : Later c g g' s s' w w') : AllF V c g' s' w' r rv := by
  induction h with
  | nil => exact .nil
  | cons h _ ih => exact .cons (RepF.later hl h) ih
theorem AllF.tup {r : List (Fv E)} {rv : List Value} (h : AllF V c g s w r rv) : rv.length = r.length ∧ ∀ (i : Nat) (x : Fv E), r[i]? = some x → ∃ u, rv[i]? = some u ∧ RepF V c g s w x u := by
  induction h with
  | nil => exact ⟨rfl, fun i x h => by simp at h⟩
  | cons h _ ih =>
    refine ⟨by simp [ih.1], fun i x hi => ?_⟩
    cases i with
    | zero => injection hi with hi; subst hi; exact ⟨_, rfl, h⟩
    | succ i => simpa using ih.2 i x (by simpa using hi)
theorem keys_mem_of {α : Type} {l : List (Nat × α)} {n : Nat} (h : n ∈ keys l) : ∃ x, (n, x) ∈ l := by
  induction l with
  | nil => cases h
  | cons y r ih =>
    obtain ⟨m, z⟩ := y
    rcases List.mem_cons.1 h with h | h
    · subst h; exact ⟨z, by simp⟩
    · obtain ⟨x, hx⟩ := ih h; exact ⟨x, List.mem_cons_of_mem _ hx⟩
theorem resOf_agree (base : Nat) : ∀ (res : List (RV E)) (j : Nat), (∀ b ∈ keys (resOf s0 base j res).2.1, s.bx b = s0.bx b) → (∀ r ∈ keys (resOf s0 base j res).2.2, s.rw r = s0.rw r) → resOf s base j res = resOf s0 base j res
  | [], j, _, _ => rfl
  | x :: r, j, hb, hr => by
    cases x with
    | lf l => simp only [resOf] at hb hr ⊢; rw [resOf_agree base r (j + 1) hb hr]
    | agg l => simp only [resOf] at hb hr ⊢; rw [resOf_agree base r (j + 1) hb hr]
    | own e t xs =>
      simp only [resOf, keys, List.mem_cons, forall_eq_or_imp] at hb hr ⊢
      rw [resOf_agree base r (j + 1) hb hr.2, ver_eq hr.1]
    | ref ty ls =>
      simp only [resOf, keys, List.mem_cons, forall_eq_or_imp] at hb hr ⊢
      rw [resOf_agree base r (j + 1) hb.2 hr, gen_eq hb.1]
theorem res_adopt {res : List (RV E)} {us : List Value} {bks : List Nat} {F : Fr → Nat → Prop} {n0 base : Nat} {g1 : Gh} {s1 : St E} (h : ResRep V n0 w F res us bks) (h0 : c.w0.heap.size ≤ n0) (hm : RelG V c g1 s1 w) (hF : ∀ b k, b ≠ .lent → F b k → FF c g1 b k)
    (hbx : ∀ b bx, s1.bx b = some bx → g1.bb b < n0) (hrw : ∀ r row, s1.rw r = some row → row.live = true → ∀ k, (g1.rv r).ownBlock = some k → k < n0) (rb : List Nat) (hrb : ∀ b, b ∉ rb → s1.bx b = s.bx b) (hrr : ∀ r, s1.rw r = s.rw r) :
    ∀ (j : Nat), bks.Nodup → (∀ b ∈ bks, ¬ g1.Z b) → noLentR res = true → nodup (keys (resOf s base j res).2.1 ++ rb) = true → nodup (keys (resOf s base j res).2.2) = true →
      ∃ g2, RelG V c g2 ⟨s1.sl, updL s1.bx (resOf s base j res).2.1, updL s1.rw (resOf s base j res).2.2⟩ w ∧ Later c g1 g2 s1 ⟨s1.sl, updL s1.bx (resOf s base j res).2.1, updL s1.rw (resOf s base j res).2.2⟩ w w ∧
        AllF V c g2 ⟨s1.sl, updL s1.bx (resOf s base j res).2.1, updL s1.rw (resOf s base j res).2.2⟩ w (resOf s base j res).1 us ∧ (∀ k, g2.Z k ↔ g1.Z k) ∧
        (∀ b bx, updL s1.bx (resOf s base j res).2.1 b = some bx → g2.bb b < n0 ∨ g2.bb b ∈ bks) ∧
        (∀ r row, updL s1.rw (resOf s base j res).2.2 r = some row → row.live = true → ∀ k, (g2.rv r).ownBlock = some k → k < n0 ∨ k ∈ bks) := by
  induction h with
  | nil =>
    intro j _ _ _ _ _
    refine ⟨g1, ?_, ?_, .nil, fun _ => Iff.rfl, fun b bx hb => .inl (hbx b bx hb), fun r row hr hl k hk => .inl (hrw r row hr hl k hk)⟩
    · cases s1; exact hm
    · cases s1; exact Later.refl c g1 _ w
  | lf h hr ih =>
    intro j hd hz hn h1 h2
    simp only [noLentR, Bool.and_eq_true] at hn
    obtain ⟨g2, a1, a2, a3, a4, a5⟩ := ih (j + 1) hd hz hn.2 h1 h2
    have hF2 : ∀ b k, b ≠ .lent → F b k → FF c g2 b k := fun b k hb hk => a2.F b k (hF b k hb hk)
    exact ⟨g2, a1, a2, .cons (h.moveAt fun k => hF2 _ k (noLent_mem hn.1 _ (by simp))) a3, a4, a5⟩
  | agg h hr ih =>
    intro j hd hz hn h1 h2
    simp only [noLentR, Bool.and_eq_true] at hn
    obtain ⟨g2, a1, a2, a3, a4, a5⟩ := ih (j + 1) hd hz hn.2 h1 h2
    have hF2 : ∀ b k, b ≠ .lent → F b k → FF c g2 b k := fun b k hb hk => a2.F b k (hF b k hb hk)
    exact ⟨g2, a1, a2, .cons ⟨_, rfl, h.moveAt hn.1 hF2⟩ a3, a4, a5⟩
  | own cells ho hel hs hr ih =>
    rename_i e t xs v rs vs bs
    intro j hd hz hn h1 h2
    simp only [noLentR] at hn
    simp only [resOf, keys] at h1 h2
    obtain ⟨hx, hnd⟩ : base + j ∉ keys (resOf s base (j + 1) rs).2.2 ∧ nodup (keys (resOf s base (j + 1) rs).2.2) = true := by
      have := nodup_iff.1 h2
      rw [List.nodup_cons] at this
      exact ⟨this.1, nodup_iff.2 this.2⟩
    have hd' : bs.Nodup := (List.nodup_append.1 hd).2.1
    have hdis : ∀ k, v.ownBlock = some k → k ∉ bs := fun k hk hb => (List.nodup_append.1 hd).2.2 k (by simp [hk]) k hb rfl
    obtain ⟨g2, a1, a2, a3, a4, a5, a6⟩ := ih (j + 1) hd' (fun b hb => hz b (List.mem_append_right _ hb)) hn h1 hnd
    have hF2 : ∀ b k, b ≠ .lent → F b k → FF c g2 b k := fun b k hb hk => a2.F b k (hF b k hb hk)
    have hge : ∀ k, v.ownBlock = some k → n0 ≤ k := fun k hk => (ho.lt k hk).1
    have hver : ver (⟨s1.sl, updL s1.bx (resOf s base (j + 1) rs).2.1, updL s1.rw (resOf s base (j + 1) rs).2.2⟩ : St E) (base + j) = ver s (base + j) := by
      refine ver_eq ?_
      show updL s1.rw _ _ = _
      rw [updL_ne _ _ _ hx, hrr]
    obtain ⟨m1, m2, m3⟩ := a1.adoptRow (base + j) v e t xs cells hs (ownsRow_base ho h0) (hel.moveAt fun k => hF2 .made k nofun)
      (fun k hk hzk => hz k (List.mem_append_left _ (by simp [hk])) ((a4 k).1 hzk))
      (fun k b bx hk hb he => by
        have := hge k hk
        rcases a5 b bx hb with h | h
        · omega
        · exact hdis k hk (he ▸ h))
      (fun k r' row hk hne hr' hl he => by
        have := hge k hk
        rcases a6 r' row hr' hl k he with h | h
        · omega
        · exact hdis k hk h)
    rw [hver] at m1 m2 m3
    refine ⟨_, m1, a2.trans m2, .cons m3 (a3.later m2), a4, fun b bx hb => (a5 b bx hb).imp id (List.mem_append_right _), fun r row hr' hl k hk => ?_⟩
    by_cases he : r = base + j
    · subst he
      have : (setRV g2 (base + j) v).rv (base + j) = v := upd_eq _ _ _
      rw [this] at hk
      exact .inr (List.mem_append_left _ (by simp [hk]))
    · have h3 : updL s1.rw (resOf s base (j + 1) rs).2.2 r = some row := by
        have hr' : upd (updL s1.rw (resOf s base (j + 1) rs).2.2) (base + j) (some ⟨true, ver s (base + j), e, t, xs⟩) r = some row := hr'
        rwa [upd_ne _ _ he] at hr'
      have h4 : (setRV g2 (base + j) v).rv r = g2.rv r := upd_ne _ _ he
      rw [h4] at hk
      exact (a6 r row h3 hl k hk).imp id (List.mem_append_right _)
  | ref hb h hn0 hr ih =>
    rename_i ty ls b rs vs bs cs
    intro j hd hz hn h1 h2
    simp only [noLentR, Bool.and_eq_true] at hn
    simp only [resOf, keys, List.cons_append] at h1 h2
    obtain ⟨hx, hnd⟩ : base + j ∉ keys (resOf s base (j + 1) rs).2.1 ++ rb ∧ nodup (keys (resOf s base (j + 1) rs).2.1 ++ rb) = true := by
      have := nodup_iff.1 h1
      rw [List.nodup_cons] at this
      exact ⟨this.1, nodup_iff.2 this.2⟩
    simp only [List.mem_append, not_or] at hx
    obtain ⟨hdb, hd'⟩ := List.nodup_cons.1 hd
    obtain ⟨g2, a1, a2, a3, a4, a5, a6⟩ := ih (j + 1) hd' (fun b hb => hz b (List.mem_cons_of_mem _ hb)) hn.2 hnd h2
    have hF2 : ∀ b k, b ≠ .lent → F b k → FF c g2 b k := fun b k hb hk => a2.F b k (hF b k hb hk)
    have hgen : gen (⟨s1.sl, updL s1.bx (resOf s base (j + 1) rs).2.1, updL s1.rw (resOf s base (j + 1) rs).2.2⟩ : St E) (base + j) = gen s (base + j) := by
      refine gen_eq ?_
      show updL s1.bx _ _ = _
      rw [updL_ne _ _ _ hx.1, hrb _ hx.2]
    obtain ⟨m1, m2, m3⟩ := a1.adoptBox (base + j) b ty ls cs hb (h.moveAt hn.1 hF2) (Nat.le_trans h0 hn0) (fun hzk => hz b (by simp) ((a4 b).1 hzk))
      (fun b' bx hne hb' he => by
        rcases a5 b' bx hb' with h | h
        · omega
        · exact hdb (he ▸ h))
      (fun r row hr' hl he => by
        rcases a6 r row hr' hl b he with h | h
        · omega
        · exact hdb h)
    rw [hgen] at m1 m2 m3
    refine ⟨_, m1, a2.trans m2, .cons m3 (a3.later m2), a4, fun b' bx hb' => ?_, fun r row hr' hl k hk => (a6 r row hr' hl k hk).imp id (List.mem_cons_of_mem _)⟩
    by_cases he : b' = base + j
    · subst he
      have : (setBB g2 (base + j) b).bb (base + j) = b := upd_eq _ _ _
      rw [this]
      exact .inr (by simp)
    · have h3 : updL s1.bx (resOf s base (j + 1) rs).2.1 b' = some bx := by
        have hb' : upd (updL s1.bx (resOf s base (j + 1) rs).2.1) (base + j) (some ⟨gen s (base + j), ty, ls⟩) b' = some bx := hb'
        rwa [upd_ne _ _ he] at hb'
      have h4 : (setBB g2 (base + j) b).bb b' = g2.bb b' := upd_ne _ _ he
      rw [h4]
      exact (a5 b' bx h3).imp id (List.mem_cons_of_mem _)
/-! ## A call -/
theorem nodup_map_on {α β : Type} {f : α → β} : ∀ {l : List α}, l.Nodup → (∀ a ∈ l, ∀ b ∈ l, f a = f b → a = b) → (l.map f).Nodup
  | [], _, _ => by simp
  | x :: r, hd, hf => by
    rw [List.nodup_cons] at hd
    rw [List.map_cons, List.nodup_cons]
    refine ⟨fun hm => ?_, nodup_map_on hd.2 fun a ha b hb => hf a (List.mem_cons_of_mem _ ha) b (List.mem_cons_of_mem _ hb)⟩
    obtain ⟨y, hy, he⟩ := List.mem_map.1 hm
    have := hf y (List.mem_cons_of_mem _ hy) x (by simp) he
    exact hd.1 (this ▸ hy)
theorem ResRep.ge {n0 : Nat} {F : Fr → Nat → Prop} {res : List (RV E)} {us : List Value} {bks : List Nat} (h : ResRep V n0 w F res us bks) : ∀ b ∈ bks, n0 ≤ b := by
  induction h with
  | nil => intro b hb; cases hb
  | lf _ _ ih => exact ih
  | agg _ _ ih => exact ih
  | own cells ho _ _ _ ih =>
    intro b hb
    rcases List.mem_append.1 hb with hb | hb
    · exact (ho.lt b (by simpa using hb)).1
    · exact ih b hb
  | ref _ _ hn _ ih =>
    intro b hb
    rcases List.mem_cons.1 hb with rfl | hb
    · exact hn
    · exact ih b hb
theorem callP_sound (hT : TabOk P V Γ) {f : FuncId} {xs : List (AV E)} {ts : List TypeId} {dst : Option Nat} {ps' : List (PA E)} {res : List (RV E)} {cells : List (List (Lf E))} {K : Ef E → Prop} (h1 : CSem P V f ps' res cells) (h : callP Γ s0 dst xs ts ps' res cells K) :
    ∃ ef, K ef ∧ ∀ (c : Cx) (g : Gh) (s : St E) (w : World) (vs : List Value), RelG V c g s w → Ag s s0 ef → AllA V c g s w xs vs →
      Enters P f vs.toArray w fun v w' => ∃ g', RelG V c g' (mem s ef) w' ∧ Later c g g' s (mem s ef) w w' ∧ RepA V c g' (mem s ef) w' ef.v v := by
  unfold callP at h
  obtain ⟨ps, rb, rr, ⟨h2, h3⟩, h4⟩ := pasOf_sound (V := V) hT xs ts _ h
  clear h
  obtain ⟨h5, h6⟩ := cM_out h3
  clear h3
  simp only [Bool.and_eq_true] at h5
  obtain ⟨⟨h5, h7⟩, h8⟩ := h5
  obtain ⟨wb, h9, h10, h10', h11⟩ := refsNow_out (V := V) rb cells _ h6
  clear h6
  subst h10
  generalize hbase : 1024 + 8 * dst.getD 0 = base at *
  rcases hq : resOf s0 base 0 res with ⟨fvs, bs, rs⟩
  rw [hq] at h9
  dsimp only at h9
  obtain ⟨h12, h14⟩ := cM_out h9
  clear h9
  simp only [Bool.and_eq_true] at h12
  obtain ⟨h12, h13⟩ := h12
  have key : ∀ (x : AV E), (∀ (c : Cx) (g : Gh) (s : St E) (w : World) (us : List Value), AllF V c g s w fvs us → RepA V c g s w x (tupV us)) →
      ∀ (c : Cx) (g : Gh) (s : St E) (w : World) (vs : List Value), RelG V c g s w → Ag s s0 ⟨keys bs ++ keys wb, keys rs ++ rr, x, bs ++ wb, rs⟩ → AllA V c g s w xs vs →
        Enters P f vs.toArray w fun v w' => ∃ g', RelG V c g' (mem s ⟨keys bs ++ keys wb, keys rs ++ rr, x, bs ++ wb, rs⟩) w' ∧ Later c g g' s (mem s ⟨keys bs ++ keys wb, keys rs ++ rr, x, bs ++ wb, rs⟩) w w' ∧
          RepA V c g' (mem s ⟨keys bs ++ keys wb, keys rs ++ rr, x, bs ++ wb, rs⟩) w' x v := by
    intro x hx c g s w vs hm ha hvs
    obtain ⟨hab, har⟩ := ha
    simp only [List.mem_append] at hab har
    have hrs : resOf s base 0 res = resOf s0 base 0 res := resOf_agree base res 0 (fun b hb => hab b (.inl (by rw [hq] at hb; exact hb))) (fun r hr => har r (.inl (by rw [hq] at hr; exact hr)))
    rw [hq] at hrs
    have hsome : ∀ b ∈ keys wb, ∃ bx, s.bx b = some bx := fun b hb => by rw [hab b (.inr hb)]; exact h10' b hb
    have hwd : (keys wb).Nodup := (List.nodup_append.1 (nodup_iff.1 h12)).2.1
    have hargs := (h4 c g s w (argF (FF c g .kept) fun k => FF c g .lent k ∨ handed g s rr k) vs hm (fun b hb => hab b (.inr hb)) (fun r hr => har r (.inr hr)) hvs
      (fun b k hk => by
        cases b with
        | made => exact FF.mono c g .made .kept k rfl hk
        | kept => exact hk
        | lent => exact .inr (.inl hk)) (fun k hk => .inr (.inr hk))).strip (argF_mono _ _) ps' h2 h5
    refine (h1 w (FF c g .kept) (fun k => FF c g .lent k ∨ handed g s rr k) vs _ ?_ ?_ hargs).mono fun v w' hp => ?_
    · intro k hk
      have hnb : ∀ (hk : FF c g .lent k ∨ handed g s rr k), k < w.heap.size ∧ ∀ b bx, s.bx b = some bx → g.bb b ≠ k := by
        rintro (hk | ⟨r, _, row, hr, hl, hk⟩)
        · exact ⟨hm.FFlt hk, fun b bx hb => hm.FFbox hk hb⟩
        · exact ⟨(hm.rowLt hr hl hk).2.1, (hm.rowAt r row hr hl k hk).2⟩
      obtain ⟨q1, q2⟩ := hnb (hk.elim (fun hk => .inl (FF.false _ _ hk)) id)
      refine ⟨q1, fun hmem => ?_⟩
      obtain ⟨b, hb, rfl⟩ := List.mem_map.1 hmem
      obtain ⟨bx, hbx⟩ := hsome b hb
      exact q2 b bx hbx rfl
    · refine nodup_map_on hwd fun b hb b' hb' he => ?_
      obtain ⟨bx, hbx⟩ := hsome b hb
      obtain ⟨bx', hbx'⟩ := hsome b' hb'
      exact hm.boxInj b b' bx bx' hbx hbx' he
    · obtain ⟨hos, htape, hout, hsize, hold, Zn, us, bks, hzn, hbd, hbz, rfl, hres, hrefs⟩ := hp
      have hF : ∀ b k, b ≠ .lent → (Zn k ∨ argF (FF c g .kept) (fun k => FF c g .lent k ∨ handed g s rr k) b k ∧ b ≠ .made) → FF c ⟨fun k => g.Z k ∨ Zn k, g.bb, g.rv⟩ b k := by
        intro b k hb hk
        cases b with
        | made => rcases hk with hk | hk
                  · exact .inr hk
                  · exact absurd rfl hk.2
        | kept =>
          rcases hk with hk | hk
          · exact .inl (.inr hk)
          · exact hk.1.imp .inl id
        | lent => exact absurd rfl hb
      obtain ⟨m1, l1⟩ := hm.callStep wb Zn hos htape hout hsize (fun k hk hb => hold k hk fun hmem => by
        obtain ⟨b, hb', he⟩ := List.mem_map.1 hmem
        exact hb b hb' he) hzn hwd (fun b bx hb => h11 s (fun b hb => hab b (.inr hb)) c g w w' _ _ hm hrefs h8 hF b bx hb)
      obtain ⟨g2, n1, n2, n3, _⟩ := res_adopt (s := s) (base := base) hres hm.size m1 hF (fun b bx hb => by
          rcases updL_cases _ _ _ _ hb with hb | ⟨_, hb⟩
          · obtain ⟨bx0, hbx⟩ := hsome b (mem_keys hb)
            exact hm.boxLt hbx
          · exact hm.boxLt hb) (fun r row hr hl k hk => (hm.rowLt hr hl hk).2.1) (keys wb) (fun b hb => updL_ne _ _ _ hb) (fun r => rfl) 0 hbd
          (fun b hb hz => by
            rcases hz with hz | hz
            · have := (hm.zed b hz).2; have := hres.ge b hb; omega
            · exact hbz b hb hz) h7 (by rw [hrs]; exact h12) (by rw [hrs]; exact h13)
      rw [hrs] at n1 n2 n3
      refine ⟨g2, ?_, ?_, ?_⟩
      · simp only [mem, updL_append]; exact n1
      · simp only [mem, updL_append]; exact l1.trans n2
      · simp only [mem, updL_append]; exact hx _ _ _ _ _ n3
  have tup : ∀ (c : Cx) (g : Gh) (s : St E) (w : World) (us : List Value), (∀ x, fvs ≠ [x]) → AllF V c g s w fvs us → RepA V c g s w (.tup fvs) (tupV us) := by
    intro c g s w us hne hu
    have h := hu.tup
    have : tupV us = .tuple us.toArray := by
      unfold tupV
      split
      · rename_i u
        cases hu with
        | cons hx hr => cases hr; exact absurd rfl (hne _)
      · rfl
    exact ⟨us.toArray, this, by simpa using h.1, fun i x hi => by simpa using h.2 i x hi⟩
  split at h14
  · rename_i x
    refine ⟨_, h14, key _ fun c g s w us hu => ?_⟩
    cases hu with
    | cons hx hr => cases hr; exact hx
  · rename_i hne
    exact ⟨_, h14, key _ fun c g s w us hu => tup c g s w us (fun x e => hne x e) hu⟩
/-! ## Rows that are sealed ahead of a call -/
theorem fNat_iff {n : Nat} {K : Nat → Prop} : fNat n K ↔ K n := by cases n <;> exact Iff.rfl
theorem fB_iff {n : Bool} {K : Bool → Prop} : fB n K ↔ K n := by cases n <;> exact Iff.rfl
theorem fWr_iff : ∀ {l : List (Nat × Rw E)} {K : List (Nat × Rw E) → Prop}, fWr l K ↔ K l
  | [], K => Iff.rfl
  | (n, ⟨g, ty, cs, t, xs⟩) :: r, K => by simp only [fWr, fB_iff, fNat_iff, fWr_iff (l := r)]
theorem AllA.later {s' : St E} {r : List (AV E)} {rv : List Value} (h : AllA V c g s w r rv) (hl : Later c g g' s s' w w') : AllA V c g' s' w' r rv := by
  induction h with
  | nil => exact .nil
  | cons h _ ih => exact .cons (RepA.later hl h) ih
theorem sealE_sound (hV : LvOk V) : ∀ (xs : List (AV E)) (K : List (AV E) → List (Nat × Rw E) → Prop), sealE s0 xs K → ∃ ys wr, K ys wr ∧ (nodup (keys wr) = true →
    ∀ (c : Cx) (g : Gh) (s : St E) (w : World) (vs : List Value), RelG V c g s w → (∀ r ∈ keys wr, s.rw r = s0.rw r) → AllA V c g s w xs vs →
      ∃ g', RelG V c g' ⟨s.sl, s.bx, updL s.rw wr⟩ w ∧ Later c g g' s ⟨s.sl, s.bx, updL s.rw wr⟩ w w ∧ AllA V c g' ⟨s.sl, s.bx, updL s.rw wr⟩ w ys vs)
  | [], K, h => ⟨[], [], h, fun _ c g s w vs hm _ hx => ⟨g, by cases s; exact hm, by cases s; exact Later.refl c g _ w, by cases s; cases hx; exact .nil⟩⟩
  | x :: r, K, h => by
    have plain : sealE s0 r (fun ys wr => K (x :: ys) wr) → ∃ ys wr, K ys wr ∧ (nodup (keys wr) = true →
        ∀ (c : Cx) (g : Gh) (s : St E) (w : World) (vs : List Value), RelG V c g s w → (∀ r ∈ keys wr, s.rw r = s0.rw r) → AllA V c g s w (x :: r) vs →
          ∃ g', RelG V c g' ⟨s.sl, s.bx, updL s.rw wr⟩ w ∧ Later c g g' s ⟨s.sl, s.bx, updL s.rw wr⟩ w w ∧ AllA V c g' ⟨s.sl, s.bx, updL s.rw wr⟩ w ys vs) := by
      intro h
      obtain ⟨ys, wr, h1, h2⟩ := sealE_sound hV r _ h
      refine ⟨_, _, h1, fun hn c g s w vs hm ha hx => ?_⟩
      cases hx with
      | cons hx hr =>
        obtain ⟨g1, m1, l1, r1⟩ := h2 hn c g s w _ hm ha hr
        exact ⟨g1, m1, l1, .cons (RepA.later l1 hx) r1⟩
    unfold sealE at h
    split at h
    · rename_i q v
      split at h
      · rename_i v' e t xs hq
        split at h
        · rename_i hv
          have hv := Nat.eq_of_beq_eq_true hv
          subst hv
          obtain ⟨ys, wr, h1, h2⟩ := sealE_sound hV r _ h
          refine ⟨_, _, h1, fun hn c g s w vs hm ha hx => ?_⟩
          simp only [keys, nodup, Bool.and_eq_true, Bool.not_eq_true'] at hn
          obtain ⟨hn1, hn2⟩ := hn
          have hq1 : q ∉ keys wr := fun hm => by
            have := List.any_eq_false.1 hn1 q hm
            exact this (Nat.beq_refl q)
          cases hx with
          | cons hx hr =>
            obtain ⟨g1, m1, l1, r1⟩ := h2 hn2 c g s w _ hm (fun r hr => ha r (by simp [keys, hr])) hr
            have hqs : s.rw q = some ⟨true, v, e, t, xs⟩ := (ha q (by simp [keys])).trans hq
            have hq2 : (⟨s.sl, s.bx, updL s.rw wr⟩ : St E).rw q = some ⟨true, v, e, t, xs⟩ := by
              show updL s.rw wr q = _
              rw [updL_ne _ _ _ hq1, hqs]
            have hx := RepA.later l1 hx
            obtain ⟨row, h3, h4, h5⟩ := hx
            rw [hq2] at h3
            injection h3 with h3
            subst h3
            have hv : _ = g1.rv q := h5 rfl rfl
            obtain ⟨g2, m2, l2, r2⟩ := m1.sealRow hV hq2 rfl
            rw [← hv] at r2
            exact ⟨g2, m2, l1.trans l2, .cons r2 (r1.later l2)⟩
        · cases h
      · cases h
    · exact plain h
theorem callE_sound (hV : LvOk V) (hT : TabOk P V Γ) {CS : FuncId → List (PA E) → List (RV E) → List (List (Lf E)) → Prop} (hCS : ∀ f ps res cells, CS f ps res cells → CSem P V f ps res cells) {f : FuncId} {xs : List (AV E)} {ts : List TypeId} {dst : Option Nat} {K : Ef E → Prop} (h : callE Γ CS s0 dst f xs ts K) :
    ∃ ef, K ef ∧ ∀ (c : Cx) (g : Gh) (s : St E) (w : World) (vs : List Value), RelG V c g s w → Ag s s0 ef → AllA V c g s w xs vs →
      Enters P f vs.toArray w fun v w' => ∃ g', RelG V c g' (mem s ef) w' ∧ Later c g g' s (mem s ef) w w' ∧ RepA V c g' (mem s ef) w' ef.v v := by
  unfold callE at h
  obtain ⟨ps', res, cells, hc, h⟩ := h
  have hc := hCS f ps' res cells hc
  rcases h with h | h
  · exact callP_sound hT hc h
  · unfold callQ at h
    obtain ⟨ys, sw, h1, h2⟩ := sealE_sound hV _ _ h
    obtain ⟨hn, h1⟩ := cM_out h1
    rw [fWr_iff] at h1
    obtain ⟨ef, h3, h4⟩ := callP_sound (P := P) hT hc h1
    obtain ⟨rb, rr, v, wb, wr⟩ := ef
    refine ⟨_, h3, fun c g s w vs hm ha hx => ?_⟩
    obtain ⟨hab, har⟩ := ha
    simp only [List.mem_append] at hab har
    obtain ⟨g1, m1, l1, r1⟩ := h2 hn c g s w vs hm (fun r hr => har r (.inl hr)) hx
    have hag : Ag (⟨s.sl, s.bx, updL s.rw sw⟩ : St E) ⟨s0.sl, s0.bx, updL s0.rw sw⟩ ⟨rb, rr, v, wb, wr⟩ := by
      refine ⟨hab, fun r hr => ?_⟩
      have key : ∀ (l : List (Nat × Rw E)), updL s.rw l r = updL s0.rw l r := by
        intro l
        induction l with
        | nil => exact har r (.inr hr)
        | cons y l ih =>
          obtain ⟨m, z⟩ := y
          simp only [updL]
          by_cases he : r = m
          · subst he; rw [upd_eq, upd_eq]
          · rw [upd_ne _ _ he, upd_ne _ _ he, ih]
      exact key sw
    refine (h4 c g1 _ w vs m1 hag r1).mono fun v' w' hp => ?_
    obtain ⟨g2, n1, n2, n3⟩ := hp
    refine ⟨g2, ?_, ?_, ?_⟩
    · simp only [mem, updL_append]; exact n1
    · simp only [mem, updL_append]; exact l1.trans n2
    · simp only [mem, updL_append]; exact n3
end
end Go.Tx
set_option linter.unusedVariables false
set_option linter.unusedSimpArgs false
namespace Go.Tx
open Go.RowKit
section
variable {E : Env} {V : Lv E} {Γ : Nat → Option (TI E)} {P : Program} {c : Cx} {g g' : Gh} {s s0 : St E} {w w' : World} {a : Act}

/-- What an operation comes to, from every state that agrees on what it reads. -/
def OpS (P : Program) (V : Lv E) (s0 : St E) (o : Oper) (ef : Ef E) : Prop :=
  ∀ (c : Cx) (g : Gh) (s : St E) (a : Act) (w : World) (Kc : Act → World → Prop) (Q : Exit → Act → World → Prop), Rel V c g s a w → (∀ n ∈ tmpsOf o.op.operands.toList, s.sl n = s0.sl n) → Ag s s0 ef → (∀ n, o.dst = some n → n < c.N) →
    (∀ g' a' w', Rel V c g' (app s o ef) a' w' → Later c g g' s (mem s ef) w w' → Kc a' w') → o.wp P a w Kc Q
theorem ev_at (hR : Rel V c g s a w) {xs : List Operand} (h : ∀ n ∈ tmpsOf xs, s.sl n = s0.sl n) {x : Operand} (hx : x ∈ xs) : RepA V c g s w (ev s0 x) (a.eval x) := by
  rw [← ev_eq h hx]; exact ev_rep hR x
theorem all_at (hR : Rel V c g s a w) {xs : List Operand} (h : ∀ n ∈ tmpsOf xs, s.sl n = s0.sl n) : ∀ (l : List Operand), (∀ x ∈ l, x ∈ xs) → AllA V c g s w (l.map (ev s0)) (l.map a.eval)
  | [], _ => .nil
  | x :: r, hl => .cons (ev_at hR h (hl x (by simp))) (all_at hR h r fun y hy => hl y (List.mem_cons_of_mem _ hy))
theorem vals_at (hR : Rel V c g s a w) {xs : List Operand} (h : ∀ n ∈ tmpsOf xs, s.sl n = s0.sl n) : ∀ (l : List (Nat × Operand)), (∀ x ∈ l, x.2 ∈ xs) → Vals V c g s w s0 l (l.map fun x => (x.1, a.eval x.2))
  | [], _ => .nil
  | (i, x) :: r, hl => .cons (ev_at hR h (hl (i, x) (by simp))) (vals_at hR h r fun y hy => hl y (List.mem_cons_of_mem _ hy))
section
variable {o : Oper}
theorem op_pure {f : Act → Sem Value} {ef : Ef E} (hb : ef.wb = []) (hr : ef.wr = []) (hx : ∀ (a : Act) (w : World) (v : Value), (f a).run P w = .ok v w → (execOp a.eval o).run P w = .ok (.value v) w)
    (h : ∀ (c : Cx) (g : Gh) (s : St E) (a : Act) (w : World), Rel V c g s a w → (∀ n ∈ tmpsOf o.op.operands.toList, s.sl n = s0.sl n) → Ag s s0 ef → ∃ v, (f a).run P w = .ok v w ∧ RepA V c g s w ef.v v) : OpS P V s0 o ef := by
  intro c g s a w Kc Q hR ht ha hd hK
  obtain ⟨v, h1, h2⟩ := h c g s a w hR ht ha
  obtain ⟨rb, rr, x, wb, wr⟩ := ef
  have hb : wb = [] := hb
  have hr : wr = [] := hr
  subst hb hr
  exact fin_pure hR (hx a w v h1) h2 hd hK
theorem op_move {x : Operand} (hx : ∀ a : Act, execOp a.eval o = pure (.value (a.eval x))) (hm : x ∈ o.op.operands.toList) : OpS P V s0 o (pu (ev s0 x)) :=
  op_pure (f := fun (a : Act) => pure (a.eval x)) rfl rfl (fun a w v h => by rw [hx]; simp only [Sem.run_pure] at h ⊢; injection h with h1; rw [h1]) fun c g s a w hR ht ha => ⟨_, by simp only [Sem.run_pure], ev_at hR ht hm⟩
theorem op_pureS {run : Value → Value → Sem Value} {x y : Operand} {ef : Ef E} (h : PureS P V s0 run (ev s0 x) (ev s0 y) ef) (hx : ∀ (a : Act) (w : World) (v : Value), (run (a.eval x) (a.eval y)).run P w = .ok v w → (execOp a.eval o).run P w = .ok (.value v) w)
    (h1 : x ∈ o.op.operands.toList) (h2 : y ∈ o.op.operands.toList) : OpS P V s0 o ef := by
  obtain ⟨hb, hr, h3⟩ := h
  exact op_pure (f := fun (a : Act) => run (a.eval x) (a.eval y)) hb hr hx fun c g s a w hR ht ha => h3 c g s w _ _ hR.mem ha (ev_at hR ht h1) (ev_at hR ht h2)
end
variable {CS : FuncId → List (PA E) → List (RV E) → List (List (Lf E)) → Prop}
theorem litOf_out {y : Operand} {n : Nat} (h : litOf y = some n) (a : Act) : ∃ k, a.eval y = .int k (n : Int) := by
  unfold litOf at h
  split at h
  · rename_i k i
    split at h
    · rename_i hi
      have hi := of_decide_eq_true hi
      injection h with h
      refine ⟨k, ?_⟩
      show Value.int k i = _
      rw [← h, Int.toNat_of_nonneg hi]
    · cases h
  · cases h
theorem op_fold {o : Oper} {cl : Call} {x : AV E} {r : List (AV E)} {v : AV E} {m : Value → Value → Sem Value} (hop : o.op = .call cl) (hxr : cl.args.toList.map (ev s0) = x :: r)
    (h : ∀ (c : Cx) (g : Gh) (s : St E) (w : World) (ux : Value) (us : List Value), RepA V c g s w x ux → AllA V c g s w r us → ∃ u, (us.foldlM m ux).run P w = .ok u w ∧ RepA V c g s w v u)
    (hx : ∀ (a : Act) (w : World) (u : Value), (match cl.args.toList.map a.eval with | ux :: us => (us.foldlM m ux).run P w = .ok u w | [] => False) → (execOp a.eval o).run P w = .ok (.value u) w) : OpS P V s0 o (pu v) := by
  intro c g s a w Kc Q hR ht ha hd hK
  have hall := all_at (s0 := s0) hR ht cl.args.toList fun x hx => by rw [hop]; simp [Op.operands, Call.operands, hx]
  rw [hxr] at hall
  generalize hvs : cl.args.toList.map a.eval = vs at hall
  cases hall with
  | cons h1 h2 =>
    obtain ⟨u, k1, k2⟩ := h c g s w _ _ h1 h2
    exact fin_pure hR (hx a w u (by rw [hvs]; exact k1)) k2 hd hK
theorem opE_sound (hV : LvOk V) (hT : TabOk P V Γ) (hCS : ∀ f ps res cells, CS f ps res cells → CSem P V f ps res cells) {o : Oper} {K : Ef E → Prop} (h : opE V Γ CS s0 o K) : ∃ ef, K ef ∧ OpS P V s0 o ef := by
  unfold opE at h
  split at h
  · rename_i x hop
    exact ⟨_, h, op_move (fun a => by simp only [execOp, hop]) (by rw [hop]; simp [Op.operands])⟩
  · rename_i x hop
    exact ⟨_, h, op_move (fun a => by simp only [execOp, hop]) (by rw [hop]; simp [Op.operands])⟩
  · -- pick
    rename_i cnd x y hop
    split at h
    · rename_i t hc
      unfold brE at h
      obtain ⟨h1, h2⟩ := h
      have hcond : ∀ (c : Cx) (g : Gh) (s : St E) (a : Act) (w : World), Rel V c g s a w → (∀ n ∈ tmpsOf o.op.operands.toList, s.sl n = s0.sl n) → a.eval cnd = .bool t := fun c g s a w hR ht => by
        have := ev_at hR ht (x := cnd) (by rw [hop]; simp [Op.operands])
        rw [hc] at this
        exact RepP.boolv this
      cases t with
      | true =>
        refine ⟨_, h1 rfl, fun c g s a w Kc Q hR ht ha hd hK => fin_pure hR ?_ (ev_at hR ht (x := x) (by rw [hop]; simp [Op.operands])) hd hK⟩
        have := hcond c g s a w hR ht
        simp [execOp, hop, this, asBool]
      | false =>
        refine ⟨_, h2 rfl, fun c g s a w Kc Q hR ht ha hd hK => fin_pure hR ?_ (ev_at hR ht (x := y) (by rw [hop]; simp [Op.operands])) hd hK⟩
        have := hcond c g s a w hR ht
        simp [execOp, hop, this, asBool]
    · cases h
  · -- alloc
    rename_i e hop
    split at h
    · rename_i d hd0
      obtain ⟨te, h1, h2⟩ := tyE_out h
      refine ⟨_, h2, fun c g s a w Kc Q hR ht ha hd hK => ?_⟩
      obtain ⟨z, h3, h4⟩ := run_alloc (hT e te h1) w
      obtain ⟨g', k1, k2, k3⟩ := hR.mem.newBox d e te.zero z.cells (h4 _)
      have hg := gen_eq (ha.1 d (by simp))
      rw [hg] at k1 k2 k3
      exact fin_value (ef := ⟨[d], [], .f (.ptr d (gen s0 d) 0), [(d, ⟨gen s0 d, e, te.zero⟩)], []⟩) hR (by simp only [execOp, hop, Sem.run_bind, h3, Result.andThen_ok, Sem.run_pure]) k1 k2 k3 hd hK
    · cases h
  · -- box
    rename_i e x hop
    split at h
    · rename_i d hd0
      obtain ⟨te, h1, h2⟩ := tyE_out h
      obtain ⟨ls, rr, wr, h3, rfl, h4⟩ := cellsOf_sound hV h2
      obtain ⟨h5, h6⟩ := cM_out h3
      refine ⟨_, h6, fun c g s a w Kc Q hR ht ha hd hK => ?_⟩
      obtain ⟨g1, m1, l1, r1⟩ := h4 c g s w _ hR.mem ha.2 (ev_at hR ht (x := x) (by rw [hop]; simp [Op.operands]))
      obtain ⟨g', k1, k2, k3⟩ := m1.newBox d e ls (a.eval x).cells r1
      have hg : gen (⟨s.sl, s.bx, updL s.rw wr⟩ : St E) d = gen s0 d := gen_eq (ha.1 d (by simp))
      rw [hg] at k1 k2 k3
      exact fin_value (ef := ⟨[d], keys wr, .f (.ptr d (gen s0 d) 0), [(d, ⟨gen s0 d, e, ls⟩)], wr⟩) hR (by simp only [execOp, hop, Sem.run_bind, run_box, Result.andThen_ok, Sem.run_pure]) k1 (l1.trans k2) k3 hd hK
    · cases h
  · -- build
    rename_i t parts hop
    obtain ⟨ti, h1, h2⟩ := tyE_out h
    obtain ⟨hag, h2⟩ := cM_out h2
    have ht' := hT t ti h1
    obtain ⟨place, z, p1, p2, p3⟩ := build_place ht' hag
    obtain ⟨cs, rr, wr, h3, hk, h4⟩ := fill_sound (P := P) hV hT p1 parts.toList ti.zero _ h2
    obtain ⟨hnd, h5⟩ := cM_out h3
    refine ⟨_, h5, fun c g s a w Kc Q hR ht ha hd hK => ?_⟩
    obtain ⟨g', ca, k1, k2, k3, k4⟩ := h4 hnd c g s w z _ hR.mem ha.2 (p2 w _) (vals_at hR ht parts.toList fun x hx => by rw [hop]; simp only [Op.operands]; exact List.mem_map.2 ⟨x, hx, rfl⟩)
    have hrun := p3 (parts.map fun (i, x) => (i, a.eval x)) ca w (by rw [Array.toList_map]; exact k1)
    exact fin_value (ef := ⟨[], rr, .f (.agg cs), [], wr⟩) (v := .agg ca) hR (by simp only [execOp, hop, Sem.run_bind, hrun, Result.andThen_ok, Sem.run_pure]) k2 k3 ⟨ca, rfl, k4⟩ hd hK
  · -- buildSlice
    rename_i t n parts hop
    split at h
    · rename_i d hd0
      obtain ⟨ef, h1, h2⟩ := buildSlice_sound hV hT h
      refine ⟨ef, h1, fun c g s a w Kc Q hR ht ha hd hK => ?_⟩
      obtain ⟨v, w', g', k1, k2, k3, k4⟩ := h2 c g s w _ hR.mem ha (vals_at hR ht parts.toList fun x hx => by rw [hop]; simp only [Op.operands]; exact List.mem_map.2 ⟨x, hx, rfl⟩)
      have he : (parts.map fun (i, x) => (i, a.eval x)) = (parts.toList.map fun x => (x.1, a.eval x.2)).toArray := by
        apply Array.toList_inj.1; rw [Array.toList_map]
      exact fin_value hR (by simp only [execOp, hop, he, Sem.run_bind, k1, Result.andThen_ok, Sem.run_pure]) k2 k3 k4 hd hK
    · cases h
  · -- load
    rename_i t p hop
    obtain ⟨ef, h1, h2, h3, h4⟩ := loadE_sound hV hT h
    refine ⟨ef, h1, op_pure (f := fun (a : Act) => Instr.loadAt t (a.eval p)) h2 h3 (fun a w v hv => by simp only [execOp, hop, Sem.run_bind, hv, Result.andThen_ok, Sem.run_pure]) fun c g s a w hR ht ha => ?_⟩
    exact h4 c g s w _ hR.mem ha (ev_at hR ht (by rw [hop]; simp [Op.operands]))
  · -- store
    rename_i t p x hop
    obtain ⟨ef, h1, h2, h3⟩ := storeE_sound hV hT h
    refine ⟨ef, h1, fun c g s a w Kc Q hR ht ha hd hK => ?_⟩
    obtain ⟨w', g', k1, k2, k3⟩ := h3 c g s w _ _ hR.mem ha (ev_at hR ht (x := p) (by rw [hop]; simp [Op.operands])) (ev_at hR ht (x := x) (by rw [hop]; simp [Op.operands]))
    exact fin_skip hR (by simp only [execOp, hop, Sem.run_bind, k1, Result.andThen_ok, Sem.run_pure]) k2 k3 h2 hd hK
  · -- nilCheck
    rename_i x hop
    obtain ⟨ef, h1, h2, h3, h4⟩ := nilCheck_sound (V := V) h
    refine ⟨ef, h1, fun c g s a w Kc Q hR ht ha hd hK => ?_⟩
    obtain ⟨⟨b, off, e⟩, k1⟩ := h4 c g s w _ hR.mem ha (ev_at hR ht (x := x) (by rw [hop]; simp [Op.operands]))
    obtain ⟨rb, rr, v, wb, wr⟩ := ef
    have h2 : wb = [] := h2
    have h3 : wr = [] := h3
    subst h2 h3
    exact fin_pure (v := a.eval x) hR (by simp only [execOp, hop, e, Sem.run_pure]) k1 hd hK
  · -- binOp
    rename_i op t x y _ hop
    obtain ⟨v, h1, h2⟩ := binE_one h
    refine ⟨_, h1, op_pure (f := fun (a : Act) => (do eqGuard op t x y (a.eval x) (a.eval y); binOp op t (a.eval x) (a.eval y))) rfl rfl (fun a w v hv => by
      simp only [execOp, hop]
      rw [Sem.run_bind, hv]
      rfl) fun c g s a w hR ht ha => ?_⟩
    obtain ⟨v', u, rfl, k1, k2⟩ := binE_sound (s := s) (P := P) (w := w) hT h2 (ev_at hR ht (x := x) (by rw [hop]; simp [Op.operands])) (ev_at hR ht (x := y) (by rw [hop]; simp [Op.operands])) (fun n hn => litOf_out hn a) x y
    exact ⟨u, k1, k2⟩
  · -- unOp
    rename_i op _ x hop
    obtain ⟨v, h1, h2⟩ := unE_one h
    refine ⟨_, h1, op_pure (f := fun (a : Act) => Op.unary op (a.eval x)) rfl rfl (fun a w v hv => by simp only [execOp, hop, Sem.run_bind, hv, Result.andThen_ok, Sem.run_pure]) fun c g s a w hR ht ha => ?_⟩
    obtain ⟨v', u, rfl, k1, k2⟩ := unE_sound (s := s) (P := P) (w := w) h2 (ev_at hR ht (x := x) (by rw [hop]; simp [Op.operands]))
    exact ⟨u, k1, k2⟩
  · -- convert
    rename_i src dst x hop
    obtain ⟨ef, h1, h2⟩ := convE_sound (P := P) hT h
    exact ⟨ef, h1, op_pureS h2 (fun a w v hv => by simp only [execOp, hop, Sem.run_bind, hv, Result.andThen_ok, Sem.run_pure]) (by rw [hop]; simp [Op.operands]) (by rw [hop]; simp [Op.operands])⟩
  · -- slice
    rename_i t x lo hi hop
    obtain ⟨ef, h1, h2, h3, h4⟩ := sliceE_sound (P := P) hV hT h
    refine ⟨ef, h1, op_pure (f := fun (a : Act) => Instr.sliceAt t (a.eval x) (lo.map a.eval) (hi.map a.eval) none) h2 h3 (fun a w v hv => by simp only [execOp, hop, Option.map_none, Sem.run_bind, hv, Result.andThen_ok, Sem.run_pure]) fun c g s a w hR ht ha => ?_⟩
    refine h4 c g s w _ _ _ hR.mem ha (ev_at hR ht (by rw [hop]; simp [Op.operands])) ?_ ?_ ?_ ?_
    · intro y hy
      obtain ⟨z, rfl, rfl⟩ := Option.map_eq_some_iff.1 hy
      exact ⟨_, rfl, ev_at hR ht (by rw [hop]; simp [Op.operands])⟩
    · intro hn; rw [Option.map_eq_none_iff] at hn; rw [hn]; rfl
    · intro y hy
      obtain ⟨z, rfl, rfl⟩ := Option.map_eq_some_iff.1 hy
      exact ⟨_, rfl, ev_at hR ht (by rw [hop]; simp [Op.operands])⟩
    · intro hn; rw [Option.map_eq_none_iff] at hn; rw [hn]; rfl
  · -- fieldAddr
    rename_i t x f hop
    obtain ⟨ef, h1, h2⟩ := fieldAddr_sound (P := P) (V := V) hT h
    exact ⟨ef, h1, op_pureS h2 (fun a w v hv => by simp only [execOp, hop, Sem.run_bind, hv, Result.andThen_ok, Sem.run_pure]) (by rw [hop]; simp [Op.operands]) (by rw [hop]; simp [Op.operands])⟩
  · -- field
    rename_i t x f hop
    obtain ⟨v, h1, h2⟩ := fieldE_sound (P := P) (V := V) hT h
    exact ⟨_, h1, op_pure (f := fun (a : Act) => Instr.field t (a.eval x) f) rfl rfl (fun a w v hv => by simp only [execOp, hop, Sem.run_bind, hv, Result.andThen_ok, Sem.run_pure]) fun c g s a w hR ht ha => h2 c g s w _ (ev_at hR ht (by rw [hop]; simp [Op.operands]))⟩
  · -- indexAddr
    rename_i t x i hop
    obtain ⟨ef, h1, h2⟩ := idxAddr_sound (P := P) hV hT h
    exact ⟨ef, h1, op_pureS h2 (fun a w v hv => by simp only [execOp, hop, Sem.run_bind, hv, Result.andThen_ok, Sem.run_pure]) (by rw [hop]; simp [Op.operands]) (by rw [hop]; simp [Op.operands])⟩
  · -- index
    rename_i t x i hop
    obtain ⟨v, h1, h2⟩ := indexE_sound (P := P) (V := V) hT h
    exact ⟨_, h1, op_pure (f := fun (a : Act) => Instr.index t (a.eval x) (a.eval i)) rfl rfl (fun a w v hv => by simp only [execOp, hop, Sem.run_bind, hv, Result.andThen_ok, Sem.run_pure]) fun c g s a w hR ht ha =>
      h2 c g s w _ _ (ev_at hR ht (by rw [hop]; simp [Op.operands])) (ev_at hR ht (by rw [hop]; simp [Op.operands]))⟩
  · -- extract
    rename_i x i hop
    split at h
    · rename_i vs hx
      split at h
      · rename_i v hv
        refine ⟨_, h, op_pure (f := fun (a : Act) => Instr.extract (a.eval x) i) rfl rfl (fun a w v hv => by simp only [execOp, hop, Sem.run_bind, hv, Result.andThen_ok, Sem.run_pure]) fun c g s a w hR ht ha => ?_⟩
        exact extract_sound hx hv c g s w _ (ev_at hR ht (by rw [hop]; simp [Op.operands]))
      · cases h
    · cases h
  · -- call
    rename_i cl hop
    split at h
    · -- a function
      rename_i f hcal
      obtain ⟨ef, h1, h2⟩ := callE_sound (P := P) hV hT hCS h
      refine ⟨ef, h1, fun c g s a w Kc Q hR ht ha hd hK => ?_⟩
      have hargs := all_at (s0 := s0) hR ht cl.args.toList fun x hx => by rw [hop]; simp [Op.operands, Call.operands, hx]
      have := h2 c g s w _ hR.mem ha hargs o a Kc Q fun v w' ⟨g', k1, k2, k3⟩ => by
        refine hK g' _ _ ?_ k2
        have := Rel.put (fun _ _ => trivial) k1 k2 hR rfl k3 hd
        cases s
        exact this
      unfold Oper.wp
      have hrun : (execOp a.eval o).run P w = (callFunc f (cl.args.toList.map a.eval).toArray).run P w := by
        have he : cl.args.map a.eval = (cl.args.toList.map a.eval).toArray := by apply Array.toList_inj.1; rw [Array.toList_map]
        simp only [execOp, hop, resolve, hcal, he]
        show ((Deferred.ofValue (.func (.func f) #[] #[]) _ >>= fun d => invoke d.target d.args) : Sem Next).run P w = _
        simp [Deferred.ofValue, invoke]
      rw [hrun]
      exact this
    · -- len
      rename_i hcal
      split at h
      · rename_i x t hx htt
        obtain ⟨ef, h1, h2⟩ := lenE_sound (P := P) (V := V) (ty := o.type) hT h
        have hm : x ∈ o.op.operands.toList := by rw [hop]; simp only [Op.operands, Call.operands]; rw [Array.toList_append, hx]; simp
        refine ⟨ef, h1, op_pureS h2 (fun a w v hv => ?_) hm hm⟩
        have e1 : cl.args.map a.eval = #[a.eval x] := by apply Array.toList_inj.1; rw [Array.toList_map, hx]; rfl
        have e2 : cl.argTypes = #[t] := by apply Array.toList_inj.1; rw [htt]
        have hv : (Builtin.len_ #[t] o.type #[a.eval x]).run P w = .ok v w := hv
        simp only [execOp, hop, resolve, hcal, invoke, builtin, e1, e2, Sem.run_bind, Sem.run_pure, Result.andThen_ok, hv]
      · cases h
    · -- max
      rename_i hcal
      split at h
      · rename_i x r hxr
        obtain ⟨v, h1, h2⟩ := foldE_sound (P := P) (V := V) maxE Builtin.max2 (fun _ _ _ h => maxE_one h) (fun c g s w x y K ux uy h hx hy => maxE_sound h hx hy) r x _ h
        exact ⟨_, h1, op_fold hop hxr h2 fun a w u hu => by
          simp only [execOp, hop, resolve, hcal, invoke, builtin, Sem.run_bind, Sem.run_pure, Result.andThen_ok, Builtin.max_, Array.toList_map]
          split at hu
          · rename_i ux us he
            rw [he]; simp only [hu, Sem.run_bind, Result.andThen_ok]
          · cases hu⟩
      · cases h
    · -- min
      rename_i hcal
      split at h
      · rename_i x r hxr
        obtain ⟨v, h1, h2⟩ := foldE_sound (P := P) (V := V) minE Builtin.min2 (fun _ _ _ h => minE_one h) (fun c g s w x y K ux uy h hx hy => minE_sound h hx hy) r x _ h
        exact ⟨_, h1, op_fold hop hxr h2 fun a w u hu => by
          simp only [execOp, hop, resolve, hcal, invoke, builtin, Sem.run_bind, Sem.run_pure, Result.andThen_ok, Builtin.min_, Array.toList_map]
          split at hu
          · rename_i ux us he
            rw [he]; simp only [hu, Sem.run_bind, Result.andThen_ok]
          · cases hu⟩
      · cases h
    · -- append
      rename_i hcal
      split at h
      · rename_i x y t t' d hxy htt hd0
        split at h
        · rename_i hte
          have hte := Nat.eq_of_beq_eq_true hte
          subst hte
          obtain ⟨ef, h1, h2⟩ := appendE_sound (P := P) (ty := o.type) hV hT h
          refine ⟨ef, h1, fun c g s a w Kc Q hR ht ha hd hK => ?_⟩
          have hmx : x ∈ o.op.operands.toList := by rw [hop]; simp only [Op.operands, Call.operands]; rw [Array.toList_append, hxy]; simp
          have hmy : y ∈ o.op.operands.toList := by rw [hop]; simp only [Op.operands, Call.operands]; rw [Array.toList_append, hxy]; simp
          obtain ⟨v, w', g', k1, k2, k3, k4⟩ := h2 c g s w _ _ hR.mem ha (ev_at hR ht hmx) (ev_at hR ht hmy)
          have e1 : cl.args.map a.eval = #[a.eval x, a.eval y] := by apply Array.toList_inj.1; rw [Array.toList_map, hxy]; rfl
          have e2 : cl.argTypes = #[t, t] := by apply Array.toList_inj.1; rw [htt]
          refine fin_value hR (v := v) ?_ k2 k3 k4 hd hK
          simp only [execOp, hop, resolve, hcal, invoke, builtin, e1, e2, Sem.run_bind, Sem.run_pure, Result.andThen_ok, k1]
        · cases h
      · cases h
    · cases h
  · cases h
end
end Go.Tx
set_option linter.unusedVariables false
set_option linter.unusedSimpArgs false
namespace Go.Tx
open Go.RowKit
section
variable {E : Env} {V : Lv E} {Γ : Nat → Option (TI E)} {P : Program} {c : Cx} {g g' : Gh} {s s0 : St E} {w w' : World} {a : Act}

/-- The variables that were handed on ('refs': number and block) are still where they were. -/
def Keep (refs : List (Nat × Nat)) (g : Gh) (s : St E) : Prop := ∀ p ∈ refs, ∃ bx, s.bx p.1 = some bx ∧ (bx.gen = 0 → g.bb p.1 = p.2)
def RelR (V : Lv E) (c : Cx) (refs : List (Nat × Nat)) (s : St E) (a : Act) (w : World) : Prop := ∃ g, Rel V c g s a w ∧ Keep refs g s
theorem Keep.later {refs : List (Nat × Nat)} {s' : St E} (h : Keep refs g s) (hl : Later c g g' s s' w w') : Keep refs g' s' := by
  intro p hp
  obtain ⟨bx, h1, h2⟩ := h p hp
  obtain ⟨bx', h3, h4, h5⟩ := hl.bx p.1 bx h1
  exact ⟨bx', h3, fun h0 => (h5 (by omega)).trans (h2 (by omega))⟩
theorem Keep.app {refs : List (Nat × Nat)} {o : Oper} {ef : Ef E} (h : Keep refs g (mem s ef)) : Keep refs g (app s o ef) := by cases s; exact h
theorem Rel.drawn (h : Rel V c g s a w) : Rel V c g s a { w with drawn := w.drawn + 1 } ∧ Later c g g s s w { w with drawn := w.drawn + 1 } := by
  obtain ⟨h1, h2⟩ := h.mem.grow (w' := { w with drawn := w.drawn + 1 }) ⟨rfl, rfl, rfl, Nat.le_refl _, fun _ _ => rfl⟩
  exact ⟨⟨h1, h.tmps, h.defers, fun n => RepA.later h2 (h.slot n)⟩, h2⟩

/-! ## One operation -/
def mvOf (o : Oper) (fp : FP) (ef : Ef E) (s0 : St E) : Mv (St E) :=
  ⟨fun s => (∀ n ∈ fp.rs, s.sl n = s0.sl n) ∧ Ag s s0 ef, fun s => app s o ef⟩
inductive Step (P : Program) (V : Lv E) (ops : Array Oper) (s : St E) (o : Oper) (ef : Ef E) (fp : FP) : Prop where
  | free (h1 : o.guard = none) (h2 : fp = fpOf o [] ef) (h3 : OpS P V s o ef)
  | run {j : Nat} {want : Bool} {d : Nat} (h1 : o.guard = some (j, want)) (h2 : (ops[j]?).bind (·.dst) = some d) (h3 : s.sl d = .f (.lf (.bool want))) (h4 : fp = fpOf o [d] ef) (h5 : OpS P V s o ef)
  | miss {j : Nat} {want b : Bool} {d : Nat} (h1 : o.guard = some (j, want)) (h2 : (ops[j]?).bind (·.dst) = some d) (h3 : s.sl d = .f (.lf (.bool b))) (h4 : b ≠ want) (h5 : ef = pu (.tup [])) (h6 : fp = fpOf o [d] ef)
  | none {j : Nat} {want : Bool} {d : Nat} (h1 : o.guard = some (j, want)) (h2 : (ops[j]?).bind (·.dst) = some d) (h3 : s.sl d = .tup []) (h5 : ef = pu (.tup [])) (h6 : fp = fpOf o [d] ef)
theorem yield_bool (hR : Rel V c g s a w) {ops : Array Oper} {j d : Nat} {b : Bool} (h1 : (ops[j]?).bind (·.dst) = some d) (h2 : s.sl d = .f (.lf (.bool b))) : yielded ops a.tmps j = some b := by
  have h3 := hR.slot d
  rw [h2] at h3
  have h3 : a.tmps.getD d undef = .bool b := RepP.boolv h3
  have h4 : a.tmps[d]? = some (.bool b) := by
    rw [Array.getD_eq_getD_getElem?] at h3
    cases h5 : a.tmps[d]? with
    | none => rw [h5] at h3; cases h3
    | some v => rw [h5] at h3; exact congrArg some h3
  unfold yielded
  rw [h1]
  simp [h4]
theorem yield_none (hR : Rel V c g s a w) {ops : Array Oper} {j d : Nat} (h1 : (ops[j]?).bind (·.dst) = some d) (h2 : s.sl d = .tup []) : yielded ops a.tmps j = none := by
  have h3 := hR.slot d
  rw [h2] at h3
  obtain ⟨vs, h3, _⟩ := h3
  unfold yielded
  rw [h1]
  cases h5 : a.tmps[d]? with
  | none => simp [h5]
  | some v =>
    rw [Array.getD_eq_getD_getElem?, h5] at h3
    have h3 : v = .tuple vs := h3
    simp [h5, h3]
theorem step_skip (hR : Rel V c g s a w) {o : Oper} (hd : ∀ n, o.dst = some n → n < c.N) : Rel V c g (app s o (pu (.tup []))) (a.put o.dst undef) w := by
  have := Rel.put (fun _ _ => trivial) hR.mem (Later.refl c g s w) hR rfl (d := o.dst) (x := .tup []) (v := undef) ⟨#[], rfl, rfl, fun i x h => by simp at h⟩ hd
  cases s
  exact this
theorem Step.does {ops : Array Oper} {refs : List (Nat × Nat)} {o : Oper} {ef : Ef E} {fp : FP} (h : Step P V ops s0 o ef fp) (hd : ∀ n, o.dst = some n → n < c.N) : Does P ops (RelR V c refs) o (mvOf o fp ef s0) := by
  intro Q s a w K ⟨g, hR, hk⟩ ⟨ht, ha⟩ hK
  cases h with
  | free h1 h2 h3 =>
    subst h2
    have hw : Region.wanted o (yielded ops a.tmps) = true := by simp [Region.wanted, h1]
    rw [if_pos hw]
    exact h3 c g s a w K Q hR (fun n hn => ht n (List.mem_append_right _ hn)) ha hd fun g' a' w' hR' hl => hK a' w' ⟨g', hR', (hk.later hl).app⟩
  | run h1 h2 h3 h4 h5 =>
    rename_i j want d
    subst h4
    have hsd : s.sl d = .f (.lf (.bool want)) := (ht d (List.mem_append_left _ (by simp))).trans h3
    have hw : Region.wanted o (yielded ops a.tmps) = true := by simp [Region.wanted, h1, yield_bool hR h2 hsd]
    rw [if_pos hw]
    exact h5 c g s a w K Q hR (fun n hn => ht n (List.mem_append_right _ hn)) ha hd fun g' a' w' hR' hl => hK a' w' ⟨g', hR', (hk.later hl).app⟩
  | miss h1 h2 h3 h4 h5 h6 =>
    rename_i j want b d
    subst h5 h6
    have hsd : s.sl d = .f (.lf (.bool b)) := (ht d (List.mem_append_left _ (by simp))).trans h3
    have hw : ¬ Region.wanted o (yielded ops a.tmps) = true := by simp [Region.wanted, h1, yield_bool hR h2 hsd, h4]
    rw [if_neg hw]
    exact hK _ _ ⟨g, step_skip hR hd, by cases s; exact hk⟩
  | none h1 h2 h3 h5 h6 =>
    rename_i j want d
    subst h5 h6
    have hsd : s.sl d = .tup [] := (ht d (List.mem_append_left _ (by simp))).trans h3
    have hw : ¬ Region.wanted o (yielded ops a.tmps) = true := by simp [Region.wanted, h1, yield_none hR h2 hsd]
    rw [if_neg hw]
    exact hK _ _ ⟨g, step_skip hR hd, by cases s; exact hk⟩
theorem Step.fp {ops : Array Oper} {o : Oper} {ef : Ef E} {fp : FP} (h : Step P V ops s0 o ef fp) : ∃ gs, fp = fpOf o gs ef := by
  cases h with
  | free _ h _ => exact ⟨_, h⟩
  | run _ _ _ h _ => exact ⟨_, h⟩
  | miss _ _ _ _ _ h => exact ⟨_, h⟩
  | none _ _ _ _ h => exact ⟨_, h⟩

/-! ## Operations that do not touch one another -/
theorem disj_out {x y : List Nat} (h : disj x y = true) : ∀ n ∈ x, n ∉ y := by
  intro n hn hm
  unfold disj at h
  simp only [Bool.not_eq_true'] at h
  have := List.any_eq_false.1 h n hn
  exact this (List.any_eq_true.2 ⟨n, hm, Nat.beq_refl n⟩)
theorem mem_evens {l : List Nat} {n : Nat} : 2 * n ∈ evens l ↔ n ∈ l := by
  induction l with
  | nil => simp [evens]
  | cons x r ih =>
    simp only [evens, List.mem_cons, ih]
    refine or_congr ⟨fun h => ?_, fun h => ?_⟩ Iff.rfl <;> omega
theorem mem_odds {l : List Nat} {n : Nat} : 2 * n + 1 ∈ odds l ↔ n ∈ l := by
  induction l with
  | nil => simp [odds]
  | cons x r ih =>
    simp only [odds, List.mem_cons, ih]
    refine or_congr ⟨fun h => ?_, fun h => ?_⟩ Iff.rfl <;> omega
theorem app_sl_ne {o : Oper} {ef : Ef E} {n : Nat} (h : n ∉ o.dst.toList) : (app s o ef).sl n = s.sl n := by
  cases s
  cases hd : o.dst with
  | none => simp only [app, putD, hd]
  | some m =>
    rw [hd] at h
    simp only [app, putD, hd]
    exact upd_ne _ _ (by simpa using h)
theorem app_bx_ne {o : Oper} {ef : Ef E} {n : Nat} (h : n ∉ keys ef.wb) : (app s o ef).bx n = s.bx n := by
  cases s; simp only [app]; exact updL_ne _ _ _ h
theorem app_rw_ne {o : Oper} {ef : Ef E} {n : Nat} (h : n ∉ keys ef.wr) : (app s o ef).rw n = s.rw n := by
  cases s; simp only [app]; exact updL_ne _ _ _ h
theorem upd_comm {α : Type} (f : Nat → α) {m n : Nat} (x y : α) (h : m ≠ n) : upd (upd f m x) n y = upd (upd f n y) m x := by
  funext k
  by_cases h1 : k = n
  · subst h1; rw [upd_eq, upd_ne _ _ (Ne.symm h), upd_eq]
  · rw [upd_ne _ _ h1]
    by_cases h2 : k = m
    · subst h2; rw [upd_eq, upd_eq]
    · rw [upd_ne _ _ h2, upd_ne _ _ h2, upd_ne _ _ h1]
theorem updL_upd {α : Type} (f : Nat → Option α) (n : Nat) (y : α) : ∀ (a : List (Nat × α)), n ∉ keys a → updL (upd f n (some y)) a = upd (updL f a) n (some y)
  | [], _ => rfl
  | (m, x) :: r, h => by
    simp only [keys, List.mem_cons, not_or] at h
    simp only [updL]
    rw [updL_upd f n y r h.2, upd_comm _ _ _ h.1]
theorem updL_comm {α : Type} (f : Nat → Option α) : ∀ (a b : List (Nat × α)), (∀ n ∈ keys a, n ∉ keys b) → updL (updL f a) b = updL (updL f b) a
  | [], b, _ => rfl
  | (m, x) :: r, b, h => by
    simp only [keys, List.mem_cons, forall_eq_or_imp] at h
    simp only [updL]
    rw [updL_upd _ _ _ _ h.1, updL_comm f r b h.2]
theorem putD_comm {f : Nat → AV E} {d e : Option Nat} {x y : AV E} (h : ∀ n ∈ d.toList, n ∉ e.toList) : putD (putD f d x) e y = putD (putD f e y) d x := by
  cases d with
  | none => rfl
  | some m =>
    cases e with
    | none => rfl
    | some n =>
      have : m ≠ n := by have := h m (by simp); simpa using this
      exact upd_comm f x y this
theorem indep_of {o o' : Oper} {gs gs' : List Nat} {ef ef' : Ef E} {s1 s2 : St E} (h : (fpOf o gs ef).apart (fpOf o' gs' ef') = true) : Indep (mvOf o (fpOf o gs ef) ef s1) (mvOf o' (fpOf o' gs' ef') ef' s2) := by
  unfold FP.apart at h
  simp only [Bool.and_eq_true] at h
  obtain ⟨⟨⟨h1, h2⟩, h3⟩, h4⟩ := h
  have h1 := disj_out h1
  have h2 := disj_out h2
  have h3 := disj_out h3
  have h4 := disj_out h4
  simp only [fpOf] at h1 h2 h3 h4
  have ok : ∀ {o o' : Oper} {gs gs' : List Nat} {ef ef' : Ef E} {s1 : St E}, (∀ n ∈ o'.dst.toList, n ∉ (fpOf o gs ef).rs) → (∀ n ∈ evens (keys ef'.wb) ++ odds (keys ef'.wr), n ∉ evens ef.rb ++ odds ef.rr) →
      ∀ s : St E, (mvOf o (fpOf o gs ef) ef s1).ok (app s o' ef') ↔ (mvOf o (fpOf o gs ef) ef s1).ok s := by
    intro o o' gs gs' ef ef' s1 k1 k2 s
    have e1 : ∀ n ∈ (fpOf o gs ef).rs, (app s o' ef').sl n = s.sl n := fun n hn => app_sl_ne fun hm => k1 n hm hn
    have e2 : ∀ n ∈ ef.rb, (app s o' ef').bx n = s.bx n := fun n hn => app_bx_ne fun hm => k2 (2 * n) (List.mem_append_left _ (mem_evens.2 hm)) (List.mem_append_left _ (mem_evens.2 hn))
    have e3 : ∀ n ∈ ef.rr, (app s o' ef').rw n = s.rw n := fun n hn => app_rw_ne fun hm => k2 (2 * n + 1) (List.mem_append_right _ (mem_odds.2 hm)) (List.mem_append_right _ (mem_odds.2 hn))
    constructor
    · rintro ⟨q1, q2, q3⟩
      exact ⟨fun n hn => (e1 n hn).symm.trans (q1 n hn), fun n hn => (e2 n hn).symm.trans (q2 n hn), fun n hn => (e3 n hn).symm.trans (q3 n hn)⟩
    · rintro ⟨q1, q2, q3⟩
      exact ⟨fun n hn => (e1 n hn).trans (q1 n hn), fun n hn => (e2 n hn).trans (q2 n hn), fun n hn => (e3 n hn).trans (q3 n hn)⟩
  refine ⟨ok (gs' := gs') (fun n hn => h2 n hn) fun n hn => h4 n hn, ok (gs' := gs) (fun n hn hm => h1 n hn (List.mem_append_left _ hm)) fun n hn hm => h3 n hn (List.mem_append_left _ hm), fun s => ?_⟩
  cases s with
  | mk sl bx rw =>
  simp only [mvOf, app]
  rw [putD_comm (d := o'.dst) (e := o.dst) fun n hn hm => h1 n hm (List.mem_append_right _ hn)]
  rw [updL_comm bx ef'.wb ef.wb fun n hn hm => h3 (2 * n) (List.mem_append_left _ (mem_evens.2 hm)) (List.mem_append_right _ (List.mem_append_left _ (mem_evens.2 hn)))]
  rw [updL_comm rw ef'.wr ef.wr fun n hn hm => h3 (2 * n + 1) (List.mem_append_right _ (mem_odds.2 hm)) (List.mem_append_right _ (List.mem_append_right _ (mem_odds.2 hn)))]

/-! ## The operations of a region, in the order of the text -/
structure Rec (E : Env) where
  o : Oper
  st : St E
  ef : Ef E
  fp : FP
inductive Walk (P : Program) (V : Lv E) (ops : Array Oper) : List Oper → St E → List (Rec E) → St E → Prop where
  | nil {s : St E} : Walk P V ops [] s [] s
  | cons {o : Oper} {r : List Oper} {s : St E} {ef : Ef E} {fp : FP} {ms : List (Rec E)} {s' : St E} (h : Step P V ops s o ef fp) (hr : Walk P V ops r (app s o ef) ms s') : Walk P V ops (o :: r) s (⟨o, s, ef, fp⟩ :: ms) s'
variable {CS : FuncId → List (PA E) → List (RV E) → List (List (Lf E)) → Prop}
theorem upd_same {α : Type} (f : Nat → α) {n : Nat} {v : α} (h : f n = v) : upd f n v = f := by
  funext k
  by_cases hk : k = n
  · subst hk; rw [upd_eq, h]
  · rw [upd_ne _ _ hk]
theorem fOI_iff {n : Option Int} {K : Option Int → Prop} : fOI n K ↔ K n := by
  cases n with
  | none => exact Iff.rfl
  | some n => cases n <;> exact Iff.rfl
theorem fON_iff {n : Option Nat} {K : Option Nat → Prop} : fON n K ↔ K n := by cases n <;> exact Iff.rfl
theorem fLf_iff {l : Lf E} {K : Lf E → Prop} : fLf l K ↔ K l := by
  cases l with
  | int k n lo hi => simp only [fLf, fOI_iff]
  | _ => exact Iff.rfl
theorem fLs_iff : ∀ {l : List (Lf E)} {K : List (Lf E) → Prop}, fLs l K ↔ K l
  | [], K => Iff.rfl
  | x :: r, K => by simp only [fLs, fLf_iff, fLs_iff (l := r)]
theorem fFv_iff {v : Fv E} {K : Fv E → Prop} : fFv v K ↔ K v := by cases v <;> simp only [fFv, fLf_iff, fLs_iff, fNat_iff, fON_iff]
theorem fFvs_iff : ∀ {l : List (Fv E)} {K : List (Fv E) → Prop}, fFvs l K ↔ K l
  | [], K => Iff.rfl
  | x :: r, K => by simp only [fFvs, fFv_iff, fFvs_iff (l := r)]
theorem fAV_iff {v : AV E} {K : AV E → Prop} : fAV v K ↔ K v := by cases v <;> simp only [fAV, fFv_iff, fFvs_iff]
theorem fWb_iff : ∀ {l : List (Nat × Bx E)} {K : List (Nat × Bx E) → Prop}, fWb l K ↔ K l
  | [], K => Iff.rfl
  | (n, ⟨g, ty, cs⟩) :: r, K => by simp only [fWb, fNat_iff, fLs_iff, fWb_iff (l := r)]
theorem fEf_iff {ef : Ef E} {K : Ef E → Prop} : fEf ef K ↔ K ef := by cases ef; simp only [fEf, fAV_iff, fWb_iff, fWr_iff]
theorem fUpd_iff {α : Type} {f : Nat → Option α} : ∀ {l : List (Nat × α)} {K : (Nat → Option α) → Prop}, fUpd f l K ↔ K (updL f l)
  | [], K => Iff.rfl
  | (n, x) :: r, K => by simp only [fUpd, updL, fUpd_iff (l := r)]
theorem fApp_iff {s : St E} {o : Oper} {ef : Ef E} {K : St E → Prop} : fApp s o ef K ↔ K (app s o ef) := by
  cases s
  simp only [fApp, app, fUpd_iff]
  unfold fPut putD
  cases o.dst <;> exact Iff.rfl
theorem evalOps_sound (hV : LvOk V) (hT : TabOk P V Γ) (hCS : ∀ f ps res cells, CS f ps res cells → CSem P V f ps res cells) {ops : Array Oper} : ∀ (l : List Oper) (s : St E) (log : List FP) (K : St E → List FP → Prop), evalOps V Γ CS ops l s log K →
    ∃ ms s', Walk P V ops l s ms s' ∧ K s' ((ms.map (·.fp)).reverse ++ log)
  | [], s, log, K, h => ⟨[], s, .nil, h⟩
  | o :: r, s, log, K, h => by
    -- one step, and the rest
    have one : ∀ (ef : Ef E) (fp : FP), Step P V ops s o ef fp → evalOps V Γ CS ops r (app s o ef) (fp :: log) K → ∃ ms s', Walk P V ops (o :: r) s ms s' ∧ K s' ((ms.map (·.fp)).reverse ++ log) := by
      intro ef fp h1 h2
      obtain ⟨ms, s', k1, k2⟩ := evalOps_sound hV hT hCS r _ _ K h2
      exact ⟨_, _, .cons h1 k1, by simpa using k2⟩
    simp only [evalOps, fEf_iff, fApp_iff] at h
    split at h
    · rename_i hg
      obtain ⟨ef, h1, h2⟩ := opE_sound hV hT hCS h
      exact one ef _ (.free hg rfl h2) h1
    · rename_i j want hg
      split at h
      · rename_i d hd
        split at h
        · rename_i b hb
          have hsame : ∀ b', b = b' → (⟨upd s.sl d (.f (.lf (.bool b'))), s.bx, s.rw⟩ : St E) = s := by
            intro b' e
            subst e
            rw [upd_same _ hb]
          unfold brE at h
          split at h
          · obtain ⟨h1, h2⟩ := h
            cases b with
            | true =>
              have h1 := h1 rfl
              rw [hsame true rfl] at h1
              obtain ⟨ef, h3, h4⟩ := opE_sound hV hT hCS h1
              exact one ef _ (.run hg hd hb rfl h4) h3
            | false =>
              have h2 := h2 rfl
              rw [hsame false rfl] at h2
              exact one _ _ (.miss hg hd hb (by simp) rfl rfl) h2
          · obtain ⟨h1, h2⟩ := h
            cases b with
            | true =>
              have h1 := h1 rfl
              rw [hsame true rfl] at h1
              exact one _ _ (.miss hg hd hb (by simp) rfl rfl) h1
            | false =>
              have h2 := h2 rfl
              rw [hsame false rfl] at h2
              obtain ⟨ef, h3, h4⟩ := opE_sound hV hT hCS h2
              exact one ef _ (.run hg hd hb rfl h4) h3
        · rename_i hb
          exact one _ _ (.none hg hd hb rfl rfl) h
        · cases h
      · cases h
end
end Go.Tx
set_option linter.unusedVariables false
set_option linter.unusedSimpArgs false
namespace Go.Tx
open Go.RowKit
section
variable {E : Env} {V : Lv E} {Γ : Nat → Option (TI E)} {P : Program} {c : Cx} {g g' : Gh} {s s0 s' : St E} {w w' : World} {a : Act}

def mvAt (ms : List (Rec E)) (i : Nat) : Mv (St E) := match ms[i]? with | some r => mvOf r.o r.fp r.ef r.st | none => ⟨fun _ => True, id⟩
def runR (ms : List (Rec E)) (s : St E) : St E := ms.foldl (fun s r => app s r.o r.ef) s
theorem fold_run (ms : List (Rec E)) (s : St E) : ∀ k, fold (mvAt ms) (fun _ => true) k s = runR (ms.take k) s
  | 0 => rfl
  | k + 1 => by
    simp only [fold, if_true, fold_run ms s k]
    rw [List.take_add_one]
    unfold runR
    rw [List.foldl_append]
    unfold mvAt
    cases ms[k]? with
    | none => rfl
    | some r => rfl
theorem Walk.out {ops : Array Oper} {l : List Oper} {ms : List (Rec E)} (h : Walk P V ops l s ms s') : ms.length = l.length ∧ s' = runR ms s ∧ ∀ i r, ms[i]? = some r → l[i]? = some r.o ∧ Step P V ops r.st r.o r.ef r.fp ∧ r.st = runR (ms.take i) s := by
  induction h with
  | nil => exact ⟨rfl, rfl, fun i r h => by simp at h⟩
  | cons h hr ih =>
    obtain ⟨h1, h2, h3⟩ := ih
    refine ⟨by simp [h1], h2, fun i r hi => ?_⟩
    cases i with
    | zero => injection hi with hi; subst hi; exact ⟨rfl, h, rfl⟩
    | succ i => exact h3 i r (by simpa using hi)
theorem go_out {ops : Array Oper} {x : FP} {i : Nat} : ∀ (r : List FP) (j : Nat), apartLog.go ops x i r j = true → j = r.length → ∀ k y, r[k]? = some y → pred ops (j - 1 - k) i = true ∨ y.apart x = true
  | [], j, _, _, k, y, h => by simp at h
  | z :: r, 0, _, hj, k, y, h => by simp at hj
  | z :: r, j + 1, h, hj, k, y, hk => by
    simp only [apartLog.go, Bool.and_eq_true, Bool.or_eq_true] at h
    cases k with
    | zero => injection hk with hk; subst hk; simpa using h.1
    | succ k =>
      have := go_out r j h.2 (by simpa using hj) k y (by simpa using hk)
      rwa [show j + 1 - 1 - (k + 1) = j - 1 - k by omega]
theorem apartLog_out {ops : Array Oper} : ∀ (log : List FP), apartLog ops log = true → ∀ k1 k2 x y, k1 < k2 → log[k1]? = some x → log[k2]? = some y → pred ops (log.length - 1 - k2) (log.length - 1 - k1) = true ∨ y.apart x = true
  | [], _, k1, k2, x, y, _, h, _ => by simp at h
  | z :: r, h, k1, k2, x, y, hlt, h1, h2 => by
    simp only [apartLog, Bool.and_eq_true] at h
    obtain ⟨k2, rfl⟩ : ∃ m, k2 = m + 1 := ⟨k2 - 1, by omega⟩
    simp only [List.getElem?_cons_succ, List.length_cons] at h2 ⊢
    cases k1 with
    | zero =>
      injection h1 with h1
      subst h1
      have := go_out r r.length h.2 rfl k2 y h2
      rwa [show r.length + 1 - 1 - (k2 + 1) = r.length - 1 - k2 by omega, show r.length + 1 - 1 - 0 = r.length by omega]
    | succ k1 =>
      simp only [List.getElem?_cons_succ] at h1
      have := apartLog_out r h.1 k1 k2 x y (by omega) h1 h2
      rwa [show r.length + 1 - 1 - (k2 + 1) = r.length - 1 - k2 by omega, show r.length + 1 - 1 - (k1 + 1) = r.length - 1 - k1 by omega]
theorem dsts_out {nt : Nat} : ∀ {l : List Oper}, dsts nt l = true → ∀ o ∈ l, ∀ d, o.dst = some d → d < nt
  | [], _, o, h, _, _ => by cases h
  | x :: r, h, o, ho, d, hd => by
    simp only [dsts, Bool.and_eq_true] at h
    rcases List.mem_cons.1 ho with rfl | ho
    · rw [hd] at h; exact Nat.le_of_ble_eq_true h.1
    · exact dsts_out h.2 o ho d hd
variable {CS : FuncId → List (PA E) → List (RV E) → List (List (Lf E)) → Prop}
theorem region_sound (hV : LvOk V) (hT : TabOk P V Γ) (hCS : ∀ f ps res cells, CS f ps res cells → CSem P V f ps res cells) (hm : P.follows .mixedOrders = true) {refs : List (Nat × Nat)} {nt id : Nat} (hN : nt ≤ c.N) {ops : Array Oper} {draw : Bool} {G : St E → Prop} {Q : Exit → Act → World → Prop}
    (h : evalOps V Γ CS ops ops.toList s [] fun s' log => Ck (dsts nt ops.toList && (!draw || (chk ops && apartLog ops log))) (G s')) (hR : RelR V c refs s a w) (hQ : ∀ s' a' w', G s' → RelR V c refs s' a' w' → Q .normal a' w') : (Code.region id ops draw).wp P Q a w := by
  obtain ⟨ms, s', hw, hk⟩ := evalOps_sound hV hT hCS ops.toList s [] _ h
  unfold Ck at hk
  obtain ⟨hc, hG⟩ := hk
  rw [Bool.and_eq_true] at hc
  obtain ⟨hd, hc⟩ := hc
  obtain ⟨h1, h2, h3⟩ := hw.out
  have hlen : ms.length = ops.size := by rw [h1]; simp
  have hget : ∀ (i : Nat) (o : Oper), ops[i]? = some o → ∃ r : Rec E, ms[i]? = some r ∧ r.o = o := by
    intro i o ho
    have hi : i < ms.length := by rw [hlen]; exact (Array.getElem?_eq_some_iff.1 ho).1
    refine ⟨ms[i], List.getElem?_eq_getElem hi, ?_⟩
    have := (h3 i _ (List.getElem?_eq_getElem hi)).1
    rw [Array.getElem?_toList, ho] at this
    injection this with this
    exact this.symm
  have hdoes : ∀ (i : Nat) (o : Oper), ops[i]? = some o → Does P ops (RelR V c refs) o (mvAt ms i) := by
    intro i o ho
    obtain ⟨r, hr, rfl⟩ := hget i o ho
    have : mvAt ms i = mvOf r.o r.fp r.ef r.st := by unfold mvAt; rw [hr]
    rw [this]
    refine ((h3 i r hr).2.1).does fun n hn => Nat.lt_of_lt_of_le (dsts_out hd r.o ?_ n hn) hN
    exact List.mem_of_getElem? (by rw [Array.getElem?_toList]; exact ho)
  have hok : ∀ (i : Nat), i < ops.size → (mvAt ms i).ok (fold (mvAt ms) (fun _ => true) i s) := by
    intro i hi
    have hr := List.getElem?_eq_getElem (show i < ms.length by omega)
    have : mvAt ms i = mvOf ms[i].o ms[i].fp ms[i].ef ms[i].st := by unfold mvAt; rw [hr]
    rw [this, fold_run, ← (h3 i _ hr).2.2]
    exact ⟨fun _ _ => rfl, fun _ _ => rfl, fun _ _ => rfl⟩
  have hfin : fold (mvAt ms) (fun _ => true) ops.size s = s' := by
    rw [fold_run, ← hlen, List.take_length, ← h2]
  cases draw with
  | false => exact wp_region_text hdoes hok hR fun a w hR' => hQ s' a w hG (by rw [hfin] at hR'; exact hR')
  | true =>
    simp only [Bool.not_true, Bool.false_or, Bool.and_eq_true, List.append_nil] at hc
    refine wp_region_drawn hm hc.1 hdoes ?_ hok ?_ fun a w hR' => hQ s' a w hG (by rw [hfin] at hR'; exact hR')
    · intro i j hij hj hp
      have hri := List.getElem?_eq_getElem (show i < ms.length by omega)
      have hrj := List.getElem?_eq_getElem (show j < ms.length by omega)
      have e1 : mvAt ms i = mvOf ms[i].o ms[i].fp ms[i].ef ms[i].st := by unfold mvAt; rw [hri]
      have e2 : mvAt ms j = mvOf ms[j].o ms[j].fp ms[j].ef ms[j].st := by unfold mvAt; rw [hrj]
      have hl : (ms.map (·.fp)).reverse.length = ms.length := by simp
      have hat : ∀ q (hq : q < ms.length), (ms.map (·.fp)).reverse[ms.length - 1 - q]? = some ms[q].fp := by
        intro q hq
        rw [List.getElem?_reverse (by simp; omega), List.length_map, show ms.length - 1 - (ms.length - 1 - q) = q by omega, List.getElem?_map, List.getElem?_eq_getElem hq]
        rfl
      have := apartLog_out _ hc.2 (ms.length - 1 - j) (ms.length - 1 - i) _ _ (by omega) (hat j (by omega)) (hat i (by omega))
      rw [hl, show ms.length - 1 - (ms.length - 1 - i) = i by omega, show ms.length - 1 - (ms.length - 1 - j) = j by omega, hp] at this
      obtain ⟨gs, q1⟩ := (h3 i _ hri).2.1.fp
      obtain ⟨gs', q2⟩ := (h3 j _ hrj).2.1.fp
      rw [e1, e2]
      rw [q1, q2] at this ⊢
      exact indep_of (this.resolve_left (by simp))
    · obtain ⟨g, k1, k2⟩ := hR
      obtain ⟨m1, m2⟩ := k1.drawn
      exact ⟨g, m1, k2.later m2⟩
end
end Go.Tx
set_option linter.unusedVariables false
set_option linter.unusedSimpArgs false
namespace Go.Tx
open Go.RowKit
section
variable {E : Env} {V : Lv E} {Γ : Nat → Option (TI E)} {P : Program} {c : Cx} {g g' : Gh} {s s0 s' : St E} {w w' : World} {a : Act}
variable {CS : FuncId → List (PA E) → List (RV E) → List (List (Lf E)) → Prop} {f : FuncId} {fn : Func} {R : Ending → World → Prop}

def GS (P : Program) (V : Lv E) (f : FuncId) (R : Ending → World → Prop) (c : Cx) (refs : List (Nat × Nat)) (k : List Item) (s : St E) : Prop := ∀ a w, RelR V c refs s a w → Goes P f R k a w
structure Here (P : Program) (V : Lv E) (Γ : Nat → Option (TI E)) (CS : FuncId → List (PA E) → List (RV E) → List (List (Lf E)) → Prop) (f : FuncId) (fn : Func) (R : Ending → World → Prop) (c : Cx) (refs : List (Nat × Nat)) (nt : Nat) (G : List Item → St E → Prop) (Fin : List (RV E) → List (List (Lf E)) → Prop) (rv : List ResultVar) (rt : List TypeId) (rf : List (Nat × TypeId)) : Prop where
  hV : LvOk V
  hT : TabOk P V Γ
  hCS : ∀ f ps res cells, CS f ps res cells → CSem P V f ps res cells
  mixed : P.follows .mixedOrders = true
  N : nt ≤ c.N
  hfn : P.funcs[f]? = some fn
  G : ∀ k s, G k s → GS P V f R c refs k s
  ret : ∀ s, retE Γ Fin rv rt rf s → ∀ a w, RelR V c refs s a w → ∃ v, (results fn a.tmps).run P w = .ok v w ∧ R (.returned v) w
variable {refs : List (Nat × Nat)} {nt : Nat} {G : List Item → St E → Prop} {Fin : List (RV E) → List (List (Lf E)) → Prop} {rv : List ResultVar} {rt : List TypeId} {rf : List (Nat × TypeId)}
theorem EC_sound (H : Here P V Γ CS f fn R c refs nt G Fin rv rt rf) : ∀ (x : Code) (k : List Item) (s : St E), EC V Γ CS G Fin rv rt rf nt x k s → GS P V f R c refs (.code x :: k) s
  | .skip, k, s, h => fun a w hR => goes_skip (H.G k s h a w hR)
  | .region id ops draw, k, s, h => fun a w hR => goes_wp (region_sound H.hV H.hT H.hCS H.mixed H.N h hR fun s' a' w' hg hR' => ⟨rfl, H.G k s' hg a' w' hR'⟩)
  | .seq x y, k, s, h => fun a w hR => goes_seq (EC_sound H x (.code y :: k) s h a w hR)
  | .cond cnd x y, k, s, h => fun a w hR => by
    unfold EC at h
    split at h
    · rename_i b hb
      unfold brE at h
      obtain ⟨h1, h2⟩ := h
      have hc : a.eval cnd = .bool b := by
        obtain ⟨g, hR, _⟩ := hR
        have := ev_rep hR cnd
        rw [hb] at this
        exact RepP.boolv this
      cases b with
      | true => exact goes_cond hc (H.G _ s (h1 rfl) a w hR)
      | false => exact goes_cond hc (H.G _ s (h2 rfl) a w hR)
    · cases h
  | .block id x, k, s, h => fun a w hR => goes_block (EC_sound H x (.inBlock id :: k) s h a w hR)
  | .loop x, k, s, h => fun a w hR => goes_loop (H.G _ s h a w hR)
  | .exit id, k, s, h => fun a w hR => by
    unfold EC at h
    split at h
    · rename_i k' hx
      exact goes_exit hx (H.G k' s h a w hR)
    · cases h
  | .ret, k, s, h => fun a w hR => by
    obtain ⟨v, h1, h2⟩ := H.ret s h a w hR
    obtain ⟨g, hR, _⟩ := hR
    exact goes_ret H.hfn hR.defers h1 h2
theorem EI_sound (H : Here P V Γ CS f fn R c refs nt G Fin rv rt rf) : ∀ (k : List Item) (s : St E), EI V Γ CS G Fin rv rt rf nt k s → GS P V f R c refs k s
  | [], s, h => fun a w hR => by
    obtain ⟨v, h1, h2⟩ := H.ret s h a w hR
    obtain ⟨g, hR, _⟩ := hR
    exact goes_end H.hfn hR.defers h1 h2
  | .code x :: k, s, h => EC_sound H x k s h
  | .inBlock id :: k, s, h => fun a w hR => goes_inBlock (H.G k s h a w hR)
  | .inLoop x :: k, s, h => fun a w hR => goes_inLoop (H.G _ s h a w hR)

/-! ## Places where ways meet -/
theorem slotsOf_cases : ∀ (sl : List (Nat × HV E)) (n : Nat), slotsOf sl n = .f .any ∨ ∃ h, (n, h) ∈ sl ∧ slotsOf sl n = hvAV h
  | [], n => .inl rfl
  | (m, x) :: r, n => by
    simp only [slotsOf]
    cases hb : Nat.beq n m with
    | true =>
      have := Nat.eq_of_beq_eq_true hb
      subst this
      exact .inr ⟨x, by simp, rfl⟩
    | false =>
      rcases slotsOf_cases r n with h | ⟨h, h1, h2⟩
      · exact .inl h
      · exact .inr ⟨h, List.mem_cons_of_mem _ h1, h2⟩
theorem subSlots_mem {sl0 : List (Nat × HV E)} {bs : List Nat} : ∀ {l : List (Nat × HV E)}, subSlots V s sl0 bs l → ∀ {n : Nat} {h : HV E}, (n, h) ∈ l → subSlot V s sl0 bs h (s.sl n)
  | [], _, n, h, hm => by cases hm
  | (m, x) :: r, hs, n, h, hm => by
    rcases List.mem_cons.1 hm with e | hm
    · injection e with e1 e2; subst e1 e2; exact hs.1
    · exact subSlots_mem hs.2 hm
theorem subBoxes_mem : ∀ {l : List (Nat × TypeId × List (Lf E))}, subBoxes s l → ∀ {b : Nat} {ty : TypeId} {cs : List (Lf E)}, (b, ty, cs) ∈ l → ∃ gn cs', s.bx b = some ⟨gn, ty, cs'⟩ ∧ leLfs cs' cs
  | [], _, b, ty, cs, hm => by cases hm
  | (b', ty', cs') :: r, hs, b, ty, cs, hm => by
    rcases List.mem_cons.1 hm with e | hm
    · injection e with e1 e2
      injection e2 with e2 e3
      subst e1 e2 e3
      have hs := hs.1
      cases hb : s.bx b with
      | none => rw [hb] at hs; cases hs
      | some x =>
        rw [hb] at hs
        obtain ⟨gn, ty', cs'⟩ := x
        have := Nat.eq_of_beq_eq_true hs.1
        subst this
        exact ⟨gn, cs', rfl, hs.2⟩
    · exact subBoxes_mem hs.2 hm
theorem boxesOf_cases : ∀ {l : List (Nat × TypeId × List (Lf E))} {b : Nat} {x : Bx E}, boxesOf l b = some x → ∃ ty cs, (b, ty, cs) ∈ l ∧ x = ⟨0, ty, cs⟩
  | [], b, x, h => by cases h
  | (b', ty', cs') :: r, b, x, h => by
    simp only [boxesOf] at h
    cases hb : Nat.beq b b' with
    | true =>
      have := Nat.eq_of_beq_eq_true hb
      subst this
      rw [hb] at h
      injection h with h
      exact ⟨ty', cs', by simp, h.symm⟩
    | false =>
      rw [hb] at h
      obtain ⟨ty, cs, h1, h2⟩ := boxesOf_cases h
      exact ⟨ty, cs, List.mem_cons_of_mem _ h1, h2⟩
theorem boxesOf_some : ∀ {l : List (Nat × TypeId × List (Lf E))} {b : Nat}, b ∈ keys l → ∃ ty cs, boxesOf l b = some ⟨0, ty, cs⟩
  | [], b, h => by cases h
  | (b', ty', cs') :: r, b, h => by
    simp only [boxesOf]
    cases hb : Nat.beq b b' with
    | true => exact ⟨ty', cs', rfl⟩
    | false =>
      rcases List.mem_cons.1 h with e | h
      · subst e; rw [Nat.beq_refl] at hb; cases hb
      · exact boxesOf_some h
theorem rowsOf_cases : ∀ {l : List (Nat × HV E)} {r : Nat} {x : Rw E}, rowsOf l r = some x → ∃ n e t xs, (n, .own r e t xs) ∈ l ∧ x = ⟨true, 0, e, t, xs⟩
  | [], r, x, h => by cases h
  | (n, .av v) :: l, r, x, h => by
    obtain ⟨n, e, t, xs, h1, h2⟩ := rowsOf_cases (l := l) (r := r) h
    exact ⟨n, e, t, xs, List.mem_cons_of_mem _ h1, h2⟩
  | (n, .own r' e t xs) :: l, r, x, h => by
    simp only [rowsOf] at h
    cases hb : Nat.beq r r' with
    | true =>
      have := Nat.eq_of_beq_eq_true hb
      subst this
      rw [hb] at h
      injection h with h
      exact ⟨n, e, t, xs, by simp, h.symm⟩
    | false =>
      rw [hb] at h
      obtain ⟨n, e, t, xs, h1, h2⟩ := rowsOf_cases (l := l) (r := r) h
      exact ⟨n, e, t, xs, List.mem_cons_of_mem _ h1, h2⟩
theorem mem_ownsOf : ∀ {l : List (Nat × HV E)} {n r : Nat} {e : TypeId} {t : Ty} {xs : List (El E t)}, (n, HV.own r e t xs) ∈ l → r ∈ ownsOf l
  | [], n, r, e, t, xs, h => by cases h
  | (m, .av v) :: l, n, r, e, t, xs, h => by
    rcases List.mem_cons.1 h with h | h
    · cases h
    · show r ∈ ownsOf l
      exact mem_ownsOf h
  | (m, .own r' e' t' xs') :: l, n, r, e, t, xs, h => by
    rcases List.mem_cons.1 h with h | h
    · cases h; simp [ownsOf]
    · simp [ownsOf, mem_ownsOf h]
theorem rowsOf_mem : ∀ {l : List (Nat × HV E)} {n r : Nat} {e : TypeId} {t : Ty} {xs : List (El E t)}, (n, HV.own r e t xs) ∈ l → (ownsOf l).Nodup → rowsOf l r = some ⟨true, 0, e, t, xs⟩
  | [], n, r, e, t, xs, h, _ => by cases h
  | (m, .av v) :: l, n, r, e, t, xs, h, hd => by
    rcases List.mem_cons.1 h with h | h
    · cases h
    · exact rowsOf_mem (l := l) h hd
  | (m, .own r' e' t' xs') :: l, n, r, e, t, xs, h, hd => by
    simp only [ownsOf, List.nodup_cons] at hd
    simp only [rowsOf]
    rcases List.mem_cons.1 h with h | h
    · cases h; rw [Nat.beq_refl]; rfl
    · have : Nat.beq r r' = false := by
        cases hb : Nat.beq r r' with
        | false => rfl
        | true => exact absurd (Nat.eq_of_beq_eq_true hb ▸ mem_ownsOf h) hd.1
      rw [this]
      exact rowsOf_mem h hd.2
/-- The slot that a row is handed over by. -/
def ownSlot : List (Nat × HV E) → Nat → Nat
  | [], _ => 0
  | (n, .own r _ _ _) :: l, m => cond (Nat.beq m r) n (ownSlot l m)
  | _ :: l, m => ownSlot l m
theorem ownSlot_mem : ∀ {l : List (Nat × HV E)} {n r : Nat} {e : TypeId} {t : Ty} {xs : List (El E t)}, (n, HV.own r e t xs) ∈ l → (ownsOf l).Nodup → ownSlot l r = n
  | [], n, r, e, t, xs, h, _ => by cases h
  | (m, .av v) :: l, n, r, e, t, xs, h, hd => by
    rcases List.mem_cons.1 h with h | h
    · cases h
    · exact ownSlot_mem (l := l) h hd
  | (m, .own r' e' t' xs') :: l, n, r, e, t, xs, h, hd => by
    simp only [ownsOf, List.nodup_cons] at hd
    simp only [ownSlot]
    rcases List.mem_cons.1 h with h | h
    · cases h; rw [Nat.beq_refl]; rfl
    · have : Nat.beq r r' = false := by
        cases hb : Nat.beq r r' with
        | false => rfl
        | true => exact absurd (Nat.eq_of_beq_eq_true hb ▸ mem_ownsOf h) hd.1
      rw [this]
      exact ownSlot_mem h hd.2
theorem RepL.le {F : Fr → Nat → Prop} (hm : Mono F) : ∀ {ls' ls : List (Lf E)} {cs : List Value}, RepL V w F ls' cs → leLfs ls' ls → RepL V w F ls cs
  | [], [], cs, h, _ => h
  | [], _ :: _, cs, h, hl => by cases hl
  | _ :: _, [], cs, h, hl => by cases hl
  | l' :: r', l :: r, cs, h, hl => by
    obtain ⟨v, vs, rfl, h1, h2⟩ := h.uncons
    exact .cons (h1.le hm hl.1) (RepL.le hm h2 hl.2)
theorem own_case (hV : LvOk V) (hm : RelG V c g s w) {sl : List (Nat × HV E)} {bs : List Nat} {r : Nat} {e : TypeId} {t : Ty} {xs : List (El E t)} {x : AV E} {v : Value} (h : subSlot V s sl bs (.own r e t xs) x) (hx : RepA V c g s w x v) :
    (∃ cells, w.ownsRow c.w0.heap.size e (tsz V t) v xs.length cells ∧ ElRep V w (FF c g) t xs cells ∧ 0 < tsz V t) ∧ (∀ k, v.ownBlock = some k → ∃ r' vr m row, x = .f (.own r' vr m) ∧ s.rw r' = some row ∧ row.live = true ∧ (g.rv r').ownBlock = some k) ∧ (∀ r', plain r' x = true → v = g.rv r') := by
  cases x with
  | tup xs => exact (h : False).elim
  | fn f xs => exact (h : False).elim
  | f fv =>
    cases fv with
    | own r' vr m =>
      simp only [subSlot] at h
      split at h
      · rename_i ver' e' t' xs' hr
        obtain ⟨h1, h2⟩ := h
        simp only [Bool.and_eq_true] at h1
        obtain ⟨h4, h5⟩ := h1
        have h4 := Nat.eq_of_beq_eq_true h4
        have h5 := Nat.eq_of_beq_eq_true h5
        subst h4 h5
        obtain ⟨row, k1, k2, k3⟩ := hx
        rw [hr] at k1
        injection k1 with k1
        subst k1
        have hv := k3 rfl rfl
        obtain ⟨cells, o1, o2, o3⟩ := hm.row r' _ hr rfl
        cases m with
        | none =>
          have hv : v = g.rv r' := hv
          subst hv
          cases h2
          exact ⟨⟨cells, o1, o2, o3⟩, fun k hk => ⟨_, _, _, _, rfl, hr, rfl, hk⟩, fun r2 h2 => by rw [Nat.eq_of_beq_eq_true h2]⟩
        | some n =>
          obtain ⟨hn, A, cap, e1, e2⟩ := hv
          subst e2
          cases h2
          rw [e1] at o1
          have hn : n ≤ xs'.length := hn
          have hln : (tkO (some n) xs').length = n := by simp [tkO]; omega
          refine ⟨⟨cells.take (n * tsz V t), by rw [hln]; exact ownsRow_take o1 hn, o2.take hV n, o3⟩, fun k hk => ⟨_, _, _, _, rfl, hr, rfl, ?_⟩, fun _ h => by cases h⟩
          rw [e1]
          cases A <;> exact hk
      · cases h
    | nil =>
      have h : xs = [] ∧ Nat.blt 0 (tsz V t) = true := h
      obtain ⟨h1, h2⟩ := h
      have hx : v = .slice none 0 0 := hx
      subst hx h1
      exact ⟨⟨[], World.ownsRow_nil .., fun j x i l hj => by simp at hj, Nat.le_of_ble_eq_true h2⟩, fun k hk => by simp [Value.ownBlock] at hk, fun _ h => by cases h⟩
    | _ => exact (h : False).elim
theorem whole_out {r0 r : Nat} : ∀ {l : List (Nat × HV E)}, whole s r0 l r = true → ∃ n e t xs, (n, HV.own r e t xs) ∈ l ∧ plain r0 (s.sl n) = true
  | [], h => by cases h
  | (n, .av v) :: l, h => by
    obtain ⟨n, e, t, xs, h1, h2⟩ := whole_out (l := l) h
    exact ⟨n, e, t, xs, List.mem_cons_of_mem _ h1, h2⟩
  | (n, .own r' e t xs) :: l, h => by
    simp only [whole, Bool.or_eq_true, Bool.and_eq_true] at h
    rcases h with h | h
    · have := Nat.eq_of_beq_eq_true h.1
      subst this
      exact ⟨n, e, t, xs, by simp, h.2⟩
    · obtain ⟨n, e, t, xs, h1, h2⟩ := whole_out (l := l) h
      exact ⟨n, e, t, xs, List.mem_cons_of_mem _ h1, h2⟩
theorem mem_srcs : ∀ {l : List (Nat × HV E)} {n r : Nat} {e : TypeId} {t : Ty} {xs : List (El E t)} {r' vr : Nat} {m : Option Nat}, (n, HV.own r e t xs) ∈ l → s.sl n = .f (.own r' vr m) → r' ∈ srcs s l
  | [], n, r, e, t, xs, r', vr, m, h, _ => by cases h
  | (n0, .av v) :: l, n, r, e, t, xs, r', vr, m, h, hs => by
    rcases List.mem_cons.1 h with h | h
    · cases h
    · show r' ∈ srcs s l
      exact mem_srcs h hs
  | (n0, .own r0 e0 t0 xs0) :: l, n, r, e, t, xs, r', vr, m, h, hs => by
    simp only [srcs]
    rcases List.mem_cons.1 h with h | h
    · cases h; rw [hs]; simp
    · have := mem_srcs h hs
      split
      · exact List.mem_cons_of_mem _ this
      · exact this
/-- Two rows that are handed over come of two rows. -/
theorem srcs_inj : ∀ {l : List (Nat × HV E)} {n1 n2 r1 r2 : Nat} {e1 e2 : TypeId} {t1 t2 : Ty} {xs1 : List (El E t1)} {xs2 : List (El E t2)} {r' v1 v2 : Nat} {m1 m2 : Option Nat}, (srcs s l).Nodup → (n1, HV.own r1 e1 t1 xs1) ∈ l → (n2, HV.own r2 e2 t2 xs2) ∈ l → s.sl n1 = .f (.own r' v1 m1) → s.sl n2 = .f (.own r' v2 m2) → r1 = r2
  | [], _, _, _, _, _, _, _, _, _, _, _, _, _, _, _, _, h, _, _, _ => by cases h
  | (n0, .av v) :: l, n1, n2, r1, r2, e1, e2, t1, t2, xs1, xs2, r', v1, v2, m1, m2, hd, h1, h2, s1, s2 => by
    rcases List.mem_cons.1 h1 with h | h1
    · cases h
    rcases List.mem_cons.1 h2 with h | h2
    · cases h
    exact srcs_inj (l := l) hd h1 h2 s1 s2
  | (n0, .own r0 e0 t0 xs0) :: l, n1, n2, r1, r2, e1, e2, t1, t2, xs1, xs2, r', v1, v2, m1, m2, hd, h1, h2, s1, s2 => by
    simp only [srcs] at hd
    rcases List.mem_cons.1 h1 with h | h1
    · rcases List.mem_cons.1 h2 with h' | h2
      · cases h; cases h'; rfl
      · cases h
        rw [s1] at hd
        exact absurd (mem_srcs h2 s2) (List.nodup_cons.1 hd).1
    · rcases List.mem_cons.1 h2 with h' | h2
      · cases h'
        rw [s2] at hd
        exact absurd (mem_srcs h1 s1) (List.nodup_cons.1 hd).1
      · refine srcs_inj (l := l) ?_ h1 h2 s1 s2
        split at hd
        · exact (List.nodup_cons.1 hd).2
        · exact hd
theorem refsIn_out {bs : List Nat} : ∀ {l : List Nat}, refsIn s bs l = true → ∀ b ∈ l, b ∈ bs ∧ ∃ ty cs, s.bx b = some ⟨0, ty, cs⟩
  | [], _, b, hb => by cases hb
  | b' :: r, h, b, hb => by
    simp only [refsIn, Bool.and_eq_true] at h
    rcases List.mem_cons.1 hb with rfl | hb
    · have h1 := h.1
      split at h1
      · rename_i ty cs hx
        obtain ⟨y, hy, he⟩ := List.any_eq_true.1 h1
        have := Nat.eq_of_beq_eq_true he
        subst this
        exact ⟨hy, _, _, hx⟩
      · cases h1
    · exact refsIn_out h.2 b hb
theorem seal1_sound (hV : LvOk V) {n : Nat} {K : St E → Prop} (h : seal1 s n K) (hR : RelR V c refs s a w) : ∃ s', K s' ∧ RelR V c refs s' a w := by
  unfold seal1 at h
  split at h
  · rename_i r v hn
    split at h
    · rename_i v' e t xs hr
      split at h
      · rename_i hv
        have hv := Nat.eq_of_beq_eq_true hv
        subst hv
        rw [fNat_iff] at h
        refine ⟨_, h, ?_⟩
        obtain ⟨g, hR, hk⟩ := hR
        obtain ⟨g', m1, l1, r1⟩ := hR.mem.sealRow hV hr rfl
        refine ⟨g', ⟨m1.sl _, hR.tmps, hR.defers, fun m => RepA.sl (s := ⟨s.sl, s.bx, upd s.rw r (some ⟨false, v + 1, e, t, xs⟩)⟩) _ ?_⟩, by have q := hk.later l1; exact q⟩
        by_cases hm : m = n
        · subst hm
          show RepA V c g' _ w (upd s.sl m (.f (.lf (.row .made t xs))) m) _
          rw [upd_eq]
          have hx := hR.slot m
          rw [hn] at hx
          obtain ⟨row, h1, h2, h3⟩ := hx
          rw [hr] at h1
          injection h1 with h1
          subst h1
          have hv : a.tmps.getD m undef = g.rv r := h3 rfl rfl
          rw [hv]
          exact r1
        · show RepA V c g' _ w (upd s.sl n (.f (.lf (.row .made t xs))) m) _
          rw [upd_ne _ _ hm]
          exact RepA.later l1 (hR.slot m)
      · cases h
    · cases h
  · cases h
theorem Sub_sound (hV : LvOk V) {sl : List (Nat × HV E)} {bx : List (Nat × TypeId × List (Lf E))} (h : Sub V (refs.map (·.1)) s sl bx) (hR : RelR V c refs s a w) : RelR V c refs (hdSt sl bx) a w := by
  obtain ⟨h1, h2, h3⟩ := h
  simp only [Bool.and_eq_true] at h1
  obtain ⟨⟨⟨⟨d1, d0⟩, d2⟩, d3⟩, d4⟩ := h1
  have d1 := nodup_iff.1 d1
  have d0 := nodup_iff.1 d0
  obtain ⟨g, hR, hk⟩ := hR
  have hm := hR.mem
  let g' : Gh := ⟨g.Z, g.bb, fun r => a.tmps.getD (ownSlot sl r) undef⟩
  have hrv : ∀ {n r : Nat} {e : TypeId} {t : Ty} {xs : List (El E t)}, (n, HV.own r e t xs) ∈ sl → g'.rv r = a.tmps.getD n undef := fun hmem => by
    show a.tmps.getD (ownSlot sl _) undef = _
    rw [ownSlot_mem hmem d1]
  have hown : ∀ {n r : Nat} {e : TypeId} {t : Ty} {xs : List (El E t)}, (n, HV.own r e t xs) ∈ sl → _ := fun hmem => own_case hV hm (subSlots_mem h2 hmem) (hR.slot _)
  have hblk : ∀ r row, rowsOf sl r = some row → row.live = true → ∀ k, (g'.rv r).ownBlock = some k → ∃ n e t xs r' vr m row, (n, HV.own r e t xs) ∈ sl ∧ s.sl n = .f (.own r' vr m) ∧ s.rw r' = some row ∧ row.live = true ∧ (g.rv r').ownBlock = some k := by
    intro r row hr hl k hk
    obtain ⟨n, e, t, xs, q1, q2⟩ := rowsOf_cases hr
    rw [hrv q1] at hk
    obtain ⟨r', vr, m, row, p1, p2⟩ := (hown q1).2.1 k hk
    exact ⟨n, e, t, xs, r', vr, m, row, q1, p1, p2⟩
  have hbox : ∀ b x, boxesOf bx b = some x → ∃ gn cs', s.bx b = some ⟨gn, x.ty, cs'⟩ ∧ leLfs cs' x.cells ∧ x.gen = 0 := by
    intro b x hb
    obtain ⟨ty, cs, q1, rfl⟩ := boxesOf_cases hb
    obtain ⟨gn, cs', q2, q3⟩ := subBoxes_mem h3 q1
    exact ⟨gn, cs', q2, q3, rfl⟩
  refine ⟨g', ⟨⟨hm.os, hm.tape, hm.output, hm.size, hm.old, hm.imm, hm.zed, fun b x hb => ?_, fun b x hb => ?_, fun b b' x x' hb hb' he => ?_, fun r row hr hl => ?_, fun r row hr hl k hk' => ?_, fun r r' row row' hr hr' hl hl' k hk1 hk2 => ?_⟩, hR.tmps, hR.defers, fun n => ?_⟩, fun p hp => ?_⟩
  · obtain ⟨gn, cs', q1, q2, _⟩ := hbox b x hb
    obtain ⟨cs, q3, q4⟩ := hm.box b _ q1
    exact ⟨cs, q3, RepL.le (FF.mono c g) q4 q2⟩
  · obtain ⟨gn, cs', q1, q2, _⟩ := hbox b x hb
    exact hm.boxAt b _ q1
  · obtain ⟨gn, cs', q1, q2, _⟩ := hbox b x hb
    obtain ⟨gn', cs'', q3, q4, _⟩ := hbox b' x' hb'
    exact hm.boxInj b b' _ _ q1 q3 he
  · obtain ⟨n, e, t, xs, q1, rfl⟩ := rowsOf_cases hr
    obtain ⟨cells, o1, o2, o3⟩ := (hown q1).1
    exact ⟨cells, by rw [hrv q1]; exact o1, o2, o3⟩
  · obtain ⟨_, _, _, _, r', _, _, row', _, _, q1, q2, q3⟩ := hblk r row hr hl k hk'
    obtain ⟨q4, q5⟩ := hm.rowAt r' row' q1 q2 k q3
    refine ⟨q4, fun b x hb => ?_⟩
    obtain ⟨gn, cs', q6, _⟩ := hbox b x hb
    exact q5 b _ q6
  · obtain ⟨_, _, _, _, a1, _, _, x, p1, p2, q1, q2, q3⟩ := hblk r row hr hl k hk1
    obtain ⟨_, _, _, _, a2, _, _, x', p3, p4, q4, q5, q6⟩ := hblk r' row' hr' hl' k hk2
    have := hm.rowInj a1 a2 x x' q1 q4 q2 q5 k q3 q6
    subst this
    exact srcs_inj d0 p1 p3 p2 p4
  · show RepA V c g' (hdSt sl bx) w (slotsOf sl n) (a.tmps.getD n undef)
    rcases slotsOf_cases sl n with e | ⟨h, q1, e⟩
    · rw [e]; trivial
    rw [e]
    have hs := subSlots_mem h2 q1
    have hx := hR.slot n
    cases h with
    | own r e t xs => exact ⟨_, rowsOf_mem q1 d1, Nat.zero_le _, fun _ _ => (hrv q1).symm⟩
    | av av =>
      show RepA V c g' (hdSt sl bx) w av _
      generalize hsl : s.sl n = x at hs hx
      cases av with
      | tup xs => cases x <;> exact (hs : False).elim
      | fn f xs => cases x <;> exact (hs : False).elim
      | f fv =>
        cases fv with
        | any => trivial
        | lf l =>
          cases x with
          | f fx =>
            cases fx with
            | lf l' => exact RepP.le hx (FF.mono c g) hs
            | _ => exact (hs : False).elim
          | _ => exact (hs : False).elim
        | agg ls =>
          cases x with
          | f fx =>
            cases fx with
            | agg ls' =>
              obtain ⟨cs, e, hr⟩ := hx
              exact ⟨cs, e, RepL.le (FF.mono c g) hr hs⟩
            | _ => exact (hs : False).elim
          | _ => exact (hs : False).elim
        | nil =>
          cases x with
          | f fx =>
            cases fx with
            | nil => exact hx
            | _ => exact (hs : False).elim
          | _ => exact (hs : False).elim
        | nilp =>
          cases x with
          | f fx =>
            cases fx with
            | nilp => exact hx
            | _ => exact (hs : False).elim
          | _ => exact (hs : False).elim
        | ptr b gn off =>
          cases gn with
          | succ gn => cases x with
            | f fx => cases fx <;> exact (hs : False).elim
            | _ => exact (hs : False).elim
          | zero =>
            cases x with
            | f fx =>
              cases fx with
              | ptr b' g2 off' =>
                simp only [subSlot] at hs
                split at hs
                · rename_i g3 ty3 cs3 hb'
                  simp only [Bool.and_eq_true] at hs
                  obtain ⟨⟨⟨e1, e2⟩, e3⟩, e4⟩ := hs
                  have e1 := Nat.eq_of_beq_eq_true e1
                  have e2 := Nat.eq_of_beq_eq_true e2
                  have e3 := Nat.eq_of_beq_eq_true e3
                  subst e1 e2 e3
                  obtain ⟨y, hy, he⟩ := List.any_eq_true.1 e4
                  have := Nat.eq_of_beq_eq_true he
                  subst this
                  obtain ⟨ty', cs', q3⟩ := boxesOf_some hy
                  obtain ⟨x, k1, k2, k3⟩ := hx
                  rw [hb'] at k1
                  injection k1 with k1
                  subst k1
                  exact ⟨_, q3, Nat.le_refl _, fun _ => k3 rfl⟩
                · cases hs
              | _ => exact (hs : False).elim
            | _ => exact (hs : False).elim
        | own r vr m =>
          cases vr with
          | succ vr => cases x with
            | f fx => cases fx <;> exact (hs : False).elim
            | _ => exact (hs : False).elim
          | zero =>
            cases m with
            | some m => cases x with
              | f fx => cases fx <;> exact (hs : False).elim
              | _ => exact (hs : False).elim
            | none =>
              cases x with
              | f fx =>
                cases fx with
                | own r' v m =>
                  cases m with
                  | some m => exact (hs : False).elim
                  | none =>
                    simp only [subSlot] at hs
                    split at hs
                    · rename_i v' e' t' xs' hr
                      simp only [Bool.and_eq_true] at hs
                      obtain ⟨e2, e3⟩ := hs
                      have e2 := Nat.eq_of_beq_eq_true e2
                      subst e2
                      obtain ⟨n', e, t, xs, q3, q4⟩ := whole_out e3
                      refine ⟨_, rowsOf_mem q3 d1, Nat.zero_le _, fun _ _ => ?_⟩
                      obtain ⟨x, k1, k2, k3⟩ := hx
                      rw [hr] at k1
                      injection k1 with k1
                      subst k1
                      show _ = g'.rv r
                      rw [hrv q3, (hown q3).2.2 _ q4]
                      exact k3 rfl rfl
                    · cases hs
                | _ => exact (hs : False).elim
              | _ => exact (hs : False).elim
        | eptr r vr i off => cases x with
            | f fx => cases fx <;> exact (hs : False).elim
            | _ => exact (hs : False).elim
        | lptr fr ls => cases x with
            | f fx => cases fx <;> exact (hs : False).elim
            | _ => exact (hs : False).elim
  · obtain ⟨q1, ty, cs, q2⟩ := refsIn_out d4 p.1 (List.mem_map.2 ⟨p, hp, rfl⟩)
    obtain ⟨ty', cs', q3⟩ := boxesOf_some q1
    obtain ⟨x, q4, q5⟩ := hk p hp
    rw [q2] at q4
    injection q4 with q4
    subst q4
    exact ⟨_, q3, fun _ => q5 rfl⟩
end
end Go.Tx
set_option linter.unusedVariables false
set_option linter.unusedSimpArgs false
namespace Go.Tx
open Go.RowKit
section
variable {E : Env} {V : Lv E} {Γ : Nat → Option (TI E)} {P : Program} {c : Cx} {g g' : Gh} {s s0 s' : St E} {w w' : World} {a : Act}

def resF (tmps : Array Value) : ResultVar → Sem Value
  | .tmp t => pure (tmps.getD t undef)
  | .cell a t => do loadVar t (← asAddr (tmps.getD a undef))
theorem run_results {fn : Func} {tmps : Array Value} {us : List Value} (h : (fn.results.toList.mapM (resF tmps)).run P w = .ok us w) : (results fn tmps).run P w = .ok (tupV us) w := by
  have h1 : (fn.results.mapM (resF tmps)).run P w = .ok us.toArray w := by
    rw [Array.mapM_eq_mapM_toList, Sem.run_map, h]; rfl
  have h2 : results fn tmps = (do let vs ← fn.results.mapM (resF tmps); pure (if h : vs.size = 1 then vs[0] else .tuple vs)) := by
    unfold results
    congr 1
  rw [h2, Sem.run_bind, h1]
  simp only [Result.andThen_ok, Sem.run_pure]
  rcases us with _ | ⟨x, _ | ⟨y, r⟩⟩
  · rfl
  · rfl
  · rw [dif_neg (by simp)]; rfl
/-- Number 'id' stands for block 'k'. -/
def Owns (g : Gh) (s : St E) (id k : Nat) : Prop := (∃ q row, id = 2 * q + 1 ∧ s.rw q = some row ∧ row.live = true ∧ (g.rv q).ownBlock = some k) ∨ ∃ b bx, id = 2 * b ∧ s.bx b = some bx ∧ g.bb b = k
theorem owns_inj (hm : RelG V c g s w) {id id' k : Nat} (h : Owns g s id k) (h' : Owns g s id' k) : id = id' := by
  rcases h with ⟨q, row, rfl, h1, h2, h3⟩ | ⟨b, bx, rfl, h1, h2⟩ <;> rcases h' with ⟨q', row', rfl, k1, k2, k3⟩ | ⟨b', bx', rfl, k1, k2⟩
  · rw [hm.rowInj q q' row row' h1 k1 h2 k2 k h3 k3]
  · exact absurd k2 ((hm.rowAt q row h1 h2 k h3).2 b' bx' k1)
  · exact absurd h2 ((hm.rowAt q' row' k1 k2 k k3).2 b bx h1)
  · rw [hm.boxInj b b' bx bx' h1 k1 (h2.trans k2.symm)]
theorem RepL.fgt {F : Fr → Nat → Prop} {ls : List (Lf E)} {cs : List Value} (h : RepL V w F ls cs) : RepL V w F (ls.map fgt) cs := by
  refine ⟨by simpa using h.1, fun i l hl => ?_⟩
  rw [List.getElem?_map] at hl
  obtain ⟨l0, h1, rfl⟩ := Option.map_eq_some_iff.1 hl
  obtain ⟨u, h2, h3⟩ := h.2 i l0 h1
  exact ⟨u, h2, h3.fgt⟩
/-- What a list of results comes to. -/
def ValsS (P : Program) (V : Lv E) (s : St E) (rv : List ResultVar) (vs : List (RV E)) (ids : List Nat) : Prop :=
  ∀ (c : Cx) (g : Gh) (a : Act) (w : World) (F : Fr → Nat → Prop), Rel V c g s a w → (∀ b k, FF c g b k → F b k) → (∀ b bx, 2 * b ∈ ids → s.bx b = some bx → c.w0.heap.size ≤ g.bb b) → ids.Nodup →
    ∃ us bks, (rv.mapM (resF a.tmps)).run P w = .ok us w ∧ ResRep V c.w0.heap.size w F vs us bks ∧ (∀ k ∈ bks, ∃ id ∈ ids, Owns g s id k) ∧ bks.Nodup ∧ ∀ k ∈ bks, ¬ g.Z k
theorem mapM_step {r : ResultVar} {rest : List ResultVar} {tmps : Array Value} {u : Value} {us : List Value} (h1 : (resF tmps r).run P w = .ok u w) (h2 : (rest.mapM (resF tmps)).run P w = .ok us w) : ((r :: rest).mapM (resF tmps)).run P w = .ok (u :: us) w := by
  simp only [List.mapM_cons, Sem.run_bind, h1, h2, Result.andThen_ok, Sem.run_pure]
theorem ValsS.lf {rv : List ResultVar} {r : ResultVar} {vs : List (RV E)} {ids : List Nat} (h : ValsS P V s rv vs ids) {l : Lf E} (hl : ∀ (c : Cx) (g : Gh) (a : Act) (w : World), Rel V c g s a w → ∃ u, (resF a.tmps r).run P w = .ok u w ∧ RepP V w (FF c g) l u) : ValsS P V s (r :: rv) (.lf (fgt l) :: vs) ids := by
  intro c g a w F hR hF hb hd
  obtain ⟨us, bks, h1, h2, h3⟩ := h c g a w F hR hF hb hd
  obtain ⟨u, h4, h5⟩ := hl c g a w hR
  exact ⟨u :: us, bks, mapM_step h4 h1, .lf (h5.fgt.move hF fun _ _ _ => rfl) h2, h3⟩
theorem ValsS.agg {rv : List ResultVar} {r : ResultVar} {vs : List (RV E)} {ids : List Nat} (h : ValsS P V s rv vs ids) {ls : List (Lf E)} (hl : ∀ (c : Cx) (g : Gh) (a : Act) (w : World), Rel V c g s a w → ∃ cs : Array Value, (resF a.tmps r).run P w = .ok (.agg cs) w ∧ RepL V w (FF c g) ls cs.toList) : ValsS P V s (r :: rv) (.agg (ls.map fgt) :: vs) ids := by
  intro c g a w F hR hF hb hd
  obtain ⟨us, bks, h1, h2, h3⟩ := h c g a w F hR hF hb hd
  obtain ⟨cs, h4, h5⟩ := hl c g a w hR
  exact ⟨.agg cs :: us, bks, mapM_step h4 h1, .agg (h5.fgt.move hF fun _ _ _ => rfl) h2, h3⟩
theorem valsOf_sound (hV : LvOk V) (hT : TabOk P V Γ) : ∀ (rv : List ResultVar) (rt : List TypeId) (K : List (RV E) → List Nat → Prop), valsOf Γ s rv rt K → ∃ vs ids, K vs ids ∧ ValsS P V s rv vs ids
  | [], rt, K, h => by
    refine ⟨[], [], by cases rt <;> exact h, fun c g a w F hR hF hb hd => ⟨[], [], ?_, .nil, fun k hk => (by cases hk), List.nodup_nil, fun k hk => (by cases hk)⟩⟩
    simp only [List.mapM_nil, Sem.run_pure]
  | r :: rest, [], K, h => by cases r <;> cases h
  | .tmp u :: r, t :: ts, K, h => by
    simp only [valsOf] at h
    split at h
    · rename_i l hl
      obtain ⟨vs, ids, h1, h2⟩ := valsOf_sound hV hT r ts _ h
      refine ⟨_, _, h1, h2.lf fun c g a w hR => ⟨_, rfl, ?_⟩⟩
      have := hR.slot u; rw [hl] at this; exact this
    · rename_i ls hl
      obtain ⟨vs, ids, h1, h2⟩ := valsOf_sound hV hT r ts _ h
      refine ⟨_, _, h1, h2.agg fun c g a w hR => ?_⟩
      have := hR.slot u; rw [hl] at this
      obtain ⟨cs, h3, h4⟩ := this
      exact ⟨cs, by rw [← h3]; rfl, h4⟩
    · rename_i hl
      obtain ⟨ti, hti, h⟩ := tyE_out h
      split at h
      · rename_i e hk
        obtain ⟨te, hte, h⟩ := tyE_out h
        obtain ⟨vs, ids, h1, h2⟩ := valsOf_sound hV hT r ts _ h
        refine ⟨_, _, h1, fun c g a w F hR hF hb hd => ?_⟩
        obtain ⟨us, bks, h3, h4, h5⟩ := h2 c g a w F hR hF hb hd
        have := hR.slot u; rw [hl] at this
        have this : a.tmps.getD u undef = .slice none 0 0 := this
        refine ⟨.slice none 0 0 :: us, bks, mapM_step (by rw [← this]; rfl) h3, ?_, h5⟩
        have ht := hT e te hte
        exact ResRep.own (v := .slice none 0 0) [] (World.ownsRow_nil ..) (fun j x i l hj => by simp at hj) (by have := ht.pos.1; have := ht.el; omega) h4
      · cases h
    · rename_i q v m hl
      split at h
      · rename_i v' e t' xs hq
        split at h
        · rename_i hv
          have hv := Nat.eq_of_beq_eq_true hv
          subst hv
          obtain ⟨vs, ids, h1, h2⟩ := valsOf_sound hV hT r ts _ h
          refine ⟨_, _, h1, fun c g a w F hR hF hb hd => ?_⟩
          rw [List.nodup_cons] at hd
          obtain ⟨us, bks, h3, h4, h5, h6, h7⟩ := h2 c g a w F hR hF (fun b bx hm => hb b bx (List.mem_cons_of_mem _ hm)) hd.2
          have hx := hR.slot u; rw [hl] at hx
          obtain ⟨row, k1, k2, k3⟩ := hx
          rw [hq] at k1
          injection k1 with k1
          subst k1
          have hv := k3 rfl rfl
          obtain ⟨cells, o1, o2, o3⟩ := hR.mem.row q _ hq rfl
          -- the row, whole or its first part
          have key : ∃ cells, w.ownsRow c.w0.heap.size e (tsz V t') (a.tmps.getD u undef) (tkO m xs).length cells ∧ ElRep V w (FF c g) t' (tkO m xs) cells ∧ (a.tmps.getD u undef).ownBlock = (g.rv q).ownBlock := by
            cases m with
            | none =>
              have hv : a.tmps.getD u undef = g.rv q := hv
              rw [hv]
              exact ⟨cells, o1, o2, rfl⟩
            | some n =>
              obtain ⟨hn, A, cap, e1, e2⟩ := hv
              have hn : n ≤ xs.length := hn
              have hln : (tkO (some n) xs).length = n := by simp [tkO]; omega
              rw [e1] at o1
              rw [e2, e1]
              exact ⟨cells.take (n * tsz V t'), by rw [hln]; exact ownsRow_take o1 hn, o2.take hV n, by cases A <;> rfl⟩
          obtain ⟨cells', p1, p2, p3⟩ := key
          have hown : ∀ k, (g.rv q).ownBlock = some k → Owns g s (2 * q + 1) k := fun k hk => .inl ⟨q, _, rfl, hq, rfl, hk⟩
          refine ⟨a.tmps.getD u undef :: us, _, mapM_step rfl h3, .own cells' p1 (p2.move hF fun _ _ _ => rfl) o3 h4, fun k hk => ?_, ?_, fun k hk => ?_⟩
          · rcases List.mem_append.1 hk with hk | hk
            · rw [p3] at hk
              exact ⟨_, by simp, hown k (by simpa using hk)⟩
            · obtain ⟨id, i1, i2⟩ := h5 k hk
              exact ⟨id, List.mem_cons_of_mem _ i1, i2⟩
          · rw [p3]
            cases hb0 : (g.rv q).ownBlock with
            | none => simpa using h6
            | some k =>
              simp only [Option.toList_some, List.singleton_append, List.nodup_cons]
              refine ⟨fun hk => ?_, h6⟩
              obtain ⟨id, i1, i2⟩ := h5 k hk
              exact hd.1 (owns_inj hR.mem (hown k hb0) i2 ▸ i1)
          · rcases List.mem_append.1 hk with hk | hk
            · rw [p3] at hk
              exact (hR.mem.rowAt q _ hq rfl k (by simpa using hk)).1
            · exact h7 k hk
        · cases h
      · cases h
    · rename_i b gn hl
      split at h
      · rename_i g2 ty cells hb0
        split at h
        · rename_i hg
          have hg := Nat.eq_of_beq_eq_true hg
          subst hg
          obtain ⟨vs, ids, h1, h2⟩ := valsOf_sound hV hT r ts _ h
          refine ⟨_, _, h1, fun c g a w F hR hF hb hd => ?_⟩
          rw [List.nodup_cons] at hd
          obtain ⟨us, bks, h3, h4, h5, h6, h7⟩ := h2 c g a w F hR hF (fun b bx hm => hb b bx (List.mem_cons_of_mem _ hm)) hd.2
          have hx := hR.slot u; rw [hl] at hx
          obtain ⟨bx, k1, k2, k3⟩ := hx
          rw [hb0] at k1
          injection k1 with k1
          subst k1
          have hv : a.tmps.getD u undef = .pointer (some ⟨g.bb b, 0, none⟩) := k3 rfl
          obtain ⟨cs, p1, p2⟩ := hR.mem.box b _ hb0
          have hown : Owns g s (2 * b) (g.bb b) := .inr ⟨b, _, rfl, hb0, rfl⟩
          refine ⟨.pointer (some ⟨g.bb b, 0, none⟩) :: us, _, mapM_step (by rw [← hv]; rfl) h3, .ref p1 (p2.fgt.move hF fun _ _ _ => rfl) (hb b _ (by simp) hb0) h4, fun k hk => ?_, ?_, fun k hk => ?_⟩
          · rcases List.mem_cons.1 hk with rfl | hk
            · exact ⟨_, by simp, hown⟩
            · obtain ⟨id, i1, i2⟩ := h5 k hk
              exact ⟨id, List.mem_cons_of_mem _ i1, i2⟩
          · rw [List.nodup_cons]
            refine ⟨fun hk => ?_, h6⟩
            obtain ⟨id, i1, i2⟩ := h5 _ hk
            exact hd.1 (owns_inj hR.mem hown i2 ▸ i1)
          · rcases List.mem_cons.1 hk with rfl | hk
            · exact (hR.mem.boxAt b _ hb0).2
            · exact h7 k hk
        · cases h
      · cases h
    · cases h
  | .cell p ty :: r, t :: ts, K, h => by
    simp only [valsOf] at h
    split at h
    · rename_i b gn hl
      split at h
      · rename_i g2 ty2 cells hb0
        split at h
        · rename_i hg
          have hg := Nat.eq_of_beq_eq_true hg
          subst hg
          obtain ⟨x, h3, h4⟩ := valOf_one h
          have hload : ∀ (c : Cx) (g : Gh) (a : Act) (w : World), Rel V c g s a w → ∃ v, (resF a.tmps (.cell p ty)).run P w = .ok v w ∧ RepA V c g s w x v := by
            intro c g a w hR
            have hx := hR.slot p; rw [hl] at hx
            obtain ⟨bx, k1, k2, k3⟩ := hx
            rw [hb0] at k1
            injection k1 with k1
            subst k1
            have hv : a.tmps.getD p undef = .pointer (some ⟨g.bb b, 0, none⟩) := k3 rfl
            obtain ⟨cs, p1, p2⟩ := hR.mem.box b _ hb0
            have hc : CellsAt V w (FF c g) (g.bb b) 0 cells := fun i l hi => by
              obtain ⟨u, h6, h7⟩ := p2.2 i l hi
              exact ⟨u, by rw [Nat.zero_add, cell_of_row w _ _ cs _ (0, 0) p1, ← Array.getElem?_toList]; exact h6, h7⟩
            obtain ⟨x', v, h6, h7, h8⟩ := valOf_load (s := s) hT h4 hc
            subst h6
            exact ⟨v, by simp only [resF, hv, asAddr, Sem.run_bind, Sem.run_pure, Result.andThen_ok, h7], h8⟩
          split at h3
          · obtain ⟨vs, ids, h1, h2⟩ := valsOf_sound hV hT r ts _ h3
            refine ⟨_, _, h1, h2.agg fun c g a w hR => ?_⟩
            obtain ⟨v, k1, cs, rfl, k2⟩ := hload c g a w hR
            exact ⟨cs, k1, k2⟩
          · obtain ⟨vs, ids, h1, h2⟩ := valsOf_sound hV hT r ts _ h3
            refine ⟨_, _, h1, h2.lf fun c g a w hR => hload c g a w hR⟩
          · cases h3
        · cases h
      · cases h
    · cases h
end
end Go.Tx
set_option linter.unusedVariables false
set_option linter.unusedSimpArgs false
namespace Go.Tx
open Go.RowKit
section
variable {E : Env} {V : Lv E} {Γ : Nat → Option (TI E)} {P : Program} {c : Cx} {g g' : Gh} {s s0 s' : St E} {w w' : World} {a : Act}

/-! ## Where a function begins -/
theorem RepP.enter {F F' : Fr → Nat → Prop} {l : Lf E} {v : Value} (h : RepP V w F l v) (hF : ∀ b k, b ≠ .made → F b k → F' b k) (hl : okLs [l] = true) : RepP V w F' l v := by
  cases l with
  | row fr t xs =>
    refine h.moveAt fun k => hF fr k ?_
    rintro rfl
    cases hl
  | int k n lo hi => cases h with | int x y => exact .int x y
  | bool b => cases h; exact .bool
  | str b => cases h with | str x => exact .str x
theorem okLs_cons {l : Lf E} {r : List (Lf E)} (h : okLs (l :: r) = true) : okLs [l] = true ∧ okLs r = true := by
  cases l with
  | row fr t xs => cases fr <;> first | (cases h; done) | exact ⟨rfl, h⟩
  | _ => exact ⟨rfl, h⟩
theorem RepL.enter {F F' : Fr → Nat → Prop} (hF : ∀ b k, b ≠ .made → F b k → F' b k) : ∀ {ls : List (Lf E)} {cs : List Value}, RepL V w F ls cs → okLs ls = true → RepL V w F' ls cs
  | [], cs, h, _ => ⟨h.1, fun i l hi => by simp at hi⟩
  | l :: r, cs, h, hl => by
    obtain ⟨v, vs, rfl, h1, h2⟩ := h.uncons
    obtain ⟨h3, h4⟩ := okLs_cons hl
    exact .cons (h1.enter hF h3) (RepL.enter hF h2 h4)
/-- What slot 'n' holds at the beginning. -/
inductive EntS (V : Lv E) (w : World) (F : Fr → Nat → Prop) (Z : List (Nat × Nat)) (n : Nat) : HV E → Value → Prop where
  | lf {l v} (h : RepP V w F l v) : EntS V w F Z n (.av (.f (.lf l))) v
  | agg {ls} {cs : Array Value} (h : RepL V w F ls cs.toList) : EntS V w F Z n (.av (.f (.agg ls))) (.agg cs)
  | ref {b} (h : (n, b) ∈ Z) : EntS V w F Z n (.av (.f (.ptr n 0 0))) (.pointer (some ⟨b, 0, none⟩))
theorem EntS.more {F : Fr → Nat → Prop} {Z Z' : List (Nat × Nat)} {n : Nat} {h : HV E} {v : Value} (hs : EntS V w F Z n h v) (hz : ∀ x ∈ Z, x ∈ Z') : EntS V w F Z' n h v := by
  cases hs with
  | lf h => exact .lf h
  | agg h => exact .agg h
  | ref h => exact .ref (hz _ h)
theorem refsOf_ge : ∀ (ps : List (PA E)) (j b : Nat), b ∈ refsOf j ps → j ≤ b
  | [], j, b, h => by cases h
  | p :: r, j, b, h => by
    cases p with
    | ref ty ls =>
      rcases List.mem_cons.1 h with rfl | h
      · exact Nat.le_refl _
      · have := refsOf_ge r (j + 1) b h; omega
    | _ => have := refsOf_ge r (j + 1) b h; omega
theorem refsOf_nodup : ∀ (ps : List (PA E)) (j : Nat), (refsOf j ps).Nodup
  | [], j => List.nodup_nil
  | p :: r, j => by
    cases p with
    | ref ty ls =>
      refine List.nodup_cons.2 ⟨fun h => ?_, refsOf_nodup r (j + 1)⟩
      have := refsOf_ge r (j + 1) j h
      omega
    | _ => exact refsOf_nodup r (j + 1)
theorem keys_entBx : ∀ (ps : List (PA E)) (j : Nat), keys (entBx j ps) = refsOf j ps
  | [], j => rfl
  | p :: r, j => by cases p <;> simp [entBx, refsOf, keys, keys_entBx r (j + 1)]
theorem ent_out {F F' : Fr → Nat → Prop} (hF : ∀ b k, b ≠ .made → F b k → F' b k) {ps : List (PA E)} {vs : List Value} {bs : List Nat} (h : ArgsRep V w F ps vs bs) : okPs ps = true → ∀ j,
    (∀ n hv, (n, hv) ∈ entSl j ps → j ≤ n ∧ ∃ v, vs[n - j]? = some v ∧ EntS V w F' ((refsOf j ps).zip bs) n hv v) ∧
    (∀ b ty ls, (b, ty, ls) ∈ entBx j ps → ∃ k, (b, k) ∈ (refsOf j ps).zip bs ∧ ∃ cs : Array Value, w.heap[k]? = some (.cells cs ty (0, 0)) ∧ RepL V w F' ls cs.toList) ∧ (refsOf j ps).length = bs.length := by
  have shift : ∀ {vs : List Value} {Z Z' : List (Nat × Nat)} {ps : List (PA E)} {j : Nat} {u : Value}, (∀ n hv, (n, hv) ∈ entSl (j + 1) ps → j + 1 ≤ n ∧ ∃ v, vs[n - (j + 1)]? = some v ∧ EntS V w F' Z n hv v) → (∀ x ∈ Z, x ∈ Z') →
      ∀ n hv, (n, hv) ∈ entSl (j + 1) ps → j ≤ n ∧ ∃ v, (u :: vs)[n - j]? = some v ∧ EntS V w F' Z' n hv v := by
    intro vs Z Z' ps j u h hz n hv hm
    obtain ⟨h1, v, h2, h3⟩ := h n hv hm
    refine ⟨by omega, v, ?_, h3.more hz⟩
    rw [show n - j = (n - (j + 1)) + 1 by omega, List.getElem?_cons_succ]
    exact h2
  induction h with
  | nil => exact fun _ j => ⟨fun n hv hm => (by cases hm), fun b ty ls hm => (by cases hm), rfl⟩
  | lf h _ ih =>
    intro hk j
    simp only [okPs, Bool.and_eq_true] at hk
    obtain ⟨h1, h2, h3⟩ := ih hk.2 (j + 1)
    refine ⟨fun n hv hm => ?_, h2, h3⟩
    rcases List.mem_cons.1 hm with e | hm
    · cases e
      exact ⟨Nat.le_refl _, _, by simp, .lf (h.enter hF hk.1)⟩
    · exact shift h1 (fun _ h => h) n hv hm
  | agg h _ ih =>
    intro hk j
    simp only [okPs, Bool.and_eq_true] at hk
    obtain ⟨h1, h2, h3⟩ := ih hk.2 (j + 1)
    refine ⟨fun n hv hm => ?_, h2, h3⟩
    rcases List.mem_cons.1 hm with e | hm
    · cases e
      exact ⟨Nat.le_refl _, _, by simp, .agg (h.enter hF hk.1)⟩
    · exact shift h1 (fun _ h => h) n hv hm
  | ref hb h _ ih =>
    rename_i ty0 ls0 b0 ps0 vs0 bs0 cs0 _
    intro hk j
    simp only [okPs, Bool.and_eq_true] at hk
    obtain ⟨h1, h2, h3⟩ := ih hk.2 (j + 1)
    refine ⟨fun n hv hm => ?_, fun b ty ls hm => ?_, by simp [refsOf, h3]⟩
    · rcases List.mem_cons.1 hm with e | hm
      · cases e
        exact ⟨Nat.le_refl _, .pointer (some ⟨b0, 0, none⟩), by simp, .ref (by simp [refsOf])⟩
      · exact shift h1 (fun x hx => by simp only [refsOf, List.zip_cons_cons]; exact List.mem_cons_of_mem _ hx) n hv hm
    · rcases List.mem_cons.1 hm with e | hm
      · cases e
        refine ⟨_, ?_, _, hb, h.enter hF hk.1⟩
        simp [refsOf]
      · obtain ⟨k, k1, k2⟩ := h2 b ty ls hm
        exact ⟨k, by simp only [refsOf, List.zip_cons_cons]; exact List.mem_cons_of_mem _ k1, k2⟩
def bbL : List (Nat × Nat) → Nat → Nat
  | [], _ => 0
  | (n, k) :: r, m => cond (Nat.beq m n) k (bbL r m)
theorem bbL_mem : ∀ {as bs : List Nat} {b k : Nat}, as.Nodup → (b, k) ∈ as.zip bs → bbL (as.zip bs) b = k
  | [], _, b, k, _, h => by simp at h
  | _ :: _, [], b, k, _, h => by simp at h
  | x :: as, y :: bs, b, k, hd, h => by
    rw [List.nodup_cons] at hd
    simp only [List.zip_cons_cons, bbL] at h ⊢
    rcases List.mem_cons.1 h with e | h'
    · cases e; rw [Nat.beq_refl]; rfl
    · have : Nat.beq b x = false := by
        cases hb : Nat.beq b x with
        | false => rfl
        | true =>
          have := Nat.eq_of_beq_eq_true hb
          rw [this] at h'
          exact absurd (List.of_mem_zip h').1 hd.1
      rw [this]
      exact bbL_mem hd.2 h'
theorem zip_inj : ∀ {as bs : List Nat} {b b' k : Nat}, bs.Nodup → (b, k) ∈ as.zip bs → (b', k) ∈ as.zip bs → b = b'
  | [], _, b, b', k, _, h, _ => by simp at h
  | _ :: _, [], b, b', k, _, h, _ => by simp at h
  | x :: as, y :: bs, b, b', k, hd, h, h' => by
    rw [List.nodup_cons] at hd
    simp only [List.zip_cons_cons] at h h'
    rcases List.mem_cons.1 h with e | h <;> rcases List.mem_cons.1 h' with e' | h'
    · cases e; cases e'; rfl
    · cases e; exact absurd (List.of_mem_zip h').2 hd.1
    · cases e'; exact absurd (List.of_mem_zip h).2 hd.1
    · exact zip_inj hd.2 h h'
theorem rowsOf_ent : ∀ (ps : List (PA E)) (j r : Nat), rowsOf (entSl j ps) r = none
  | [], j, r => rfl
  | p :: q, j, r => by cases p <;> exact rowsOf_ent q (j + 1) r
theorem entry {ps : List (PA E)} {vs : List Value} {bs : List Nat} {imm lent : Nat → Prop} {n : Nat} (h : ArgsRep V w (argF imm lent) ps vs bs) (hk : okPs ps = true) (hil : ∀ k, imm k ∨ lent k → k < w.heap.size ∧ k ∉ bs) (hnd : bs.Nodup) :
    RelR V ⟨imm, lent, w, fun k => k ∈ bs, (vs.toArray ++ Array.replicate n undef).size⟩ ((refsOf 0 ps).zip bs) (entSt ps) { tmps := vs.toArray ++ Array.replicate n undef, defers := [] } w := by
  let c : Cx := ⟨imm, lent, w, fun k => k ∈ bs, (vs.toArray ++ Array.replicate n undef).size⟩
  let g : Gh := ⟨fun _ => False, bbL ((refsOf 0 ps).zip bs), fun _ => undef⟩
  have hF : ∀ b k, b ≠ .made → argF imm lent b k → FF c g b k := by
    intro b k hb hf
    cases b with
    | made => exact absurd rfl hb
    | kept => exact .inr hf
    | lent => exact .inr hf
  obtain ⟨h1, h2, h3⟩ := ent_out hF h hk 0
  have hnr := refsOf_nodup ps 0
  have hbx : ∀ b x, boxesOf (entBx 0 ps) b = some x → x.gen = 0 ∧ ∃ k, (b, k) ∈ (refsOf 0 ps).zip bs ∧ g.bb b = k ∧ ∃ cs : Array Value, w.heap[k]? = some (.cells cs x.ty (0, 0)) ∧ RepL V w (FF c g) x.cells cs.toList := by
    intro b x hb
    obtain ⟨ty, cs, q1, rfl⟩ := boxesOf_cases hb
    obtain ⟨k, q2, q3⟩ := h2 b ty cs q1
    exact ⟨rfl, k, q2, bbL_mem hnr q2, q3⟩
  have hnone : ∀ r row, rowsOf (entSl 0 ps) r = some row → False := fun r row hr => by rw [rowsOf_ent] at hr; cases hr
  refine ⟨g, ⟨⟨rfl, rfl, rfl, Nat.le_refl _, fun _ _ _ => rfl, hil, fun k hz => hz.elim, fun b x hb => ?_, fun b x hb => ?_, fun b b' x x' hb hb' he => ?_, fun r row hr => (hnone r row hr).elim, fun r row hr => (hnone r row hr).elim, fun r r' row row' hr => (hnone r row hr).elim⟩, rfl, rfl, fun m => ?_⟩, fun p hp => ?_⟩
  · obtain ⟨_, k, q1, q2, cs, q3, q4⟩ := hbx b x hb
    exact ⟨cs, by rw [q2]; exact q3, q4⟩
  · obtain ⟨_, k, q1, q2, _⟩ := hbx b x hb
    exact ⟨.inr (by show g.bb b ∈ bs; rw [q2]; exact (List.of_mem_zip q1).2), fun hz => hz⟩
  · obtain ⟨_, k, q1, q2, _⟩ := hbx b x hb
    obtain ⟨_, k', q3, q4, _⟩ := hbx b' x' hb'
    rw [q2, q4] at he
    subst he
    exact zip_inj hnd q1 q3
  · show RepA V c g (entSt ps) w (slotsOf (entSl 0 ps) m) ((vs.toArray ++ Array.replicate n undef).getD m undef)
    rcases slotsOf_cases (entSl 0 ps) m with e | ⟨hv, q1, e⟩
    · rw [e]; trivial
    rw [e]
    obtain ⟨_, v, q2, q3⟩ := h1 m hv q1
    rw [Nat.sub_zero] at q2
    have hm : m < vs.length := (List.getElem?_eq_some_iff.1 q2).1
    have hget : (vs.toArray ++ Array.replicate n undef).getD m undef = v := by
      rw [Array.getD_eq_getD_getElem?, Array.getElem?_append_left (by simpa using hm), List.getElem?_toArray, q2]; rfl
    rw [hget]
    cases q3 with
    | lf h => exact h
    | agg h => exact ⟨_, rfl, h⟩
    | ref h =>
      obtain ⟨ty, cs, q4⟩ := boxesOf_some (l := entBx 0 ps) (b := m) (by rw [keys_entBx]; exact (List.of_mem_zip h).1)
      exact ⟨_, q4, Nat.le_refl _, fun _ => by rw [show g.bb m = _ from bbL_mem hnr h]⟩
  · obtain ⟨b, k⟩ := p
    obtain ⟨ty, cs, q4⟩ := boxesOf_some (l := entBx 0 ps) (b := b) (by rw [keys_entBx]; exact (List.of_mem_zip hp).1)
    exact ⟨_, q4, fun _ => bbL_mem hnr hp⟩

/-! ## Where it ends -/
theorem refCells_out (V : Lv E) : ∀ (rf : List (Nat × TypeId)) (K : List (List (Lf E)) → Prop), refCells s rf K → ∃ cs, K cs ∧ (∀ b ∈ keys rf, ∃ ty cells, s.bx b = some ⟨0, ty, cells⟩) ∧
    ∀ (c : Cx) (g : Gh) (w0 w : World) (F : Fr → Nat → Prop) (bs : List Nat), RelG V c g s w → (∀ b k, FF c g b k → F b k) → (keys rf).length = bs.length →
      (∀ b ty k, ((b, ty), k) ∈ rf.zip bs → (∃ bx, s.bx b = some bx ∧ (bx.gen = 0 → g.bb b = k)) ∧ ∃ c0 : Array Value, w0.heap[k]? = some (.cells c0 ty (0, 0))) → RefsRep V w0 w F bs cs
  | [], K, h => ⟨[], h, fun b hb => (by cases hb), fun c g w0 w F bs hm hF hl _ => by
      cases bs with
      | nil => exact .nil
      | cons => simp [keys] at hl⟩
  | (b, ty) :: r, K, h => by
    simp only [refCells] at h
    split at h
    · rename_i ty' cells hb
      split at h
      · rename_i ht
        have ht := Nat.eq_of_beq_eq_true ht
        subst ht
        obtain ⟨cs, h1, h1', h2⟩ := refCells_out V r _ h
        refine ⟨_, h1, fun b' hb' => ?_, fun c g w0 w F bs hm hF hl hp => ?_⟩
        · rcases List.mem_cons.1 hb' with rfl | hb'
          · exact ⟨_, _, hb⟩
          · exact h1' b' hb'
        cases bs with
        | nil => simp [keys] at hl
        | cons k bs =>
          obtain ⟨⟨bx, q1, q2⟩, c0, q3⟩ := hp b ty k (by simp)
          rw [hb] at q1
          injection q1 with q1
          subst q1
          have q2 := q2 rfl
          obtain ⟨c1, q5, q6⟩ := hm.box b _ hb
          rw [q2] at q5
          exact .cons q3 q5 (q6.fgt.move hF fun _ _ _ => rfl) (h2 c g w0 w F bs hm hF (by simpa [keys] using hl) fun b' ty' k' hm' => hp b' ty' k' (by simp only [List.zip_cons_cons]; exact List.mem_cons_of_mem _ hm'))
      · cases h
    · cases h
theorem keys_refsT : ∀ (ps : List (PA E)) (j : Nat), keys (refsT j ps) = refsOf j ps
  | [], j => rfl
  | p :: r, j => by cases p <;> simp [refsT, refsOf, keys, keys_refsT r (j + 1)]
theorem refsT_args {F : Fr → Nat → Prop} {ps : List (PA E)} {vs : List Value} {bs : List Nat} (h : ArgsRep V w F ps vs bs) : ∀ (j b : Nat) (ty : TypeId) (k : Nat), ((b, ty), k) ∈ (refsT j ps).zip bs → (b, k) ∈ (refsOf j ps).zip bs ∧ ∃ c0 : Array Value, w.heap[k]? = some (.cells c0 ty (0, 0)) := by
  induction h with
  | nil => intro j b ty k h; cases h
  | lf _ _ ih => intro j b ty k h; exact ih (j + 1) b ty k h
  | agg _ _ ih => intro j b ty k h; exact ih (j + 1) b ty k h
  | ref hb _ _ ih =>
    intro j b ty k h
    simp only [refsT, refsOf, List.zip_cons_cons] at h ⊢
    rcases List.mem_cons.1 h with e | h
    · cases e; exact ⟨by simp, _, hb⟩
    · obtain ⟨h1, h2⟩ := ih (j + 1) b ty k h
      exact ⟨List.mem_cons_of_mem _ h1, h2⟩
theorem mem_evens' {l : List Nat} {n : Nat} (h : n ∈ evens l) : ∃ b ∈ l, n = 2 * b := by
  induction l with
  | nil => cases h
  | cons x r ih =>
    rcases List.mem_cons.1 h with rfl | h
    · exact ⟨x, by simp, rfl⟩
    · obtain ⟨b, h1, h2⟩ := ih h
      exact ⟨b, List.mem_cons_of_mem _ h1, h2⟩
theorem zip_get : ∀ {as bs : List Nat} {b : Nat}, as.length = bs.length → b ∈ as → ∃ k, (b, k) ∈ as.zip bs
  | [], _, b, _, h => by cases h
  | x :: as, [], b, h, _ => by simp at h
  | x :: as, y :: bs, b, h, hm => by
    rcases List.mem_cons.1 hm with rfl | hm
    · exact ⟨y, by simp⟩
    · obtain ⟨k, hk⟩ := zip_get (as := as) (bs := bs) (by simpa using h) hm
      exact ⟨k, by simp only [List.zip_cons_cons]; exact List.mem_cons_of_mem _ hk⟩
theorem zip_get' : ∀ {as bs : List Nat} {k : Nat}, as.length = bs.length → k ∈ bs → ∃ b, (b, k) ∈ as.zip bs
  | _, [], k, _, h => by cases h
  | [], y :: bs, k, h, _ => by simp at h
  | x :: as, y :: bs, k, h, hm => by
    rcases List.mem_cons.1 hm with rfl | hm
    · exact ⟨x, by simp⟩
    · obtain ⟨b, hk⟩ := zip_get' (as := as) (bs := bs) (by simpa using h) hm
      exact ⟨b, by simp only [List.zip_cons_cons]; exact List.mem_cons_of_mem _ hk⟩
variable {CS : FuncId → List (PA E) → List (RV E) → List (List (Lf E)) → Prop}
theorem retE_sound (hV : LvOk V) (hT : TabOk P V Γ) {fn : Func} {ps : List (PA E)} {res : List (RV E)} {cells : List (List (Lf E))} {w0 : World} {imm lent : Nat → Prop} {vs : List Value} {bs : List Nat} {N : Nat} (hargs : ArgsRep V w0 (argF imm lent) ps vs bs) (hk : okPs ps = true) (hnd : bs.Nodup)
    (h : retE Γ (fun rv cs => rv = res ∧ cs = cells) fn.results.toList fn.resultTypes.toList (refsT 0 ps) s) (hR : RelR V ⟨imm, lent, w0, fun k => k ∈ bs, N⟩ ((refsOf 0 ps).zip bs) s a w) :
    ∃ v, (results fn a.tmps).run P w = .ok v w ∧ Post V w0 w imm lent bs res cells v := by
  unfold retE at h
  obtain ⟨rvs, ids, h1, h2⟩ := valsOf_sound (P := P) hV hT _ _ _ h
  clear h
  obtain ⟨h3, h4⟩ := cM_out h1
  clear h1
  have h3 := nodup_iff.1 h3
  obtain ⟨cs, ⟨rfl, rfl⟩, h5, h6⟩ := refCells_out V _ _ h4
  clear h4
  rw [keys_refsT] at h3 h5 h6
  obtain ⟨g, hR, hkeep⟩ := hR
  have hm := hR.mem
  obtain ⟨_, hb0, hlen⟩ := ent_out (F' := argF imm lent) (fun b k _ h => h) hargs hk 0
  have hF : ∀ b k, FF ⟨imm, lent, w0, fun k => k ∈ bs, N⟩ g b k → (g.Z k ∨ argF imm lent b k ∧ b ≠ .made) := by
    intro b k hf
    cases b with
    | made => exact .inl hf
    | kept => exact hf.imp id fun h => ⟨h, nofun⟩
    | lent => exact hf.imp id fun h => ⟨h, nofun⟩
  obtain ⟨us, bks, k1, k2, k3, k4, k5⟩ := h2 _ g a w _ hR hF (fun b bx hb hbx => by
    rcases (hm.boxAt b bx hbx).1 with h | h
    · exact h
    · exfalso
      obtain ⟨b', hb'⟩ := zip_get' hlen h
      obtain ⟨bx', q1, q2⟩ := hkeep _ hb'
      have hmem := (List.of_mem_zip hb').1
      obtain ⟨ty, cells, q3⟩ := h5 b' hmem
      have q1 : s.bx b' = some bx' := q1
      rw [q3] at q1
      injection q1 with q1
      subst q1
      have q2 : g.bb b' = g.bb b := q2 rfl
      have := hm.boxInj b' b _ _ q3 hbx q2
      subst this
      exact (List.nodup_append.1 h3).2.2 _ hb _ (mem_evens.2 hmem) rfl) (List.nodup_append.1 h3).1
  refine ⟨_, run_results k1, hm.os, hm.tape, hm.output, hm.size, fun k hk hb => hm.old k hk hb, g.Z, us, bks, hm.zed, k4, fun b hb => k5 b hb, rfl, k2, ?_⟩
  refine h6 _ g w0 w _ bs hm hF hlen fun b ty k hz => ?_
  obtain ⟨q1, q2⟩ := refsT_args hargs 0 b ty k hz
  exact ⟨hkeep _ q1, q2⟩
/-- The same of a call that stands alone. -/
def CCal (P : Program) (V : Lv E) (f : FuncId) (ps : List (PA E)) (res : List (RV E)) (cells : List (List (Lf E))) : Prop :=
  ∀ (w : World) (imm lent : Nat → Prop) (vs : List Value) (rbs : List Nat), (∀ k, imm k ∨ lent k → k < w.heap.size ∧ k ∉ rbs) → rbs.Nodup → ArgsRep V w (argF imm lent) ps vs rbs →
    Calls P f vs.toArray w fun e w' => ∃ v, e = .returned v ∧ Post V w w' imm lent rbs res cells v
/-- A FUNCTION'S CONTRACT, FROM WHAT THE EVALUATOR TELLS OF ITS TEXT. -/
theorem fn_calls (hV : LvOk V) (hT : TabOk P V Γ) (hCS : ∀ f ps res cells, CS f ps res cells → CSem P V f ps res cells) (mixed : P.follows .mixedOrders = true) {f : FuncId} {fn : Func} (hf : P.funcs[f]? = some fn) (hb : fn.body.isSome = true)
    {ps : List (PA E)} {res : List (RV E)} {cells : List (List (Lf E))} (hk : okPs ps = true) (h : Fn V Γ CS fn ps res cells) : CCal P V f ps res cells := by
  intro w imm lent vs bs hil hnd hargs
  obtain ⟨x, hx⟩ := Option.isSome_iff_exists.1 hb
  obtain ⟨_, _, hlen⟩ := ent_out (F' := argF imm lent) (fun b k _ h => h) hargs hk 0
  have hmap : ((refsOf 0 ps).zip bs).map (·.1) = refsOf 0 ps := List.map_fst_zip (by omega)
  refine calls_of_goes hf hx ?_
  have hbody : bodyOf fn = x := by unfold bodyOf; rw [hx]
  have hent := entry (n := fn.ntmps - vs.toArray.size) hargs hk hil hnd
  have := h (GS P V f (fun e w' => ∃ v, e = .returned v ∧ Post V w w' imm lent bs res cells v) ⟨imm, lent, w, fun k => k ∈ bs, (vs.toArray ++ Array.replicate (fn.ntmps - vs.toArray.size) undef).size⟩ ((refsOf 0 ps).zip bs))
    (fun k s hei => EI_sound ⟨hV, hT, hCS, mixed, by simp; omega, hf, fun _ _ h => h, fun s hr a w' hR => by
      obtain ⟨v, q1, q2⟩ := retE_sound hV hT hargs hk hnd hr hR
      exact ⟨v, q1, v, rfl, q2⟩⟩ k s hei)
    (fun k s sl bx hs hg a w' hR => hg a w' (Sub_sound hV (by rw [hmap]; exact hs) hR))
    (fun k s n hs a w' hR => by
      obtain ⟨s', h1, h2⟩ := seal1_sound hV hs hR
      exact h1 a w' h2)
  rw [hbody] at this
  exact this _ w hent
theorem fn_sound (hV : LvOk V) (hT : TabOk P V Γ) (hCS : ∀ f ps res cells, CS f ps res cells → CSem P V f ps res cells) (mixed : P.follows .mixedOrders = true) {f : FuncId} {fn : Func} (hf : P.funcs[f]? = some fn) (hb : fn.body.isSome = true) (hn : (fn.name == "runtime.NumGoroutine") = false)
    {ps : List (PA E)} {res : List (RV E)} {cells : List (List (Lf E))} (hk : okPs ps = true) (h : Fn V Γ CS fn ps res cells) : CSem P V f ps res cells :=
  fun w imm lent vs bs hil hnd hargs => enters_of_calls hf hb hn (fn_calls hV hT hCS mixed hf hb hk h w imm lent vs bs hil hnd hargs)
end
end Go.Tx
set_option linter.unusedVariables false
set_option linter.unusedSimpArgs false
namespace Go.Tx
open Go.RowKit
section
variable {E : Env} {V : Lv E} {P : Program}

def zO (a n : Option Int) (f : Int → Int → Bool) : Bool := match a, n with | some a, some n => f a n | _, _ => true
def zLeaf : Lf E → Value → Bool
  | .int k n lo hi, .int k' n' => decide (k = k') && decide (n = n') && decide (mnK k ≤ n) && decide (n ≤ mxK k) && zO lo (some n) (fun a n => decide (a ≤ n)) && zO hi (some n) (fun a n => decide (n ≤ a))
  | .bool b, .bool b' => b == b'
  | .str s, .string s' => s.data.toList.isEmpty && s'.data.toList.isEmpty
  | .row _ _ [], .slice none 0 0 => true
  | _, _ => false
def zLeaves : List (Lf E) → List Value → Bool
  | [], [] => true
  | l :: r, v :: vs => zLeaf l v && zLeaves r vs
  | _, _ => false
theorem bytes_nil {s : ByteArray} (h : s.data.toList.isEmpty = true) : s = ⟨#[]⟩ := by
  obtain ⟨⟨l⟩⟩ := s
  simp only [List.isEmpty_iff] at h
  subst h
  rfl
theorem zLeaf_sound {l : Lf E} {v : Value} (h : zLeaf l v = true) (w : World) (F : Fr → Nat → Prop) : RepP V w F l v := by
  unfold zLeaf at h
  split at h
  · simp only [Bool.and_eq_true, decide_eq_true_eq] at h
    obtain ⟨⟨⟨⟨⟨h1, h2⟩, h3⟩, h4⟩, h5⟩, h6⟩ := h
    subst h1 h2
    refine .int ⟨h3, h4⟩ ⟨?_, ?_⟩
    · rintro a rfl; simpa [zO] using h5
    · rintro a rfl; simpa [zO] using h6
  · rename_i b b'
    have : b = b' := by simpa using h
    subst this
    exact .bool
  · simp only [Bool.and_eq_true] at h
    rw [bytes_nil h.1, bytes_nil h.2]
    exact .str (by decide)
  · exact .nil
  · cases h
theorem zLeaves_sound {ls : List (Lf E)} {vs : List Value} (h : zLeaves ls vs = true) (w : World) (F : Fr → Nat → Prop) : RepL V w F ls vs := by
  induction ls generalizing vs with
  | nil => cases vs with
    | nil => exact .nil
    | cons => cases h
  | cons l r ih => cases vs with
    | nil => cases h
    | cons v vs =>
      simp only [zLeaves, Bool.and_eq_true] at h
      exact .cons (zLeaf_sound h.1 w F) (ih h.2)
def fieldsC (P : Program) (sz : Nat) : List Field → List (Nat × TypeId) → Bool
  | [], [] => true
  | f :: r, (o, u) :: r' => Nat.beq f.offset o && Nat.beq f.type u && !(f.name == "_") && (match P.info? u with | some iu => !(Nat.beq iu.size 0) && Nat.ble (o + iu.size) sz | none => false) && fieldsC P sz r r'
  | _, _ => false
def kC (P : Program) (sz : Nat) : TK → TypeDesc → Bool
  | .basic, d => !aggD d
  | .struct fs, .struct fields => fieldsC P sz fields.toList fs
  | .array n e, .array n' e' => Nat.beq n n' && Nat.beq e e' && (match P.info? e with | some ie => Nat.ble (n * ie.size) sz | none => false)
  | .slice e, .slice e' => Nat.beq e e'
  | _, _ => false
def kdC : BK → TypeDesc → Bool
  | .int k, .int k' => decide (k = k')
  | .bool, .bool => true
  | .str, .string => true
  | .oth, _ => true
  | _, _ => false
theorem fieldsC_sound {sz : Nat} : ∀ {fl : List Field} {fs : List (Nat × TypeId)}, fieldsC P sz fl fs = true → fl.length = fs.length ∧ ∀ (i : Nat) (o : Nat) (u : TypeId), fs[i]? = some (o, u) →
      ∃ f, fl[i]? = some f ∧ f.offset = o ∧ f.type = u ∧ f.name ≠ "_" ∧ ∃ iu, P.info? u = some iu ∧ iu.size ≠ 0 ∧ o + iu.size ≤ sz
  | [], [], _ => ⟨rfl, fun i o u h => by simp at h⟩
  | [], _ :: _, h => by cases h
  | _ :: _, [], h => by cases h
  | f :: r, (o, u) :: r', h => by
    simp only [fieldsC, Bool.and_eq_true, Bool.not_eq_true', beq_eq_false_iff_ne] at h
    obtain ⟨⟨⟨⟨h1, h2⟩, h3⟩, h4⟩, h5⟩ := h
    obtain ⟨k1, k2⟩ := fieldsC_sound h5
    refine ⟨by simp [k1], fun i o' u' hi => ?_⟩
    cases i with
    | zero =>
      injection hi with hi
      cases hi
      split at h4
      · rename_i iu hiu
        simp only [Bool.and_eq_true, Bool.not_eq_true'] at h4
        exact ⟨f, rfl, Nat.eq_of_beq_eq_true h1, Nat.eq_of_beq_eq_true h2, h3, iu, hiu, fun e => (by rw [e] at h4; cases h4.1), Nat.le_of_ble_eq_true h4.2⟩
      · cases h4
    | succ i => exact k2 i o' u' (by simpa using hi)
theorem kC_sound {sz : Nat} {k : TK} {d : TypeDesc} (h : kC P sz k d = true) : KOk P d sz k := by
  cases k with
  | basic =>
    have : (!aggD d) = true := h
    show aggD d = false
    simpa using this
  | struct fs =>
    cases d <;> first | (cases h; done) | skip
    rename_i fields
    obtain ⟨h1, h2⟩ := fieldsC_sound (P := P) h
    refine ⟨fields, rfl, by simpa using h1, fun i o u hi => ?_⟩
    obtain ⟨f, k1, k2⟩ := h2 i o u hi
    exact ⟨f, by rw [← Array.getElem?_toList]; exact k1, k2⟩
  | array n e =>
    cases d <;> first | (cases h; done) | skip
    rename_i n' e'
    simp only [kC, Bool.and_eq_true] at h
    obtain ⟨⟨h1, h2⟩, h3⟩ := h
    have h1 := Nat.eq_of_beq_eq_true h1
    have h2 := Nat.eq_of_beq_eq_true h2
    subst h1 h2
    split at h3
    · rename_i ie hie
      exact ⟨rfl, ie, hie, Nat.le_of_ble_eq_true h3⟩
    · cases h3
  | slice e =>
    cases d <;> first | (cases h; done) | skip
    have h := Nat.eq_of_beq_eq_true h
    subst h
    rfl
theorem kdC_sound {k : BK} {d : TypeDesc} (h : kdC k d = true) : KdOk d k := by
  cases k <;> cases d <;> first | (cases h; done) | exact rfl | trivial | (have h := of_decide_eq_true h; subst h; rfl)
def tyC (P : Program) (V : Lv E) (t : TypeId) (ti : TI E) : Bool :=
  (match P.underlying t with | some d => (ti.agg == aggD d) && kC P ti.size ti.k d && kdC ti.kd d | none => false) &&
  (match P.info? t with
    | some i => Nat.beq i.size ti.size && Nat.beq i.bytes ti.bytes && (match i.zero with
      | some z => (match ti.agg, z with
        | true, .agg cs => zLeaves ti.zero cs.toList && Nat.beq cs.size ti.size
        | false, .int _ _ => zLeaves ti.zero [z] && Nat.beq 1 ti.size
        | false, .bool _ => zLeaves ti.zero [z] && Nat.beq 1 ti.size
        | false, .string _ => zLeaves ti.zero [z] && Nat.beq 1 ti.size
        | false, .slice _ _ _ => zLeaves ti.zero [z] && Nat.beq 1 ti.size
        | _, _ => false)
      | none => false)
    | none => false) && Nat.beq (tsz V ti.el) ti.size && Nat.blt 0 ti.size && Nat.blt 0 ti.bytes && !(P.eqGuardType P.depth t) && !(P.stoodInHeld t)
theorem tyC_sound {t : TypeId} {ti : TI E} (h : tyC P V t ti = true) : TyOk P V t ti := by
  unfold tyC at h
  simp only [Bool.and_eq_true, Bool.not_eq_true'] at h
  obtain ⟨⟨⟨⟨⟨⟨h1, h2⟩, h3⟩, h4⟩, h5⟩, h6⟩, h7⟩ := h
  split at h1
  · rename_i d hd
    simp only [Bool.and_eq_true, beq_iff_eq] at h1
    obtain ⟨⟨a1, a2⟩, a3⟩ := h1
    split at h2
    · rename_i i hi
      simp only [Bool.and_eq_true] at h2
      obtain ⟨⟨b1, b2⟩, b3⟩ := h2
      split at b3
      · rename_i z hz
        refine ⟨⟨d, hd, a1, kC_sound a2, kdC_sound a3⟩, ⟨i, z, hi, Nat.eq_of_beq_eq_true b1, Nat.eq_of_beq_eq_true b2, hz, ?_⟩, Nat.eq_of_beq_eq_true h3, ⟨Nat.le_of_ble_eq_true h4, Nat.le_of_ble_eq_true h5⟩, h6, h7⟩
        have one : ∀ z : Value, z.cells = #[z] → ti.agg = false → (zLeaves ti.zero [z] && Nat.beq 1 ti.size) = true → (ti.agg = true → z = .agg z.cells) ∧ (ti.agg = false → z.cells = #[z]) ∧ (∀ w F, RepL V w F ti.zero z.cells.toList) ∧ z.cells.size = ti.size := by
          intro z hc hag hb
          simp only [Bool.and_eq_true] at hb
          refine ⟨fun h => (by rw [hag] at h; cases h), fun _ => hc, fun w F => by rw [hc]; exact zLeaves_sound hb.1 w F, by rw [hc]; exact Nat.eq_of_beq_eq_true hb.2⟩
        split at b3
        · rename_i cs hag
          simp only [Bool.and_eq_true] at b3
          exact ⟨fun _ => rfl, fun h => (by rw [hag] at h; cases h), fun w F => zLeaves_sound b3.1 w F, Nat.eq_of_beq_eq_true b3.2⟩
        · rename_i hag; exact one _ rfl hag b3
        · rename_i hag; exact one _ rfl hag b3
        · rename_i hag; exact one _ rfl hag b3
        · rename_i hag; exact one _ rfl hag b3
        · cases b3
      · cases b3
    · cases h2
  · cases h1
def tabC (P : Program) (V : Lv E) : List (Nat × TI E) → Bool
  | [] => true
  | (t, ti) :: r => tyC P V t ti && tabC P V r
theorem findN_mem {α : Type} : ∀ {l : List (Nat × α)} {n : Nat} {x : α}, findN l n = some x → (n, x) ∈ l
  | [], n, x, h => by cases h
  | (m, y) :: r, n, x, h => by
    simp only [findN] at h
    split at h
    · rename_i hb
      have := Nat.eq_of_beq_eq_true hb
      subst this
      injection h with h
      subst h
      simp
    · exact List.mem_cons_of_mem _ (findN_mem h)
theorem tabC_sound {tab : List (Nat × TI E)} (h : tabC P V tab = true) : TabOk P V (findN tab) := by
  intro t ti hti
  have hm := findN_mem hti
  clear hti
  induction tab with
  | nil => cases hm
  | cons x r ih =>
    obtain ⟨t', ti'⟩ := x
    simp only [tabC, Bool.and_eq_true] at h
    rcases List.mem_cons.1 hm with e | hm
    · cases e; exact tyC_sound h.1
    · exact ih h.2 hm

/-! ## What a place's structs are -/
structure Ent : Type 1 where
  T : Type
  d : T
def intAs : Lf E → Int
  | .int _ n _ _ => n
  | _ => 0
def boolAs : Lf E → Bool
  | .bool b => b
  | _ => false
def strAs : Lf E → ByteArray
  | .str b => b
  | _ => ⟨#[]⟩
def rowAs (t : Ty) : Lf E → List (El E t)
  | .row _ t' xs => if h : t' = t then h ▸ xs else []
  | _ => []
def noRow : List (Lf E) → Bool
  | [] => true
  | .row _ _ _ :: _ => false
  | _ :: r => noRow r
theorem noRow_mem : ∀ {ls : List (Lf E)}, noRow ls = true → ∀ l ∈ ls, ∀ fr, flag fr l = l
  | [], _, l, h, _ => by cases h
  | x :: r, h, l, hl, fr => by
    rcases List.mem_cons.1 hl with rfl | hl
    · cases l <;> first | (cases h; done) | rfl
    · refine noRow_mem (ls := r) ?_ l hl fr
      cases x <;> first | (cases h; done) | exact h
theorem lvOk (h : ∀ n x, (V.lv n x).length = V.sz n ∧ (V.flat n = true → noRow (V.lv n x) = true) ∧ allTrue (V.lv n x) = true) : LvOk V :=
  ⟨fun n x => (h n x).1, fun n x hf l hl fr => noRow_mem ((h n x).2.1 hf) l hl fr, fun n x l hl => allTrue_mem (h n x).2.2 hl⟩

/-! ## Steps of a proof -/
theorem pl_ {p : Prop} {_ : Decidable p} {α : Type} {x : Option α} {r : α} (H : (if p then x else none) = some r) : p ∧ x = some r := by
  by_cases h : p
  · rw [if_pos h] at H; exact ⟨h, H⟩
  · rw [if_neg h] at H; cases H
theorem pr_ {p : Prop} {_ : Decidable p} {α : Type} {x : Option α} {r : α} (H : (if p then none else x) = some r) : ¬ p ∧ x = some r := by
  by_cases h : p
  · rw [if_pos h] at H; cases H
  · rw [if_neg h] at H; exact ⟨h, H⟩
theorem br_dec {p : Prop} {_ : Decidable p} {α : Type} {x y r : Option α} {A B : Prop} (H : (if p then x else y) = r) (h1 : p → x = r → A) (h2 : ¬ p → y = r → B) : brE (decide p) A B := by
  unfold brE
  by_cases h : p
  · rw [if_pos h] at H; exact ⟨fun _ => h1 h H, fun e => absurd h (of_decide_eq_false e)⟩
  · rw [if_neg h] at H; exact ⟨fun e => absurd (of_decide_eq_true e) h, fun _ => h2 h H⟩
theorem br_ndec {p : Prop} {_ : Decidable p} {α : Type} {x y r : Option α} {A B : Prop} (H : (if p then x else y) = r) (h1 : p → x = r → B) (h2 : ¬ p → y = r → A) : brE (!decide p) A B := by
  unfold brE
  by_cases h : p
  · rw [if_pos h] at H; exact ⟨fun e => absurd h (by simpa using e), fun _ => h1 h H⟩
  · rw [if_neg h] at H; exact ⟨fun _ => h2 h H, fun e => absurd (by simpa using e) h⟩
theorem br_nkt {p : Prop} {_ : Decidable p} {A B : Prop} (h : p) (k : B) : brE (!decide p) A B := by unfold brE; exact ⟨fun e => absurd h (by simpa using e), fun _ => k⟩
theorem br_nkf {p : Prop} {_ : Decidable p} {A B : Prop} (h : ¬ p) (k : A) : brE (!decide p) A B := by unfold brE; exact ⟨fun _ => k, fun e => absurd (by simpa using e) h⟩
theorem br_bool {b : Bool} {α : Type} {x y r : Option α} {A B : Prop} (H : (if b = true then x else y) = r) (h1 : b = true → x = r → A) (h2 : b = false → y = r → B) : brE b A B := by
  unfold brE
  cases b
  · exact ⟨fun e => by (cases e), fun _ => h2 rfl (by simpa using H)⟩
  · exact ⟨fun _ => h1 rfl (by simpa using H), fun e => by (cases e)⟩
theorem br_not {b : Bool} {α : Type} {x y r : Option α} {A B : Prop} (H : (if b = true then x else y) = r) (h1 : b = true → x = r → B) (h2 : b = false → y = r → A) : brE (!b) A B := by
  unfold brE
  cases b
  · exact ⟨fun _ => h2 rfl (by simpa using H), fun e => by (cases e)⟩
  · exact ⟨fun e => by (cases e), fun _ => h1 rfl (by simpa using H)⟩
theorem br_t {A B : Prop} (h : A) : brE true A B := by unfold brE; exact ⟨fun _ => h, fun h => by (cases h)⟩
theorem br_f {A B : Prop} (h : B) : brE false A B := by unfold brE; exact ⟨fun h => by (cases h), fun _ => h⟩
theorem br_kt {p : Prop} {_ : Decidable p} {A B : Prop} (h : p) (k : A) : brE (decide p) A B := by unfold brE; exact ⟨fun _ => k, fun e => absurd h (of_decide_eq_false e)⟩
theorem br_kf {p : Prop} {_ : Decidable p} {A B : Prop} (h : ¬ p) (k : B) : brE (decide p) A B := by unfold brE; exact ⟨fun e => absurd (of_decide_eq_true e) h, fun _ => k⟩
theorem br_bt {b : Bool} {A B : Prop} (h : b = true) (k : A) : brE b A B := by unfold brE; exact ⟨fun _ => k, fun e => by rw [h] at e; cases e⟩
theorem br_bf {b : Bool} {A B : Prop} (h : b = false) (k : B) : brE b A B := by unfold brE; exact ⟨fun e => (by rw [h] at e; cases e), fun _ => k⟩
theorem br_bn {b : Bool} {A B : Prop} (h : ¬ b = true) (k : B) : brE b A B := br_bf (by simpa using h) k
theorem br_bq {b : Bool} {A B : Prop} (h : ¬ b = true) (k : A) : brE (!b) A B := br_bt (by simpa using h) k
theorem br_mt {b : Bool} {A B : Prop} (h : b = true) (k : B) : brE (!b) A B := br_bf (by rw [h]; rfl) k
theorem br_mf {b : Bool} {A B : Prop} (h : b = false) (k : A) : brE (!b) A B := br_bt (by rw [h]; rfl) k
theorem br_beq {a b : Int} {α : Type} {x y r : Option α} {A B : Prop} (H : (if a = b then x else y) = r) (h1 : a = b → x = r → A) (h2 : ¬ a = b → y = r → B) : brE (a == b) A B := by
  rw [show (a == b) = decide (a = b) from rfl]; exact br_dec H h1 h2
theorem br_bne {a b : Int} {α : Type} {x y r : Option α} {A B : Prop} (H : (if a ≠ b then x else y) = r) (h1 : a ≠ b → x = r → A) (h2 : ¬ a ≠ b → y = r → B) : brE (a != b) A B := by
  rw [show (a != b) = decide (a ≠ b) by simp [bne, BEq.beq]]; exact br_dec H h1 h2
theorem br_bet {a b : Int} {A B : Prop} (h : a = b) (k : A) : brE (a == b) A B := by
  rw [show (a == b) = decide (a = b) from rfl]; exact br_kt h k
theorem br_bef {a b : Int} {A B : Prop} (h : ¬ a = b) (k : B) : brE (a == b) A B := by
  rw [show (a == b) = decide (a = b) from rfl]; exact br_kf h k
theorem ix2_0 {i : Int} {A B : Prop} (h : i = 0) (k : A) : ixE2 i A B := by unfold ixE2; exact ⟨fun _ => k, fun e => by omega, by omega, by omega⟩
theorem ix2_1 {i : Int} {A B : Prop} (h : i = 1) (k : B) : ixE2 i A B := by unfold ixE2; exact ⟨fun e => by omega, fun _ => k, by omega, by omega⟩
theorem ix2_s {i : Int} {A B p : Prop} {_ : Decidable p} {α : Type} {x y r : Option α} (H : (if p then x else y) = r) (h1 : p → x = r → ixE2 i A B) (h2 : ¬ p → y = r → ixE2 i A B) : ixE2 i A B := by
  by_cases h : p
  · rw [if_pos h] at H; exact h1 h H
  · rw [if_neg h] at H; exact h2 h H
theorem ix3_0 {i : Int} {A B C : Prop} (h : i = 0) (k : A) : ixE3 i A B C := by unfold ixE3; exact ⟨fun _ => k, fun e => by omega, fun e => by omega, by omega, by omega⟩
theorem ix3_1 {i : Int} {A B C : Prop} (h : i = 1) (k : B) : ixE3 i A B C := by unfold ixE3; exact ⟨fun e => by omega, fun _ => k, fun e => by omega, by omega, by omega⟩
theorem ix3_2 {i : Int} {A B C : Prop} (h : i = 2) (k : C) : ixE3 i A B C := by unfold ixE3; exact ⟨fun e => by omega, fun e => by omega, fun _ => k, by omega, by omega⟩
theorem ix3_s {i : Int} {A B C p : Prop} {_ : Decidable p} {α : Type} {x y r : Option α} (H : (if p then x else y) = r) (h1 : p → x = r → ixE3 i A B C) (h2 : ¬ p → y = r → ixE3 i A B C) : ixE3 i A B C := by
  by_cases h : p
  · rw [if_pos h] at H; exact h1 h H
  · rw [if_neg h] at H; exact h2 h H
theorem ix4_0 {i : Int} {A B C D : Prop} (h : i = 0) (k : A) : ixE4 i A B C D := by unfold ixE4; exact ⟨fun _ => k, fun e => by omega, fun e => by omega, fun e => by omega, by omega, by omega⟩
theorem ix4_1 {i : Int} {A B C D : Prop} (h : i = 1) (k : B) : ixE4 i A B C D := by unfold ixE4; exact ⟨fun e => by omega, fun _ => k, fun e => by omega, fun e => by omega, by omega, by omega⟩
theorem ix4_2 {i : Int} {A B C D : Prop} (h : i = 2) (k : C) : ixE4 i A B C D := by unfold ixE4; exact ⟨fun e => by omega, fun e => by omega, fun _ => k, fun e => by omega, by omega, by omega⟩
theorem ix4_3 {i : Int} {A B C D : Prop} (h : i = 3) (k : D) : ixE4 i A B C D := by unfold ixE4; exact ⟨fun e => by omega, fun e => by omega, fun e => by omega, fun _ => k, by omega, by omega⟩
theorem ix4_s {i : Int} {A B C D p : Prop} {_ : Decidable p} {α : Type} {x y r : Option α} (H : (if p then x else y) = r) (h1 : p → x = r → ixE4 i A B C D) (h2 : ¬ p → y = r → ixE4 i A B C D) : ixE4 i A B C D := by
  by_cases h : p
  · rw [if_pos h] at H; exact h1 h H
  · rw [if_neg h] at H; exact h2 h H
theorem ob_ {p q : Prop} (h : p) (k : q) : Ob p q := by unfold Ob; exact ⟨h, k⟩
theorem ck_ {b : Bool} {q : Prop} (h : b = true) (k : q) : Ck b q := by unfold Ck; exact ⟨h, k⟩
theorem lim_ {n m b : Nat} (h : n < m) (hb : m * b ≤ 140737488355328) : n * b ≤ 140737488355328 := Nat.le_trans (Nat.mul_le_mul_right b (Nat.le_of_lt h)) hb
theorem lim1_ {n m b : Nat} {α : Type} {y : α} (h : n < m) (hb : m * b ≤ 140737488355328) : (n + [y].length) * b ≤ 140737488355328 := Nat.le_trans (Nat.mul_le_mul_right b h) hb
theorem ixs_ {α : Type} {l : List α} {i : Int} {k : Nat} {y : α} (h0 : 0 ≤ i) (h : i < (l.length : Int)) : 0 ≤ i ∧ i < ((l.set k y).length : Int) := ⟨h0, by rw [List.length_set]; exact h⟩
theorem nn_ {α : Type} {r : α} {G : Prop} (H : none = some r) : G := by cases H
theorem sb_ {α β : Type} {e : α} {f : α → Option β} {r : Option β} (H : (some e).bind f = r) : f e = r := H
theorem bi_ {α β : Type} {x : Option α} {f : α → Option β} {r : β} (H : x.bind f = some r) : ∃ y, x = some y ∧ f y = some r := by
  cases x with
  | none => cases H
  | some y => exact ⟨y, rfl, H⟩
end
end Go.Tx
set_option linter.unusedVariables false
set_option linter.unusedSimpArgs false
namespace Go.Tx
open Go.RowKit
section
variable {E : Env} {V : Lv E} {Γ : Nat → Option (TI E)} {P : Program}
abbrev ik (k : IntKind) (x : Int) : Lf E := .int k x none none
abbrev ii (x : Int) : Lf E := .int .i64 x none none
abbrev al (l : Lf E) : HV E := .av (.f (.lf l))
abbrev ai (x : Int) : HV E := .av (.f (.lf (.int .i64 x none none)))
abbrev ap (n : Nat) : HV E := .av (.f (.ptr n 0 0))
abbrev ao (n : Nat) : HV E := .av (.f (.own n 0 none))
section
variable {CS : FuncId → List (PA E) → List (RV E) → List (List (Lf E)) → Prop} {s : St E} {dst : Option Nat} {f : FuncId} {xs : List (AV E)} {ts : List TypeId} {K : Ef E → Prop} {ps' : List (PA E)} {res : List (RV E)} {cells : List (List (Lf E))}
theorem cg_ (h : callE Γ CS s dst f xs ts K) : callE Γ CS s dst f xs ts K := h
theorem cl_ (hc : CS f ps' res cells) (h : callP Γ s dst xs ts ps' res cells K) : callE Γ CS s dst f xs ts K := by unfold callE; exact ⟨_, _, _, hc, .inl h⟩
theorem cs_ (hc : CS f ps' res cells) (h : callQ Γ s dst xs ts ps' res cells K) : callE Γ CS s dst f xs ts K := by unfold callE; exact ⟨_, _, _, hc, .inr h⟩
end
theorem lim_u8 {y : Int} (h : (Lit.int .u8 y).wf = true) : lim .u8 y := by
  have h : (decide ((0 : Int) ≤ y) && decide (y ≤ 255)) = true := h
  simp only [Bool.and_eq_true, decide_eq_true_eq] at h
  exact h
/-- A law over a row of bytes: what its function comes to, told of what the row holds. -/
theorem law_u8 {f : FuncId} (h : ∀ l0 : List Int, l0.length ≤ maxLen → l0.length * 1 ≤ 140737488351232 → (∀ x ∈ l0, (Lit.int .u8 x).wf = true) → CCal P V f [.lf (.row .kept (.int .u8) l0)] [.lf (.bool true)] [])
    (a0 : Option Addr) (len0 cap0 : Nat) (z0 : List Int) (w : World) (w0 : (a0 = none ∧ len0 = 0 ∧ cap0 = 0 ∧ z0 = []) ∨ ∃ x, a0 = some x ∧ len0 ≤ cap0 ∧ cap0 ≤ maxLen ∧ z0.length = cap0 ∧ (∀ i, i < z0.length → w.cell? (x.add i) = some (.int .u8 (z0.getD i 0))) ∧ ∀ n ∈ z0, (Lit.int .u8 n).wf = true) (y0 : len0 * 1 ≤ 140737488351232) :
    Calls P f #[.slice a0 len0 cap0] w fun e w' => e = .returned (.bool true) ∧ Below w.heap.size w w' := by
  have hlen : (z0.take len0).length = len0 := by
    rcases w0 with ⟨_, rfl, _, rfl⟩ | ⟨_, _, h1, _, h2, _⟩
    · rfl
    · rw [List.length_take]; omega
  have hmax : len0 ≤ maxLen := by
    rcases w0 with ⟨_, rfl, _, _⟩ | ⟨_, _, h1, h2, _⟩
    · exact Nat.zero_le _
    · omega
  have hwf : ∀ x ∈ z0.take len0, (Lit.int .u8 x).wf = true := by
    rcases w0 with ⟨_, rfl, _, rfl⟩ | ⟨_, _, _, _, _, _, h3⟩
    · intro x hx; cases hx
    · exact fun x hx => h3 x (List.mem_of_mem_take hx)
  have hrep : RepP V w (argF (fun k => k < w.heap.size) (fun _ => False)) (.row .kept (.int .u8) (z0.take len0)) (.slice a0 len0 cap0) := by
    rcases Nat.eq_zero_or_pos len0 with h0 | h0
    · subst h0; exact (RepP.nil : RepP V w _ (.row .kept (.int .u8) []) (.slice a0 0 cap0))
    · rcases w0 with ⟨_, rfl, _⟩ | ⟨x, rfl, h1, h2, h3, h4, h5⟩
      · omega
      · have hc0 := h4 0 (by omega)
        have hs := World.cell?_spot hc0
        obtain ⟨b, o, sp⟩ := x
        have hs : sp = none := by simpa [Addr.add] using hs
        subst hs
        have hb : b < w.heap.size := by
          have : w.cell? ⟨b, o, none⟩ = some (.int .u8 (z0.getD 0 0)) := by simpa [Addr.add] using hc0
          unfold World.cell? at this
          rcases Nat.lt_or_ge b w.heap.size with h | h
          · exact h
          · rw [Array.getElem?_eq_none (by simpa using h)] at this; simp at this
        have hget : ∀ (j : Nat) (y : Int), (z0.take len0)[j]? = some y → j < len0 ∧ z0.getD j 0 = y := by
          intro j y hj
          obtain ⟨hl, hy⟩ := List.getElem?_eq_some_iff.1 hj
          rw [hlen] at hl
          refine ⟨hl, ?_⟩
          rw [List.getElem?_take, if_pos hl] at hj
          rw [List.getD_eq_getElem?_getD, hj]; rfl
        have key := RepP.row (V := V) (w := w) (F := argF (fun k => k < w.heap.size) (fun _ => False)) (fr := .kept) (t := .int .u8) (xs := z0.take len0) (b := b) (o := o) (c := cap0) (fun j _ => .int .u8 (z0.getD j 0)) (show (z0.take len0).length ≤ cap0 by omega) (show (z0.take len0).length ≤ maxLen by omega) hb
          (fun j y i l hj hi => by
            obtain ⟨hl, hy⟩ := hget j y hj
            cases i with
            | succ i => simp [leaves] at hi
            | zero =>
              have := h4 j (by omega)
              have he : (⟨b, o, none⟩ : Addr).add j = ⟨b, o + (j * tsz V (.int .u8) + 0), none⟩ := by
                unfold Addr.add tsz
                split
                · rename_i hj0; subst hj0; rfl
                · simp
              rw [he] at this
              exact this)
          (fun j y i l hj hi => by
            obtain ⟨hl, hy⟩ := hget j y hj
            cases i with
            | succ i => simp [leaves] at hi
            | zero =>
              have hi : (leaves V (.int .u8) y)[0]? = some l := hi
              simp only [leaves, List.getElem?_cons_zero, Option.some.injEq] at hi
              subst hi
              rw [hy]
              have hw := hwf y (List.mem_of_getElem? hj)
              exact .int (lim_u8 hw) ⟨nofun, nofun⟩)
        have key : RepP V w (argF (fun k => k < w.heap.size) (fun _ => False)) (.row .kept (.int .u8) (z0.take len0)) (.slice (some ⟨b, o, none⟩) (List.length (α := Int) (z0.take len0)) cap0) := key
        rw [hlen] at key
        exact key
  refine (h _ (by omega) (by omega) hwf w (fun k => k < w.heap.size) (fun _ => False) [.slice a0 len0 cap0] [] (fun k hk => ⟨hk.elim id False.elim, by simp⟩) List.nodup_nil (.lf hrep .nil)).mono fun e w' he => ?_
  obtain ⟨v, rfl, hp⟩ := he
  obtain ⟨hos, htape, hout, hsize, hold, Zn, us, bks, hzn, hbd, hbz, rfl, hres, hrefs⟩ := hp
  cases hres with
  | lf h1 h2 =>
    cases h2
    cases h1
    exact ⟨rfl, hos, htape, hout, hsize, fun k hk => hold k hk (by simp)⟩
/-- All steps, one behind the other: H says what the printed function comes to; go, sub: the evaluator's; i0 ..: the places where ways meet; c0_ ..: contracts; k0_ ..: contracts of functions that keep a row. -/
theorem run_ {T : Prop} (h : T := by
    conv => whnf
    repeat' (first
      | ((with_reducible replace H := sb_ H); try (dsimp only at H))
      | ((with_reducible replace H := pl_ H); obtain ⟨_, H⟩ := H)
      | ((with_reducible replace H := pr_ H); obtain ⟨_, H⟩ := H)
      | ((with_reducible refine br_t ?_); conv => whnf)
      | ((with_reducible refine br_f ?_); conv => whnf)
      | ((with_reducible refine br_kt (by assumption) ?_); conv => whnf)
      | ((with_reducible refine br_kf (by assumption) ?_); conv => whnf)
      | ((with_reducible refine br_nkt (by assumption) ?_); conv => whnf)
      | ((with_reducible refine br_nkf (by assumption) ?_); conv => whnf)
      | ((with_reducible refine br_bt (by assumption) ?_); conv => whnf)
      | ((with_reducible refine br_bf (by assumption) ?_); conv => whnf)
      | ((with_reducible refine br_bn (by assumption) ?_); conv => whnf)
      | ((with_reducible refine br_bq (by assumption) ?_); conv => whnf)
      | ((with_reducible refine br_mt (by assumption) ?_); conv => whnf)
      | ((with_reducible refine br_mf (by assumption) ?_); conv => whnf)
      | ((with_reducible refine br_dec H (fun _ H => ?_) (fun _ H => ?_)) <;> first | (with_reducible exact nn_ H) | conv => whnf)
      | ((with_reducible refine br_ndec H (fun _ H => ?_) (fun _ H => ?_)) <;> first | (with_reducible exact nn_ H) | conv => whnf)
      | ((with_reducible refine br_bool H (fun _ H => ?_) (fun _ H => ?_)) <;> first | (with_reducible exact nn_ H) | conv => whnf)
      | ((with_reducible refine br_not H (fun _ H => ?_) (fun _ H => ?_)) <;> first | (with_reducible exact nn_ H) | conv => whnf)
      | ((with_reducible change @ite _ _ _ _ _ = _ at H); (refine br_dec H (fun _ H => ?_) (fun _ H => ?_)) <;> first | (with_reducible exact nn_ H) | conv => whnf)
      | ((with_reducible change @ite _ _ _ _ _ = _ at H); (refine br_ndec H (fun _ H => ?_) (fun _ H => ?_)) <;> first | (with_reducible exact nn_ H) | conv => whnf)
      | ((with_reducible change @ite _ _ _ _ _ = _ at H); (refine br_bool H (fun _ H => ?_) (fun _ H => ?_)) <;> first | (with_reducible exact nn_ H) | conv => whnf)
      | ((with_reducible change @ite _ _ _ _ _ = _ at H); (refine br_not H (fun _ H => ?_) (fun _ H => ?_)) <;> first | (with_reducible exact nn_ H) | conv => whnf)
      | ((refine br_kt (by assumption) ?_); conv => whnf)
      | ((refine br_kf (by assumption) ?_); conv => whnf)
      | ((refine br_nkt (by assumption) ?_); conv => whnf)
      | ((refine br_nkf (by assumption) ?_); conv => whnf)
      | ((refine br_bt (by assumption) ?_); conv => whnf)
      | ((refine br_bf (by assumption) ?_); conv => whnf)
      | ((with_reducible refine ix2_0 ?_ ?_); (first | assumption | rfl | (focus (subst_vars; simp [Go.Tx.wr, wrap64]; done))); conv => whnf)
      | ((with_reducible refine ix2_1 ?_ ?_); (first | assumption | rfl | (focus (subst_vars; simp [Go.Tx.wr, wrap64]; done))); conv => whnf)
      | ((with_reducible refine ix3_0 ?_ ?_); (first | assumption | rfl | (focus (subst_vars; simp [Go.Tx.wr, wrap64]; done))); conv => whnf)
      | ((with_reducible refine ix3_1 ?_ ?_); (first | assumption | rfl | (focus (subst_vars; simp [Go.Tx.wr, wrap64]; done))); conv => whnf)
      | ((with_reducible refine ix3_2 ?_ ?_); (first | assumption | rfl | (focus (subst_vars; simp [Go.Tx.wr, wrap64]; done))); conv => whnf)
      | ((with_reducible refine ix4_0 ?_ ?_); (first | assumption | rfl | (focus (subst_vars; simp [Go.Tx.wr, wrap64]; done))); conv => whnf)
      | ((with_reducible refine ix4_1 ?_ ?_); (first | assumption | rfl | (focus (subst_vars; simp [Go.Tx.wr, wrap64]; done))); conv => whnf)
      | ((with_reducible refine ix4_2 ?_ ?_); (first | assumption | rfl | (focus (subst_vars; simp [Go.Tx.wr, wrap64]; done))); conv => whnf)
      | ((with_reducible refine ix4_3 ?_ ?_); (first | assumption | rfl | (focus (subst_vars; simp [Go.Tx.wr, wrap64]; done))); conv => whnf)
      | ((with_reducible refine ix2_s H (fun _ H => ?_) (fun _ H => ?_)) <;> first | (with_reducible exact nn_ H) | skip)
      | ((with_reducible refine ix3_s H (fun _ H => ?_) (fun _ H => ?_)) <;> first | (with_reducible exact nn_ H) | skip)
      | ((with_reducible refine ix4_s H (fun _ H => ?_) (fun _ H => ?_)) <;> first | (with_reducible exact nn_ H) | skip)
      | ((with_reducible refine ob_ ?_ ?_); (first | exact ⟨by assumption, by assumption⟩ | assumption | rfl | decide | omega | exact lim_ (by assumption) (by decide) | exact lim1_ (by assumption) (by decide) | exact ⟨by first | assumption | decide, by assumption⟩ | exact ixs_ (by assumption) (by assumption) | exact ixs_ (by decide) (by assumption) | (simp only [List.length_append, List.length_cons, List.length_nil, List.length_take] at *; omega)); conv => whnf)
      | ((with_reducible refine ck_ ?_ ?_); kernel_rfl; conv => whnf)
      | ((with_reducible refine cg_ ?_); (with_reducible replace H := bi_ H); obtain ⟨_, Hc, H⟩ := H; (with_reducible first
        | refine cl_ (c0_ Hc) ?_
        | refine cl_ (c1_ Hc) ?_
        | refine cl_ (c2_ Hc) ?_
        | refine cl_ (c3_ Hc) ?_
        | refine cl_ (c4_ Hc) ?_
        | refine cl_ (c5_ Hc) ?_
        | refine cl_ (c6_ Hc) ?_
        | refine cl_ (c7_ Hc) ?_
        | refine cl_ (c8_ Hc) ?_
        | refine cl_ (c9_ Hc) ?_
        | refine cl_ (c10_ Hc) ?_
        | refine cl_ (c11_ Hc) ?_
        | refine cl_ (c12_ Hc) ?_
        | refine cl_ (c13_ Hc) ?_
        | refine cl_ (c14_ Hc) ?_
        | refine cl_ (c15_ Hc) ?_
        | refine cl_ (c16_ Hc) ?_
        | refine cl_ (c17_ Hc) ?_
        | refine cl_ (c18_ Hc) ?_
        | refine cl_ (c19_ Hc) ?_
        | refine cl_ (c20_ Hc) ?_
        | refine cl_ (c21_ Hc) ?_
        | refine cl_ (c22_ Hc) ?_
        | refine cl_ (c23_ Hc) ?_
        | refine cl_ (c24_ Hc) ?_
        | refine cl_ (c25_ Hc) ?_
        | refine cl_ (c26_ Hc) ?_
        | refine cl_ (c27_ Hc) ?_
        | refine cl_ (c28_ Hc) ?_
        | refine cl_ (c29_ Hc) ?_
        | refine cl_ (c30_ Hc) ?_
        | refine cl_ (c31_ Hc) ?_
        | refine cl_ (c32_ Hc) ?_
        | refine cl_ (c33_ Hc) ?_
        | refine cl_ (c34_ Hc) ?_
        | refine cl_ (c35_ Hc) ?_
        | refine cl_ (c36_ Hc) ?_
        | refine cl_ (c37_ Hc) ?_
        | refine cl_ (c38_ Hc) ?_
        | refine cl_ (c39_ Hc) ?_
        | refine cl_ (c40_ Hc) ?_
        | refine cl_ (c41_ Hc) ?_
        | refine cl_ (c42_ Hc) ?_
        | refine cl_ (c43_ Hc) ?_
        | refine cl_ (c44_ Hc) ?_
        | refine cl_ (c45_ Hc) ?_
        | refine cl_ (c46_ Hc) ?_
        | refine cl_ (c47_ Hc) ?_
        | refine cl_ (c48_ Hc) ?_
        | refine cl_ (c49_ Hc) ?_
        | refine cl_ (c50_ Hc) ?_
        | refine cl_ (c51_ Hc) ?_
        | refine cl_ (c52_ Hc) ?_
        | refine cl_ (c53_ Hc) ?_
        | refine cl_ (c54_ Hc) ?_
        | refine cl_ (c55_ Hc) ?_
        | refine cl_ (c56_ Hc) ?_
        | refine cl_ (c57_ Hc) ?_
        | refine cl_ (c58_ Hc) ?_
        | refine cl_ (c59_ Hc) ?_
        | refine cs_ (k0_ Hc) ?_
        | refine cs_ (k1_ Hc) ?_
        | refine cs_ (k2_ Hc) ?_
        | refine cs_ (k3_ Hc) ?_
        | refine cs_ (k4_ Hc) ?_
        | refine cs_ (k5_ Hc) ?_
        | refine cs_ (k6_ Hc) ?_
        | refine cs_ (k7_ Hc) ?_
        | refine cs_ (k8_ Hc) ?_
        | refine cs_ (k9_ Hc) ?_
        | refine cs_ (k10_ Hc) ?_
        | refine cs_ (k11_ Hc) ?_
        ); (conv => whnf); refine ⟨rfl, ?_⟩; conv => whnf)
      | ((with_reducible first
        | have Hi := i0 (H := H)
        | have Hi := i1 (H := H)
        | have Hi := i2 (H := H)
        | have Hi := i3 (H := H)
        | have Hi := i4 (H := H)
        | have Hi := i5 (H := H)
        | have Hi := i6 (H := H)
        | have Hi := i7 (H := H)
        | have Hi := i8 (H := H)
        | have Hi := i9 (H := H)
        | have Hi := i10 (H := H)
        | have Hi := i11 (H := H)
        | have Hi := i12 (H := H)
        | have Hi := i13 (H := H)
        | have Hi := i14 (H := H)
        | have Hi := i15 (H := H)
        | have Hi := i16 (H := H)
        | have Hi := i17 (H := H)
        | have Hi := i18 (H := H)
        | have Hi := i19 (H := H)
        | have Hi := i20 (H := H)
        | have Hi := i21 (H := H)
        | have Hi := i22 (H := H)
        | have Hi := i23 (H := H)
        | have Hi := i24 (H := H)
        | have Hi := i25 (H := H)
        | have Hi := i26 (H := H)
        | have Hi := i27 (H := H)
        | have Hi := i28 (H := H)
        | have Hi := i29 (H := H)
        | have Hi := i30 (H := H)
        | have Hi := i31 (H := H)
        | have Hi := i32 (H := H)
        | have Hi := i33 (H := H)
        | have Hi := i34 (H := H)
        | have Hi := i35 (H := H)
        | have Hi := i36 (H := H)
        | have Hi := i37 (H := H)
        | have Hi := i38 (H := H)
        | have Hi := i39 (H := H)
        ); (first
        | apply sub _ _ _ _ ?q_ Hi
        | apply sub _ _ _ _ ?q_ (Hi _)
        | apply sub _ _ _ _ ?q_ (Hi _ _)
        | apply sub _ _ _ _ ?q_ (Hi _ _ _)
        | apply sub _ _ _ _ ?q_ (Hi _ _ _ _)
        | apply sub _ _ _ _ ?q_ (Hi _ _ _ _ _)
        | apply sub _ _ _ _ ?q_ (Hi _ _ _ _ _ _)
        | apply sub _ _ _ _ ?q_ (Hi _ _ _ _ _ _ _)
        | apply sub _ _ _ _ ?q_ (Hi _ _ _ _ _ _ _ _)
        | apply sub _ _ _ _ ?q_ (Hi _ _ _ _ _ _ _ _ _)
        | apply sub _ _ _ _ ?q_ (Hi _ _ _ _ _ _ _ _ _ _)
        | apply sub _ _ _ _ ?q_ (Hi _ _ _ _ _ _ _ _ _ _ _)
        | apply sub _ _ _ _ ?q_ (Hi _ _ _ _ _ _ _ _ _ _ _ _)
        | apply sub _ _ _ _ ?q_ (Hi _ _ _ _ _ _ _ _ _ _ _ _ _)
        | apply sub _ _ _ _ ?q_ (Hi _ _ _ _ _ _ _ _ _ _ _ _ _ _)
        | apply sub _ _ _ _ ?q_ (Hi _ _ _ _ _ _ _ _ _ _ _ _ _ _ _)
        | apply sub _ _ _ _ ?q_ (Hi _ _ _ _ _ _ _ _ _ _ _ _ _ _ _ _)
        | apply sub _ _ _ _ ?q_ (Hi _ _ _ _ _ _ _ _ _ _ _ _ _ _ _ _ _)
        | apply sub _ _ _ _ ?q_ (Hi _ _ _ _ _ _ _ _ _ _ _ _ _ _ _ _ _ _)
        | apply sub _ _ _ _ ?q_ (Hi _ _ _ _ _ _ _ _ _ _ _ _ _ _ _ _ _ _ _)
        | apply sub _ _ _ _ ?q_ (Hi _ _ _ _ _ _ _ _ _ _ _ _ _ _ _ _ _ _ _ _)
        ); case q_ => (refine ⟨rfl, ?_, ?_⟩ <;> repeat' (first | (refine ⟨?_, ?_⟩) | exact trivial | exact rfl)))
      | ((with_reducible change some _ = some _ at H); cases H; exact ⟨rfl, rfl⟩)
      | ((first | refine q0_ _ _ ?_ | refine q1_ _ _ ?_); (conv => whnf); refine go _ _ ?_; (conv => whnf); (repeat (first | (refine go _ _ ?_; (conv => whnf)) | ((with_reducible refine ck_ ?_ ?_); kernel_rfl; (conv => whnf)))); (with_reducible change some _ = some _ at H); cases H; exact ⟨rfl, rfl⟩)
      | (refine go _ _ ?_; (conv => whnf); (fail_if_success (with_reducible change False)))
      | ((first | refine q0_ _ _ ?_ | refine q1_ _ _ ?_); (conv => whnf); (fail_if_success (with_reducible change False)))
      | (refine go _ _ ?_; conv => whnf))) : T := h
end
end Go.Tx
