/- How an argument that can be read as data is opened: whatever its type, it reads as a value of the printed kind. -/
import Derived.Test.YtcicpmhcmlfhbaaGreatDoorBase
import Derived.ProofKit
import Derived.OpenShut
import Derived.ShutString
import Derived.ChangeOld
import Derived.SizedLaws
import Derived.Lib.SmallJoins
namespace Go.Proofs.YtcicpmhcmlfhbaaGreatDoor.PA
open Go.RowKit Go.Proofs.YtcicpmhcmlfhbaaGreatDoorW.PrintWords Go.Proofs.YtcicpmhcmlfhbaaGreatDoorW.PrintLast Go.Proofs.YtcicpmhcmlfhbaaGreatDoorW.PrintMore Go.ChangeShapes Go.WideShapes
set_option linter.unusedVariables false
set_option linter.unusedSimpArgs false

/-- Whatever reads as data at type t reads as a value of kind d of which V holds. -/
def Opens {α : Type} (P : Program) (t : TypeId) (d : Kd α) (V : α → Prop) : Prop :=
  ∀ {H : Type} (enc : TypeId × Value → H) (w : World) (base : Nat) (spare : Nat → Bool) (held : Bool) (fuel : Nat) (cs : List Value) (y : DataW H × List MemPlace),
    DataW.trod enc P w base spare held fuel t cs = some y → ∃ x, d.K w x cs ∧ V x
theorem Opens.imp {α : Type} {P : Program} {t : TypeId} {d : Kd α} {V V' : α → Prop} (h : Opens P t d V) (hv : ∀ x, V x → V' x) : Opens P t d V' := by
  intro H enc w base spare held fuel cs y hy
  obtain ⟨x, hx, vx⟩ := h enc w base spare held fuel cs y hy
  exact ⟨x, hx, hv x vx⟩
theorem opens_int {P : Program} {t : TypeId} {k : IntKind} (h : P.underlying t = some (.int k)) : Opens P t (Kd.int k) (fun x => (Lit.int k x).wf = true) := by
  intro H enc w base spare held fuel cs y hy
  obtain ⟨x, e, _, hw⟩ := DataW.trod_int h hy
  exact ⟨x, e, hw⟩
theorem opens_bool {P : Program} {t : TypeId} (h : P.underlying t = some .bool) : Opens P t Kd.bool (fun _ => True) := by
  intro H enc w base spare held fuel cs y hy
  obtain ⟨x, e, _⟩ := DataW.trod_bool h hy
  exact ⟨x, e, trivial⟩
theorem opens_string {P : Program} {t : TypeId} (h : P.underlying t = some .string) : Opens P t Kd.string (fun s => s.size ≤ 9223372036854775807) := by
  intro H enc w base spare held fuel cs y hy
  obtain ⟨s, e, _, hw⟩ := DataW.trod_string h hy
  exact ⟨s, e, hw⟩
theorem mapM_some {α β : Type} {f : α → Option β} : ∀ {l : List α} {ys : List β}, l.mapM f = some ys → ys.length = l.length ∧ ∀ i (h : i < l.length), ∃ y, f l[i] = some y ∧ ys[i]? = some y
  | [], ys, h => by simp at h; subst h; exact ⟨rfl, fun i h => absurd h (by simp)⟩
  | a :: l, ys, h => by
    simp only [List.mapM_cons, Option.pure_def, Option.bind_eq_bind, Option.bind_eq_some_iff, Option.some.injEq] at h
    obtain ⟨y, hy, ys', hys, rfl⟩ := h
    obtain ⟨hl, hi⟩ := mapM_some hys
    refine ⟨by simp [hl], fun i h => ?_⟩
    cases i with
    | zero => exact ⟨y, hy, rfl⟩
    | succ i => simpa using hi i (by simpa using h)
theorem cells_at {w : World} {base : Nat} {a : Addr} {n : Nat} {cs : List Value} (h : w.cells? base a n = some cs) : cs.length = n ∧ ∀ i u, cs[i]? = some u → w.cell? (a.add i) = some u := by
  unfold World.cells? at h
  split at h
  · obtain ⟨hl, hi⟩ := mapM_some h
    refine ⟨by simpa using hl, fun i u hu => ?_⟩
    have hlt : i < (List.range n).length := by
      have := (List.getElem?_eq_some_iff.1 hu).1
      omega
    obtain ⟨y, hy, hyi⟩ := hi i hlt
    rw [hu] at hyi
    cases hyi
    simpa using hy
  · cases h
theorem opens_slice {α : Type} {P : Program} {t e : TypeId} {d : Kd α} {V : α → Prop} (h : P.underlying t = some (.slice e)) (hC : P.cellsOf e = d.sz) (hd : Opens P e d V) :
    Opens P t (Kd.slice e d) (fun xs => xs.length ≤ 9223372036854775807 ∧ ∀ x ∈ xs, V x) := by
  intro H enc w base spare held fuel cs y hy
  cases fuel with
  | zero => simp [DataW.trod] at hy
  | succ n =>
    unfold DataW.trod at hy
    rw [h] at hy
    simp only [] at hy
    split at hy <;> try (rename_i he; cases he)
    all_goals try (cases hy; done)
    · rename_i heq _
      exact ⟨[], ⟨none, 0, rfl, Nat.le_refl _, rfl, Nat.zero_le _, fun hp => absurd hp (Nat.lt_irrefl 0)⟩, Nat.zero_le _, fun x hx => absurd hx (by simp)⟩
    · rename_i a len cap
      split at hy
      · rename_i hc
        obtain ⟨elems, hel, _⟩ := Option.bind_eq_some_iff.1 hy
        obtain ⟨hlen, hat⟩ := mapM_some hel
        have hat : ∀ i, i < len → ∃ y, (w.cells? base (a.add (i * P.cellsOf e)) (P.cellsOf e)).bind (DataW.trod enc P w base spare held n e) = some y ∧ elems[i]? = some y := fun i hi => by
          have := hat i (by rw [List.length_range]; exact hi)
          simpa using this
        have hone : ∀ i, i < len → ∃ x, V x ∧ ∃ c, c.length = d.sz ∧ d.K w x c ∧ ∀ j u, c[j]? = some u → w.cell? ((a.add (i * d.sz)).add j) = some u := by
          intro i hi
          obtain ⟨z, hz, _⟩ := hat i hi
          obtain ⟨c, hc1, hc2⟩ := Option.bind_eq_some_iff.1 hz
          obtain ⟨hl, hcell⟩ := cells_at hc1
          obtain ⟨x, hx, vx⟩ := hd enc w base spare held n c z hc2
          refine ⟨x, vx, c, d.K_len hx, hx, fun j u hu => ?_⟩
          have := hcell j u hu
          simpa [hC] using this
        have hall : ∀ m, m ≤ len → ∃ xs : List α, xs.length = m ∧ (∀ x ∈ xs, V x) ∧ ∀ j p, xs[j]? = some p → ∃ c, c.length = d.sz ∧ d.K w p c ∧ ∀ i u, c[i]? = some u → w.cell? (a.add (j * d.sz + i)) = some u := by
          intro m
          induction m with
          | zero => intro _; exact ⟨[], rfl, fun x hx => absurd hx (by simp), fun j p hj => by simp at hj⟩
          | succ m ih =>
            intro hm
            obtain ⟨xs, hl, hv, hx⟩ := ih (by omega)
            obtain ⟨x, vx, c, hcl, hK, hcell⟩ := hone m (by omega)
            refine ⟨xs ++ [x], by simp [hl], ?_, ?_⟩
            · intro z hz
              rcases List.mem_append.1 hz with hz | hz
              · exact hv z hz
              · rw [List.mem_singleton.1 hz]; exact vx
            · intro j p hj
              rcases Nat.lt_trichotomy j m with hjm | hjm | hjm
              · rw [List.getElem?_append_left (by omega)] at hj
                exact hx j p hj
              · subst hjm
                rw [List.getElem?_append_right (by omega), hl, Nat.sub_self] at hj
                simp at hj
                subst hj
                refine ⟨c, hcl, hK, fun i u hu => ?_⟩
                have := hcell i u hu
                rwa [Addr.add_add] at this
              · rw [List.getElem?_eq_none (by simp [hl]; omega)] at hj
                cases hj
        obtain ⟨xs, hl, hv, hx⟩ := hall len (Nat.le_refl _)
        have hm : len ≤ 9223372036854775807 := by have := hc.2.1; have := hc.2.2; unfold maxLen at this; omega
        subst hl
        exact ⟨xs, ⟨some a, cap, rfl, hc.2.1, rfl, hm, fun _ => ⟨a, rfl, hx⟩⟩, hm, hv⟩
      · cases hy

/-- The fields from offset off on. -/
def OpensF {α : Type} (P : Program) (fs : List Field) (off : Nat) (d : Kd α) (V : α → Prop) : Prop :=
  ∀ {H : Type} (enc : TypeId × Value → H) (w : World) (base : Nat) (spare : Nat → Bool) (held : Bool) (fuel : Nat) (cs : List Value) (ys : List (DataW H × List MemPlace)),
    (fs.mapM fun f => DataW.trod enc P w base spare held fuel f.type ((cs.drop f.offset).take (P.cellsOf f.type))) = some ys → cs.length = off + d.sz → ∃ x, d.K w x (cs.drop off) ∧ V x
theorem opensF_one {α : Type} {P : Program} {f : Field} {off : Nat} {d : Kd α} {V : α → Prop} (hd : Opens P f.type d V) (ho : f.offset = off) (hC : P.cellsOf f.type = d.sz) : OpensF P [f] off d V := by
  intro H enc w base spare held fuel cs ys hy hl
  obtain ⟨y, h1, _⟩ := (mapM_some hy).2 0 (by simp)
  obtain ⟨x, hx, vx⟩ := hd enc w base spare held fuel _ y h1
  refine ⟨x, ?_, vx⟩
  simp only [List.getElem_cons_zero] at hx
  rwa [ho, hC, List.take_of_length_le (by simp; omega)] at hx
theorem opensF_cons {α β : Type} {P : Program} {f : Field} {fs : List Field} {off : Nat} {a : Kd α} {b : Kd β} {V : α → Prop} {U : β → Prop} (hd : Opens P f.type a V) (ho : f.offset = off) (hC : P.cellsOf f.type = a.sz) (hr : OpensF P fs (off + a.sz) b U) :
    OpensF P (f :: fs) off (Kd.pair a b) (fun x => V x.1 ∧ U x.2) := by
  intro H enc w base spare held fuel cs ys hy hl
  have hl' : cs.length = off + (a.sz + b.sz) := hl
  simp only [List.mapM_cons, Option.pure_def, Option.bind_eq_bind, Option.bind_eq_some_iff, Option.some.injEq] at hy
  obtain ⟨y, h1, ys', hys, rfl⟩ := hy
  obtain ⟨x, hx, vx⟩ := hd enc w base spare held fuel _ y h1
  obtain ⟨z, hz, uz⟩ := hr enc w base spare held fuel cs ys' hys (by omega)
  refine ⟨(x, z), ⟨_, _, ?_, hx, hz⟩, vx, uz⟩
  rw [ho, hC, ← List.drop_drop]
  exact (List.take_append_drop _ _).symm
theorem opens_struct {α β : Type} {P : Program} {t : TypeId} {fs : Array Field} {d : Kd α} {V : α → Prop} {g : β → α} (h : P.underlying t = some (.struct fs)) (hC : P.cellsOf t = d.sz) (hf : OpensF P fs.toList 0 d V) (hg : ∀ y, ∃ x, g x = y) :
    Opens P t (Kd.iso d g) (fun x => V (g x)) := by
  intro H enc w base spare held fuel cs y hy
  cases fuel with
  | zero => simp [DataW.trod] at hy
  | succ n =>
    unfold DataW.trod at hy
    rw [h] at hy
    simp only [] at hy
    split at hy
    · rename_i hl
      obtain ⟨xs, hxs, _⟩ := Option.map_eq_some_iff.1 hy
      obtain ⟨z, hz, vz⟩ := hf enc w base spare held n cs xs hxs (by omega)
      obtain ⟨x, rfl⟩ := hg z
      exact ⟨x, hz, vz⟩
    · cases hy
/-- An argument of a struct type. -/
theorem opens_agg {α : Type} {H : Type} {enc : TypeId × Value → H} {P : Program} {w : World} {base : Nat} {spare : Nat → Bool} {held : Bool} {r : Reach} {b0 : Nat} {t : TypeId} {fs : Array Field} {d : Kd α} {V : α → Prop} {v : Value} {y : DataW H} {p : List MemPlace}
    (h : P.underlying t = some (.struct fs)) (ho : Opens P t d V) (hv : Value.okWide P w r b0 t v) (ht : DataW.Trod enc P w base spare held t v y p) : ∃ x cs, v = .agg cs ∧ d.K w x cs.toList ∧ V x := by
  obtain ⟨cs, rfl, _⟩ := okWide_struct h hv
  obtain ⟨fuel, hf⟩ := ht
  obtain ⟨x, hx, vx⟩ := ho enc w base spare held fuel _ _ hf
  exact ⟨x, cs, rfl, hx, vx⟩
/-- An argument of a slice type. -/
theorem opens_arg_slice {α : Type} {H : Type} {enc : TypeId × Value → H} {P : Program} {w : World} {base : Nat} {spare : Nat → Bool} {held : Bool} {r : Reach} {b0 : Nat} {t e : TypeId} {d : Kd α} {V : List α → Prop} {v : Value} {y : DataW H} {p : List MemPlace}
    (h : P.underlying t = some (.slice e)) (ho : Opens P t (Kd.slice e d) V) (hv : Value.okWide P w r b0 t v) (ht : DataW.Trod enc P w base spare held t v y p) :
    ∃ A l c, v = .slice A l.length c ∧ l.length ≤ c ∧ d.C w A l.length l ∧ V l := by
  obtain ⟨A, len, cap, rfl⟩ := okWide_slice h hv
  obtain ⟨fuel, hf⟩ := ht
  obtain ⟨x, ⟨A', c, e', hl, hr⟩, vx⟩ := ho enc w base spare held fuel _ _ hf
  simp only [Value.cells, List.cons.injEq, Value.slice.injEq, and_true] at e'
  obtain ⟨rfl, rfl, rfl⟩ := e'
  exact ⟨_, x, _, rfl, hl, hr, vx⟩
end Go.Proofs.YtcicpmhcmlfhbaaGreatDoor.PA
