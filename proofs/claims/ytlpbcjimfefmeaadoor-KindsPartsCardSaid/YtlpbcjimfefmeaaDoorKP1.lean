/- Texts of this claim, joined by program: A1, A2, A3, A4, A4x, A5, A6, A7, A8, A9, A10, A11, A12, A13, A14, A15, A16, A17, A18, A19, A20. -/
import Derived.WalkKit
import Derived.WalkSpells
set_option linter.all false
section
namespace Go.Ae

inductive PV where
  | int (k : IntKind) (n : Int)
  | bool (b : Bool)
  | str (s : List UInt8)
  | agg (cs : List PV)
  | sl (sz : Nat) (es : List PV)
  | e0
  | nilp
  | nilf
  deriving Inhabited

inductive AV where
  | p (x : PV)
  | agg (cs : List AV)
  | ow (loc off len : Nat)
  | bs (loc off len : Nat)
  | ptr (loc off : Nat)
  | pe (x : AV) (sz i fo : Nat)
  | fn (f : Nat) (first cap : List AV)
  | tup (vs : List AV)
  | any
  deriving Inhabited

inductive Blk where
  | box (cs : List AV)
  | row (sz : Nat) (es : List AV)
  | dead
  deriving Inhabited

def PV.cells : PV → List PV
  | .agg cs => cs
  | x => [x]

def AV.cells : AV → List AV
  | .p (.agg cs) => cs.map .p
  | .agg cs => cs
  | x => [x]

def IsCell : Value → Prop
  | .agg _ => False
  | .tuple _ => False
  | _ => True

theorem IsCell.one {v : Value} (h : IsCell v) : v.oneCell' = true := by
  cases v <;> first | rfl | exact h.elim

theorem IsCell.cells {v : Value} (h : IsCell v) : v.cells = #[v] := by
  cases v <;> first | rfl | exact h.elim

inductive PConc (w : World) (O : Nat → Prop) : PV → Value → Prop
  | int {k n} : PConc w O (.int k n) (.int k n)
  | bool {b} : PConc w O (.bool b) (.bool b)
  | str {s : List UInt8} : PConc w O (.str s) (.string ⟨s.toArray⟩)
  | nilp : PConc w O .nilp (.pointer none)
  | nilf : PConc w O .nilf .nilFunc
  | e0 {a} : PConc w O .e0 (.slice a 0 0)
  | agg {cs : List PV} {vs : Array Value} (hl : cs.length = vs.size) (hc : ∀ (i : Nat) (v : Value), vs[i]? = some v → IsCell v)
      (h : ∀ (i : Nat) (x : PV) (v : Value), cs[i]? = some x → vs[i]? = some v → PConc w O x v) : PConc w O (.agg cs) (.agg vs)
  | sl0 {sz a cap} : PConc w O (.sl sz []) (.slice a 0 cap)
  | sl {sz : Nat} {es : List PV} {a : Addr} {cap : Nat} (vf : Nat → Nat → Value) (hne : es ≠ []) (hs : a.spot = none) (hb : a.block < w.heap.size) (ho : ¬ O a.block)
      (hcap : es.length ≤ cap) (hu : ∀ (i : Nat) (e : PV), es[i]? = some e → e.cells.length = sz)
      (hm : ∀ (i : Nat) (e : PV) (j : Nat), es[i]? = some e → j < sz → w.cell? ⟨a.block, a.off + i * sz + j, none⟩ = some (vf i j))
      (hc : ∀ (i : Nat) (e : PV) (j : Nat), es[i]? = some e → j < sz → IsCell (vf i j))
      (hv : ∀ (i : Nat) (e : PV) (j : Nat) (x : PV), es[i]? = some e → e.cells[j]? = some x → PConc w O x (vf i j)) :
      PConc w O (.sl sz es) (.slice (some a) es.length cap)

theorem cell?_congr {w w' : World} {a : Addr} (h : w'.heap[a.block]? = w.heap[a.block]?) : w'.cell? a = w.cell? a := by
  simp [World.cell?, h]

theorem PConc.mono {w w' : World} {O O' : Nat → Prop} {x : PV} {v : Value} (h : PConc w O x v) (hsz : w.heap.size ≤ w'.heap.size)
    (hi : ∀ b, b < w.heap.size → ¬ O b → w'.heap[b]? = w.heap[b]? ∧ ¬ O' b) : PConc w' O' x v := by
  induction h with
  | int => exact .int
  | bool => exact .bool
  | str => exact .str
  | nilp => exact .nilp
  | nilf => exact .nilf
  | e0 => exact .e0
  | agg hl hc _ ih => exact .agg hl hc ih
  | sl0 => exact .sl0
  | sl vf hne hs hb ho hcap hu hm hc _ ih =>
    have hb' := hi _ hb ho
    refine .sl vf hne hs (Nat.lt_of_lt_of_le hb hsz) hb'.2 hcap hu (fun i e j he hj => ?_) hc ih
    rw [cell?_congr (by exact hb'.1)]
    exact hm i e j he hj

structure Env where
  w : World
  ι : Nat → Nat
  H : List Blk
  X : Nat → Prop

def Env.Owns (E : Env) (loc b : Nat) : Prop :=
  E.ι loc = b ∧ ((∃ cs, E.H[loc]? = some (.box cs)) ∨ ∃ sz es, E.H[loc]? = some (.row sz es) ∧ es ≠ [])

def Env.OwnL (E : Env) (b : Nat) : Prop := ∃ loc, E.Owns loc b

def Env.Own (E : Env) (b : Nat) : Prop := E.OwnL b ∨ E.X b

inductive Conc (E : Env) : AV → Value → Prop
  | p {x v} (h : PConc E.w E.Own x v) : Conc E (.p x) v
  | agg {cs : List AV} {vs : Array Value} (hl : cs.length = vs.size) (hc : ∀ (i : Nat) (v : Value), vs[i]? = some v → IsCell v)
      (h : ∀ (i : Nat) (x : AV) (v : Value), cs[i]? = some x → vs[i]? = some v → Conc E x v) : Conc E (.agg cs) (.agg vs)
  | owE {loc sz a} (hH : E.H[loc]? = some (.row sz [])) : Conc E (.ow loc 0 0) (.slice a 0 0)
  | ow0 {loc sz es cap a off} (hH : E.H[loc]? = some (.row sz es)) (hne : es ≠ []) (ho : off = es.length) : Conc E (.ow loc off 0) (.slice a 0 cap)
  | ow {loc off len cap sz es c T fr} (hH : E.H[loc]? = some (.row sz es)) (hl : off + len = es.length) (h0 : 0 < len) (hcap : len ≤ cap)
      (hw : E.w.heap[E.ι loc]? = some (.cells c T fr)) (hc : (off + cap) * sz ≤ c.size) : Conc E (.ow loc off len) (.slice (some ⟨E.ι loc, off * sz, none⟩) len cap)
  | owS {loc off len v} (hl : loc < E.H.length) (hH : ∀ (sz : Nat) (es : List AV), E.H[loc]? = some (.row sz es) → off + len < es.length) (hv : IsCell v) : Conc E (.ow loc off len) v
  | bs {loc off len cap cs} (hH : E.H[loc]? = some (.box cs)) (hl : off + len ≤ cs.length) (h0 : 0 < len) (hcap : len ≤ cap) :
      Conc E (.bs loc off len) (.slice (some ⟨E.ι loc, off, none⟩) len cap)
  | bs0 {loc off cap a cs} (hH : E.H[loc]? = some (.box cs)) (hl : off ≤ cs.length) : Conc E (.bs loc off 0) (.slice a 0 cap)
  | bsS {loc off len v} (hl : loc < E.H.length) (hH : ∀ (cs : List AV), E.H[loc]? ≠ some (.box cs)) (hv : IsCell v) : Conc E (.bs loc off len) v
  | ptr {loc off cs} (hH : E.H[loc]? = some (.box cs)) : Conc E (.ptr loc off) (.pointer (some ⟨E.ι loc, off, none⟩))
  | ptrS {loc off v} (hl : loc < E.H.length) (hH : ∀ (cs : List AV), E.H[loc]? ≠ some (.box cs)) (hv : IsCell v) : Conc E (.ptr loc off) v
  | pe {x sz i fo a len cap} (h : Conc E x (.slice (some a) len cap)) (hs : a.spot = none) :
      Conc E (.pe x sz i fo) (.pointer (some ⟨a.block, a.off + i * sz + fo, none⟩))
  | fn {f : Nat} {first cap : List AV} {vf vc : Array Value} (hl1 : first.length = vf.size) (hl2 : cap.length = vc.size)
      (h1 : ∀ (i : Nat) (x : AV) (v : Value), first[i]? = some x → vf[i]? = some v → Conc E x v) (h2 : ∀ (i : Nat) (x : AV) (v : Value), cap[i]? = some x → vc[i]? = some v → Conc E x v) :
      Conc E (.fn f first cap) (.func (.func f) vf vc)
  | tup {cs : List AV} {vs : Array Value} (hl : cs.length = vs.size)
      (h : ∀ (i : Nat) (x : AV) (v : Value), cs[i]? = some x → vs[i]? = some v → Conc E x v) : Conc E (.tup cs) (.tuple vs)
  | any {v} : Conc E .any v

structure Le (E E' : Env) : Prop where
  keep : E'.w.os = E.w.os ∧ E'.w.output = E.w.output
  size : E.w.heap.size ≤ E'.w.heap.size
  imm : ∀ b, b < E.w.heap.size → ¬ E.OwnL b → E'.w.heap[b]? = E.w.heap[b]? ∧ ¬ E'.OwnL b
  ext : E'.X = E.X
  len : E.H.length ≤ E'.H.length
  box : ∀ loc cs', loc < E.H.length → E'.H[loc]? = some (.box cs') → ∃ cs, E.H[loc]? = some (.box cs) ∧ cs.length = cs'.length ∧ E'.ι loc = E.ι loc
  row : ∀ loc sz es', loc < E.H.length → E'.H[loc]? = some (.row sz es') → ∃ es, E.H[loc]? = some (.row sz es) ∧ es.length ≤ es'.length ∧
    (es ≠ [] → es.length = es'.length → E'.ι loc = E.ι loc ∧
      ∀ c T fr, E.w.heap[E.ι loc]? = some (.cells c T fr) → ∃ c' fr', E'.w.heap[E.ι loc]? = some (.cells c' T fr') ∧ c'.size = c.size)

theorem Le.own {E E' : Env} (h : Le E E') (b : Nat) (hb : b < E.w.heap.size) (ho : ¬ E.Own b) : E'.w.heap[b]? = E.w.heap[b]? ∧ ¬ E'.Own b := by
  obtain ⟨h1, h2⟩ := h.imm b hb (fun hh => ho (.inl hh))
  refine ⟨h1, fun hh => ?_⟩
  rcases hh with hh | hh
  · exact h2 hh
  · rw [h.ext] at hh; exact ho (.inr hh)

theorem Le.refl (E : Env) : Le E E where
  keep := ⟨rfl, rfl⟩
  size := Nat.le_refl _
  imm := fun _ _ h => ⟨rfl, h⟩
  ext := rfl
  len := Nat.le_refl _
  box := fun _ cs' _ h => ⟨cs', h, rfl, rfl⟩
  row := fun _ _ es' _ h => ⟨es', h, Nat.le_refl _, fun _ _ => ⟨rfl, fun c _ fr hw => ⟨c, fr, hw, rfl⟩⟩⟩

theorem Le.trans {A B C : Env} (h : Le A B) (h' : Le B C) : Le A C where
  keep := ⟨h'.keep.1.trans h.keep.1, h'.keep.2.trans h.keep.2⟩
  size := Nat.le_trans h.size h'.size
  imm := fun b hb ho => by
    obtain ⟨e1, o1⟩ := h.imm b hb ho
    obtain ⟨e2, o2⟩ := h'.imm b (Nat.lt_of_lt_of_le hb h.size) o1
    exact ⟨e2.trans e1, o2⟩
  ext := h'.ext.trans h.ext
  len := Nat.le_trans h.len h'.len
  box := fun loc cs' hl hH => by
    obtain ⟨cs, e1, l1, i1⟩ := h'.box loc cs' (Nat.lt_of_lt_of_le hl h.len) hH
    obtain ⟨cs0, e0, l0, i0⟩ := h.box loc cs hl e1
    exact ⟨cs0, e0, l0.trans l1, i1.trans i0⟩
  row := fun loc sz es' hl hH => by
    obtain ⟨es, e1, l1, i1⟩ := h'.row loc sz es' (Nat.lt_of_lt_of_le hl h.len) hH
    obtain ⟨es0, e0, l0, i0⟩ := h.row loc sz es hl e1
    refine ⟨es0, e0, Nat.le_trans l0 l1, fun hne heq => ?_⟩
    have h01 : es0.length = es.length := by omega
    have hne1 : es ≠ [] := by
      intro hx; subst hx; apply hne; exact List.length_eq_zero_iff.1 h01
    obtain ⟨j0, m0⟩ := i0 hne h01
    obtain ⟨j1, m1⟩ := i1 hne1 (by omega)
    refine ⟨j1.trans j0, fun c T fr hw => ?_⟩
    obtain ⟨c1, fr1, hw1, hs1⟩ := m0 c T fr hw
    rw [← j0] at hw1
    obtain ⟨c2, fr2, hw2, hs2⟩ := m1 c1 T fr1 hw1
    rw [j0] at hw2
    exact ⟨c2, fr2, hw2, hs2.trans hs1⟩

theorem Conc.mono {E E' : Env} (hle : Le E E') {x : AV} {v : Value} (h : Conc E x v) : Conc E' x v := by
  induction h with
  | p h => exact .p (h.mono hle.size hle.own)
  | agg hl hc _ ih => exact .agg hl hc ih
  | @owE loc sz a hH =>
    have hlt : loc < E.H.length := (List.getElem?_eq_some_iff.1 hH).1
    cases h' : E'.H[loc]? with
    | none => rw [List.getElem?_eq_none_iff] at h'; have := hle.len; omega
    | some b =>
      cases b with
      | box cs => exact .owS (Nat.lt_of_lt_of_le hlt hle.len) (fun sz es he => by rw [h'] at he; cases he) trivial
      | dead => exact .owS (Nat.lt_of_lt_of_le hlt hle.len) (fun sz es he => by rw [h'] at he; cases he) trivial
      | row sz' es' =>
        obtain ⟨es, e1, l1, _⟩ := hle.row loc sz' es' hlt h'
        rw [hH] at e1
        cases e1
        cases es' with
        | nil => exact .owE h'
        | cons e r => exact .owS (Nat.lt_of_lt_of_le hlt hle.len) (fun sz es he => by rw [h'] at he; cases he; simp) trivial
  | @ow0 loc sz es cap a off hH hne ho =>
    have hlt : loc < E.H.length := (List.getElem?_eq_some_iff.1 hH).1
    cases h' : E'.H[loc]? with
    | none => rw [List.getElem?_eq_none_iff] at h'; have := hle.len; omega
    | some b =>
      cases b with
      | box cs => exact .owS (Nat.lt_of_lt_of_le hlt hle.len) (fun sz es he => by rw [h'] at he; cases he) trivial
      | dead => exact .owS (Nat.lt_of_lt_of_le hlt hle.len) (fun sz es he => by rw [h'] at he; cases he) trivial
      | row sz' es' =>
        obtain ⟨es1, e1, l1, _⟩ := hle.row loc sz' es' hlt h'
        rw [hH] at e1
        cases e1
        by_cases hq : es.length = es'.length
        · refine .ow0 h' ?_ (by omega)
          intro hx; subst hx; apply hne; exact List.length_eq_zero_iff.1 hq
        · exact .owS (Nat.lt_of_lt_of_le hlt hle.len) (fun sz es he => by rw [h'] at he; cases he; omega) trivial
  | @ow loc off len cap sz es c T fr hH hl h0 hcap hw hc =>
    have hlt : loc < E.H.length := (List.getElem?_eq_some_iff.1 hH).1
    cases h' : E'.H[loc]? with
    | none => rw [List.getElem?_eq_none_iff] at h'; have := hle.len; omega
    | some b =>
      cases b with
      | box cs => exact .owS (Nat.lt_of_lt_of_le hlt hle.len) (fun sz es he => by rw [h'] at he; cases he) trivial
      | dead => exact .owS (Nat.lt_of_lt_of_le hlt hle.len) (fun sz es he => by rw [h'] at he; cases he) trivial
      | row sz' es' =>
        obtain ⟨es1, e1, l1, m1⟩ := hle.row loc sz' es' hlt h'
        rw [hH] at e1
        cases e1
        by_cases hq : es.length = es'.length
        · obtain ⟨hi, hm⟩ := m1 (by intro hx; subst hx; simp at hl; omega) hq
          obtain ⟨c', fr', hw', hs'⟩ := hm c T fr hw
          have := Conc.ow (E := E') (loc := loc) (off := off) (len := len) (cap := cap) (c := c') (T := T) (fr := fr') h' (by omega) h0 hcap (by rw [hi]; exact hw') (by omega)
          rw [hi] at this
          exact this
        · exact .owS (Nat.lt_of_lt_of_le hlt hle.len) (fun sz es he => by rw [h'] at he; cases he; omega) trivial
  | @owS loc off len v hl hH hv =>
    refine .owS (Nat.lt_of_lt_of_le hl hle.len) (fun sz es' he => ?_) hv
    obtain ⟨es, e1, l1, _⟩ := hle.row loc sz es' hl he
    have := hH sz es e1
    omega
  | @bs loc off len cap cs hH hl h0 hcap =>
    have hlt : loc < E.H.length := (List.getElem?_eq_some_iff.1 hH).1
    by_cases h' : ∃ cs', E'.H[loc]? = some (.box cs')
    · obtain ⟨cs', h'⟩ := h'
      obtain ⟨cs1, e1, l1, i1⟩ := hle.box loc cs' hlt h'
      rw [hH] at e1
      cases e1
      rw [← i1]
      exact .bs h' (by omega) h0 hcap
    · exact .bsS (Nat.lt_of_lt_of_le hlt hle.len) (fun cs' he => h' ⟨cs', he⟩) trivial
  | @bs0 loc off cap a cs hH hl =>
    have hlt : loc < E.H.length := (List.getElem?_eq_some_iff.1 hH).1
    by_cases h' : ∃ cs', E'.H[loc]? = some (.box cs')
    · obtain ⟨cs', h'⟩ := h'
      obtain ⟨cs1, e1, l1, i1⟩ := hle.box loc cs' hlt h'
      rw [hH] at e1
      cases e1
      exact .bs0 h' (by omega)
    · exact .bsS (Nat.lt_of_lt_of_le hlt hle.len) (fun cs' he => h' ⟨cs', he⟩) trivial
  | @bsS loc off len v hl hH hv =>
    refine .bsS (Nat.lt_of_lt_of_le hl hle.len) (fun cs' he => ?_) hv
    obtain ⟨cs, e1, _⟩ := hle.box loc cs' hl he
    exact hH cs e1
  | @ptr loc off cs hH =>
    have hlt : loc < E.H.length := (List.getElem?_eq_some_iff.1 hH).1
    by_cases h' : ∃ cs', E'.H[loc]? = some (.box cs')
    · obtain ⟨cs', h'⟩ := h'
      obtain ⟨cs1, e1, l1, i1⟩ := hle.box loc cs' hlt h'
      rw [← i1]
      exact .ptr h'
    · exact .ptrS (Nat.lt_of_lt_of_le hlt hle.len) (fun cs' he => h' ⟨cs', he⟩) trivial
  | @ptrS loc off v hl hH hv =>
    refine .ptrS (Nat.lt_of_lt_of_le hl hle.len) (fun cs' he => ?_) hv
    obtain ⟨cs, e1, _⟩ := hle.box loc cs' hl he
    exact hH cs e1
  | pe _ hs ih => exact .pe ih hs
  | fn hl1 hl2 _ _ ih1 ih2 => exact .fn hl1 hl2 ih1 ih2
  | tup hl _ ih => exact .tup hl ih
  | any => exact .any

abbrev Globals := Nat → Option AV

structure Sim (G : Globals) (E : Env) : Prop where
  inj : ∀ i j b, E.Owns i b → E.Owns j b → i = j
  box : ∀ loc cs, E.H[loc]? = some (.box cs) → ∃ c T, E.w.heap[E.ι loc]? = some (.cells c T (0, 0)) ∧
    ∀ (j : Nat) (x : AV), cs[j]? = some x → ∃ v, c[j]? = some v ∧ IsCell v ∧ Conc E x v
  row : ∀ loc sz es, E.H[loc]? = some (.row sz es) → es ≠ [] → ∃ c T, E.w.heap[E.ι loc]? = some (.cells c T (0, 0)) ∧
    ∀ (k : Nat) (e : AV), es[k]? = some e → e.cells.length = sz ∧ ∀ (j : Nat) (x : AV), e.cells[j]? = some x → ∃ v, c[k * sz + j]? = some v ∧ IsCell v ∧ Conc E x v
  glob : ∀ g x, G g = some x → Conc E x (.pointer (some ⟨g, 0, none⟩))
  ext : ∀ b, E.X b → b < E.w.heap.size ∧ ¬ E.OwnL b

def Slots (E : Env) (D : List AV) (tmps : Array Value) : Prop := ∀ (k : Nat) (x : AV), D[k]? = some x → ∃ v, tmps[k]? = some v ∧ Conc E x v

theorem Slots.mono {E E' : Env} (hle : Le E E') {D tmps} (h : Slots E D tmps) : Slots E' D tmps := fun k x hx =>
  let ⟨v, hv, hc⟩ := h k x hx
  ⟨v, hv, hc.mono hle⟩

theorem Slots.size {E : Env} {D tmps} (h : Slots E D tmps) : D.length ≤ tmps.size := by
  rcases Nat.lt_or_ge tmps.size D.length with hlt | hge
  · obtain ⟨v, hv, _⟩ := h tmps.size D[tmps.size] (List.getElem?_eq_getElem hlt)
    have := (Array.getElem?_eq_some_iff.1 hv).1
    omega
  · exact hge

theorem Slots.set {E : Env} {D tmps} (h : Slots E D tmps) {d : Nat} {x : AV} {v : Value} (hc : Conc E x v) : Slots E (D.set d x) (tmps.setIfInBounds d v) := by
  intro k y hk
  rw [List.getElem?_set] at hk
  by_cases hdk : d = k
  · subst hdk
    simp only [if_true] at hk
    split at hk
    · rename_i hlt
      cases hk
      have := h.size
      exact ⟨v, by rw [Array.getElem?_setIfInBounds]; simp; omega, hc⟩
    · cases hk
  · simp only [hdk, if_false] at hk
    obtain ⟨u, hu, hcu⟩ := h k y hk
    exact ⟨u, by rw [Array.getElem?_setIfInBounds]; simp [hdk, hu], hcu⟩

theorem Slots.forget {E : Env} {D tmps} (h : Slots E D tmps) {d : Nat} {v : Value} : Slots E (D.set d .any) (tmps.setIfInBounds d v) := h.set .any

end Go.Ae
end

section
namespace Go.Ae

inductive Opd where
  | t (n : Nat)
  | c (x : PV)
  | g (n : Nat)
  | f (n : Nat)
  deriving Inhabited

def get (G : Globals) (D : List AV) : Opd → AV
  | .t n => D.getD n .any
  | .c x => .p x
  | .g n => (G n).getD .any
  | .f n => .fn n [] []

inductive I where
  | mv (x : Opd)
  | pick (c a b : Opd)
  | alloc (z : PV)
  | box (x : Opd)
  | bd (z : List PV) (parts : List (Nat × Nat × Opd))
  | bsl (sz : Nat) (z : PV) (len : Nat) (parts : List (Nat × Opd))
  | ld (n : Option Nat) (x : Opd)
  | st (n : Nat) (x v : Opd)
  | nc (x : Opd)
  | bin (o : BinOp) (x y : Opd)
  | eqb (neg : Bool) (x y : Opd)
  | eqp (neg : Bool) (x : Opd)
  | eqf (neg : Bool) (x : Opd)
  | eqs (neg : Bool) (x : Opd)
  | eqa (neg : Bool) (ks : List Nat) (x y : Opd)
  | un (o : UnOp) (x : Opd)
  | conv (k : IntKind) (x : Opd)
  | cvs (x : Opd)
  | mkf (f : Nat) (first cap : List Opd)
  | mks (sz : Nat) (z : PV) (bytes : Nat) (len cap : Opd)
  | slc (sz : Nat) (x : Opd) (lo hi mx : Option Opd)
  | sls (x : Opd) (lo hi : Option Opd)
  | sla (n : Nat) (x : Opd) (lo hi : Option Opd)
  | fa (off : Nat) (x : Opd)
  | fld (off : Nat) (n : Option Nat) (x : Opd)
  | ia (sz : Nat) (x i : Opd)
  | iaa (len sz : Nat) (x i : Opd)
  | idx (len sz : Nat) (n : Option Nat) (x i : Opd)
  | ids (x i : Opd)
  | ext (j : Nat) (x : Opd)
  | len (x : Opd)
  | lns (x : Opd)
  | mx (mn : Bool) (x y : Opd)
  | app (sz bytes : Nat) (x y : Opd)
  | apz (sz bytes : Nat) (z : PV) (x y : Opd)
  | cpy (sz : Nat) (x y : Opd)
  | call (f : Nat) (args : List Opd)
  | callv (f : Opd) (args : List Opd)
  deriving Inhabited

inductive Ins where
  | d (d : Nat) (i : I)
  | n (i : I)
  | gd (s : Nat) (b : Bool) (d : Nat) (i : I)
  | gn (s : Nat) (b : Bool) (i : I)
  deriving Inhabited

def PV.isAgg : PV → Bool
  | .agg _ => true
  | _ => false

def AV.scalar : AV → Bool
  | .p (.agg _) => false
  | .agg _ => false
  | .tup _ => false
  | .any => false
  | _ => true

def AV.fits (sz : Nat) (x : AV) : Bool :=
  match x with
  | .p (.agg cs) => cs.length == sz
  | .agg cs => cs.length == sz
  | .tup _ => false
  | .any => false
  | _ => sz == 1

def allP : List AV → Option (List PV)
  | [] => some []
  | .p x :: r => (allP r).map (x :: ·)
  | _ :: _ => none

def mkAgg (cs : List AV) : AV :=
  match allP cs with
  | some ps => .p (.agg ps)
  | none => .agg cs

def putAt {α : Type} (l : List α) (off : Nat) (vs : List α) : List α := l.take off ++ vs ++ l.drop (off + vs.length)

def setMany {α : Type} (l : List α) (off : Nat) : List α → List α
  | [] => l
  | v :: vs => setMany (l.set off v) (off + 1) vs

def bitsR (o : BinOp) (k : IntKind) (x y : Int) : Int :=
  let a := BitVec.ofInt k.bits x
  let b := BitVec.ofInt k.bits y
  k.wrap ((match o with
    | .and => a &&& b
    | .or => a ||| b
    | .xor => a ^^^ b
    | _ => a &&& ~~~b).toNat : Int)

def binI (o : BinOp) (k : IntKind) (a b : Int) (K : AV → Prop) : Prop :=
  match o with
  | .add => K (.p (.int k (k.wrap (a + b))))
  | .sub => K (.p (.int k (k.wrap (a - b))))
  | .mul => K (.p (.int k (k.wrap (a * b))))
  | .quo => b ≠ 0 ∧ K (.p (.int k (k.wrap (a.tdiv b))))
  | .rem => b ≠ 0 ∧ K (.p (.int k (a.tmod b)))
  | .and => K (.p (.int k (bitsR .and k a b)))
  | .or => K (.p (.int k (bitsR .or k a b)))
  | .xor => K (.p (.int k (bitsR .xor k a b)))
  | .andNot => K (.p (.int k (bitsR .andNot k a b)))
  | .shl => 0 ≤ b ∧ K (.p (.int k (k.wrap (a * 2 ^ (min b.toNat k.bits)))))
  | .shr => 0 ≤ b ∧ K (.p (.int k (a.fdiv (2 ^ (min b.toNat k.bits)))))
  | .eql => K (.p (.bool (a == b)))
  | .neq => K (.p (.bool (a != b)))
  | .lss => K (.p (.bool (decide (a < b))))
  | .leq => K (.p (.bool (decide (a ≤ b))))
  | .gtr => K (.p (.bool (decide (a > b))))
  | .geq => K (.p (.bool (decide (a ≥ b))))

def binS (o : BinOp) (a b : List UInt8) (K : AV → Prop) : Prop :=
  match o with
  | .add => a.length + b.length ≤ 4611686018427387904 ∧ K (.p (.str (a ++ b)))
  | .eql => K (.p (.bool (a == b)))
  | .neq => K (.p (.bool (!(a == b))))
  | _ => False

def binR (o : BinOp) (x y : AV) (K : AV → Prop) : Prop :=
  match x, y with
  | .p (.int k a), .p (.int k' b) => (k = k' ∨ o = .shl ∨ o = .shr) ∧ binI o k a b K
  | .p (.str a), .p (.str b) => binS o a b K
  | _, _ => False

def eq1 : PV → PV → Bool
  | .int _ a, .int _ b => a == b
  | .bool a, .bool b => a == b
  | .str a, .str b => a == b
  | _, _ => false

def eqC : List PV → List PV → Bool
  | a :: r, b :: s => eq1 a b && eqC r s
  | _, _ => true

def kcode : IntKind → Nat
  | .i8 => 0
  | .i16 => 1
  | .i32 => 2
  | .i64 => 3
  | .u8 => 4
  | .u16 => 5
  | .u32 => 6
  | .u64 => 7

def kind1 (n : Nat) : PV → Bool
  | .int k _ => n == kcode k
  | .bool _ => n == 8
  | .str _ => n == 9
  | _ => false

def kinds : List Nat → List PV → Bool
  | [], [] => true
  | k :: ks, c :: r => kind1 k c && kinds ks r
  | _, _ => false

def rdS (H : List Blk) : AV → Option (Nat × List AV)
  | .p (.sl sz es) => some (sz, es.map .p)
  | .p .e0 => some (0, [])
  | .ow loc off len =>
    match H[loc]? with
    | some (.row sz es) => if off + len = es.length then some (sz, es.drop off) else none
    | _ => none
  | .bs loc off len =>
    match H[loc]? with
    | some (.box cs) => if off + len ≤ cs.length then some (1, (cs.drop off).take len) else none
    | _ => none
  | _ => none

def lenR (H : List Blk) (x : AV) (K : Nat → Prop) : Prop :=
  match x with
  | .p (.sl _ es) => K es.length
  | .p .e0 => K 0
  | .ow loc off len =>
    match H[loc]? with
    | some (.row _ es) => off + len = es.length ∧ K len
    | _ => False
  | .bs loc _ len =>
    match H[loc]? with
    | some (.box _) => K len
    | _ => False
  | _ => False

def partP (e : PV) (fo : Nat) (n : Option Nat) (K : AV → Prop) : Prop :=
  match n with
  | none => fo < e.cells.length ∧ K (.p (e.cells.getD fo .nilp))
  | some n => if fo = 0 ∧ n = e.cells.length then e.isAgg = true ∧ K (.p e) else fo + n ≤ e.cells.length ∧ K (.p (.agg ((e.cells.drop fo).take n)))

def partA (cs : List AV) (fo : Nat) (n : Option Nat) (K : AV → Prop) : Prop :=
  match n with
  | none => fo < cs.length ∧ K (cs.getD fo .any)
  | some n => fo + n ≤ cs.length ∧ K (mkAgg ((cs.drop fo).take n))

def ldR (H : List Blk) (n : Option Nat) (x : AV) (K : AV → Prop) : Prop :=
  match x with
  | .ptr loc off =>
    match H[loc]? with
    | some (.box cs) => partA cs off n K
    | _ => False
  | .pe (.p (.sl sz' es)) sz i fo => sz' = sz ∧ i < es.length ∧ partP (es.getD i .nilp) fo n K
  | .pe (.ow loc off len) sz i fo =>
    match H[loc]? with
    | some (.row sz' es) => (off + len = es.length ∧ sz' = sz ∧ i < len) ∧ partA (es.getD (off + i) .any).cells fo n K
    | _ => False
  | .pe (.bs loc off len) sz i fo =>
    match H[loc]? with
    | some (.box cs) => (off + len ≤ cs.length ∧ sz = 1 ∧ i < len ∧ fo = 0 ∧ n = none) ∧ K (cs.getD (off + i) .any)
    | _ => False
  | _ => False

def reCells (e : AV) (fo : Nat) (vs : List AV) : AV :=
  if fo = 0 ∧ vs.length = e.cells.length then (match vs with | [v] => (if e.scalar then v else mkAgg [v]) | _ => mkAgg vs) else mkAgg (setMany e.cells fo vs)

def stR (H : List Blk) (n : Nat) (x v : AV) (K : List Blk → Prop) : Prop :=
  match x with
  | .ptr loc off =>
    match H[loc]? with
    | some (.box cs) => (v.fits n = true ∧ off + n ≤ cs.length) ∧ K (H.set loc (.box (setMany cs off v.cells)))
    | _ => False
  | .pe (.ow loc off len) sz i fo =>
    match H[loc]? with
    | some (.row sz' es) => (off + len = es.length ∧ sz' = sz ∧ i < len ∧ v.fits n = true ∧ fo + n ≤ sz) ∧
        K (H.set loc (.row sz' (es.set (off + i) (reCells (es.getD (off + i) .any) fo v.cells))))
    | _ => False
  | .pe (.bs loc off len) sz i fo =>
    match H[loc]? with
    | some (.box cs) => (off + len ≤ cs.length ∧ sz = 1 ∧ i < len ∧ fo = 0 ∧ n = 1 ∧ v.fits 1 = true ∧ v.scalar = true) ∧ K (H.set loc (.box (cs.set (off + i) v)))
    | _ => False
  | _ => False

abbrev CallR := Nat → List AV → List Blk → (AV → List Blk → Prop) → Prop

def asI (x : AV) (K : Int → Prop) : Prop :=
  match x with
  | .p (.int _ n) => K n
  | _ => False

def asG (x : AV) (b : Bool) (K : Bool → Prop) : Prop :=
  match x with
  | .p (.bool v) => K v
  | .tup [] => K (!b)
  | _ => False

def asB (x : AV) (K : Bool → Prop) : Prop :=
  match x with
  | .p (.bool b) => K b
  | _ => False

def optI (G : Globals) (D : List AV) (x : Option Opd) (dflt : Int) (K : Int → Prop) : Prop :=
  match x with
  | none => K dflt
  | some o => asI (get G D o) K

def slcR (H : List Blk) (sz : Nat) (x : AV) (G : Globals) (D : List AV) (lo hi mx : Option Opd) (K : AV → Prop) : Prop :=
  match mx with
  | some m => asI (get G D m) fun m => optI G D hi (-1) fun h => optI G D lo 0 fun l => (m = 0 ∧ h = 0 ∧ l = 0) ∧ (match x with
    | .p (.sl _ _) => K (.p .e0)
    | .p .e0 => K (.p .e0)
    | _ => False)
  | none =>
    match x with
    | .p (.sl sz' es) => optI G D hi es.length fun h => optI G D lo 0 fun l => ((sz' = sz ∨ es = []) ∧ 0 ≤ l ∧ l ≤ h ∧ h ≤ es.length) ∧ K (.p (.sl sz' ((es.take h.toNat).drop l.toNat)))
    | .p .e0 => optI G D hi 0 fun h => optI G D lo 0 fun l => (l = 0 ∧ h = 0) ∧ K (.p .e0)
    | .ow loc off len =>
      match H[loc]? with
      | some (.row sr es) => optI G D hi len fun h => optI G D lo 0 fun l => (off + len = es.length ∧ sr = sz ∧ 0 ≤ l ∧ l ≤ h ∧ h = len) ∧ K (.ow loc (off + l.toNat) (len - l.toNat))
      | _ => False
    | _ => False

def slsR (x : AV) (G : Globals) (D : List AV) (lo hi : Option Opd) (K : AV → Prop) : Prop :=
  match x with
  | .p (.str s) => optI G D hi s.length fun h => optI G D lo 0 fun l => (0 ≤ l ∧ l ≤ h ∧ h ≤ s.length) ∧ K (.p (.str ((s.take h.toNat).drop l.toNat)))
  | _ => False

def isFn : AV → Prop
  | .fn _ _ _ => True
  | _ => False

def ev0 (G : Globals) (C : CallR) : I → List AV → List Blk → (AV → List Blk → Prop) → Prop
  | .mv x, D, H, K => K (get G D x) H
  | .pick c a b, D, H, K => asB (get G D c) fun v => K (match v with | true => get G D a | false => get G D b) H
  | .alloc z, D, H, K => K (.ptr H.length 0) (H ++ [.box (z.cells.map .p)])
  | .box x, D, H, K => (get G D x).fits (get G D x).cells.length = true ∧ K (.ptr H.length 0) (H ++ [.box (get G D x).cells])
  | .bd z ps, D, H, K => (ps.all fun p => (get G D p.2.2).fits p.2.1 && decide (p.1 + p.2.1 ≤ z.length)) = true ∧
      K (mkAgg (ps.foldl (fun cs p => setMany cs p.1 (get G D p.2.2).cells) (z.map .p))) H
  | .bsl sz z n ps, D, H, K => (ps.all fun p => (get G D p.2).fits sz && decide (p.1 < n)) = true ∧
      K (.ow H.length 0 n) (H ++ [.row sz (ps.foldl (fun es p => es.set p.1 (get G D p.2)) (List.replicate n (.p z)))])
  | .ld n x, D, H, K => ldR H n (get G D x) fun v => K v H
  | .st n x v, D, H, K => stR H n (get G D x) (get G D v) fun H => K .any H
  | .nc x, D, H, K => match get G D x with
    | .ptr l o => (match H[l]? with | some (.box _) => K (.ptr l o) H | _ => False)
    | .pe a s i o => K (.pe a s i o) H
    | .fn f a c => K (.fn f a c) H
    | _ => False
  | .bin o x y, D, H, K => binR o (get G D x) (get G D y) fun v => K v H
  | .eqb neg x y, D, H, K => asB (get G D x) fun a => asB (get G D y) fun b => K (.p (.bool (if neg then !(a == b) else a == b))) H
  | .eqp neg x, D, H, K => match get G D x with
    | .p .nilp => K (.p (.bool (!neg))) H
    | .ptr l _ => (match H[l]? with | some (.box _) => K (.p (.bool neg)) H | _ => False)
    | _ => False
  | .eqf neg x, D, H, K => match get G D x with
    | .p .nilf => K (.p (.bool (!neg))) H
    | .fn _ _ _ => K (.p (.bool neg)) H
    | _ => False
  | .eqs neg x, D, H, K => match rdS H (get G D x) with
    | some (_, es) => (es ≠ [] → K (.p (.bool neg)) H) ∧ (es = [] → ∀ b, K (.p (.bool b)) H)
    | none => False
  | .eqa neg ks x y, D, H, K => match get G D x, get G D y with
    | .p (.agg a), .p (.agg b) => (kinds ks a = true ∧ kinds ks b = true) ∧ K (.p (.bool (if neg then !(eqC a b) else eqC a b))) H
    | _, _ => False
  | .un o x, D, H, K => match o, get G D x with
    | .neg, .p (.int k n) => K (.p (.int k (k.wrap (0 - n)))) H
    | .not, .p (.bool b) => K (.p (.bool (!b))) H
    | _, _ => False
  | .conv k x, D, H, K => asI (get G D x) fun n => K (.p (.int k (k.wrap n))) H
  | .cvs x, D, H, K => match rdS H (get G D x) with
    | some (sz, es) => ∃ l : List UInt8, es = l.map (fun b => AV.p (.int .u8 b.toNat)) ∧ (sz = 1 ∨ es = []) ∧ K (.p (.str l)) H
    | none => False
  | .mkf f first cap, D, H, K => K (.fn f (first.map (get G D)) (cap.map (get G D))) H
  | .mks sz z bytes len cap, D, H, K => asI (get G D len) fun n => asI (get G D cap) fun c => (c = n ∧ 0 ≤ n ∧ n * bytes ≤ 1099511627776 ∧ n ≤ 1099511627776) ∧
      K (.ow H.length 0 n.toNat) (H ++ [.row sz (List.replicate n.toNat (.p z))])
  | .slc sz x lo hi mx, D, H, K => slcR H sz (get G D x) G D lo hi mx fun v => K v H
  | .sls x lo hi, D, H, K => slsR (get G D x) G D lo hi fun v => K v H
  | .sla n x lo hi, D, H, K => match get G D x with
    | .ptr loc off => (match H[loc]? with
      | some (.box cs) => optI G D hi n fun h => optI G D lo 0 fun l => (off + n ≤ cs.length ∧ 0 ≤ l ∧ l ≤ h ∧ h ≤ n) ∧ K (.bs loc (off + l.toNat) (h - l).toNat) H
      | _ => False)
    | _ => False
  | .fa off x, D, H, K => match get G D x with
    | .ptr l o => (match H[l]? with | some (.box _) => K (.ptr l (o + off)) H | _ => False)
    | .pe a s i o => K (.pe a s i (o + off)) H
    | _ => False
  | .fld off n x, D, H, K => match get G D x with
    | .p (.agg cs) => (match n with
      | none => off < cs.length ∧ K (.p (cs.getD off .nilp)) H
      | some n => off + n ≤ cs.length ∧ K (.p (.agg ((cs.drop off).take n))) H)
    | .agg cs => partA cs off n fun v => K v H
    | _ => False
  | .ia sz x i, D, H, K => asI (get G D i) fun n => lenR H (get G D x) fun l => (0 ≤ n ∧ n < l) ∧ K (.pe (get G D x) sz n.toNat 0) H
  | .iaa len sz x i, D, H, K => asI (get G D i) fun n => (match get G D x with
    | .ptr l o => (match H[l]? with | some (.box _) => (0 ≤ n ∧ n < len) ∧ K (.ptr l (o + n.toNat * sz)) H | _ => False)
    | .pe a s j o => (0 ≤ n ∧ n < len) ∧ K (.pe a s j (o + n.toNat * sz)) H
    | _ => False)
  | .idx len sz n x i, D, H, K => asI (get G D i) fun j => (match get G D x with
    | .p (.agg cs) => (0 ≤ j ∧ j < len) ∧ (match n with
      | none => j.toNat * sz < cs.length ∧ K (.p (cs.getD (j.toNat * sz) .nilp)) H
      | some m => j.toNat * sz + m ≤ cs.length ∧ K (.p (.agg ((cs.drop (j.toNat * sz)).take m))) H)
    | .agg cs => (0 ≤ j ∧ j < len) ∧ partA cs (j.toNat * sz) n fun v => K v H
    | _ => False)
  | .ids x i, D, H, K => asI (get G D i) fun j => (match get G D x with
    | .p (.str s) => (0 ≤ j ∧ j < s.length) ∧ K (.p (.int .u8 (s.getD j.toNat 0).toNat)) H
    | _ => False)
  | .ext j x, D, H, K => match get G D x with
    | .tup vs => j < vs.length ∧ K (vs.getD j .any) H
    | _ => False
  | .len x, D, H, K => lenR H (get G D x) fun n => K (.p (.int .i64 n)) H
  | .lns x, D, H, K => match get G D x with
    | .p (.str s) => K (.p (.int .i64 s.length)) H
    | _ => False
  | .mx mn x y, D, H, K => match get G D x with
    | .p (.int k a) => asI (get G D y) fun b => K (.p (.int k (if mn then (if b < a then b else a) else (if b > a then b else a)))) H
    | _ => False
  | .app sz bytes x y, D, H, K => match rdS H (get G D y) with
    | some (sy, ys) => (sy = sz ∨ ys = []) ∧ (match get G D x with
      | .ow loc off len => (match H[loc]? with
        | some (.row sr es) => (off = 0 ∧ len = es.length ∧ sr = sz ∧ len + ys.length ≤ 1099511627776 ∧ (len + ys.length) * bytes ≤ 1099511627776) ∧
            K (.ow loc 0 (len + ys.length)) (H.set loc (.row sr (es ++ ys)))
        | _ => False)
      | .p .e0 => (ys.length ≤ 1099511627776 ∧ ys.length * bytes ≤ 1099511627776) ∧ K (.ow H.length 0 ys.length) (H ++ [.row sz ys])
      | _ => False)
    | none => False
  | .apz sz bytes z x y, D, H, K => asI (get G D y) fun n => (match get G D x with
      | .ow loc off len => (match H[loc]? with
        | some (.row sr es) => (off = 0 ∧ len = es.length ∧ sr = sz ∧ 0 ≤ n ∧ len + n.toNat ≤ 1099511627776 ∧ (len + n.toNat) * bytes ≤ 1099511627776) ∧
            K (.ow loc 0 (len + n.toNat)) (H.set loc (.row sr (es ++ List.replicate n.toNat (.p z))))
        | _ => False)
      | .p .e0 => (0 ≤ n ∧ n.toNat ≤ 1099511627776 ∧ n.toNat * bytes ≤ 1099511627776) ∧ K (.ow H.length 0 n.toNat) (H ++ [.row sz (List.replicate n.toNat (.p z))])
      | _ => False)
  | .cpy sz x y, D, H, K => match rdS H (get G D y) with
    | some (sy, ys) => (sy = sz ∨ ys = []) ∧ (match get G D x with
      | .ow loc off len => (match H[loc]? with
        | some (.row sr es) => (off + len = es.length ∧ sr = sz) ∧
            K (.p (.int .i64 (min ys.length len : Nat))) (H.set loc (.row sr (putAt es off (ys.take (min ys.length len)))))
        | _ => False)
      | _ => False)
    | none => False
  | .call f args, D, H, K => C f (args.map (get G D)) H fun r H => K r H
  | .callv f args, D, H, K => match get G D f with
    | .fn g first cap => C g (first ++ args.map (get G D) ++ cap) H fun r H => K r H
    | _ => False

def ev1 (G : Globals) (C : CallR) : Ins → List AV → List Blk → (List AV → List Blk → Prop) → Prop
  | .d d i, D, H, K => ev0 G C i D H fun r H => K (D.set d r) H
  | .n i, D, H, K => ev0 G C i D H fun _ H => K D H
  | .gd s b d i, D, H, K => asG (D.getD s .any) b fun v => (v = b → ev0 G C i D H fun r H => K (D.set d r) H) ∧ (v ≠ b → K (D.set d (.tup [])) H)
  | .gn s b i, D, H, K => asG (D.getD s .any) b fun v => (v = b → ev0 G C i D H fun _ H => K D H) ∧ (v ≠ b → K D H)

def ev (G : Globals) (C : CallR) : List Ins → List AV → List Blk → (List AV → List Blk → Prop) → Prop
  | [], D, H, K => K D H
  | i :: l, D, H, K => ev1 G C i D H fun D H => ev G C l D H K

theorem ev_cons {G C i l D H K} (h : ∀ K' : List AV → List Blk → Prop, (∀ D H, ev G C l D H K → K' D H) → ev1 G C i D H K') : ev G C (i :: l) D H K := h _ fun _ _ h => h
theorem ev_nil {G C D H K} (h : K D H) : ev G C [] D H K := h

end Go.Ae
end

section
namespace Go.Ae

def trV : Value → Option PV
  | .int k n => some (.int k n)
  | .bool b => some (.bool b)
  | .string s => some (.str s.data.toList)
  | .pointer none => some .nilp
  | .nilFunc => some .nilf
  | .slice none 0 0 => some .e0
  | _ => none

def trVs : List Value → Option (List PV)
  | [] => some []
  | v :: r => match trV v, trVs r with
    | some x, some l => some (x :: l)
    | _, _ => none

def trZ : Value → Option PV
  | .agg cs => (trVs cs.toList).map .agg
  | v => trV v

def trO : Operand → Option Opd
  | .tmp n => some (.t n)
  | .const v => (trZ v).map .c
  | .global g => some (.g g)
  | .func f => some (.f f)

def trOs : List Operand → Option (List Opd)
  | [] => some []
  | v :: r => match trO v, trOs r with
    | some x, some l => some (x :: l)
    | _, _ => none

section
variable (P : Program)

def sizeT (t : TypeId) : Option Nat := (P.info? t).map (·.size)

def layT (t : TypeId) : Option (Option Nat) :=
  match P.underlying t, P.info? t with
  | some (.struct _), some i => some (some i.size)
  | some (.array _ _), some i => some (some i.size)
  | some _, some _ => some none
  | _, _ => none

def zeroT (t : TypeId) : Option PV :=
  match P.info? t with
  | some i => match i.zero with
    | some v => match trZ v with
      | some z => if z.cells.length = i.size then some z else none
      | none => none
    | none => none
  | none => none

def elemT (t : TypeId) : Option (TypeId × Nat × Nat) :=
  match P.underlying t with
  | some (.slice e) => match P.info? e with
    | some i => if 0 < i.size then some (e, i.size, i.bytes) else none
    | none => none
  | _ => none

def kindsFs (rec : TypeId → Option (List Nat)) : List Field → Nat → Option (List Nat)
  | [], _ => some []
  | f :: r, at_ =>
    match rec f.type, sizeT P f.type with
    | some k, some n => if f.name ≠ "_" ∧ f.offset = at_ ∧ k.length = n then (kindsFs rec r (at_ + n)).map (k ++ ·) else none
    | _, _ => none

def kindsT : Nat → TypeId → Option (List Nat)
  | 0, _ => none
  | d + 1, t =>
    match P.underlying t with
    | some (.int k) => some [kcode k]
    | some .bool => some [8]
    | some .string => some [9]
    | some (.struct fs) => if P.stoodInHeld t then none else kindsFs P (kindsT d) fs.toList 0
    | some (.array n e) => match kindsT d e, sizeT P e with
      | some k, some m => if k.length = m then some ((List.replicate n k).flatten) else none
      | _, _ => none
    | _ => none

def trParts (parts : List (Nat × Operand)) : Option (List (Nat × Opd)) :=
  match parts with
  | [] => some []
  | (i, x) :: r => match trO x, trParts r with
    | some y, some l => some ((i, y) :: l)
    | _, _ => none

def placesT (t : TypeId) : Option (Nat → Option (Nat × Nat)) :=
  match P.underlying t with
  | some (.struct fs) => match fs.toList.mapM (fun f => (P.info? f.type).map fun i => (f.offset, i.size)) with
    | some places => some (places.toArray[·]?)
    | none => none
  | some (.array _ e) => (P.info? e).map fun ie => fun i => some (i * ie.size, ie.size)
  | _ => none

def trBd (place : Nat → Option (Nat × Nat)) : List (Nat × Opd) → Option (List (Nat × Nat × Opd))
  | [] => some []
  | (i, x) :: r => match place i, trBd place r with
    | some (off, n), some l => some ((off, n, x) :: l)
    | _, _ => none

def isNilS : Operand → Bool
  | .const (.slice none 0 0) => true
  | _ => false

def isNilP : Operand → Bool
  | .const (.pointer none) => true
  | _ => false

def isNilF : Operand → Bool
  | .const .nilFunc => true
  | _ => false

def plainEq (t : TypeId) : Bool := !(P.eqGuardType P.depth t)

def trOp2 (f : Opd → Opd → Option I) (x y : Operand) : Option I :=
  match trO x, trO y with
  | some a, some b => f a b
  | _, _ => none

def trOp1 (f : Opd → Option I) (x : Operand) : Option I :=
  match trO x with
  | some a => f a
  | none => none

def optO : Option Operand → Option (Option Opd)
  | none => some none
  | some x => (trO x).map some

def trEq (neg : Bool) (t : TypeId) (x y : Operand) : Option I :=
  match P.underlying t with
  | some (.int _) => trOp2 (fun a b => some (.bin (if neg then .neq else .eql) a b)) x y
  | some .string => trOp2 (fun a b => some (.bin (if neg then .neq else .eql) a b)) x y
  | some .bool => trOp2 (fun a b => some (.eqb neg a b)) x y
  | some (.pointer _) => if isNilP y then trOp1 (fun a => some (.eqp neg a)) x else none
  | some (.func _ _ _) => if isNilF y then trOp1 (fun a => some (.eqf neg a)) x else none
  | some (.slice _) => if isNilS y then trOp1 (fun a => some (.eqs neg a)) x else none
  | some (.struct _) | some (.array _ _) =>
    match kindsT P 20 t with
    | some ks => if plainEq P t then trOp2 (fun a b => some (.eqa neg ks a b)) x y else none
    | none => none
  | _ => none

def trBuiltin (b : Builtin) (args : List Operand) (ts : List TypeId) : Option I :=
  match b, args, ts with
  | .len, [x], [t] =>
    match P.underlying t with
    | some .string => trOp1 (fun a => some (.lns a)) x
    | some (.slice _) => trOp1 (fun a => some (.len a)) x
    | some (.array n _) => some (.mv (.c (.int .i64 n)))
    | _ => none
  | .max, [x, y], _ => trOp2 (fun a b => some (.mx false a b)) x y
  | .min, [x, y], _ => trOp2 (fun a b => some (.mx true a b)) x y
  | .append, [x, y], [t, u] =>
    match elemT P t with
    | some (e, sz, by_) =>
      match P.underlying u with
      | some (.int _) => match zeroT P e with
        | some z => trOp2 (fun a b => some (.apz sz by_ z a b)) x y
        | none => none
      | some (.slice _) => match zeroT P e with
        | some _ => trOp2 (fun a b => some (.app sz by_ a b)) x y
        | none => none
      | _ => none
    | none => none
  | .copy, [x, y], [t, u] =>
    match elemT P t, P.underlying u with
    | some (_, sz, _), some (.slice _) => trOp2 (fun a b => some (.cpy sz a b)) x y
    | _, _ => none
  | _, _, _ => none

def trI (o : Op) : Option I :=
  match o with
  | .move x | .assign x => trOp1 (fun a => some (.mv a)) x
  | .pick c a b => match trO c, trO a, trO b with
    | some c, some a, some b => some (.pick c a b)
    | _, _, _ => none
  | .alloc t => (zeroT P t).map .alloc
  | .box t x => match sizeT P t with
    | some _ => trOp1 (fun a => some (.box a)) x
    | none => none
  | .build t parts =>
    match zeroT P t, trParts parts.toList, placesT P t with
    | some (.agg z), some ps, some pl => (trBd pl ps).map (.bd z ·)
    | _, _, _ => none
  | .buildSlice t n parts =>
    match elemT P t, trParts parts.toList with
    | some (e, sz, _), some ps => match zeroT P e with
      | some z => if n * sz ≤ 1048576 then some (.bsl sz z n ps) else none
      | none => none
    | _, _ => none
  | .load t x => match layT P t with
    | some n => trOp1 (fun a => some (.ld n a)) x
    | none => none
  | .store t x v => match sizeT P t with
    | some n => if 0 < n then trOp2 (fun a b => some (.st n a b)) x v else none
    | none => none
  | .nilCheck x => trOp1 (fun a => some (.nc a)) x
  | .binOp op t x y _ =>
    match op with
    | .eql => trEq P false t x y
    | .neq => trEq P true t x y
    | _ => trOp2 (fun a b => some (.bin op a b)) x y
  | .unOp op _ x => trOp1 (fun a => some (.un op a)) x
  | .convert s t x =>
    match P.underlying s, P.underlying t with
    | some (.int _), some (.int k) => trOp1 (fun a => some (.conv k a)) x
    | some (.slice e), some .string => match P.underlying e, sizeT P e with
      | some (.int .u8), some 1 => trOp1 (fun a => some (.cvs a)) x
      | _, _ => none
    | _, _ => none
  | .makeFunc (.func f) first cap => match trOs first.toList, trOs cap.toList with
    | some a, some b => some (.mkf f a b)
    | _, _ => none
  | .makeSlice t l c =>
    match elemT P t with
    | some (e, sz, by_) => match zeroT P e with
      | some z => trOp2 (fun a b => some (.mks sz z by_ a b)) l c
      | none => none
    | none => none
  | .slice t x lo hi mx =>
    match P.underlying t with
    | some .string => match mx, optO lo, optO hi with
      | none, some l, some h => trOp1 (fun a => some (.sls a l h)) x
      | _, _, _ => none
    | some (.slice e) => match sizeT P e, optO lo, optO hi, optO mx with
      | some sz, some l, some h, some m => trOp1 (fun a => some (.slc sz a l h m)) x
      | _, _, _, _ => none
    | some (.array n e) => match sizeT P e, mx, optO lo, optO hi with
      | some 1, none, some l, some h => trOp1 (fun a => some (.sla n a l h)) x
      | _, _, _, _ => none
    | _ => none
  | .fieldAddr t x f =>
    match P.underlying t with
    | some (.struct fs) => match fs[f]? with
      | some fd => match sizeT P fd.type with
        | some n => if 0 < n then trOp1 (fun a => some (.fa fd.offset a)) x else none
        | none => none
      | none => none
    | _ => none
  | .field t x f =>
    match P.underlying t with
    | some (.struct fs) => match fs[f]? with
      | some fd => match layT P fd.type with
        | some n => trOp1 (fun a => some (.fld fd.offset n a)) x
        | none => none
      | none => none
    | _ => none
  | .indexAddr t x i =>
    match P.underlying t with
    | some (.slice e) => match sizeT P e with
      | some sz => trOp2 (fun a b => some (.ia sz a b)) x i
      | none => none
    | some (.array n e) => match sizeT P e with
      | some sz => trOp2 (fun a b => some (.iaa n sz a b)) x i
      | none => none
    | _ => none
  | .index t x i =>
    match P.underlying t with
    | some (.array n e) => match sizeT P e, layT P e with
      | some sz, some m => trOp2 (fun a b => some (.idx n sz m a b)) x i
      | _, _ => none
    | some .string => trOp2 (fun a b => some (.ids a b)) x i
    | _ => none
  | .extract x j => trOp1 (fun a => some (.ext j a)) x
  | .call c =>
    match c.callee with
    | .builtin b => trBuiltin P b c.args.toList c.argTypes.toList
    | .value (.func f) => (trOs c.args.toList).map (.call f ·)
    | .value f => match trO f, trOs c.args.toList with
      | some f, some l => some (.callv f l)
      | _, _ => none
    | _ => none
  | _ => none

def trIns (ops : List Oper) (o : Oper) : Option Ins :=
  match trI P o.op with
  | none => none
  | some i =>
    match o.guard, o.dst with
    | none, some d => some (.d d i)
    | none, none => some (.n i)
    | some (j, b), dst =>
      match (ops[j]?).bind (·.dst) with
      | none => none
      | some s => match dst with
        | some d => some (.gd s b d i)
        | none => some (.gn s b i)

def trL (ops : List Oper) : List Oper → Option (List Ins)
  | [] => some []
  | o :: r => match trIns P ops o, trL ops r with
    | some i, some l => some (i :: l)
    | _, _ => none

end
end Go.Ae
end

section
namespace Go.Ae

theorem trV_conc {v : Value} {x : PV} (h : trV v = some x) {w : World} {O : Nat → Prop} : PConc w O x v ∧ IsCell v := by
  unfold trV at h
  split at h <;> first | (cases h; exact ⟨by constructor, trivial⟩) | cases h

theorem trVs_conc : ∀ (l : List Value) (xs : List PV), trVs l = some xs → xs.length = l.length ∧
    ∀ (w : World) (O : Nat → Prop) (i : Nat) (x : PV) (v : Value), xs[i]? = some x → l[i]? = some v → PConc w O x v ∧ IsCell v
  | [], xs, h => by cases h; simp
  | v :: r, xs, h => by
    simp only [trVs] at h
    split at h
    · rename_i x l hx hl
      cases h
      obtain ⟨h1, h2⟩ := trVs_conc r l hl
      refine ⟨by simp [h1], fun w O i y u hy hu => ?_⟩
      cases i with
      | zero => simp at hy hu; subst hy; subst hu; exact trV_conc hx
      | succ i => simp at hy hu; exact h2 w O i y u hy hu
    · cases h

theorem trZ_conc {v : Value} {x : PV} (h : trZ v = some x) {w : World} {O : Nat → Prop} : PConc w O x v := by
  unfold trZ at h
  split at h
  · rename_i cs
    cases hq : trVs cs.toList with
    | none => simp [hq] at h
    | some l =>
      simp [hq] at h
      subst h
      obtain ⟨h1, h2⟩ := trVs_conc _ _ hq
      refine .agg (by simpa using h1) (fun i u hu => ?_) (fun i y u hy hu => (h2 w O i y u hy (by simpa using hu)).1)
      have hlt : i < l.length := by rw [h1]; have := (Array.getElem?_eq_some_iff.1 hu).1; simpa using this
      exact (h2 w O i l[i] u (List.getElem?_eq_getElem hlt) (by simpa using hu)).2
  · exact (trV_conc h).1

theorem Conc.isCell {E : Env} {x : AV} {v : Value} (h : Conc E x v) (hs : x.scalar = true) : IsCell v := by
  cases h with
  | p h => cases h <;> first | trivial | simp [AV.scalar] at hs
  | agg => simp [AV.scalar] at hs
  | owS _ _ hv => exact hv
  | bsS _ _ hv => exact hv
  | ptrS _ _ hv => exact hv
  | tup => simp [AV.scalar] at hs
  | any => simp [AV.scalar] at hs
  | _ => trivial

theorem AV.scalar_cells {x : AV} (h : x.scalar = true) : x.cells = [x] := by
  cases x with
  | p y => cases y <;> first | rfl | simp [AV.scalar] at h
  | agg => simp [AV.scalar] at h
  | _ => rfl

theorem AV.fits_scalar {x : AV} {n : Nat} (h : x.fits n = true) (hs : x.scalar = true) : n = 1 := by
  cases x with
  | p y => cases y <;> first | simpa [AV.fits] using h | simp [AV.scalar] at hs
  | agg => simp [AV.scalar] at hs
  | tup => simp [AV.scalar] at hs
  | any => simp [AV.scalar] at hs
  | _ => simpa [AV.fits] using h

theorem AV.fits_cells {x : AV} {n : Nat} (h : x.fits n = true) : x.cells.length = n := by
  cases x with
  | p y => cases y <;> simp [AV.fits] at h <;> simp [AV.cells, h]
  | agg => simpa [AV.fits, AV.cells] using h
  | tup => simp [AV.fits] at h
  | any => simp [AV.fits] at h
  | _ => simp [AV.fits] at h; simp [AV.cells, h]

theorem Conc.cells {E : Env} {x : AV} {v : Value} (h : Conc E x v) {n : Nat} (hf : x.fits n = true) :
    v.cells.size = n ∧ (∀ (i : Nat) (y : AV) (u : Value), x.cells[i]? = some y → v.cells[i]? = some u → Conc E y u) ∧ (∀ (i : Nat) (u : Value), v.cells[i]? = some u → IsCell u) := by
  by_cases hs : x.scalar = true
  · have h1 := AV.fits_scalar hf hs
    have hv := h.isCell hs
    rw [AV.scalar_cells hs, hv.cells]
    subst h1
    refine ⟨rfl, fun i y u hy hu => ?_, fun i u hu => ?_⟩
    · cases i with
      | zero => simp at hy hu; subst hy; subst hu; exact h
      | succ i => simp at hy
    · cases i with
      | zero => simp at hu; subst hu; exact hv
      | succ i => simp at hu
  · cases h with
    | p h =>
      cases h with
      | @agg cs vs hl hc h =>
        have : cs.length = n := by simpa [AV.fits] using hf
        refine ⟨by simp [Value.cells]; omega, fun i y u hy hu => ?_, hc⟩
        simp only [AV.cells, List.getElem?_map, Option.map_eq_some_iff] at hy
        obtain ⟨z, hz, rfl⟩ := hy
        exact .p (h i z u hz hu)
      | _ => simp [AV.scalar] at hs
    | @agg cs vs hl hc h =>
      have : cs.length = n := by simpa [AV.fits] using hf
      exact ⟨by simp [Value.cells]; omega, h, hc⟩
    | tup => simp [AV.fits] at hf
    | any => simp [AV.fits] at hf
    | _ => simp [AV.scalar] at hs

theorem allP_some : ∀ {cs : List AV} {ps : List PV}, allP cs = some ps → cs = ps.map .p
  | [], ps, h => by cases h; rfl
  | .p x :: r, ps, h => by
    simp only [allP, Option.map_eq_some_iff] at h
    obtain ⟨l, hl, rfl⟩ := h
    simp [← allP_some hl]
  | .agg _ :: _, _, h => by cases h
  | .ow _ _ _ :: _, _, h => by cases h
  | .bs _ _ _ :: _, _, h => by cases h
  | .ptr _ _ :: _, _, h => by cases h
  | .pe _ _ _ _ :: _, _, h => by cases h
  | .fn _ _ _ :: _, _, h => by cases h
  | .tup _ :: _, _, h => by cases h
  | .any :: _, _, h => by cases h

@[simp] theorem allP_map (ps : List PV) : allP (ps.map .p) = some ps := by
  induction ps with
  | nil => rfl
  | cons x r ih => simp [allP, ih]

@[simp] theorem mkAgg_map (ps : List PV) : mkAgg (ps.map .p) = .p (.agg ps) := by simp [mkAgg]

theorem Conc.mkAgg {E : Env} {cs : List AV} {v : Value} (h : Conc E (.agg cs) v) : Conc E (mkAgg cs) v := by
  unfold Ae.mkAgg
  split
  · rename_i ps hp
    have := allP_some hp
    subst this
    cases h with
    | agg hl hc h =>
      refine .p (.agg (by simpa using hl) hc (fun i x v hx hv => ?_))
      have := h i (.p x) v (by simp [hx]) hv
      cases this with
      | p h => exact h
  · exact h

theorem Conc.mkAgg_cells {E : Env} {cs : List AV} {vs : Array Value} (hl : cs.length = vs.size) (hc : ∀ (i : Nat) (v : Value), vs[i]? = some v → IsCell v)
    (h : ∀ (i : Nat) (x : AV) (v : Value), cs[i]? = some x → vs[i]? = some v → Conc E x v) : Conc E (Ae.mkAgg cs) (.agg vs) := Conc.mkAgg (.agg hl hc h)

theorem get_conc {G : Globals} {E : Env} (hS : Sim G E) {D : List AV} {a : Act} (hT : Slots E D a.tmps) {x : Operand} {y : Opd} (h : trO x = some y) :
    Conc E (get G D y) (a.eval x) := by
  cases x with
  | tmp n =>
    cases h
    simp only [get, Act.eval, List.getD_eq_getElem?_getD]
    cases hq : D[n]? with
    | none => exact .any
    | some x =>
      obtain ⟨v, hv, hc⟩ := hT n x hq
      simp only [Option.getD_some, Array.getD_eq_getD_getElem?, hv]
      exact hc
  | const v =>
    simp only [trO, Option.map_eq_some_iff] at h
    obtain ⟨z, hz, rfl⟩ := h
    exact .p (trZ_conc hz)
  | global g =>
    cases h
    simp only [get, Act.eval]
    cases hq : G g with
    | none => exact .any
    | some x => exact hS.glob g x hq
  | func f =>
    cases h
    exact .fn rfl rfl (fun i x v hx => by simp at hx) (fun i x v hx => by simp at hx)

theorem trOs_conc {G : Globals} {E : Env} (hS : Sim G E) {D : List AV} {a : Act} (hT : Slots E D a.tmps) : ∀ {xs : List Operand} {ys : List Opd}, trOs xs = some ys →
    (ys.map (get G D)).length = xs.length ∧ ∀ (i : Nat) (x : AV) (v : Value), (ys.map (get G D))[i]? = some x → (xs.map a.eval)[i]? = some v → Conc E x v
  | [], ys, h => by cases h; simp
  | x :: r, ys, h => by
    simp only [trOs] at h
    split at h
    · rename_i y l hy hl
      cases h
      obtain ⟨h1, h2⟩ := trOs_conc hS hT hl
      refine ⟨by simpa using h1, fun i z u hz hu => ?_⟩
      cases i with
      | zero => simp at hz hu; subst hz; subst hu; exact get_conc hS hT hy
      | succ i => simp only [List.map_cons, List.getElem?_cons_succ] at hz hu; exact h2 i z u hz hu
    · cases h

structure Upd (E E' : Env) (loc : Nat) (b : Blk) : Prop where
  keep : E'.w.os = E.w.os ∧ E'.w.output = E.w.output
  hl : loc ≤ E.H.length
  hlen : E.H.length ≤ E'.H.length
  hH : ∀ j, E'.H[j]? = if j = loc then some b else E.H[j]?
  hι : ∀ j, j ≠ loc → E'.ι j = E.ι j
  size : E.w.heap.size ≤ E'.w.heap.size
  hw : ∀ k, k < E.w.heap.size → ¬ E.Owns loc k → E'.w.heap[k]? = E.w.heap[k]?
  hext : E'.X = E.X
  hown : ∀ k, E'.Owns loc k → E.w.heap.size ≤ k ∨ E.Owns loc k
  kbox : ∀ cs', loc < E.H.length → b = .box cs' → ∃ cs, E.H[loc]? = some (.box cs) ∧ cs.length = cs'.length ∧ E'.ι loc = E.ι loc
  krow : ∀ sz es', loc < E.H.length → b = .row sz es' → ∃ es, E.H[loc]? = some (.row sz es) ∧ es.length ≤ es'.length ∧
    (es ≠ [] → es.length = es'.length → E'.ι loc = E.ι loc ∧
      ∀ c T fr, E.w.heap[E.ι loc]? = some (.cells c T fr) → ∃ c' fr', E'.w.heap[E.ι loc]? = some (.cells c' T fr') ∧ c'.size = c.size)

theorem Sim.lt {G : Globals} {E : Env} (hS : Sim G E) {loc k : Nat} (h : E.Owns loc k) : k < E.w.heap.size := by
  obtain ⟨rfl, h⟩ := h
  rcases h with ⟨cs, h⟩ | ⟨sz, es, h, hne⟩
  · obtain ⟨c, T, hw, _⟩ := hS.box loc cs h
    exact (Array.getElem?_eq_some_iff.1 hw).1
  · obtain ⟨c, T, hw, _⟩ := hS.row loc sz es h hne
    exact (Array.getElem?_eq_some_iff.1 hw).1

theorem Upd.owns {E E' : Env} {loc : Nat} {b : Blk} (u : Upd E E' loc b) {j k : Nat} (hj : j ≠ loc) : E'.Owns j k ↔ E.Owns j k := by
  have h := u.hH j
  rw [if_neg hj] at h
  simp only [Env.Owns, h, u.hι j hj]

theorem Upd.le {G : Globals} {E E' : Env} {loc : Nat} {b : Blk} (hS : Sim G E) (u : Upd E E' loc b) : Le E E' where
  keep := u.keep
  size := u.size
  imm := fun k hk ho => by
    refine ⟨u.hw k hk (fun h => ho ⟨loc, h⟩), ?_⟩
    rintro ⟨j, hj⟩
    by_cases hjl : j = loc
    · subst hjl
      rcases u.hown k hj with h | h
      · omega
      · exact ho ⟨j, h⟩
    · exact ho ⟨j, (u.owns hjl).1 hj⟩
  ext := u.hext
  len := u.hlen
  box := fun j cs' hj hH => by
    rw [u.hH j] at hH
    by_cases hjl : j = loc
    · subst hjl
      rw [if_pos rfl] at hH
      cases hH
      exact u.kbox cs' hj rfl
    · rw [if_neg hjl] at hH
      exact ⟨cs', hH, rfl, u.hι j hjl⟩
  row := fun j sz es' hj hH => by
    rw [u.hH j] at hH
    by_cases hjl : j = loc
    · subst hjl
      rw [if_pos rfl] at hH
      cases hH
      exact u.krow sz es' hj rfl
    · rw [if_neg hjl] at hH
      refine ⟨es', hH, Nat.le_refl _, fun hne _ => ⟨u.hι j hjl, fun c T fr hc => ?_⟩⟩
      have how : E.Owns j (E.ι j) := ⟨rfl, .inr ⟨sz, es', hH, hne⟩⟩
      have := u.hw (E.ι j) (hS.lt how) (fun h => hjl (hS.inj _ _ _ how h))
      exact ⟨c, fr, this.trans hc, rfl⟩

theorem Upd.sim {G : Globals} {E E' : Env} {loc : Nat} {b : Blk} (hS : Sim G E) (u : Upd E E' loc b)
    (hbox : ∀ cs, b = .box cs → ∃ c T, E'.w.heap[E'.ι loc]? = some (.cells c T (0, 0)) ∧ ∀ (j : Nat) (x : AV), cs[j]? = some x → ∃ v, c[j]? = some v ∧ IsCell v ∧ Conc E x v)
    (hrow : ∀ sz es, b = .row sz es → es ≠ [] → ∃ c T, E'.w.heap[E'.ι loc]? = some (.cells c T (0, 0)) ∧
      ∀ (k : Nat) (e : AV), es[k]? = some e → e.cells.length = sz ∧ ∀ (j : Nat) (x : AV), e.cells[j]? = some x → ∃ v, c[k * sz + j]? = some v ∧ IsCell v ∧ Conc E x v) :
    Sim G E' where
  inj := fun i j k hi hj => by
    by_cases h1 : i = loc
    · by_cases h2 : j = loc
      · rw [h1, h2]
      · subst h1
        have hj' := (u.owns h2).1 hj
        rcases u.hown k hi with h | h
        · have := hS.lt hj'; omega
        · exact hS.inj _ _ _ h hj'
    · by_cases h2 : j = loc
      · subst h2
        have hi' := (u.owns h1).1 hi
        rcases u.hown k hj with h | h
        · have := hS.lt hi'; omega
        · exact hS.inj _ _ _ hi' h
      · exact hS.inj _ _ _ ((u.owns h1).1 hi) ((u.owns h2).1 hj)
  box := fun j cs hH => by
    have hle := u.le hS
    rw [u.hH j] at hH
    by_cases hjl : j = loc
    · subst hjl
      rw [if_pos rfl] at hH
      cases hH
      obtain ⟨c, T, hw, hc⟩ := hbox cs rfl
      exact ⟨c, T, hw, fun i x hx => let ⟨v, h1, h2, h3⟩ := hc i x hx; ⟨v, h1, h2, h3.mono hle⟩⟩
    · rw [if_neg hjl] at hH
      obtain ⟨c, T, hw, hc⟩ := hS.box j cs hH
      have how : E.Owns j (E.ι j) := ⟨rfl, .inl ⟨cs, hH⟩⟩
      have := u.hw (E.ι j) (hS.lt how) (fun h => hjl (hS.inj _ _ _ how h))
      rw [u.hι j hjl]
      exact ⟨c, T, this.trans hw, fun i x hx => let ⟨v, h1, h2, h3⟩ := hc i x hx; ⟨v, h1, h2, h3.mono hle⟩⟩
  row := fun j sz es hH hne => by
    have hle := u.le hS
    rw [u.hH j] at hH
    by_cases hjl : j = loc
    · subst hjl
      rw [if_pos rfl] at hH
      cases hH
      obtain ⟨c, T, hw, hc⟩ := hrow sz es rfl hne
      exact ⟨c, T, hw, fun i x hx => ⟨(hc i x hx).1, fun k y hy => let ⟨v, h1, h2, h3⟩ := (hc i x hx).2 k y hy; ⟨v, h1, h2, h3.mono hle⟩⟩⟩
    · rw [if_neg hjl] at hH
      obtain ⟨c, T, hw, hc⟩ := hS.row j sz es hH hne
      have how : E.Owns j (E.ι j) := ⟨rfl, .inr ⟨sz, es, hH, hne⟩⟩
      have := u.hw (E.ι j) (hS.lt how) (fun h => hjl (hS.inj _ _ _ how h))
      rw [u.hι j hjl]
      exact ⟨c, T, this.trans hw, fun i x hx => ⟨(hc i x hx).1, fun k y hy => let ⟨v, h1, h2, h3⟩ := (hc i x hx).2 k y hy; ⟨v, h1, h2, h3.mono hle⟩⟩⟩
  glob := fun g x hg => (hS.glob g x hg).mono (u.le hS)
  ext := fun k hk => by
    rw [u.hext] at hk
    obtain ⟨h1, h2⟩ := hS.ext k hk
    exact ⟨Nat.lt_of_lt_of_le h1 u.size, ((u.le hS).imm k h1 h2).2⟩

def updι (ι : Nat → Nat) (loc b : Nat) : Nat → Nat := fun j => if j = loc then b else ι j

end Go.Ae
end

section
namespace Go.Ae
variable {ρ : Operand → Value} {o : Oper}
theorem ex_move {x : Operand} (ho : o.op = .move x) : execOp ρ o = pure (.value (ρ x)) := by
  unfold execOp; rw [ho]
theorem ex_assign {x : Operand} (ho : o.op = .assign x) : execOp ρ o = pure (.value (ρ x)) := by
  unfold execOp; rw [ho]
theorem ex_pick {c : Operand} {x : Operand} {y : Operand} (ho : o.op = .pick c x y) : execOp ρ o = (do pure (.value (if ← asBool (ρ c) then ρ x else ρ y))) := by
  unfold execOp; rw [ho]
theorem ex_alloc {t : TypeId} (ho : o.op = .alloc t) : execOp ρ o = (do pure (.value (← Instr.alloc t true (.tuple #[])))) := by
  unfold execOp; rw [ho]
theorem ex_box {t : TypeId} {x : Operand} (ho : o.op = .box t x) : execOp ρ o = (do pure (.value (← Instr.box t (ρ x)))) := by
  unfold execOp; rw [ho]
theorem ex_build {t : TypeId} {ps : Array (Nat × Operand)} (ho : o.op = .build t ps) : execOp ρ o = (do pure (.value (← Instr.build t (ps.map fun (i, x) => (i, ρ x))))) := by
  unfold execOp; rw [ho]
theorem ex_buildSlice {t : TypeId} {n : Nat} {ps : Array (Nat × Operand)} (ho : o.op = .buildSlice t n ps) : execOp ρ o = (do pure (.value (← Instr.buildSlice t n (ps.map fun (i, x) => (i, ρ x))))) := by
  unfold execOp; rw [ho]
theorem ex_load {t : TypeId} {x : Operand} (ho : o.op = .load t x) : execOp ρ o = (do pure (.value (← Instr.loadAt t (ρ x)))) := by
  unfold execOp; rw [ho]
theorem ex_store {t : TypeId} {x : Operand} {y : Operand} (ho : o.op = .store t x y) : execOp ρ o = (do Instr.storeAt t (ρ x) (ρ y); pure .skip) := by
  unfold execOp; rw [ho]
theorem ex_binOp {op : BinOp} {t : TypeId} {x : Operand} {y : Operand} {u : TypeId} (ho : o.op = .binOp op t x y u) : execOp ρ o = (do pure (.value (← (do eqGuard op t x y (ρ x) (ρ y); binOp op t (ρ x) (ρ y))))) := by
  unfold execOp; rw [ho]
theorem ex_unOp {op : UnOp} {t : TypeId} {x : Operand} (ho : o.op = .unOp op t x) : execOp ρ o = (do pure (.value (← Op.unary op (ρ x)))) := by
  unfold execOp; rw [ho]
theorem ex_convert {s t : TypeId} {x : Operand} (ho : o.op = .convert s t x) : execOp ρ o = (do pure (.value (← convert s t (ρ x)))) := by
  unfold execOp; rw [ho]
theorem ex_makeFunc {fn : Fn} {xs ys : Array Operand} (ho : o.op = .makeFunc fn xs ys) : execOp ρ o = (do pure (.value (← Instr.makeFunc fn (xs.map ρ) (ys.map ρ)))) := by
  unfold execOp; rw [ho]
theorem ex_makeSlice {t : TypeId} {x : Operand} {y : Operand} (ho : o.op = .makeSlice t x y) : execOp ρ o = (do pure (.value (← Instr.makeSlice t (ρ x) (ρ y)))) := by
  unfold execOp; rw [ho]
theorem ex_slice {t : TypeId} {x : Operand} {lo hi mx : Option Operand} (ho : o.op = .slice t x lo hi mx) : execOp ρ o = (do pure (.value (← Instr.sliceAt t (ρ x) (lo.map ρ) (hi.map ρ) (mx.map ρ)))) := by
  unfold execOp; rw [ho]
theorem ex_fieldAddr {t : TypeId} {x : Operand} {f : Nat} (ho : o.op = .fieldAddr t x f) : execOp ρ o = (do pure (.value (← Instr.fieldAt t (ρ x) f))) := by
  unfold execOp; rw [ho]
theorem ex_field {t : TypeId} {x : Operand} {f : Nat} (ho : o.op = .field t x f) : execOp ρ o = (do pure (.value (← Instr.field t (ρ x) f))) := by
  unfold execOp; rw [ho]
theorem ex_indexAddr {t : TypeId} {x : Operand} {y : Operand} (ho : o.op = .indexAddr t x y) : execOp ρ o = (do pure (.value (← Instr.indexAt t (ρ x) (ρ y)))) := by
  unfold execOp; rw [ho]
theorem ex_index {t : TypeId} {x : Operand} {y : Operand} (ho : o.op = .index t x y) : execOp ρ o = (do pure (.value (← Instr.index t (ρ x) (ρ y)))) := by
  unfold execOp; rw [ho]
theorem ex_extract {x : Operand} {j : Nat} (ho : o.op = .extract x j) : execOp ρ o = (do pure (.value (← Instr.extract (ρ x) j))) := by
  unfold execOp; rw [ho]
theorem ex_call {c : Call} (ho : o.op = .call c) : execOp ρ o = (do let d ← resolve ρ c o.type; invoke d.target d.args) := by
  unfold execOp; rw [ho]
end Go.Ae
end

section
set_option linter.unusedSectionVars false
set_option linter.unusedSimpArgs false
set_option linter.unusedVariables false
namespace Go.Ae

def ConcL (E : Env) (xs : List AV) (vs : Array Value) : Prop := xs.length = vs.size ∧ ∀ (i : Nat) (x : AV) (v : Value), xs[i]? = some x → vs[i]? = some v → Conc E x v

def Ret (G : Globals) (E : Env) (K : AV → List Blk → Prop) (e : Ending) (w : World) : Prop :=
  ∃ E' x v, e = .returned v ∧ E'.w = w ∧ Le E E' ∧ Sim G E' ∧ Conc E' x v ∧ K x E'.H

def FCall (P : Program) (G : Globals) : CallR := fun f args H K =>
  (∃ fn, P.funcs[f]? = some fn ∧ fn.body.isNone = false ∧ (fn.name == "runtime.NumGoroutine") = false) ∧
  ∀ (E : Env) (vs : Array Value), E.H = H → Sim G E → ConcL E args vs → Calls P f vs E.w (Ret G E K)

def RunsTo (P : Program) (G : Globals) (E : Env) (K : AV → List Blk → Prop) : Result Next → Prop
  | .ok (.value v) w => ∃ E' x, E'.w = w ∧ Le E E' ∧ Sim G E' ∧ Conc E' x v ∧ K x E'.H
  | .ok .skip w => ∃ E', E'.w = w ∧ Le E E' ∧ Sim G E' ∧ K .any E'.H
  | .ok (.enter f args) w => w = E.w ∧ Calls P f args w (Ret G E K)
  | _ => False

theorem RunsTo.same {P G E K x v} (hS : Sim G E) (hc : Conc E x v) (hk : K x E.H) : RunsTo P G E K (.ok (.value v) E.w) := ⟨E, x, rfl, Le.refl E, hS, hc, hk⟩

theorem upon_of_runs {P G E} {K : AV → List Blk → Prop} {o : Oper} {a : Act} {next : Act → World → Prop} {Q : Exit → Act → World → Prop} {r : Result Next} (h : RunsTo P G E K r)
    (hn : ∀ E' x v, Le E E' → Sim G E' → Conc E' x v → K x E'.H → next (a.put o.dst v) E'.w) : o.upon P a next Q r := by
  unfold RunsTo at h
  split at h
  · rw [Oper.upon_value]
    obtain ⟨E', x, hw, h1, h2, h3, h4⟩ := h
    subst hw
    exact hn E' x _ h1 h2 h3 h4
  · rw [Oper.upon_skip]
    obtain ⟨E', hw, h1, h2, h3⟩ := h
    subst hw
    exact hn E' .any undef h1 h2 .any h3
  · rw [Oper.upon_enter]
    refine Calls.mono h.2 ?_
    intro e w' hr
    obtain ⟨E', x, v, he, hw, h1, h2, h3, h4⟩ := hr
    subst he
    subst hw
    exact hn E' x v h1 h2 h3 h4
  · exact h.elim

theorem asB_inv {E : Env} {x : AV} {v : Value} {K' : Bool → Prop} (hc : Conc E x v) (h : asB x K') : ∃ b, x = .p (.bool b) ∧ v = .bool b ∧ K' b := by
  unfold asB at h
  split at h
  · cases hc with | p hc => cases hc; exact ⟨_, rfl, rfl, h⟩
  · exact h.elim

theorem asI_inv {E : Env} {x : AV} {v : Value} {K' : Int → Prop} (hc : Conc E x v) (h : asI x K') : ∃ k n, x = .p (.int k n) ∧ v = .int k n ∧ K' n := by
  unfold asI at h
  split at h
  · cases hc with | p hc => cases hc; exact ⟨_, _, rfl, rfl, h⟩
  · exact h.elim

theorem Conc.int_inv {E k n v} (h : Conc E (.p (.int k n)) v) : v = .int k n := by cases h with | p h => cases h; rfl
theorem Conc.bool_inv {E b v} (h : Conc E (.p (.bool b)) v) : v = .bool b := by cases h with | p h => cases h; rfl
theorem Conc.str_inv {E s v} (h : Conc E (.p (.str s)) v) : v = .string ⟨s.toArray⟩ := by cases h with | p h => cases h; rfl
theorem Conc.nilp_inv {E v} (h : Conc E (.p .nilp) v) : v = .pointer none := by cases h with | p h => cases h; rfl
theorem Conc.nilf_inv {E v} (h : Conc E (.p .nilf) v) : v = .nilFunc := by cases h with | p h => cases h; rfl
theorem Conc.ptr_inv {E loc off v cs} (h : Conc E (.ptr loc off) v) (hH : E.H[loc]? = some (.box cs)) : v = .pointer (some ⟨E.ι loc, off, none⟩) := by
  cases h with
  | ptr => rfl
  | ptrS _ hn => exact absurd hH (hn cs)
theorem Conc.fn_inv {E f x y v} (h : Conc E (.fn f x y) v) : ∃ vf vc, v = .func (.func f) vf vc ∧ ConcL E x vf ∧ ConcL E y vc := by
  cases h with
  | fn hl1 hl2 h1 h2 => exact ⟨_, _, rfl, ⟨hl1, h1⟩, ⟨hl2, h2⟩⟩
theorem Conc.tup_inv {E xs v} (h : Conc E (.tup xs) v) : ∃ vs, v = .tuple vs ∧ ConcL E xs vs := by
  cases h with
  | tup hl h => exact ⟨_, rfl, ⟨hl, h⟩⟩
theorem Conc.agg_inv {E cs v} (h : Conc E (.agg cs) v) : ∃ vs : Array Value, v = .agg vs ∧ cs.length = vs.size ∧ (∀ (i : Nat) (v : Value), vs[i]? = some v → IsCell v) ∧
    ∀ (i : Nat) (x : AV) (v : Value), cs[i]? = some x → vs[i]? = some v → Conc E x v := by
  cases h with
  | agg hl hc h => exact ⟨_, rfl, hl, hc, h⟩
theorem Conc.pagg_inv {E cs v} (h : Conc E (.p (.agg cs)) v) : ∃ vs : Array Value, v = .agg vs ∧ cs.length = vs.size ∧ (∀ (i : Nat) (v : Value), vs[i]? = some v → IsCell v) ∧
    ∀ (i : Nat) (x : PV) (v : Value), cs[i]? = some x → vs[i]? = some v → Conc E (.p x) v := by
  cases h with
  | p h => cases h with
    | agg hl hc h => exact ⟨_, rfl, hl, hc, fun i x v hx hv => .p (h i x v hx hv)⟩

theorem Conc.i {E : Env} {k : IntKind} {n : Int} : Conc E (.p (.int k n)) (.int k n) := .p .int
theorem Conc.b {E : Env} {b : Bool} : Conc E (.p (.bool b)) (.bool b) := .p .bool

section
variable {P : Program} {G : Globals} {E : Env} {D : List AV} {a : Act} {o : Oper} {K : AV → List Blk → Prop} (hS : Sim G E) (hT : Slots E D a.tmps)
include hS hT

theorem s_mv {x : Operand} {y : Opd} (ho : o.op = .move x ∨ o.op = .assign x) (hx : trO x = some y) (h : ev0 G (FCall P G) (.mv y) D E.H K) :
    RunsTo P G E K ((execOp a.eval o).run P E.w) := by
  have hc := get_conc hS hT hx
  rcases ho with ho | ho
  · rw [ex_move ho]; exact .same hS hc h
  · rw [ex_assign ho]; exact .same hS hc h

theorem s_pick {c x y : Operand} {c' x' y' : Opd} (ho : o.op = .pick c x y) (hc : trO c = some c') (hx : trO x = some x') (hy : trO y = some y') (h : ev0 G (FCall P G) (.pick c' x' y') D E.H K) :
    RunsTo P G E K ((execOp a.eval o).run P E.w) := by
  have c1 := get_conc hS hT hc
  have c2 := get_conc hS hT hx
  have c3 := get_conc hS hT hy
  obtain ⟨b, _, hb, h⟩ := asB_inv c1 h
  rw [ex_pick ho, hb]
  cases b
  · exact .same hS c3 h
  · exact .same hS c2 h

theorem s_ext {x : Operand} {x' : Opd} {j : Nat} (ho : o.op = .extract x j) (hx : trO x = some x') (h : ev0 G (FCall P G) (.ext j x') D E.H K) :
    RunsTo P G E K ((execOp a.eval o).run P E.w) := by
  have c1 := get_conc hS hT hx
  simp only [ev0] at h
  split at h
  · rename_i vs hq
    rw [hq] at c1
    obtain ⟨us, hu, hl, hc⟩ := c1.tup_inv
    obtain ⟨hj, h⟩ := h
    have hju : us[j]? = some us[j] := Array.getElem?_eq_getElem (by omega)
    have hjx : vs[j]? = some vs[j] := List.getElem?_eq_getElem hj
    rw [ex_extract ho, hu]
    simp only [Instr.extract, hju]
    have hg : vs.getD j .any = vs[j] := by simp [List.getD_eq_getElem?_getD, hjx]
    rw [hg] at h
    exact .same hS (hc j _ _ hjx hju) h
  · exact h.elim

theorem s_un {op : UnOp} {t : TypeId} {x : Operand} {x' : Opd} (ho : o.op = .unOp op t x) (hx : trO x = some x') (h : ev0 G (FCall P G) (.un op x') D E.H K) :
    RunsTo P G E K ((execOp a.eval o).run P E.w) := by
  have c1 := get_conc hS hT hx
  rw [ex_unOp ho]
  simp only [ev0] at h
  split at h
  · rename_i k n hq
    rw [hq] at c1
    rw [c1.int_inv]
    exact .same hS .i h
  · rename_i b hq
    rw [hq] at c1
    rw [c1.bool_inv]
    exact .same hS .b h
  · exact h.elim

theorem s_conv {s t : TypeId} {ks k : IntKind} {x : Operand} {x' : Opd} (ho : o.op = .convert s t x) (hs : P.underlying s = some (.int ks)) (ht : P.underlying t = some (.int k)) (hx : trO x = some x')
    (h : ev0 G (FCall P G) (.conv k x') D E.H K) : RunsTo P G E K ((execOp a.eval o).run P E.w) := by
  have c1 := get_conc hS hT hx
  obtain ⟨kx, n, _, hv, h⟩ := asI_inv c1 h
  rw [ex_convert ho, hv]
  simp only [convert, Sem.run_bind, run_underlying hs, run_underlying ht, Result.andThen_ok, Conv.intToInt, Sem.run_pure]
  exact .same hS .i h

theorem s_mkf {f : FuncId} {xs ys : Array Operand} {xs' ys' : List Opd} (ho : o.op = .makeFunc (.func f) xs ys) (hx : trOs xs.toList = some xs') (hy : trOs ys.toList = some ys')
    (h : ev0 G (FCall P G) (.mkf f xs' ys') D E.H K) : RunsTo P G E K ((execOp a.eval o).run P E.w) := by
  obtain ⟨l1, c1⟩ := trOs_conc hS hT hx
  obtain ⟨l2, c2⟩ := trOs_conc hS hT hy
  rw [ex_makeFunc ho]
  simp only [Instr.makeFunc, pure_bind, Sem.run_pure]
  refine .same hS (x := .fn f (xs'.map (get G D)) (ys'.map (get G D))) ?_ h
  refine .fn (by simpa using l1) (by simpa using l2) (fun i x v hx hv => c1 i x v hx ?_) (fun i x v hx hv => c2 i x v hx ?_)
  · simpa using hv
  · simpa using hv

theorem s_mx {mn : Bool} {c : Call} {x y : Operand} {x' y' : Opd} (ho : o.op = .call c) (hb : c.callee = .builtin (if mn then .min else .max)) (ha : c.args.toList = [x, y])
    (hx : trO x = some x') (hy : trO y = some y') (h : ev0 G (FCall P G) (.mx mn x' y') D E.H K) : RunsTo P G E K ((execOp a.eval o).run P E.w) := by
  have c1 := get_conc hS hT hx
  have c2 := get_conc hS hT hy
  have hargs : c.args = #[x, y] := by rw [← ha]
  simp only [ev0] at h
  split at h
  · rename_i k n hq
    rw [hq] at c1
    obtain ⟨k', m, _, hv, h⟩ := asI_inv c2 h
    rw [ex_call ho]
    cases mn
    · simp only [Bool.false_eq_true, if_false] at hb h
      simp [resolve, hb, hargs, invoke, builtin, c1.int_inv, hv, Builtin.max_, Builtin.max2]
      exact .same hS .i h
    · simp only [if_true] at hb h
      simp [resolve, hb, hargs, invoke, builtin, c1.int_inv, hv, Builtin.min_, Builtin.min2]
      exact .same hS .i h
  · exact h.elim

theorem s_ids {t : TypeId} {x y : Operand} {x' y' : Opd} (ho : o.op = .index t x y) (ht : P.underlying t = some .string) (hx : trO x = some x') (hy : trO y = some y')
    (h : ev0 G (FCall P G) (.ids x' y') D E.H K) : RunsTo P G E K ((execOp a.eval o).run P E.w) := by
  have c1 := get_conc hS hT hx
  have c2 := get_conc hS hT hy
  obtain ⟨k', j, _, hv, h⟩ := asI_inv c2 h
  split at h
  · rename_i s hq
    rw [hq] at c1
    obtain ⟨⟨h0, h1⟩, h⟩ := h
    rw [ex_index ho, c1.str_inv, hv]
    have hj : j.toNat < s.length := by omega
    have hsz : j.toNat < (⟨s.toArray⟩ : ByteArray).size := by show _ < s.toArray.size; simpa using hj
    have hg : (⟨s.toArray⟩ : ByteArray)[j.toNat]? = some s[j.toNat] := by
      rw [getElem?_pos (⟨s.toArray⟩ : ByteArray) j.toNat hsz]; rfl
    simp only [Instr.index, asIntOf, pure_bind, Sem.run_bind, run_underlying ht, Result.andThen_ok, h0, if_true, hg, Sem.run_pure]
    have : s.getD j.toNat 0 = s[j.toNat] := by simp [List.getD_eq_getElem?_getD, List.getElem?_eq_getElem hj]
    rw [this] at h
    exact .same hS .i h
  · exact h.elim

end
end Go.Ae
end

section
set_option linter.unusedSectionVars false
set_option linter.unusedSimpArgs false
set_option linter.unusedVariables false
namespace Go.Ae

theorem run_eqGuard {P : Program} {w : World} {op : BinOp} {t : TypeId} {x y : Operand} {u v : Value} (h1 : u ≠ .nilIface) (h2 : ∀ cs, u ≠ .agg cs) : (eqGuard op t x y u v).run P w = .ok () w := by
  cases op <;> cases u <;> first
    | exact absurd rfl h1
    | exact absurd rfl (h2 _)
    | rfl

theorem run_binI {P : Program} {E : Env} {w : World} {op : BinOp} {k k' : IntKind} {x y : Int} {t : TypeId} {K : AV → Prop} (hk : k = k' ∨ op = .shl ∨ op = .shr) (h : binI op k x y K) :
    ∃ z v, (binOp op t (.int k x) (.int k' y)).run P w = .ok v w ∧ Conc E z v ∧ K z := by
  cases op with
  | add => rcases hk with rfl | hk | hk <;> first | (cases hk; done) | exact ⟨_, _, by simp [binOp, Op.intArith], .i, h⟩
  | sub => rcases hk with rfl | hk | hk <;> first | (cases hk; done) | exact ⟨_, _, by simp [binOp, Op.intArith], .i, h⟩
  | mul => rcases hk with rfl | hk | hk <;> first | (cases hk; done) | exact ⟨_, _, by simp [binOp, Op.intArith], .i, h⟩
  | quo => rcases hk with rfl | hk | hk <;> first | (cases hk; done) | exact ⟨_, _, by simp [binOp, Op.intDiv, h.1], .i, h.2⟩
  | rem => rcases hk with rfl | hk | hk <;> first | (cases hk; done) | exact ⟨_, _, by simp [binOp, Op.intDiv, h.1], .i, h.2⟩
  | and => rcases hk with rfl | hk | hk <;> first | (cases hk; done) | exact ⟨_, _, by simp only [binOp, ne_eq, not_true_eq_false, if_false, Op.intBits, Sem.run_pure]; rfl, .i, h⟩
  | or => rcases hk with rfl | hk | hk <;> first | (cases hk; done) | exact ⟨_, _, by simp only [binOp, ne_eq, not_true_eq_false, if_false, Op.intBits, Sem.run_pure]; rfl, .i, h⟩
  | xor => rcases hk with rfl | hk | hk <;> first | (cases hk; done) | exact ⟨_, _, by simp only [binOp, ne_eq, not_true_eq_false, if_false, Op.intBits, Sem.run_pure]; rfl, .i, h⟩
  | andNot => rcases hk with rfl | hk | hk <;> first | (cases hk; done) | exact ⟨_, _, by simp only [binOp, ne_eq, not_true_eq_false, if_false, Op.intBits, Sem.run_pure]; rfl, .i, h⟩
  | shl => exact ⟨_, _, by have := h.1; simp [binOp, Op.shift, show ¬ y < 0 by omega], .i, h.2⟩
  | shr => exact ⟨_, _, by have := h.1; simp [binOp, Op.shift, show ¬ y < 0 by omega], .i, h.2⟩
  | eql => rcases hk with rfl | hk | hk <;> first | (cases hk; done) | exact ⟨_, _, by simp [binOp, Op.intCmp], .b, h⟩
  | neq => rcases hk with rfl | hk | hk <;> first | (cases hk; done) | exact ⟨_, _, by simp [binOp, Op.intCmp], .b, h⟩
  | lss => rcases hk with rfl | hk | hk <;> first | (cases hk; done) | exact ⟨_, _, by simp [binOp, Op.intCmp], .b, h⟩
  | leq => rcases hk with rfl | hk | hk <;> first | (cases hk; done) | exact ⟨_, _, by simp [binOp, Op.intCmp], .b, h⟩
  | gtr => rcases hk with rfl | hk | hk <;> first | (cases hk; done) | exact ⟨_, _, by simp [binOp, Op.intCmp], .b, h⟩
  | geq => rcases hk with rfl | hk | hk <;> first | (cases hk; done) | exact ⟨_, _, by simp [binOp, Op.intCmp], .b, h⟩

theorem bytes_toList (s : List UInt8) : (⟨s.toArray⟩ : ByteArray).toList = s := by
  rw [ByteArray.toList_eq]

theorem run_binS {P : Program} {E : Env} {w : World} {op : BinOp} {x y : List UInt8} {t : TypeId} {K : AV → Prop} (h : binS op x y K) :
    ∃ z v, (binOp op t (.string ⟨x.toArray⟩) (.string ⟨y.toArray⟩)).run P w = .ok v w ∧ Conc E z v ∧ K z := by
  cases op with
  | add =>
    obtain ⟨hl, h⟩ := h
    refine ⟨_, .string ⟨(x ++ y).toArray⟩, ?_, .p .str, h⟩
    have h1 : ¬ (((⟨x.toArray⟩ : ByteArray).size + (⟨y.toArray⟩ : ByteArray).size : Nat) : Int) > IntKind.i64.max := by
      show ¬ ((x.toArray.size + y.toArray.size : Nat) : Int) > 9223372036854775807
      simp only [List.size_toArray]
      omega
    simp only [binOp, Op.stringOp, h1, if_false, Sem.run_pure]
    have : (⟨x.toArray⟩ : ByteArray) ++ (⟨y.toArray⟩ : ByteArray) = ⟨(x ++ y).toArray⟩ := by
      apply ByteArray.ext
      simp
    rw [this]
  | eql => exact ⟨_, _, by simp [binOp, Op.stringOp, bytes_toList], .b, h⟩
  | neq => exact ⟨_, _, by simp [binOp, Op.stringOp, bytes_toList], .b, h⟩
  | _ => exact h.elim


theorem eqC_append : ∀ {a a' b b' : List PV}, a.length = a'.length → eqC (a ++ b) (a' ++ b') = (eqC a a' && eqC b b')
  | [], [], b, b', _ => by simp [eqC]
  | x :: r, y :: s, b, b', h => by
    simp only [List.cons_append, eqC, eqC_append (a := r) (a' := s) (by simpa using h), Bool.and_assoc]

theorem kinds_length : ∀ {ks : List Nat} {cs : List PV}, kinds ks cs = true → ks.length = cs.length
  | [], [], _ => rfl
  | [], _ :: _, h => by simp [kinds] at h
  | k :: ks, [], h => by simp [kinds] at h
  | k :: ks, c :: r, h => by
    simp only [kinds, Bool.and_eq_true] at h
    simpa using kinds_length h.2

theorem kinds_append : ∀ {ks ls : List Nat} {cs : List PV}, kinds (ks ++ ls) cs = true → kinds ks (cs.take ks.length) = true ∧ kinds ls (cs.drop ks.length) = true
  | [], ls, cs, h => by simpa [kinds] using h
  | k :: ks, ls, [], h => by simp [kinds] at h
  | k :: ks, ls, c :: r, h => by
    simp only [List.cons_append, kinds, Bool.and_eq_true] at h
    have := kinds_append h.2
    simp only [List.length_cons, List.take_succ_cons, kinds, h.1, Bool.true_and, List.drop_succ_cons]
    exact this

def isAggT (P : Program) (t : TypeId) : Bool :=
  match P.underlying t with
  | some (.struct _) => true
  | some (.array _ _) => true
  | _ => false

def Shown (E : Env) (ag : Bool) (cs : List PV) (v : Value) : Prop :=
  match ag with
  | true => ∃ vs : Array Value, v = .agg vs ∧ vs.size = cs.length ∧ ∀ (i : Nat) (x : PV) (u : Value), cs[i]? = some x → vs[i]? = some u → Conc E (.p x) u
  | false => ∃ c, cs = [c] ∧ Conc E (.p c) v

theorem run_isAgg {P : Program} {w : World} {t : TypeId} {d : TypeDesc} (h : P.underlying t = some d) : (isAgg t).run P w = .ok (isAggT P t) w := by
  simp only [isAgg, Sem.run_bind, run_underlying h, Result.andThen_ok, isAggT, h]
  cases d <;> rfl

theorem part_shown {P : Program} {E : Env} {w : World} {e : TypeId} {d : TypeDesc} {n off : Nat} {xs : Array Value} {cs : List PV} (hd : P.underlying e = some d) (hn : sizeT P e = some n)
    (h1 : isAggT P e = false → n = 1) (hl : xs.size = cs.length) (hc : ∀ (i : Nat) (x : PV) (u : Value), cs[i]? = some x → xs[i]? = some u → Conc E (.p x) u) (ho : off + n ≤ cs.length) :
    ∃ u, (part e xs off).run P w = .ok u w ∧ Shown E (isAggT P e) ((cs.drop off).take n) u := by
  simp only [part, Sem.run_bind, run_isAgg hd, Result.andThen_ok]
  cases hi : P.info? e with
  | none => simp [sizeT, hi] at hn
  | some i =>
    have hin : i.size = n := by simpa [sizeT, hi] using hn
    cases hb : isAggT P e with
    | true =>
      refine ⟨.agg (xs.extract off (off + n)), by simp [sizeOf, typeInfo, hi, hin], ?_⟩
      refine ⟨_, rfl, ?_, fun j x u hx hu => ?_⟩
      · simp; omega
      · have hj : j < n := by
          have := (List.getElem?_eq_some_iff.1 hx).1
          simp at this; omega
        rw [List.getElem?_take, if_pos hj, List.getElem?_drop] at hx
        rw [Array.getElem?_extract] at hu
        split at hu
        · exact hc _ x u hx hu
        · cases hu
    | false =>
      have hn1 := h1 hb
      subst hn1
      have hlt : off < cs.length := by omega
      have hx : xs[off]? = some xs[off] := Array.getElem?_eq_getElem (by omega)
      refine ⟨xs[off], by simp [hx], cs[off], ?_, hc off _ _ (List.getElem?_eq_getElem hlt) hx⟩
      rw [List.drop_eq_getElem_cons hlt]
      rfl

theorem Shown.agg {E : Env} {cs : List PV} {v : Value} (h : Shown E true cs v) : ∃ vs : Array Value, v = .agg vs ∧ vs.size = cs.length ∧ ∀ (i : Nat) (x : PV) (u : Value), cs[i]? = some x → vs[i]? = some u → Conc E (.p x) u := h

theorem take_drop_add {α : Type} (l : List α) (a n : Nat) : l.drop a = (l.drop a).take n ++ l.drop (a + n) := by
  rw [← List.drop_drop, List.take_append_drop]

theorem eq_fields {P : Program} {E : Env} {w : World} {d m : Nat} (ih : ∀ (t : TypeId) (ks : List Nat), kindsT P d t = some ks → ∀ (u v : Value) (cu cv : List PV),
      Shown E (isAggT P t) cu u → Shown E (isAggT P t) cv v → kinds ks cu = true → kinds ks cv = true → (Op.equalIn m t u v).run P w = .ok (eqC cu cv) w)
    (hag : ∀ t ks, kindsT P d t = some ks → ∃ dd, P.underlying t = some dd) (hone : ∀ t ks, kindsT P d t = some ks → isAggT P t = false → ks.length = 1)
    (xs ys : Array Value) (cx cy : List PV) (hlx : xs.size = cx.length) (hly : ys.size = cy.length)
    (hx : ∀ (i : Nat) (x : PV) (u : Value), cx[i]? = some x → xs[i]? = some u → Conc E (.p x) u) (hy : ∀ (i : Nat) (x : PV) (u : Value), cy[i]? = some x → ys[i]? = some u → Conc E (.p x) u) :
    ∀ (fs : List Field) (at_ : Nat) (ks : List Nat), at_ ≤ cx.length → at_ ≤ cy.length → kindsFs P (kindsT P d) fs at_ = some ks → kinds ks (cx.drop at_) = true → kinds ks (cy.drop at_) = true →
      (Op.eqFields m xs ys fs).run P w = .ok (eqC (cx.drop at_) (cy.drop at_)) w
  | [], at_, ks, _, _, h, kx, ky => by
    cases h
    have h1 := kinds_length kx
    have h2 := kinds_length ky
    rw [List.eq_nil_of_length_eq_zero h1.symm, List.eq_nil_of_length_eq_zero h2.symm]
    rfl
  | f :: r, at_, ks, ax, ay, h, kx, ky => by
    unfold kindsFs at h
    split at h
    · rename_i k n hk hn
      split at h
      · rename_i hc
        obtain ⟨hname, hoff, hkn⟩ := hc
        simp only [Option.map_eq_some_iff] at h
        obtain ⟨l, hl, rfl⟩ := h
        have kx' := kinds_append kx
        have ky' := kinds_append ky
        have lx := kinds_length kx
        have ly := kinds_length ky
        rw [List.length_append, List.length_drop] at lx ly
        obtain ⟨dd, hdd⟩ := hag _ _ hk
        have h1 : isAggT P f.type = false → n = 1 := fun hb => by rw [← hkn]; exact hone _ _ hk hb
        obtain ⟨u, pu, su⟩ := part_shown (w := w) hdd hn h1 hlx hx (off := at_) (by omega)
        obtain ⟨v, pv, sv⟩ := part_shown (w := w) hdd hn h1 hly hy (off := at_) (by omega)
        rw [hkn, List.drop_drop] at kx' ky'
        have he := ih _ _ hk u v _ _ su sv kx'.1 ky'.1
        have hr := eq_fields ih hag hone xs ys cx cy hlx hly hx hy r (at_ + n) l (by omega) (by omega) hl kx'.2 ky'.2
        rw [take_drop_add cx at_ n, take_drop_add cy at_ n, eqC_append (by simp; omega)]
        simp only [Op.eqFields, ne_eq, hname, not_false_eq_true, if_true, Sem.run_bind, hoff, pu, pv, he, Result.andThen_ok]
        cases hq : eqC ((cx.drop at_).take n) ((cy.drop at_).take n) with
        | true => simpa using hr
        | false => simp
      · cases h
    · cases h

theorem eq_items {P : Program} {E : Env} {w : World} {d m : Nat} (ih : ∀ (t : TypeId) (ks : List Nat), kindsT P d t = some ks → ∀ (u v : Value) (cu cv : List PV),
      Shown E (isAggT P t) cu u → Shown E (isAggT P t) cv v → kinds ks cu = true → kinds ks cv = true → (Op.equalIn m t u v).run P w = .ok (eqC cu cv) w)
    {e : TypeId} {k : List Nat} {n : Nat} {dd : TypeDesc} (hk : kindsT P d e = some k) (hdd : P.underlying e = some dd) (hn : sizeT P e = some n) (hkn : k.length = n) (h1 : isAggT P e = false → n = 1)
    (xs ys : Array Value) (cx cy : List PV) (hlx : xs.size = cx.length) (hly : ys.size = cy.length)
    (hx : ∀ (i : Nat) (x : PV) (u : Value), cx[i]? = some x → xs[i]? = some u → Conc E (.p x) u) (hy : ∀ (i : Nat) (x : PV) (u : Value), cy[i]? = some x → ys[i]? = some u → Conc E (.p x) u) :
    ∀ (j i : Nat), i * n ≤ cx.length → i * n ≤ cy.length → kinds (List.replicate j k).flatten (cx.drop (i * n)) = true → kinds (List.replicate j k).flatten (cy.drop (i * n)) = true →
      (Op.eqItems m e n xs ys (List.range' i j)).run P w = .ok (eqC (cx.drop (i * n)) (cy.drop (i * n))) w
  | 0, i, _, _, kx, ky => by
    have h1 := kinds_length kx
    have h2 := kinds_length ky
    simp only [List.replicate_zero, List.flatten_nil, List.length_nil] at h1 h2
    rw [List.eq_nil_of_length_eq_zero h1.symm, List.eq_nil_of_length_eq_zero h2.symm]
    rfl
  | j + 1, i, ax, ay, kx, ky => by
    rw [List.replicate_succ, List.flatten_cons] at kx ky
    have kx' := kinds_append kx
    have ky' := kinds_append ky
    have lx := kinds_length kx
    have ly := kinds_length ky
    rw [List.length_append, List.length_drop] at lx ly
    by_cases hz : i * n + n ≤ cx.length ∧ i * n + n ≤ cy.length
    · obtain ⟨u, pu, su⟩ := part_shown (w := w) hdd hn h1 hlx hx (off := i * n) hz.1
      obtain ⟨v, pv, sv⟩ := part_shown (w := w) hdd hn h1 hly hy (off := i * n) hz.2
      rw [hkn, List.drop_drop] at kx' ky'
      have he := ih _ _ hk u v _ _ su sv kx'.1 ky'.1
      have hi : i * n + n = (i + 1) * n := by rw [Nat.add_mul]; omega
      rw [hi] at kx' ky'
      have hr := eq_items ih hk hdd hn hkn h1 xs ys cx cy hlx hly hx hy j (i + 1) (by omega) (by omega) kx'.2 ky'.2
      rw [take_drop_add cx (i * n) n, take_drop_add cy (i * n) n, eqC_append (by simp; omega), hi]
      simp only [List.range'_succ, Op.eqItems, Sem.run_bind, pu, pv, he, Result.andThen_ok]
      cases hq : eqC ((cx.drop (i * n)).take n) ((cy.drop (i * n)).take n) with
      | true => simpa using hr
      | false => simp
    · exfalso
      omega

theorem kindsT_desc {P : Program} : ∀ (d : Nat) (t : TypeId) (ks : List Nat), kindsT P d t = some ks → (∃ dd, P.underlying t = some dd) ∧ (isAggT P t = false → ks.length = 1)
  | 0, _, _, h => by cases h
  | d + 1, t, ks, h => by
    unfold kindsT at h
    split at h
    · rename_i hq; cases h; exact ⟨⟨_, hq⟩, fun _ => rfl⟩
    · rename_i hq; cases h; exact ⟨⟨_, hq⟩, fun _ => rfl⟩
    · rename_i hq; cases h; exact ⟨⟨_, hq⟩, fun _ => rfl⟩
    · rename_i hq; exact ⟨⟨_, hq⟩, fun hb => by simp [isAggT, hq] at hb⟩
    · rename_i hq; exact ⟨⟨_, hq⟩, fun hb => by simp [isAggT, hq] at hb⟩
    · cases h

theorem eq_kinds {P : Program} {E : Env} {w : World} : ∀ (d m : Nat), d ≤ m → ∀ (t : TypeId) (ks : List Nat), kindsT P d t = some ks → ∀ (u v : Value) (cu cv : List PV),
    Shown E (isAggT P t) cu u → Shown E (isAggT P t) cv v → kinds ks cu = true → kinds ks cv = true → (Op.equalIn m t u v).run P w = .ok (eqC cu cv) w
  | 0, _, _, _, _, h, _, _, _, _, _, _, _, _ => by cases h
  | d + 1, 0, hm, _, _, _, _, _, _, _, _, _, _, _ => by omega
  | d + 1, m + 1, hm, t, ks, h, u, v, cu, cv, hu, hv, ku, kv => by
    have ih := eq_kinds (P := P) (E := E) (w := w) d m (by omega)
    unfold kindsT at h
    split at h
    · rename_i k hq
      cases h
      have hb : isAggT P t = false := by simp [isAggT, hq]
      rw [hb] at hu hv
      obtain ⟨c, rfl, hc⟩ := hu
      obtain ⟨c', rfl, hc'⟩ := hv
      cases c <;> simp [kinds, kind1] at ku
      case int k1 a => 
        cases c' <;> simp [kinds, kind1] at kv
        case int k2 b =>
          have hkk : k1 = k2 := by rw [ku] at kv; cases k1 <;> cases k2 <;> first | rfl | simp [kcode] at kv
          subst hkk
          rw [hc.int_inv, hc'.int_inv, run_equalIn_int w m t k1 k a b hq]
          simp [eqC, eq1]
        all_goals (rw [kv] at ku; cases k1 <;> simp [kcode] at ku)
      all_goals (cases k <;> simp [kcode] at ku)
    · rename_i hq
      cases h
      have hb : isAggT P t = false := by simp [isAggT, hq]
      rw [hb] at hu hv
      obtain ⟨c, rfl, hc⟩ := hu
      obtain ⟨c', rfl, hc'⟩ := hv
      cases c <;> simp [kinds, kind1] at ku
      case int k1 _ => cases k1 <;> simp [kcode] at ku
      cases c' <;> simp [kinds, kind1] at kv
      case int k1 _ => cases k1 <;> simp [kcode] at kv
      rw [hc.bool_inv, hc'.bool_inv, run_equalIn_bool w m t _ _ hq]
      simp [eqC, eq1]
    · rename_i hq
      cases h
      have hb : isAggT P t = false := by simp [isAggT, hq]
      rw [hb] at hu hv
      obtain ⟨c, rfl, hc⟩ := hu
      obtain ⟨c', rfl, hc'⟩ := hv
      cases c <;> simp [kinds, kind1] at ku
      case int k1 _ => cases k1 <;> simp [kcode] at ku
      cases c' <;> simp [kinds, kind1] at kv
      case int k1 _ => cases k1 <;> simp [kcode] at kv
      rw [hc.str_inv, hc'.str_inv, run_equalIn_string w m t _ _ hq, bytes_toList, bytes_toList]
      simp [eqC, eq1]
    · rename_i fs hq
      split at h
      · cases h
      · rename_i hst
        have hb : isAggT P t = true := by simp [isAggT, hq]
        rw [hb] at hu hv
        obtain ⟨xs, rfl, lx, hx⟩ := hu
        obtain ⟨ys, rfl, ly, hy⟩ := hv
        have hf : P.fieldsOf t = fs := by simp [Program.fieldsOf, hq]
        rw [run_equalIn_struct w m t xs ys (by rw [hf]; exact hq) (by simpa using hst), hf]
        have := eq_fields ih (fun t ks h => (kindsT_desc d t ks h).1) (fun t ks h => (kindsT_desc d t ks h).2) xs ys cu cv lx ly hx hy fs.toList 0 ks (by omega) (by omega) h (by simpa using ku) (by simpa using kv)
        simpa using this
    · rename_i n e hq
      split at h
      · rename_i k mm hk hn
        split at h
        · rename_i hkn
          cases h
          have hb : isAggT P t = true := by simp [isAggT, hq]
          rw [hb] at hu hv
          obtain ⟨xs, rfl, lx, hx⟩ := hu
          obtain ⟨ys, rfl, ly, hy⟩ := hv
          obtain ⟨⟨dd, hdd⟩, h1⟩ := kindsT_desc d e k hk
          cases hi : P.info? e with
          | none => simp [sizeT, hi] at hn
          | some i =>
            have hc : P.cellsOf e = mm := by simpa [Program.cellsOf, sizeT, hi] using congrArg (·.getD 0) hn
            rw [run_equalIn_array w m xs ys hq hi, hc, List.range_eq_range']
            have := eq_items ih hk hdd hn hkn (fun hb => by rw [← hkn]; exact h1 hb) xs ys cu cv lx ly hx hy n 0 (by omega) (by omega) (by simpa using ku) (by simpa using kv)
            simpa using this
        · cases h
      · cases h
    · cases h

end Go.Ae
end

section
set_option linter.unusedSectionVars false
set_option linter.unusedSimpArgs false
set_option linter.unusedVariables false
namespace Go.Ae

theorem eqin_ptr {P : Program} {w : World} (d : Nat) {t e : TypeId} {p : Option Addr} (ht : P.underlying t = some (.pointer e)) : (Op.equalIn (d + 1) t (.pointer p) (.pointer none)).run P w = .ok p.isNone w := by
  cases p <;> simp [Op.equalIn, run_underlying ht]
theorem eqin_fun {P : Program} {w : World} (d : Nat) {t : TypeId} {ps rs : Array TypeId} {b : Bool} {f : Fn} {x y : Array Value} (ht : P.underlying t = some (.func ps rs b)) : (Op.equalIn (d + 1) t (.func f x y) .nilFunc).run P w = .ok false w := by
  simp [Op.equalIn, run_underlying ht]
theorem eqin_nilfun {P : Program} {w : World} (d : Nat) {t : TypeId} {ps rs : Array TypeId} {b : Bool} (ht : P.underlying t = some (.func ps rs b)) : (Op.equalIn (d + 1) t .nilFunc .nilFunc).run P w = .ok true w := by
  simp [Op.equalIn, run_underlying ht]
theorem eqin_slice {P : Program} {w : World} (d : Nat) {t e : TypeId} {b : Option Addr} {n c : Nat} (ht : P.underlying t = some (.slice e)) : (Op.equalIn (d + 1) t (.slice b n c) (.slice none 0 0)).run P w = .ok b.isNone w := by
  cases b <;> simp [Op.equalIn, run_underlying ht]

section
variable {P : Program} {G : Globals} {E : Env} {D : List AV} {a : Act} {o : Oper} {K : AV → List Blk → Prop} (hS : Sim G E) (hT : Slots E D a.tmps)
include hS hT

theorem s_bin {op : BinOp} {t u : TypeId} {x y : Operand} {x' y' : Opd} (ho : o.op = .binOp op t x y u) (hx : trO x = some x') (hy : trO y = some y')
    (h : ev0 G (FCall P G) (.bin op x' y') D E.H K) : RunsTo P G E K ((execOp a.eval o).run P E.w) := by
  have c1 := get_conc hS hT hx
  have c2 := get_conc hS hT hy
  rw [ex_binOp ho]
  simp only [ev0, binR] at h
  split at h
  · rename_i k n k' n' h1 h2
    rw [h1] at c1
    rw [h2] at c2
    rw [c1.int_inv, c2.int_inv]
    obtain ⟨z, v, hr, hc, hk⟩ := run_binI (P := P) (E := E) (w := E.w) (t := t) h.1 h.2
    simp only [Sem.run_bind, run_eqGuard (u := .int k n) (by simp) (by simp), Result.andThen_ok, hr, Sem.run_pure]
    exact .same hS hc hk
  · rename_i s s' h1 h2
    rw [h1] at c1
    rw [h2] at c2
    rw [c1.str_inv, c2.str_inv]
    obtain ⟨z, v, hr, hc, hk⟩ := run_binS (P := P) (E := E) (w := E.w) (t := t) h
    simp only [Sem.run_bind, run_eqGuard (u := .string _) (by simp) (by simp), Result.andThen_ok, hr, Sem.run_pure]
    exact .same hS hc hk
  · exact h.elim

theorem s_eqb {neg : Bool} {t u : TypeId} {x y : Operand} {x' y' : Opd} (ho : o.op = .binOp (if neg then .neq else .eql) t x y u) (ht : P.underlying t = some .bool) (hx : trO x = some x') (hy : trO y = some y')
    (h : ev0 G (FCall P G) (.eqb neg x' y') D E.H K) : RunsTo P G E K ((execOp a.eval o).run P E.w) := by
  have c1 := get_conc hS hT hx
  have c2 := get_conc hS hT hy
  rw [ex_binOp ho]
  obtain ⟨b, _, hv, h⟩ := asB_inv c1 h
  obtain ⟨b', _, hv', h⟩ := asB_inv c2 h
  rw [hv, hv']
  simp only [Sem.run_bind, run_eqGuard (u := .bool b) (by simp) (by simp), Result.andThen_ok]
  cases neg
  · simp only [Bool.false_eq_true, if_false, run_eql_bool E.w t b b' ht, Result.andThen_ok, Sem.run_pure] at h ⊢
    exact .same hS .b h
  · simp only [if_true, run_neq_bool E.w t b b' ht, Result.andThen_ok, Sem.run_pure] at h ⊢
    exact .same hS .b h

theorem run_eq_any {neg : Bool} {t : TypeId} {x y : Value} {r : Bool} {w : World} (h1 : ∀ k n, x ≠ .int k n) (h2 : ∀ k n, x ≠ .float k n) (h3 : ∀ k n m, x ≠ .complex k n m) (h4 : ∀ s, x ≠ .string s)
    (h : (Op.equal t x y).run P w = .ok r w) : (binOp (if neg then .neq else .eql) t x y).run P w = .ok (.bool (if neg then !r else r)) w := by
  have hx : x = x := rfl
  cases neg
  · have : binOp .eql t x y = (do pure (.bool (← Op.equal t x y))) := by
      cases x <;> first | exact absurd rfl (h1 _ _) | exact absurd rfl (h2 _ _) | exact absurd rfl (h3 _ _ _) | exact absurd rfl (h4 _) | rfl
    simp [this, h]
  · have : binOp .neq t x y = (do pure (.bool (!(← Op.equal t x y)))) := by
      cases x <;> first | exact absurd rfl (h1 _ _) | exact absurd rfl (h2 _ _) | exact absurd rfl (h3 _ _ _) | exact absurd rfl (h4 _) | rfl
    simp [this, h]

theorem s_eqp {neg : Bool} {t u e : TypeId} {x y : Operand} {x' : Opd} (ho : o.op = .binOp (if neg then .neq else .eql) t x y u) (ht : P.underlying t = some (.pointer e)) (hx : trO x = some x') (hy : isNilP y = true)
    (h : ev0 G (FCall P G) (.eqp neg x') D E.H K) : RunsTo P G E K ((execOp a.eval o).run P E.w) := by
  have c1 := get_conc hS hT hx
  have hy' : a.eval y = .pointer none := by
    unfold isNilP at hy; split at hy
    · rfl
    · cases hy
  rw [ex_binOp ho, hy']
  simp only [ev0] at h
  split at h
  · rename_i hq
    rw [hq] at c1
    rw [c1.nilp_inv]
    have hr : (Op.equal t (.pointer none) (.pointer none)).run P E.w = .ok true E.w := eqin_ptr 9999 ht
    have := run_eq_any (P := P) hS hT (neg := neg) (by simp) (by simp) (by simp) (by simp) hr
    simp only [Sem.run_bind, run_eqGuard (u := .pointer none) (by simp) (by simp), Result.andThen_ok, this, Sem.run_pure]
    refine .same hS (x := .p (.bool (!neg))) ?_ h
    cases neg <;> exact .b
  · rename_i l off hq
    rw [hq] at c1
    split at h
    · rename_i cs hH
      rw [c1.ptr_inv hH]
      have hr : (Op.equal t (.pointer (some ⟨E.ι l, off, none⟩)) (.pointer none)).run P E.w = .ok false E.w := eqin_ptr 9999 ht
      have := run_eq_any (P := P) hS hT (neg := neg) (by simp) (by simp) (by simp) (by simp) hr
      simp only [Sem.run_bind, run_eqGuard (u := .pointer (some _)) (by simp) (by simp), Result.andThen_ok, this, Sem.run_pure]
      refine .same hS (x := .p (.bool neg)) ?_ h
      cases neg <;> exact .b
    · exact h.elim
  · exact h.elim

theorem s_eqf {neg : Bool} {t u : TypeId} {ps rs : Array TypeId} {vr : Bool} {x y : Operand} {x' : Opd} (ho : o.op = .binOp (if neg then .neq else .eql) t x y u) (ht : P.underlying t = some (.func ps rs vr)) (hx : trO x = some x')
    (hy : isNilF y = true) (h : ev0 G (FCall P G) (.eqf neg x') D E.H K) : RunsTo P G E K ((execOp a.eval o).run P E.w) := by
  have c1 := get_conc hS hT hx
  have hy' : a.eval y = .nilFunc := by
    unfold isNilF at hy; split at hy
    · rfl
    · cases hy
  rw [ex_binOp ho, hy']
  simp only [ev0] at h
  split at h
  · rename_i hq
    rw [hq] at c1
    rw [c1.nilf_inv]
    have hr : (Op.equal t .nilFunc .nilFunc).run P E.w = .ok true E.w := eqin_nilfun 9999 ht
    have := run_eq_any (P := P) hS hT (neg := neg) (by simp) (by simp) (by simp) (by simp) hr
    simp only [Sem.run_bind, run_eqGuard (u := .nilFunc) (by simp) (by simp), Result.andThen_ok, this, Sem.run_pure]
    refine .same hS (x := .p (.bool (!neg))) ?_ h
    cases neg <;> exact .b
  · rename_i f p q hq
    rw [hq] at c1
    obtain ⟨vf, vc, hv, _, _⟩ := c1.fn_inv
    rw [hv]
    have hr : (Op.equal t (.func (.func f) vf vc) .nilFunc).run P E.w = .ok false E.w := eqin_fun 9999 ht
    have := run_eq_any (P := P) hS hT (neg := neg) (by simp) (by simp) (by simp) (by simp) hr
    simp only [Sem.run_bind, run_eqGuard (u := .func (.func f) vf vc) (by simp) (by simp), Result.andThen_ok, this, Sem.run_pure]
    refine .same hS (x := .p (.bool neg)) ?_ h
    cases neg <;> exact .b
  · exact h.elim

theorem rdS_slice {x : AV} {v : Value} {sz : Nat} {es : List AV} (hc : Conc E x v) (h : rdS E.H x = some (sz, es)) :
    ∃ b len cap, v = .slice b len cap ∧ len = es.length ∧ len ≤ cap ∧ (es ≠ [] → ∃ ad, b = some ad ∧ ad.spot = none) := by
  unfold rdS at h
  split at h
  · cases h
    cases hc with
    | p hc =>
      cases hc with
      | sl0 => exact ⟨_, _, _, rfl, by simp, by simp, by simp⟩
      | sl vf hne hs hb ho hcap => exact ⟨_, _, _, rfl, by simp, hcap, fun _ => ⟨_, rfl, hs⟩⟩
  · cases h
    cases hc with
    | p hc => cases hc; exact ⟨_, _, _, rfl, rfl, by simp, by simp⟩
  · rename_i loc off len
    split at h
    · rename_i sz' es' hH
      split at h
      · rename_i hl
        cases h
        cases hc with
        | owE hH' => rw [hH] at hH'; cases hH'; exact ⟨_, _, _, rfl, by simp, by simp, by simp⟩
        | ow0 hH' hne ho => rw [hH] at hH'; cases hH'; refine ⟨_, _, _, rfl, by simp; omega, by simp, by simp [ho]⟩
        | ow hH' hl' h0 hcap hw hcc => rw [hH] at hH'; cases hH'; refine ⟨_, _, _, rfl, by simp; omega, hcap, fun _ => ⟨_, rfl, rfl⟩⟩
        | owS hlt hn => have := hn _ _ hH; omega
      · cases h
    · cases h
  · rename_i loc off len
    split at h
    · rename_i cs hH
      split at h
      · rename_i hl
        cases h
        cases hc with
        | bs hH' hl' h0 hcap => refine ⟨_, _, _, rfl, by simp; omega, hcap, fun _ => ⟨_, rfl, rfl⟩⟩
        | bs0 hH' hl' => refine ⟨_, _, _, rfl, by simp, by simp, by simp⟩
        | bsS hlt hn => exact absurd hH (hn cs)
      · cases h
    · cases h
  · cases h

theorem s_eqs {neg : Bool} {t u e : TypeId} {x y : Operand} {x' : Opd} (ho : o.op = .binOp (if neg then .neq else .eql) t x y u) (ht : P.underlying t = some (.slice e)) (hx : trO x = some x') (hy : isNilS y = true)
    (h : ev0 G (FCall P G) (.eqs neg x') D E.H K) : RunsTo P G E K ((execOp a.eval o).run P E.w) := by
  have c1 := get_conc hS hT hx
  have hy' : a.eval y = .slice none 0 0 := by
    unfold isNilS at hy; split at hy
    · rfl
    · cases hy
  rw [ex_binOp ho, hy']
  simp only [ev0] at h
  split at h
  · rename_i sz es hq
    obtain ⟨b, len, cap, hv, hl, _, hb⟩ := rdS_slice hS hT c1 hq
    rw [hv]
    have hr : (Op.equal t (.slice b len cap) (.slice none 0 0)).run P E.w = .ok b.isNone E.w := eqin_slice 9999 ht
    have := run_eq_any (P := P) hS hT (neg := neg) (by simp) (by simp) (by simp) (by simp) hr
    simp only [Sem.run_bind, run_eqGuard (u := .slice b len cap) (by simp) (by simp), Result.andThen_ok, this, Sem.run_pure]
    by_cases hes : es = []
    · exact .same hS .b (h.2 hes _)
    · obtain ⟨ad, rfl, _⟩ := hb hes
      refine .same hS (x := .p (.bool neg)) ?_ (h.1 hes)
      cases neg <;> exact .b
  · exact h.elim

theorem s_eqa {neg : Bool} {t u : TypeId} {ks : List Nat} {x y : Operand} {x' y' : Opd} (ho : o.op = .binOp (if neg then .neq else .eql) t x y u) (hk : kindsT P 20 t = some ks) (hb : isAggT P t = true) (hp : plainEq P t = true)
    (hx : trO x = some x') (hy : trO y = some y') (h : ev0 G (FCall P G) (.eqa neg ks x' y') D E.H K) : RunsTo P G E K ((execOp a.eval o).run P E.w) := by
  have c1 := get_conc hS hT hx
  have c2 := get_conc hS hT hy
  rw [ex_binOp ho]
  simp only [ev0] at h
  split at h
  · rename_i p q h1 h2
    rw [h1] at c1
    rw [h2] at c2
    obtain ⟨vs, hv, hl, hc, hvs⟩ := c1.pagg_inv
    obtain ⟨us, hu, hl', hc', hus⟩ := c2.pagg_inv
    rw [hv, hu]
    have hg : P.eqGuardType P.depth t = false := by simpa [plainEq] using hp
    have hr := eq_kinds (P := P) (E := E) (w := E.w) 20 10000 (by omega) t ks hk (.agg vs) (.agg us) p q (by rw [hb]; exact ⟨vs, rfl, hl.symm, hvs⟩) (by rw [hb]; exact ⟨us, rfl, hl'.symm, hus⟩) h.1.1 h.1.2
    have := run_eq_any (P := P) hS hT (neg := neg) (by simp) (by simp) (by simp) (by simp) (show (Op.equal t (.agg vs) (.agg us)).run P E.w = _ from hr)
    simp only [Sem.run_bind, run_eqGuard_agg E.w _ t x y vs us hg, Result.andThen_ok, this, Sem.run_pure]
    exact .same hS .b h.2
  · exact h.elim

end
end Go.Ae
end

section
set_option linter.unusedSectionVars false
set_option linter.unusedSimpArgs false
set_option linter.unusedVariables false
namespace Go.Ae

theorem AV.cells_p (x : PV) : (AV.p x).cells = x.cells.map .p := by cases x <;> rfl

theorem Conc.cells_one {E : Env} {x : AV} {v : Value} (h : Conc E x v) (hv : IsCell v) : x.cells = [x] := by
  cases h with
  | p h => cases h <;> first | rfl | exact hv.elim
  | agg => exact hv.elim
  | _ => rfl

def Reads (E : Env) (b o : Nat) (cs : List AV) : Prop := ∀ (j : Nat) (x : AV), cs[j]? = some x → ∃ v, E.w.cell? ⟨b, o + j, none⟩ = some v ∧ IsCell v ∧ Conc E x v

theorem cell_row {w : World} {b o : Nat} {c : Array Value} {T : TypeId} {fr : Nat × Nat} (h : w.heap[b]? = some (.cells c T fr)) : w.cell? ⟨b, o, none⟩ = c[o]? := by
  simp [World.cell?, h]

theorem box_reads {G : Globals} {E : Env} (hS : Sim G E) {loc : Nat} {cs : List AV} (h : E.H[loc]? = some (.box cs)) : Reads E (E.ι loc) 0 cs := by
  obtain ⟨c, T, hw, hc⟩ := hS.box loc cs h
  intro j x hx
  obtain ⟨v, h1, h2, h3⟩ := hc j x hx
  exact ⟨v, by rw [cell_row hw, Nat.zero_add]; exact h1, h2, h3⟩

theorem Reads.drop {E : Env} {b o k : Nat} {cs : List AV} (h : Reads E b o cs) : Reads E b (o + k) (cs.drop k) := by
  intro j x hx
  rw [List.getElem?_drop] at hx
  obtain ⟨v, h1, h2⟩ := h _ x hx
  exact ⟨v, by rw [Nat.add_assoc]; exact h1, h2⟩

theorem Reads.take {E : Env} {b o k : Nat} {cs : List AV} (h : Reads E b o cs) : Reads E b o (cs.take k) := by
  intro j x hx
  rw [List.getElem?_take] at hx
  split at hx
  · exact h j x hx
  · cases hx

theorem rd_cells {G : Globals} {E : Env} (hS : Sim G E) {x : AV} {sz len cap : Nat} {es : List AV} {ad : Addr} (h : rdS E.H x = some (sz, es)) (hc : Conc E x (.slice (some ad) len cap)) (hne : es ≠ []) :
    ∀ (i : Nat) (e : AV), es[i]? = some e → e.cells.length = sz ∧ Reads E ad.block (ad.off + i * sz) e.cells := by
  unfold rdS at h
  split at h
  · rename_i sz' ps
    cases h
    cases hc with
    | p hc =>
      cases hc with
      | sl0 => exact absurd rfl hne
      | sl vf hne hs hb ho hcap hu hm hcell hv =>
        intro i e he
        rw [List.getElem?_map, Option.map_eq_some_iff] at he
        obtain ⟨q, hq, rfl⟩ := he
        rw [AV.cells_p]
        refine ⟨by simpa using hu i q hq, fun j y hy => ?_⟩
        rw [List.getElem?_map, Option.map_eq_some_iff] at hy
        obtain ⟨z, hz, rfl⟩ := hy
        have hj : j < sz := by rw [← hu i q hq]; exact (List.getElem?_eq_some_iff.1 hz).1
        exact ⟨vf i j, hm i q j hq hj, hcell i q j hq hj, .p (hv i q j z hq hz)⟩
  · cases h; exact absurd rfl hne
  · rename_i loc off len'
    split at h
    · rename_i sz' es' hH
      split at h
      · rename_i hl
        cases h
        have hes : es' ≠ [] := by rintro rfl; simp at hne
        obtain ⟨c, T, hw, hrow⟩ := hS.row loc _ _ hH hes
        have key : ∀ (i : Nat) (e : AV), (es'.drop off)[i]? = some e → e.cells.length = sz ∧ Reads E (E.ι loc) (off * sz + i * sz) e.cells := by
          intro i e he
          rw [List.getElem?_drop] at he
          obtain ⟨h1, h2⟩ := hrow _ e he
          refine ⟨h1, fun j y hy => ?_⟩
          obtain ⟨v, h3, h4⟩ := h2 j y hy
          exact ⟨v, by rw [cell_row hw, ← Nat.add_mul]; exact h3, h4⟩
        cases hc with
        | owE hH' => rw [hH] at hH'; cases hH'; exact absurd rfl hes
        | ow0 hH' hne' ho => simp [ho] at hne; rw [hH] at hH'; cases hH'; simp at hne
        | ow hH' hl' h0 hcap hw' hcc => rw [hH] at hH'; cases hH'; exact key
        | owS hlt hn => have := hn _ _ hH; omega
      · cases h
    · cases h
  · rename_i loc off len'
    split at h
    · rename_i cs hH
      split at h
      · rename_i hl
        cases h
        have hr := box_reads hS hH
        have key : ∀ (i : Nat) (e : AV), ((cs.drop off).take len')[i]? = some e → e.cells.length = 1 ∧ Reads E (E.ι loc) (off + i * 1) e.cells := by
          intro i e he
          have := (hr.drop (k := off)).take (k := len') i e he
          obtain ⟨v, h1, h2, h3⟩ := this
          have h4 := h3.cells_one h2
          rw [h4]
          refine ⟨rfl, fun j y hy => ?_⟩
          cases j with
          | zero => simp at hy; subst hy; exact ⟨v, by simpa using h1, h2, h3⟩
          | succ j => simp at hy
        cases hc with
        | bs hH' hl' h0 hcap => exact key
        | bs0 hH' hl' => simp at hne
        | bsS hlt hn => exact absurd hH (hn cs)
      · cases h
    · cases h
  · cases h

section
variable {P : Program}

theorem layT_agg {t : TypeId} {n : Nat} (h : layT P t = some (some n)) : isAggT P t = true ∧ (∃ d, P.underlying t = some d) ∧ ∃ i, P.info? t = some i ∧ i.size = n := by
  unfold layT at h
  split at h
  · rename_i fs i h1 h2; cases h; exact ⟨by simp [isAggT, h1], ⟨_, h1⟩, ⟨_, h2, rfl⟩⟩
  · rename_i m e i h1 h2; cases h; exact ⟨by simp [isAggT, h1], ⟨_, h1⟩, ⟨_, h2, rfl⟩⟩
  · cases h
  · cases h

theorem layT_one {t : TypeId} (h : layT P t = some none) : isAggT P t = false ∧ (∃ d, P.underlying t = some d) := by
  unfold layT at h
  split at h
  · cases h
  · cases h
  · rename_i d i hn1 hn2 h1 h2
    refine ⟨?_, ⟨_, h1⟩⟩
    unfold isAggT
    rw [h1]
    split
    · rename_i q; cases q; exact absurd rfl (hn1 _)
    · rename_i q; cases q; exact absurd rfl (hn2 _ _)
    · rfl
  · cases h

theorem addr_add (b o n : Nat) : (⟨b, o, none⟩ : Addr).add n = ⟨b, o + n, none⟩ := by
  unfold Addr.add
  split
  · rename_i h; subst h; rfl
  · rfl

theorem load_one {E : Env} {b o : Nat} {t : TypeId} {cs : List AV} {x : AV} (hr : Reads E b o cs) (ht : layT P t = some none) (hx : cs[0]? = some x) :
    ∃ v, (loadVar t ⟨b, o, none⟩).run P E.w = .ok v E.w ∧ Conc E x v ∧ IsCell v := by
  obtain ⟨ha, d, hd⟩ := layT_one ht
  obtain ⟨v, h1, h2, h3⟩ := hr 0 x hx
  refine ⟨v, ?_, h3, h2⟩
  rw [Nat.add_zero] at h1
  simp [loadVar, run_isAgg hd, ha, h1]

theorem load_many {E : Env} {b o n : Nat} {t : TypeId} {cs : List AV} (hr : Reads E b o cs) (ht : layT P t = some (some n)) (hn : cs.length = n) :
    ∃ vs : Array Value, (loadVar t ⟨b, o, none⟩).run P E.w = .ok (.agg vs) E.w ∧ cs.length = vs.size ∧ (∀ (i : Nat) (v : Value), vs[i]? = some v → IsCell v) ∧
      ∀ (i : Nat) (x : AV) (v : Value), cs[i]? = some x → vs[i]? = some v → Conc E x v := by
  obtain ⟨ha, ⟨d, hd⟩, i, hi, hs⟩ := layT_agg ht
  have hex : ∀ j, ∃ v, j < cs.length → E.w.cell? ⟨b, o + j, none⟩ = some v ∧ IsCell v ∧ ∀ x, cs[j]? = some x → Conc E x v := by
    intro j
    by_cases hj : j < cs.length
    · obtain ⟨v, h1, h2, h3⟩ := hr j cs[j] (List.getElem?_eq_getElem hj)
      exact ⟨v, fun _ => ⟨h1, h2, fun x hx => by rw [List.getElem?_eq_getElem hj] at hx; cases hx; exact h3⟩⟩
    · exact ⟨.nilIface, fun h => absurd h hj⟩
  obtain ⟨f, hf⟩ := Classical.skolem.1 hex
  have hld := run_loadCells (P := P) (w := E.w) ⟨b, o, none⟩ cs.length f (fun j hj => by rw [addr_add]; exact (hf j hj).1)
  refine ⟨((List.range cs.length).map f).toArray, ?_, by simp, fun j v hv => ?_, fun j x v hx hv => ?_⟩
  · have : (loadCells ⟨b, o, none⟩ n).run P E.w = .ok ((List.range cs.length).map f).toArray E.w := by rw [← hn]; simpa using hld
    simp [loadVar, run_isAgg hd, ha, sizeOf, typeInfo, hi, hs, this]
  · simp only [List.getElem?_toArray, List.getElem?_map, Option.map_eq_some_iff] at hv
    obtain ⟨k, hk, rfl⟩ := hv
    obtain ⟨hj, rfl⟩ := List.getElem?_eq_some_iff.1 hk
    simp only [List.getElem_range]
    exact (hf j (by simpa using hj)).2.1
  · simp only [List.getElem?_toArray, List.getElem?_map, Option.map_eq_some_iff] at hv
    obtain ⟨k, hk, rfl⟩ := hv
    obtain ⟨hj, rfl⟩ := List.getElem?_eq_some_iff.1 hk
    simp only [List.getElem_range]
    exact (hf j (by simpa using hj)).2.2 x hx

theorem load_partA {E : Env} {b o fo : Nat} {t : TypeId} {n : Option Nat} {cs : List AV} {K : AV → Prop} (hr : Reads E b o cs) (ht : layT P t = some n) (h : partA cs fo n K) :
    ∃ x v, (loadVar t ⟨b, o + fo, none⟩).run P E.w = .ok v E.w ∧ Conc E x v ∧ K x := by
  cases n with
  | none =>
    obtain ⟨h1, h2⟩ := h
    have hx : (cs.drop fo)[0]? = some cs[fo] := by simp [List.getElem?_drop, List.getElem?_eq_getElem h1]
    obtain ⟨v, e1, e2, _⟩ := load_one (hr.drop (k := fo)) ht hx
    refine ⟨_, v, e1, e2, ?_⟩
    simpa [List.getD_eq_getElem?_getD, List.getElem?_eq_getElem h1] using h2
  | some n =>
    obtain ⟨h1, h2⟩ := h
    obtain ⟨vs, e1, e2, e3, e4⟩ := load_many ((hr.drop (k := fo)).take (k := n)) ht (by simp; omega)
    exact ⟨_, _, e1, Conc.mkAgg_cells e2 e3 e4, h2⟩

theorem load_partP {E : Env} {b o fo : Nat} {t : TypeId} {n : Option Nat} {e : PV} {K : AV → Prop} (hr : Reads E b o (e.cells.map .p)) (ht : layT P t = some n) (h : partP e fo n K) :
    ∃ x v, (loadVar t ⟨b, o + fo, none⟩).run P E.w = .ok v E.w ∧ Conc E x v ∧ K x := by
  cases n with
  | none =>
    obtain ⟨h1, h2⟩ := h
    have hx : ((e.cells.map AV.p).drop fo)[0]? = some (.p e.cells[fo]) := by simp [List.getElem?_drop, List.getElem?_eq_getElem h1]
    obtain ⟨v, e1, e2, _⟩ := load_one (hr.drop (k := fo)) ht hx
    refine ⟨_, v, e1, e2, ?_⟩
    simpa [List.getD_eq_getElem?_getD, List.getElem?_eq_getElem h1] using h2
  | some n =>
    simp only [partP] at h
    split at h
    · rename_i hw
      obtain ⟨rfl, hn⟩ := hw
      obtain ⟨h1, h2⟩ := h
      obtain ⟨vs, e1, e2, e3, e4⟩ := load_many (hr.drop (k := 0)) ht (by simp [hn])
      cases e with
      | agg cs =>
        refine ⟨_, _, e1, .p (.agg (by simpa [PV.cells] using e2) e3 (fun i x v hx hv => ?_)), h2⟩
        have := e4 i (.p x) v (by simpa [PV.cells] using hx) hv
        cases this with
        | p h => exact h
      | _ => simp [PV.isAgg] at h1
    · obtain ⟨h1, h2⟩ := h
      obtain ⟨vs, e1, e2, e3, e4⟩ := load_many ((hr.drop (k := fo)).take (k := n)) ht (by simp; omega)
      refine ⟨_, _, e1, .p (.agg (cs := (e.cells.drop fo).take n) (by simpa using e2) e3 (fun i x v hx hv => ?_)), h2⟩
      have := e4 i (.p x) v (by rw [← List.map_drop, ← List.map_take, List.getElem?_map, hx]; rfl) hv
      cases this with
      | p h => exact h

end

section
variable {P : Program} {G : Globals} {E : Env} {D : List AV} {a : Act} {o : Oper} {K : AV → List Blk → Prop} (hS : Sim G E) (hT : Slots E D a.tmps)
include hS hT

theorem s_ld {t : TypeId} {n : Option Nat} {x : Operand} {x' : Opd} (ho : o.op = .load t x) (ht : layT P t = some n) (hx : trO x = some x') (h : ev0 G (FCall P G) (.ld n x') D E.H K) :
    RunsTo P G E K ((execOp a.eval o).run P E.w) := by
  have c1 := get_conc hS hT hx
  rw [ex_load ho]
  have fin : ∀ {b o' : Nat} {z : AV} {v : Value}, (loadVar t ⟨b, o', none⟩).run P E.w = .ok v E.w → Conc E z v → K z E.H →
      RunsTo P G E K ((do pure (Next.value (← Instr.loadAt t (.pointer (some ⟨b, o', none⟩))))).run P E.w) := by
    intro b o' z v h2 h3 h4
    simp only [Instr.loadAt, Instr.sureAddr, pure_bind, Sem.run_bind, h2, Result.andThen_ok, Sem.run_pure]
    exact .same hS h3 h4
  simp only [ev0] at h
  unfold ldR at h
  split at h
  · rename_i loc off hq
    rw [hq] at c1
    split at h
    · rename_i cs hH
      obtain ⟨z, v, h1, h2, h3⟩ := load_partA (P := P) (box_reads hS hH) ht h
      rw [Nat.zero_add] at h1
      rw [c1.ptr_inv hH]
      exact fin h1 h2 h3
    · exact h.elim
  · rename_i sz' es sz i fo hq
    rw [hq] at c1
    obtain ⟨rfl, hi, h⟩ := h
    generalize hv : a.eval x = vx at c1
    cases c1 with
    | @pe _ _ _ _ ad len cap hc hs =>
      have hrd : rdS E.H (.p (.sl sz' es)) = some (sz', es.map .p) := rfl
      have he : (es.map AV.p)[i]? = some (.p es[i]) := by simp [List.getElem?_eq_getElem hi]
      obtain ⟨h1, h2⟩ := rd_cells hS hrd hc (by intro hn; rw [hn] at he; simp at he) i _ he
      rw [AV.cells_p] at h2
      have hg : es.getD i .nilp = es[i] := by simp [List.getD_eq_getElem?_getD, List.getElem?_eq_getElem hi]
      rw [hg] at h
      obtain ⟨z, v, e1, e2, e3⟩ := load_partP (P := P) h2 ht h
      exact fin e1 e2 e3
  · rename_i loc off len sz i fo hq
    rw [hq] at c1
    split at h
    · rename_i sz' es hH
      obtain ⟨⟨hl, rfl, hi⟩, h⟩ := h
      generalize hv : a.eval x = vx at c1
      cases c1 with
      | @pe _ _ _ _ ad len' cap hc hs =>
        have hrd : rdS E.H (.ow loc off len) = some (sz', es.drop off) := by simp [rdS, hH, hl]
        have hlt : off + i < es.length := by omega
        have he : (es.drop off)[i]? = some es[off + i] := by rw [List.getElem?_drop, List.getElem?_eq_getElem hlt]
        obtain ⟨h1, h2⟩ := rd_cells hS hrd hc (by intro hn; rw [hn] at he; simp at he) i _ he
        have hg : es.getD (off + i) .any = es[off + i] := by simp [List.getD_eq_getElem?_getD, List.getElem?_eq_getElem hlt]
        rw [hg] at h
        obtain ⟨z, v, e1, e2, e3⟩ := load_partA (P := P) h2 ht h
        exact fin e1 e2 e3
    · exact h.elim
  · rename_i loc off len sz i fo hq
    rw [hq] at c1
    split at h
    · rename_i cs hH
      obtain ⟨⟨hl, rfl, hi, rfl, rfl⟩, h⟩ := h
      generalize hv : a.eval x = vx at c1
      cases c1 with
      | @pe _ _ _ _ ad len' cap hc hs =>
        have hrd : rdS E.H (.bs loc off len) = some (1, (cs.drop off).take len) := by simp [rdS, hH, hl]
        have hlt : off + i < cs.length := by omega
        have he : ((cs.drop off).take len)[i]? = some cs[off + i] := by rw [List.getElem?_take, if_pos hi, List.getElem?_drop, List.getElem?_eq_getElem hlt]
        obtain ⟨h1, h2⟩ := rd_cells hS hrd hc (by intro hn; rw [hn] at he; simp at he) i _ he
        have hg : cs.getD (off + i) .any = cs[off + i] := by simp [List.getD_eq_getElem?_getD, List.getElem?_eq_getElem hlt]
        rw [hg] at h
        cases hcc : cs[off + i].cells with
        | nil => rw [hcc] at h1; simp at h1
        | cons y r =>
          have hone : cs[off + i].cells = [cs[off + i]] := by
            obtain ⟨v, _, hv1, hv2⟩ := box_reads hS hH (off + i) _ (List.getElem?_eq_getElem hlt)
            exact hv2.cells_one hv1
          rw [hone] at h2
          obtain ⟨v, e1, e2, _⟩ := load_one (P := P) h2 ht (x := cs[off + i]) rfl
          exact fin e1 e2 h
    · exact h.elim
  · exact h.elim

end
end Go.Ae
end

section
set_option linter.unusedSectionVars false
set_option linter.unusedSimpArgs false
set_option linter.unusedVariables false
namespace Go.Ae

theorem ex_nilCheck {ρ : Operand → Value} {o : Oper} {x : Operand} (ho : o.op = .nilCheck x) (h : (∃ a, ρ x = .pointer (some a)) ∨ ∃ f p q, ρ x = .func (.func f) p q) : execOp ρ o = pure (.value (ρ x)) := by
  unfold execOp; rw [ho]
  rcases h with ⟨a, h⟩ | ⟨f, p, q, h⟩ <;> simp only [h]

theorem run_sizeT {P : Program} {t : TypeId} {n : Nat} {w : World} (h : sizeT P t = some n) : (sizeOf t).run P w = .ok n w := by
  cases hi : P.info? t with
  | none => simp [sizeT, hi] at h
  | some i =>
    have : i.size = n := by simpa [sizeT, hi] using h
    simp [sizeOf, typeInfo, hi, this]

theorem part_A {P : Program} {E : Env} {t : TypeId} {n : Option Nat} {fo : Nat} {cs : List AV} {vs : Array Value} {K : AV → Prop} (ht : layT P t = some n) (hl : cs.length = vs.size)
    (hc : ∀ (i : Nat) (v : Value), vs[i]? = some v → IsCell v) (h : ∀ (i : Nat) (x : AV) (v : Value), cs[i]? = some x → vs[i]? = some v → Conc E x v) (hp : partA cs fo n K) :
    ∃ x v, (part t vs fo).run P E.w = .ok v E.w ∧ Conc E x v ∧ K x := by
  cases n with
  | none =>
    obtain ⟨ha, d, hd⟩ := layT_one ht
    obtain ⟨h1, h2⟩ := hp
    have hv : vs[fo]? = some vs[fo] := Array.getElem?_eq_getElem (by omega)
    have hx : cs[fo]? = some cs[fo] := List.getElem?_eq_getElem h1
    refine ⟨cs[fo], vs[fo], by simp [part, run_isAgg hd, ha, hv], h fo _ _ hx hv, ?_⟩
    simpa [List.getD_eq_getElem?_getD, hx] using h2
  | some n =>
    obtain ⟨ha, ⟨d, hd⟩, i, hi, hs⟩ := layT_agg ht
    obtain ⟨h1, h2⟩ := hp
    refine ⟨mkAgg ((cs.drop fo).take n), .agg (vs.extract fo (fo + n)), by simp [part, run_isAgg hd, ha, sizeOf, typeInfo, hi, hs], ?_, h2⟩
    have hg : ∀ (j : Nat) (v : Value), (vs.extract fo (fo + n))[j]? = some v → vs[fo + j]? = some v := by
      intro j v hv
      rw [Array.getElem?_extract] at hv
      split at hv
      · exact hv
      · cases hv
    refine Conc.mkAgg_cells ?_ (fun j v hv => hc _ v (hg j v hv)) (fun j x v hx hv => ?_)
    · simp; omega
    · rw [List.getElem?_take] at hx
      split at hx
      · rw [List.getElem?_drop] at hx
        exact h _ x v hx (hg j v hv)
      · cases hx

theorem lenR_inv {E : Env} {x : AV} {v : Value} {K' : Nat → Prop} (hc : Conc E x v) (h : lenR E.H x K') :
    ∃ b n cap, v = .slice b n cap ∧ K' n ∧ (0 < n → ∃ ad, b = some ad ∧ ad.spot = none) := by
  unfold lenR at h
  split at h
  · cases hc with
    | p hc =>
      cases hc with
      | sl0 => exact ⟨_, _, _, rfl, h, by simp⟩
      | sl vf hne hs => exact ⟨_, _, _, rfl, h, fun _ => ⟨_, rfl, hs⟩⟩
  · cases hc with
    | p hc => cases hc; exact ⟨_, _, _, rfl, h, by simp⟩
  · split at h
    · rename_i hH
      obtain ⟨hl, h⟩ := h
      cases hc with
      | owE => exact ⟨_, _, _, rfl, h, by simp⟩
      | ow0 => exact ⟨_, _, _, rfl, h, by simp⟩
      | ow => exact ⟨_, _, _, rfl, h, fun _ => ⟨_, rfl, rfl⟩⟩
      | owS hlt hn => have := hn _ _ hH; omega
    · exact h.elim
  · split at h
    · rename_i hH
      cases hc with
      | bs => exact ⟨_, _, _, rfl, h, fun _ => ⟨_, rfl, rfl⟩⟩
      | bs0 => exact ⟨_, _, _, rfl, h, by simp⟩
      | bsS hlt hn => exact absurd hH (hn _)
    · exact h.elim
  · exact h.elim

section
variable {P : Program} {G : Globals} {E : Env} {D : List AV} {a : Act} {o : Oper} {K : AV → List Blk → Prop} (hS : Sim G E) (hT : Slots E D a.tmps)
include hS hT

theorem s_nc {x : Operand} {x' : Opd} (ho : o.op = .nilCheck x) (hx : trO x = some x') (h : ev0 G (FCall P G) (.nc x') D E.H K) :
    RunsTo P G E K ((execOp a.eval o).run P E.w) := by
  have c1 := get_conc hS hT hx
  simp only [ev0] at h
  split at h
  · rename_i l off hq
    rw [hq] at c1
    split at h
    · rename_i cs hH
      rw [ex_nilCheck ho (.inl ⟨_, c1.ptr_inv hH⟩)]
      exact .same hS c1 h
    · exact h.elim
  · rename_i p s i off hq
    rw [hq] at c1
    have hv : ∃ ad, a.eval x = .pointer (some ad) := by
      generalize a.eval x = v at c1
      cases c1 with | pe => exact ⟨_, rfl⟩
    rw [ex_nilCheck ho (.inl hv)]
    exact .same hS c1 h
  · rename_i f p q hq
    rw [hq] at c1
    obtain ⟨vf, vc, hv, _, _⟩ := c1.fn_inv
    rw [ex_nilCheck ho (.inr ⟨_, _, _, hv⟩)]
    exact .same hS c1 h
  · exact h.elim

theorem s_fa {t : TypeId} {f n : Nat} {fs : Array Field} {fd : Field} {x : Operand} {x' : Opd} (ho : o.op = .fieldAddr t x f) (ht : P.underlying t = some (.struct fs)) (hf : fs[f]? = some fd)
    (hn : sizeT P fd.type = some n) (h0 : 0 < n) (hx : trO x = some x') (h : ev0 G (FCall P G) (.fa fd.offset x') D E.H K) : RunsTo P G E K ((execOp a.eval o).run P E.w) := by
  have c1 := get_conc hS hT hx
  rw [ex_fieldAddr ho]
  have fin : ∀ {b off : Nat} {z : AV}, Conc E z (.pointer (some ⟨b, off + fd.offset, none⟩)) → K z E.H →
      RunsTo P G E K ((do pure (Next.value (← Instr.fieldAt t (.pointer (some ⟨b, off, none⟩)) f))).run P E.w) := by
    intro b off z hc hk
    have hn0 : ¬ n = 0 := by omega
    simp only [Instr.fieldAt, Sem.run_bind, run_underlying ht, Result.andThen_ok, hf, Instr.sureAddr, Sem.run_pure, fieldPlace, run_sizeT hn, hn0, if_false, addr_add]
    exact .same hS hc hk
  simp only [ev0] at h
  split at h
  · rename_i l off hq
    rw [hq] at c1
    split at h
    · rename_i cs hH
      rw [c1.ptr_inv hH]
      exact fin (.ptr hH) h
    · exact h.elim
  · rename_i p s i off hq
    rw [hq] at c1
    generalize a.eval x = v at c1
    cases c1 with
    | pe hc hs =>
      refine fin ?_ h
      have := Conc.pe (E := E) (sz := s) (i := i) (fo := off + fd.offset) hc hs
      rwa [← Nat.add_assoc] at this
  · exact h.elim

theorem s_ia {t e : TypeId} {sz : Nat} {x y : Operand} {x' y' : Opd} (ho : o.op = .indexAddr t x y) (ht : P.underlying t = some (.slice e)) (hn : sizeT P e = some sz)
    (hx : trO x = some x') (hy : trO y = some y') (h : ev0 G (FCall P G) (.ia sz x' y') D E.H K) : RunsTo P G E K ((execOp a.eval o).run P E.w) := by
  have c1 := get_conc hS hT hx
  have c2 := get_conc hS hT hy
  rw [ex_indexAddr ho]
  obtain ⟨k, n, _, hv, h⟩ := asI_inv c2 h
  obtain ⟨b, len, cap, hvx, ⟨⟨h0, h1⟩, h⟩, hb⟩ := lenR_inv c1 h
  · obtain ⟨ad, rfl, hsp⟩ := hb (by omega)
    rw [hv, hvx]
    rw [hvx] at c1
    obtain ⟨ab, ao, asp⟩ := ad
    simp only at hsp
    subst hsp
    simp only [Instr.indexAt, asIntOf, pure_bind, Sem.run_bind, run_underlying ht, Result.andThen_ok, Sem.run_pure, h0, h1, and_self, if_true, run_sizeT hn, addr_add]
    exact .same hS (.pe c1 rfl) h

theorem s_iaa {t e : TypeId} {len sz : Nat} {x y : Operand} {x' y' : Opd} (ho : o.op = .indexAddr t x y) (ht : P.underlying t = some (.array len e)) (hn : sizeT P e = some sz)
    (hx : trO x = some x') (hy : trO y = some y') (h : ev0 G (FCall P G) (.iaa len sz x' y') D E.H K) : RunsTo P G E K ((execOp a.eval o).run P E.w) := by
  have c1 := get_conc hS hT hx
  have c2 := get_conc hS hT hy
  rw [ex_indexAddr ho]
  obtain ⟨k, n, _, hv, h⟩ := asI_inv c2 h
  have fin : ∀ {b off : Nat} {z : AV}, (0 ≤ n ∧ n < len) → Conc E z (.pointer (some ⟨b, off + n.toNat * sz, none⟩)) → K z E.H →
      RunsTo P G E K ((do pure (Next.value (← Instr.indexAt t (.pointer (some ⟨b, off, none⟩)) (.int k n)))).run P E.w) := by
    intro b off z hb hc hk
    simp only [Instr.indexAt, asIntOf, pure_bind, Sem.run_bind, run_underlying ht, Result.andThen_ok, Instr.sureAddr, Sem.run_pure, hb.1, hb.2, and_self, if_true, run_sizeT hn, addr_add]
    exact .same hS hc hk
  rw [hv]
  split at h
  · rename_i l off hq
    rw [hq] at c1
    split at h
    · rename_i cs hH
      rw [c1.ptr_inv hH]
      exact fin h.1 (.ptr hH) h.2
    · exact h.elim
  · rename_i p s i off hq
    rw [hq] at c1
    generalize a.eval x = v at c1
    cases c1 with
    | pe hc hs =>
      refine fin h.1 ?_ h.2
      have := Conc.pe (E := E) (sz := s) (i := i) (fo := off + n.toNat * sz) hc hs
      rwa [← Nat.add_assoc] at this
  · exact h.elim

theorem s_fld {t : TypeId} {f : Nat} {n : Option Nat} {fs : Array Field} {fd : Field} {x : Operand} {x' : Opd} (ho : o.op = .field t x f) (ht : P.underlying t = some (.struct fs)) (hf : fs[f]? = some fd)
    (hn : layT P fd.type = some n) (hx : trO x = some x') (h : ev0 G (FCall P G) (.fld fd.offset n x') D E.H K) : RunsTo P G E K ((execOp a.eval o).run P E.w) := by
  have c1 := get_conc hS hT hx
  rw [ex_field ho]
  simp only [ev0] at h
  split at h
  · rename_i cs hq
    rw [hq] at c1
    obtain ⟨vs, hv, hl, hc, hvs⟩ := c1.pagg_inv
    have hp : partA (cs.map .p) fd.offset n fun v => K v E.H := by
      cases n with
      | none => exact ⟨by simpa using h.1, by have := h.2; simpa [List.getD_eq_getElem?_getD, List.getElem?_eq_getElem h.1] using this⟩
      | some n => exact ⟨by simpa using h.1, by rw [← List.map_drop, ← List.map_take, mkAgg_map]; exact h.2⟩
    obtain ⟨z, v, e1, e2, e3⟩ := part_A (P := P) (E := E) hn (by simpa using hl) hc (fun i x v hx hv => by
      rw [List.getElem?_map, Option.map_eq_some_iff] at hx
      obtain ⟨q, hq, rfl⟩ := hx
      exact hvs i q v hq hv) hp
    rw [hv]
    simp only [Instr.field, Sem.run_bind, run_underlying ht, Result.andThen_ok, hf, asAgg, Sem.run_pure, e1]
    exact .same hS e2 e3
  · rename_i cs hq
    rw [hq] at c1
    obtain ⟨vs, hv, hl, hc, hvs⟩ := c1.agg_inv
    obtain ⟨z, v, e1, e2, e3⟩ := part_A (P := P) (E := E) hn hl hc hvs h
    rw [hv]
    simp only [Instr.field, Sem.run_bind, run_underlying ht, Result.andThen_ok, hf, asAgg, Sem.run_pure, e1]
    exact .same hS e2 e3
  · exact h.elim

theorem s_idx {t e : TypeId} {len sz : Nat} {n : Option Nat} {x y : Operand} {x' y' : Opd} (ho : o.op = .index t x y) (ht : P.underlying t = some (.array len e)) (hsz : sizeT P e = some sz)
    (hn : layT P e = some n) (hx : trO x = some x') (hy : trO y = some y') (h : ev0 G (FCall P G) (.idx len sz n x' y') D E.H K) : RunsTo P G E K ((execOp a.eval o).run P E.w) := by
  have c1 := get_conc hS hT hx
  have c2 := get_conc hS hT hy
  rw [ex_index ho]
  obtain ⟨k, j, _, hv, h⟩ := asI_inv c2 h
  rw [hv]
  split at h
  · rename_i cs hq
    rw [hq] at c1
    obtain ⟨vs, hv, hl, hc, hvs⟩ := c1.pagg_inv
    obtain ⟨hj, h⟩ := h
    have hp : partA (cs.map .p) (j.toNat * sz) n fun v => K v E.H := by
      cases n with
      | none => exact ⟨by simpa using h.1, by have := h.2; simpa [List.getD_eq_getElem?_getD, List.getElem?_eq_getElem h.1] using this⟩
      | some n => exact ⟨by simpa using h.1, by rw [← List.map_drop, ← List.map_take, mkAgg_map]; exact h.2⟩
    obtain ⟨z, v, e1, e2, e3⟩ := part_A (P := P) (E := E) hn (by simpa using hl) hc (fun i x v hx hv => by
      rw [List.getElem?_map, Option.map_eq_some_iff] at hx
      obtain ⟨q, hq, rfl⟩ := hx
      exact hvs i q v hq hv) hp
    rw [hv]
    simp only [Instr.index, asIntOf, pure_bind, Sem.run_bind, run_underlying ht, Result.andThen_ok, hj.1, hj.2, and_self, if_true, run_sizeT hsz, e1, Sem.run_pure]
    exact .same hS e2 e3
  · rename_i cs hq
    rw [hq] at c1
    obtain ⟨vs, hv, hl, hc, hvs⟩ := c1.agg_inv
    obtain ⟨hj, h⟩ := h
    obtain ⟨z, v, e1, e2, e3⟩ := part_A (P := P) (E := E) hn hl hc hvs h
    rw [hv]
    simp only [Instr.index, asIntOf, pure_bind, Sem.run_bind, run_underlying ht, Result.andThen_ok, hj.1, hj.2, and_self, if_true, run_sizeT hsz, e1, Sem.run_pure]
    exact .same hS e2 e3
  · exact h.elim

theorem s_len {c : Call} {t e : TypeId} {x : Operand} {x' : Opd} (ho : o.op = .call c) (hb : c.callee = .builtin .len) (ha : c.args.toList = [x]) (hts : c.argTypes.toList = [t])
    (ht : P.underlying t = some (.slice e)) (hx : trO x = some x') (h : ev0 G (FCall P G) (.len x') D E.H K) : RunsTo P G E K ((execOp a.eval o).run P E.w) := by
  have c1 := get_conc hS hT hx
  have hargs : c.args = #[x] := by rw [← ha]
  have htys : c.argTypes = #[t] := by rw [← hts]
  rw [ex_call ho]
  simp only [ev0] at h
  obtain ⟨b, n, cap, hv, h, _⟩ := lenR_inv c1 h
  simp [resolve, hb, hargs, htys, invoke, builtin, hv, Builtin.len_, run_underlying ht]
  exact .same hS .i h

theorem s_lns {c : Call} {t : TypeId} {x : Operand} {x' : Opd} (ho : o.op = .call c) (hb : c.callee = .builtin .len) (ha : c.args.toList = [x]) (hts : c.argTypes.toList = [t])
    (ht : P.underlying t = some .string) (hx : trO x = some x') (h : ev0 G (FCall P G) (.lns x') D E.H K) : RunsTo P G E K ((execOp a.eval o).run P E.w) := by
  have c1 := get_conc hS hT hx
  have hargs : c.args = #[x] := by rw [← ha]
  have htys : c.argTypes = #[t] := by rw [← hts]
  rw [ex_call ho]
  simp only [ev0] at h
  split at h
  · rename_i s hq
    rw [hq] at c1
    simp [resolve, hb, hargs, htys, invoke, builtin, c1.str_inv, Builtin.len_, run_underlying ht]
    exact .same hS .i h
  · exact h.elim

theorem s_lnc {c : Call} {t e : TypeId} {n : Nat} {x : Operand} (ho : o.op = .call c) (hb : c.callee = .builtin .len) (ha : c.args.toList = [x]) (hts : c.argTypes.toList = [t])
    (ht : P.underlying t = some (.array n e)) (h : ev0 G (FCall P G) (.mv (.c (.int .i64 n))) D E.H K) : RunsTo P G E K ((execOp a.eval o).run P E.w) := by
  have hargs : c.args = #[x] := by rw [← ha]
  have htys : c.argTypes = #[t] := by rw [← hts]
  rw [ex_call ho]
  simp [resolve, hb, hargs, htys, invoke, builtin, Builtin.len_, run_underlying ht]
  exact .same hS .i h

end
end Go.Ae
end

section
set_option linter.unusedSectionVars false
set_option linter.unusedSimpArgs false
set_option linter.unusedVariables false
namespace Go.Ae

def CellsOK (E : Env) (cs : List AV) (c : Array Value) : Prop :=
  cs.length = c.size ∧ (∀ (i : Nat) (v : Value), c[i]? = some v → IsCell v) ∧ ∀ (i : Nat) (x : AV) (v : Value), cs[i]? = some x → c[i]? = some v → Conc E x v

theorem setMany_length {α : Type} : ∀ (vs l : List α) (off : Nat), (setMany l off vs).length = l.length
  | [], _, _ => rfl
  | v :: vs, l, off => by simp [setMany, setMany_length vs]

theorem setMany_get {α : Type} : ∀ (vs l : List α) (off k : Nat), off + vs.length ≤ l.length → (setMany l off vs)[k]? = if off ≤ k ∧ k < off + vs.length then vs[k - off]? else l[k]?
  | [], l, off, k, h => by
    have : ¬ (off ≤ k ∧ k < off + ([] : List α).length) := by rintro ⟨h1, h2⟩; simp only [List.length_nil] at h2; omega
    rw [if_neg this]; rfl
  | v :: vs, l, off, k, h => by
    simp only [List.length_cons] at h
    rw [setMany, setMany_get vs _ _ _ (by simp; omega)]
    by_cases h1 : off + 1 ≤ k ∧ k < off + 1 + vs.length
    · rw [if_pos h1, if_pos (by simp; omega)]
      have : k - off = (k - (off + 1)) + 1 := by omega
      rw [this, List.getElem?_cons_succ]
    · rw [if_neg h1, List.getElem?_set]
      by_cases h2 : off = k
      · subst h2
        rw [if_pos rfl, if_pos (by omega), if_pos (by simp)]
        simp
      · rw [if_neg h2, if_neg (by simp; omega)]

theorem foldset_get (off : Nat) : ∀ (l : List Value) (s : Nat) (c : Array Value) (k : Nat), off + s + l.length ≤ c.size →
    ((l.zipIdx s).foldl (fun (cs : Array Value) p => cs.setIfInBounds (off + p.2) p.1) c)[k]? = if off + s ≤ k ∧ k < off + s + l.length then l[k - (off + s)]? else c[k]?
  | [], s, c, k, h => by
    have : ¬ (off + s ≤ k ∧ k < off + s + ([] : List Value).length) := by rintro ⟨h1, h2⟩; simp only [List.length_nil] at h2; omega
    rw [if_neg this]; rfl
  | v :: l, s, c, k, h => by
    simp only [List.length_cons] at h
    rw [List.zipIdx_cons, List.foldl_cons, foldset_get off l (s + 1) _ k (by simp; omega)]
    by_cases h1 : off + (s + 1) ≤ k ∧ k < off + (s + 1) + l.length
    · rw [if_pos h1, if_pos (by simp; omega)]
      have : k - (off + s) = (k - (off + (s + 1))) + 1 := by omega
      rw [this, List.getElem?_cons_succ]
    · rw [if_neg h1, Array.getElem?_setIfInBounds]
      by_cases h2 : off + s = k
      · subst h2
        rw [if_pos rfl, if_pos (by omega), if_pos (by simp)]
        simp
      · rw [if_neg h2, if_neg (by simp; omega)]

theorem foldset_size (off : Nat) : ∀ (l : List Value) (s : Nat) (c : Array Value), ((l.zipIdx s).foldl (fun (cs : Array Value) p => cs.setIfInBounds (off + p.2) p.1) c).size = c.size
  | [], _, _ => rfl
  | v :: l, s, c => by rw [List.zipIdx_cons, List.foldl_cons, foldset_size off l]; simp

theorem Conc.cellsOK {E : Env} {x : AV} {v : Value} (h : Conc E x v) {n : Nat} (hf : x.fits n = true) : CellsOK E x.cells v.cells ∧ v.cells.size = n := by
  obtain ⟨h1, h2, h3⟩ := h.cells hf
  exact ⟨⟨by rw [AV.fits_cells hf, h1], h3, h2⟩, h1⟩

theorem CellsOK.put {E : Env} {cs xs : List AV} {c vs : Array Value} {off : Nat} (h : CellsOK E cs c) (hx : CellsOK E xs vs) (ho : off + xs.length ≤ cs.length) {r : Array Value} (hr : r.size = c.size)
    (hg : ∀ k, r[k]? = if off ≤ k ∧ k < off + vs.size then vs[k - off]? else c[k]?) : CellsOK E (setMany cs off xs) r := by
  refine ⟨by rw [setMany_length, hr, h.1], fun k v hv => ?_, fun k x v hxk hv => ?_⟩
  · rw [hg k] at hv
    split at hv
    · exact hx.2.1 _ _ hv
    · exact h.2.1 _ _ hv
  · rw [hg k] at hv
    rw [setMany_get _ _ _ _ ho, hx.1] at hxk
    split at hv
    · rename_i hk
      rw [if_pos hk] at hxk
      exact hx.2.2 _ _ _ hxk hv
    · rename_i hk
      rw [if_neg hk] at hxk
      exact h.2.2 _ _ _ hxk hv

theorem CellsOK.fold {E : Env} {cs xs : List AV} {c vs : Array Value} {off : Nat} (h : CellsOK E cs c) (hx : CellsOK E xs vs) (ho : off + xs.length ≤ cs.length) :
    CellsOK E (setMany cs off xs) (vs.zipIdx.foldl (fun cs (c, j) => cs.setIfInBounds (off + j) c) c) := by
  have e : vs.zipIdx.foldl (fun cs (c, j) => cs.setIfInBounds (off + j) c) c = (vs.toList.zipIdx 0).foldl (fun (cs : Array Value) p => cs.setIfInBounds (off + p.2) p.1) c := by
    rw [← Array.foldl_toList, Array.toList_zipIdx]
  have h1 := h.1
  have h2 := hx.1
  rw [e]
  refine h.put hx ho (foldset_size _ _ _ _) (fun k => ?_)
  rw [foldset_get off vs.toList 0 c k (by simp; omega)]
  simp

section
variable {P : Program} {G : Globals} {E : Env} {D : List AV} {a : Act} (hS : Sim G E) (hT : Slots E D a.tmps)
include hS hT

theorem fill_ok {place : Nat → Option (Nat × Nat)} : ∀ (parts : List (Nat × Operand)) (ps : List (Nat × Opd)) (qs : List (Nat × Nat × Opd)) (cs : List AV) (c : Array Value),
    trParts parts = some ps → trBd place ps = some qs → CellsOK E cs c → (qs.all fun p => (get G D p.2.2).fits p.2.1 && decide (p.1 + p.2.1 ≤ cs.length)) = true →
    ∃ r, Instr.fill place c (parts.map fun p => (p.1, a.eval p.2)) = some r ∧ CellsOK E (qs.foldl (fun cs p => setMany cs p.1 (get G D p.2.2).cells) cs) r
  | [], ps, qs, cs, c, h1, h2, hc, _ => by
    cases h1
    cases h2
    exact ⟨c, rfl, hc⟩
  | (i, x) :: r, ps, qs, cs, c, h1, h2, hc, hall => by
    simp only [trParts] at h1
    split at h1
    · rename_i y l hy hl
      cases h1
      simp only [trBd] at h2
      split at h2
      · rename_i off n l' hp hl'
        cases h2
        simp only [List.all_cons, Bool.and_eq_true, decide_eq_true_eq] at hall
        obtain ⟨⟨hf, ho⟩, hall⟩ := hall
        obtain ⟨hx, hn⟩ := (get_conc hS hT hy).cellsOK hf
        have hlen : (get G D y).cells.length = n := AV.fits_cells hf
        have hc' := hc.fold hx (off := off) (by omega)
        obtain ⟨q, hq, hqc⟩ := fill_ok r l l' _ _ hl hl' hc' (by
          rw [List.all_eq_true] at hall ⊢
          intro p hp
          have := hall p hp
          rw [setMany_length]
          exact this)
        refine ⟨q, ?_, hqc⟩
        have hcs := hc.1
        simp only [List.map_cons, Instr.fill, hp]
        rw [if_neg (by simp; omega)]
        exact hq
      · cases h2
    · cases h1

theorem s_bd {o : Oper} {K : AV → List Blk → Prop} {t : TypeId} {parts : Array (Nat × Operand)} {ps : List (Nat × Opd)} {pl : Nat → Option (Nat × Nat)} {qs : List (Nat × Nat × Opd)} {z : List PV} (ho : o.op = .build t parts)
    (hz : zeroT P t = some (.agg z)) (h1 : trParts parts.toList = some ps) (hpl : placesT P t = some pl) (h2 : trBd pl ps = some qs) (h : ev0 G (FCall P G) (.bd z qs) D E.H K) :
    RunsTo P G E K ((execOp a.eval o).run P E.w) := by
  rw [ex_build ho]
  obtain ⟨hall, h⟩ := h
  unfold zeroT at hz
  split at hz
  · rename_i it hit
    split at hz
    · rename_i zv hzv
      split at hz
      · rename_i z' hz'
        split at hz
        · cases hz
          have hzc : ∃ vs : Array Value, zv = .agg vs ∧ CellsOK E (z.map .p) vs := by
            unfold trZ at hz'
            split at hz'
            · rename_i vs
              cases hq : trVs vs.toList with
              | none => simp [hq] at hz'
              | some l =>
                simp [hq] at hz'
                subst hz'
                obtain ⟨e1, e2⟩ := trVs_conc _ _ hq
                refine ⟨vs, rfl, by simpa using e1, fun i v hv => ?_, fun i x v hx hv => ?_⟩
                · have hlt : i < l.length := by rw [e1]; have := (Array.getElem?_eq_some_iff.1 hv).1; simpa using this
                  exact (e2 E.w E.Own i l[i] v (List.getElem?_eq_getElem hlt) (by simpa using hv)).2
                · rw [List.getElem?_map, Option.map_eq_some_iff] at hx
                  obtain ⟨q, hq, rfl⟩ := hx
                  exact .p (e2 E.w E.Own i q v hq (by simpa using hv)).1
            · cases zv <;> simp [trV] at hz'
              all_goals (split at hz' <;> cases hz')
          obtain ⟨vs, rfl, hvs⟩ := hzc
          obtain ⟨r, hr, hrc⟩ := fill_ok hS hT (place := pl) parts.toList ps qs _ _ h1 h2 hvs (by simpa using hall)
          have hb : P.built t (parts.map fun (i, x) => (i, a.eval x)).toList = some r := by
            rw [Array.toList_map]
            unfold placesT at hpl
            unfold Program.built
            split at hpl
            · rename_i fs hu
              split at hpl
              · rename_i places hm
                cases hpl
                simp only [hit, hu, hzv, hm]
                exact hr
              · cases hpl
            · rename_i n e hu
              rw [Option.map_eq_some_iff] at hpl
              obtain ⟨ie, hie, rfl⟩ := hpl
              simp only [hit, hu, hzv, hie]
              exact hr
            · cases hpl
          simp only [Sem.run_bind, run_build E.w t _ r hb, Result.andThen_ok, Sem.run_pure]
          exact .same hS (Conc.mkAgg_cells hrc.1 hrc.2.1 hrc.2.2) h
        · cases hz
      · cases hz
    · cases hz
  · cases hz

end
end Go.Ae
end

section
set_option linter.unusedSectionVars false
set_option linter.unusedSimpArgs false
set_option linter.unusedVariables false
namespace Go.Ae

def flat (es : List AV) : List AV := es.flatMap AV.cells

@[simp] theorem flat_nil : flat [] = [] := rfl
@[simp] theorem flat_cons (e : AV) (r : List AV) : flat (e :: r) = e.cells ++ flat r := rfl
@[simp] theorem flat_append (a b : List AV) : flat (a ++ b) = flat a ++ flat b := by simp [flat]

def Uni (sz : Nat) (es : List AV) : Prop := ∀ e ∈ es, e.cells.length = sz

theorem flat_length {sz : Nat} : ∀ {es : List AV}, Uni sz es → (flat es).length = es.length * sz
  | [], _ => by simp
  | e :: r, h => by
    have h1 := h e (by simp)
    have h2 := flat_length (es := r) (fun x hx => h x (by simp [hx]))
    simp [h1, h2, Nat.add_mul, Nat.add_comm]

theorem flat_get {sz : Nat} : ∀ {es : List AV}, Uni sz es → ∀ (k j : Nat) (e : AV), es[k]? = some e → j < sz → (flat es)[k * sz + j]? = e.cells[j]?
  | [], _, k, j, e, he, _ => by simp at he
  | e0 :: r, h, k, j, e, he, hj => by
    have h1 := h e0 (by simp)
    have h2 : Uni sz r := fun x hx => h x (by simp [hx])
    cases k with
    | zero =>
      simp at he
      subst he
      rw [flat_cons, Nat.zero_mul, Nat.zero_add, List.getElem?_append_left (by omega)]
    | succ k =>
      simp at he
      have e1 : (k + 1) * sz + j = sz + (k * sz + j) := by rw [Nat.add_mul]; omega
      rw [flat_cons, e1, List.getElem?_append_right (by omega), h1, Nat.add_sub_cancel_left]
      exact flat_get h2 k j e he hj

theorem flat_set {sz : Nat} : ∀ {es : List AV}, Uni sz es → ∀ (i : Nat) (x : AV), i < es.length → x.cells.length = sz → setMany (flat es) (i * sz) x.cells = flat (es.set i x)
  | [], _, i, x, hi, _ => by simp at hi
  | e0 :: r, h, i, x, hi, hx => by
    have h1 := h e0 (by simp)
    have h2 : Uni sz r := fun x hx => h x (by simp [hx])
    have hl := flat_length h2
    apply List.ext_getElem?
    intro k
    have hb : i * sz + x.cells.length ≤ (flat (e0 :: r)).length := by
      have hl' := flat_length h
      rw [hl', hx]
      simp only [List.length_cons] at hi ⊢
      have : (i + 1) * sz ≤ (r.length + 1) * sz := Nat.mul_le_mul_right _ (by omega)
      rw [Nat.add_mul] at this
      omega
    rw [setMany_get _ _ _ _ hb]
    cases i with
    | zero =>
      simp only [List.set_cons_zero, flat_cons, Nat.zero_mul, Nat.zero_le, true_and, Nat.zero_add, Nat.sub_zero, hx]
      by_cases hk : k < sz
      · rw [if_pos hk, List.getElem?_append_left (by omega)]
      · rw [if_neg hk, List.getElem?_append_right (by omega), List.getElem?_append_right (by omega), h1, hx]
    | succ i =>
      simp only [List.length_cons] at hi
      rw [List.set_cons_succ, flat_cons, flat_cons, ← flat_set h2 i x (by omega) hx]
      by_cases hk : k < sz
      · rw [List.getElem?_append_left (by omega), List.getElem?_append_left (by omega), if_neg (by rw [Nat.add_mul]; omega)]
      · have hb2 : i * sz + x.cells.length ≤ (flat r).length := by
          rw [hl, hx]
          have : (i + 1) * sz ≤ r.length * sz := Nat.mul_le_mul_right _ (by omega)
          rw [Nat.add_mul] at this
          omega
        rw [List.getElem?_append_right (by omega), List.getElem?_append_right (by omega), setMany_get _ _ _ _ hb2, h1]
        have e1 : (i + 1) * sz = i * sz + sz := by rw [Nat.add_mul]; omega
        rw [e1]
        by_cases hq : i * sz + sz ≤ k ∧ k < i * sz + sz + x.cells.length
        · rw [if_pos hq, if_pos (by omega)]
          congr 1
          omega
        · rw [if_neg hq, if_neg (by omega)]

def PreOK (E : Env) (cs : List AV) (c : Array Value) : Prop := ∀ (j : Nat) (x : AV), cs[j]? = some x → ∃ v, c[j]? = some v ∧ IsCell v ∧ Conc E x v

theorem CellsOK.pre {E : Env} {cs : List AV} {c : Array Value} (h : CellsOK E cs c) : PreOK E cs c := by
  intro j x hx
  have hj : j < c.size := by rw [← h.1]; exact (List.getElem?_eq_some_iff.1 hx).1
  have hv : c[j]? = some c[j] := Array.getElem?_eq_getElem hj
  exact ⟨c[j], hv, h.2.1 _ _ hv, h.2.2 _ _ _ hx hv⟩

theorem PreOK.row {E : Env} {sz : Nat} {es : List AV} {c : Array Value} (hu : Uni sz es) (h : PreOK E (flat es) c) :
    ∀ (k : Nat) (e : AV), es[k]? = some e → e.cells.length = sz ∧ ∀ (j : Nat) (x : AV), e.cells[j]? = some x → ∃ v, c[k * sz + j]? = some v ∧ IsCell v ∧ Conc E x v := by
  intro k e he
  have hs : e.cells.length = sz := hu e (List.mem_of_getElem? he)
  refine ⟨hs, fun j x hx => h _ x ?_⟩
  have hj : j < sz := by rw [← hs]; exact (List.getElem?_eq_some_iff.1 hx).1
  rw [flat_get hu k j e he hj, hx]

theorem row_pre {E : Env} {sz : Nat} {es : List AV} {c : Array Value} (h : ∀ (k : Nat) (e : AV), es[k]? = some e → e.cells.length = sz ∧ ∀ (j : Nat) (x : AV), e.cells[j]? = some x → ∃ v, c[k * sz + j]? = some v ∧ IsCell v ∧ Conc E x v) :
    Uni sz es ∧ PreOK E (flat es) c := by
  have hu : Uni sz es := by
    intro e he
    obtain ⟨k, hk, rfl⟩ := List.mem_iff_getElem.1 he
    exact (h k _ (List.getElem?_eq_getElem hk)).1
  refine ⟨hu, fun q x hq => ?_⟩
  have hlt := (List.getElem?_eq_some_iff.1 hq).1
  rw [flat_length hu] at hlt
  have hs0 : 0 < sz := by
    rcases Nat.eq_zero_or_pos sz with h0 | h0
    · subst h0; simp at hlt
    · exact h0
  have hk : q / sz < es.length := Nat.div_lt_of_lt_mul (by rw [Nat.mul_comm]; exact hlt)
  have hj : q % sz < sz := Nat.mod_lt _ hs0
  have hqe : q / sz * sz + q % sz = q := by rw [Nat.mul_comm]; exact Nat.div_add_mod q sz
  have he := List.getElem?_eq_getElem hk
  have := flat_get hu (q / sz) (q % sz) _ he hj
  rw [hqe, hq] at this
  obtain ⟨v, h1, h2⟩ := (h _ _ he).2 _ _ this.symm
  exact ⟨v, by rw [hqe] at h1; exact h1, h2⟩

theorem new_block {G : Globals} {E : Env} (hS : Sim G E) {w' : World} {b : Blk} {k : Nat} {c : Array Value} {T : TypeId} (hk : E.w.heap.size ≤ k) (hsz : E.w.heap.size ≤ w'.heap.size) (hkp : w'.os = E.w.os ∧ w'.output = E.w.output)
    (hold : ∀ j, j < E.w.heap.size → w'.heap[j]? = E.w.heap[j]?) (hnew : w'.heap[k]? = some (.cells c T (0, 0)))
    (hb : (∃ cs, b = .box cs ∧ PreOK E cs c) ∨ ∃ sz es, b = .row sz es ∧ Uni sz es ∧ PreOK E (flat es) c) :
    ∃ E', E'.w = w' ∧ E'.H = E.H ++ [b] ∧ E'.ι E.H.length = k ∧ Le E E' ∧ Sim G E' := by
  refine ⟨⟨w', updι E.ι E.H.length k, E.H ++ [b], E.X⟩, rfl, rfl, by simp [updι], ?_⟩
  have u : Upd E ⟨w', updι E.ι E.H.length k, E.H ++ [b], E.X⟩ E.H.length b := {
    keep := hkp
    hl := Nat.le_refl _
    hlen := by simp
    hH := fun j => by
      by_cases hj : j = E.H.length
      · subst hj; simp
      · rw [if_neg hj]
        rcases Nat.lt_or_ge j E.H.length with h | h
        · exact List.getElem?_append_left h
        · rw [List.getElem?_eq_none h, List.getElem?_eq_none (by simp; omega)]
    hι := fun j hj => by simp [updι, hj]
    size := hsz
    hw := fun j hj _ => hold j hj
    hext := rfl
    hown := fun j ⟨hj, _⟩ => .inl (by simp [updι] at hj; omega)
    kbox := fun _ h => by omega
    krow := fun _ _ h => by omega }
  refine ⟨u.le hS, u.sim hS (fun cs hcs => ?_) (fun sz es hes hne => ?_)⟩
  · rcases hb with ⟨cs', rfl, hp⟩ | ⟨_, _, rfl, _⟩
    · cases hcs
      exact ⟨c, T, by simp only [updι, if_true]; exact hnew, hp⟩
    · cases hcs
  · rcases hb with ⟨_, rfl, _⟩ | ⟨sz', es', rfl, hu, hp⟩
    · cases hes
    · cases hes
      exact ⟨c, T, by simp only [updι, if_true]; exact hnew, PreOK.row hu hp⟩

theorem push_old (w : World) (o : Obj) {j : Nat} (h : j < w.heap.size) : ({ w with heap := w.heap.push o } : World).heap[j]? = w.heap[j]? := by
  simp [Array.getElem?_push, Nat.ne_of_lt h]

theorem push_new (w : World) (o : Obj) : ({ w with heap := w.heap.push o } : World).heap[w.heap.size]? = some o := by
  simp

section
variable {P : Program} {G : Globals} {E : Env} {D : List AV} {a : Act} {o : Oper} {K : AV → List Blk → Prop} (hS : Sim G E) (hT : Slots E D a.tmps)
include hS

theorem zeroT_ok {t : TypeId} {z : PV} (h : zeroT P t = some z) : ∃ i v, P.info? t = some i ∧ i.zero = some v ∧ i.size = z.cells.length ∧ CellsOK E (z.cells.map .p) v.cells := by
  unfold zeroT at h
  split at h
  · rename_i i hi
    split at h
    · rename_i v hv
      split at h
      · rename_i z' hz'
        split at h
        · rename_i hl
          cases h
          refine ⟨i, v, hi, hv, hl.symm, ?_⟩
          have hc : Conc E (.p z) v := .p (trZ_conc hz')
          rw [← AV.cells_p]
          cases z with
          | agg cs => exact (hc.cellsOK (n := cs.length) (by simp [AV.fits])).1
          | _ => exact (hc.cellsOK (n := 1) rfl).1
        · cases h
      · cases h
    · cases h
  · cases h

theorem s_alloc {t : TypeId} {z : PV} (ho : o.op = .alloc t) (hz : zeroT P t = some z) (h : ev0 G (FCall P G) (.alloc z) D E.H K) : RunsTo P G E K ((execOp a.eval o).run P E.w) := by
  obtain ⟨i, v, hi, hv, hsz, hc⟩ := zeroT_ok (P := P) hS hz
  rw [ex_alloc ho]
  have hr : (Instr.alloc t true (.tuple #[])).run P E.w = .ok (.pointer (some ⟨E.w.heap.size, 0, none⟩)) { E.w with heap := E.w.heap.push (.cells v.cells t) } := by
    simp [Instr.alloc, zeroValue, typeInfo, hi, hv, newVar, newRow]
  simp only [Sem.run_bind, hr, Result.andThen_ok, Sem.run_pure]
  obtain ⟨E', e1, e2, e3, e4, e5⟩ := new_block hS (w' := { E.w with heap := E.w.heap.push (.cells v.cells t) }) (b := .box (z.cells.map .p)) (Nat.le_refl _) (by simp) ⟨rfl, rfl⟩ (fun j hj => push_old _ _ hj) (push_new _ _)
    (.inl ⟨_, rfl, hc.pre⟩)
  refine ⟨E', _, e1, e4, e5, ?_, by rw [e2]; exact h⟩
  have := Conc.ptr (E := E') (loc := E.H.length) (off := 0) (cs := z.cells.map .p) (by rw [e2]; simp)
  rw [e3] at this
  exact this

include hT

theorem s_box {t : TypeId} {n : Nat} {x : Operand} {x' : Opd} (ho : o.op = .box t x) (hx : trO x = some x') (h : ev0 G (FCall P G) (.box x') D E.H K) :
    RunsTo P G E K ((execOp a.eval o).run P E.w) := by
  have c1 := get_conc hS hT hx
  rw [ex_box ho]
  obtain ⟨hf, h⟩ := h
  obtain ⟨hc, _⟩ := c1.cellsOK hf
  simp only [Instr.box, newVar, newRow, Sem.run_bind, run_newObj, Result.andThen_ok, Sem.run_pure]
  obtain ⟨E', e1, e2, e3, e4, e5⟩ := new_block hS (w' := { E.w with heap := E.w.heap.push (.cells (a.eval x).cells t) }) (b := .box (get G D x').cells) (Nat.le_refl _) (by simp) ⟨rfl, rfl⟩ (fun j hj => push_old _ _ hj) (push_new _ _)
    (.inl ⟨_, rfl, hc.pre⟩)
  refine ⟨E', _, e1, e4, e5, ?_, by rw [e2]; exact h⟩
  have := Conc.ptr (E := E') (loc := E.H.length) (off := 0) (cs := (get G D x').cells) (by rw [e2]; simp)
  rw [e3] at this
  exact this

end
end Go.Ae
end

section
set_option linter.unusedSectionVars false
set_option linter.unusedSimpArgs false
set_option linter.unusedVariables false
namespace Go.Ae

theorem uni_replicate (n : Nat) (z : PV) : Uni z.cells.length (List.replicate n (.p z)) := by
  intro e he
  rw [(List.mem_replicate.1 he).2, AV.cells_p, List.length_map]

theorem flat_div {sz : Nat} {es : List AV} (hu : Uni sz es) (h0 : 0 < sz) (q : Nat) (hq : q < es.length * sz) : (flat es)[q]? = (es[q / sz]?).bind fun e => e.cells[q % sz]? := by
  have hk : q / sz < es.length := Nat.div_lt_of_lt_mul (by rw [Nat.mul_comm]; exact hq)
  have hj : q % sz < sz := Nat.mod_lt _ h0
  have hqe : q / sz * sz + q % sz = q := by rw [Nat.mul_comm]; exact Nat.div_add_mod q sz
  have := flat_get hu (q / sz) (q % sz) _ (List.getElem?_eq_getElem hk) hj
  rw [hqe] at this
  rw [this, List.getElem?_eq_getElem hk]
  rfl

theorem made_ok {E : Env} {z : PV} {zc : Array Value} {sz : Nat} (h : CellsOK E (z.cells.map .p) zc) (hsz : z.cells.length = sz) (h0 : 0 < sz) (n : Nat) :
    CellsOK E (flat (List.replicate n (.p z))) (madeCells zc (n * sz)) := by
  have hu := uni_replicate n z
  rw [hsz] at hu
  have hlen := flat_length hu
  rw [List.length_replicate] at hlen
  have hzs : zc.size = sz := by rw [← h.1, List.length_map, hsz]
  have hget : ∀ (q : Nat) (v : Value), (madeCells zc (n * sz))[q]? = some v → q < n * sz ∧ zc[q % sz]? = some v := by
    intro q v hv
    have hq : q < n * sz := by have := (Array.getElem?_eq_some_iff.1 hv).1; simpa [madeCells] using this
    refine ⟨hq, ?_⟩
    have hm : q % sz < zc.size := by rw [hzs]; exact Nat.mod_lt _ h0
    simp only [madeCells, Array.getElem?_map, Option.map_eq_some_iff] at hv
    obtain ⟨k, hk, rfl⟩ := hv
    obtain ⟨hk1, hk2⟩ := Array.getElem?_eq_some_iff.1 hk
    simp at hk2
    subst hk2
    rw [hzs, getElem!_pos zc _ hm]
    exact Array.getElem?_eq_getElem hm
  refine ⟨by rw [hlen]; simp [madeCells], fun q v hv => ?_, fun q x v hx hv => ?_⟩
  · exact h.2.1 _ _ (hget q v hv).2
  · obtain ⟨hq, hv'⟩ := hget q v hv
    rw [flat_div hu h0 q (by simpa using hq)] at hx
    have hk : q / sz < n := Nat.div_lt_of_lt_mul (by rw [Nat.mul_comm]; exact hq)
    rw [List.getElem?_replicate, if_pos hk] at hx
    simp only [Option.bind_some, AV.cells_p] at hx
    exact h.2.2 _ _ _ hx hv'

theorem whole_row {E' : Env} {loc sz : Nat} {es : List AV} {c : Array Value} {T : TypeId} {fr : Nat × Nat} {cap : Nat} (hH : E'.H[loc]? = some (.row sz es)) (hw : E'.w.heap[E'.ι loc]? = some (.cells c T fr))
    (hcap : es.length ≤ cap) (h0 : es = [] → cap = 0) (hc : cap * sz ≤ c.size) : Conc E' (.ow loc 0 es.length) (.slice (some ⟨E'.ι loc, 0, none⟩) es.length cap) := by
  by_cases hne : es = []
  · have := h0 hne
    subst hne
    subst this
    exact .owE hH
  · have hl : 0 < es.length := List.length_pos_iff.2 hne
    have := Conc.ow (E := E') (off := 0) (len := es.length) (cap := cap) hH (by omega) hl hcap hw (by simpa using hc)
    rwa [Nat.zero_mul] at this

section
variable {P : Program} {G : Globals} {E : Env} {D : List AV} {a : Act} {o : Oper} {K : AV → List Blk → Prop} (hS : Sim G E) (hT : Slots E D a.tmps)

theorem elemT_ok {t e : TypeId} {sz b : Nat} (h : elemT P t = some (e, sz, b)) : P.underlying t = some (.slice e) ∧ ∃ i, P.info? e = some i ∧ i.size = sz ∧ i.bytes = b ∧ 0 < sz := by
  unfold elemT at h
  split at h
  · rename_i e' hu
    split at h
    · rename_i i hi
      split at h
      · rename_i h0
        cases h
        exact ⟨hu, i, hi, rfl, rfl, h0⟩
      · cases h
    · cases h
  · cases h

include hS hT

theorem s_mks {t e : TypeId} {sz b : Nat} {z : PV} {x y : Operand} {x' y' : Opd} (ho : o.op = .makeSlice t x y) (ht : elemT P t = some (e, sz, b)) (hz : zeroT P e = some z) (hx : trO x = some x') (hy : trO y = some y')
    (h : ev0 G (FCall P G) (.mks sz z b x' y') D E.H K) : RunsTo P G E K ((execOp a.eval o).run P E.w) := by
  obtain ⟨hu, i, hi, rfl, rfl, h0⟩ := elemT_ok ht
  obtain ⟨i', v, hi', hv, hsz, hc⟩ := zeroT_ok (P := P) hS hz
  rw [hi] at hi'
  cases hi'
  rw [ex_makeSlice ho]
  obtain ⟨k, n, _, hn, h⟩ := asI_inv (get_conc hS hT hx) h
  obtain ⟨k', m, _, hm, h⟩ := asI_inv (get_conc hS hT hy) h
  obtain ⟨⟨rfl, hn0, hb, hn1⟩, h⟩ := h
  have hb' : (i.bytes : Int) * m ≤ 281474976710656 := by rw [Int.mul_comm]; omega
  have hr := run_make (P := P) E.w t e i v hu hi hv k k' m m hn0 (Int.le_refl _) hb' (by omega)
  rw [hn, hm]
  simp only [Sem.run_bind, hr, Result.andThen_ok, Sem.run_pure]
  have hok := made_ok hc hsz.symm h0 m.toNat
  have hun := uni_replicate m.toNat z
  rw [← hsz] at hun
  obtain ⟨E', e1, e2, e3, e4, e5⟩ := new_block hS (w' := E.w.alloc (.cells (madeCells v.cells (m.toNat * i.size)) e)) (b := .row i.size (List.replicate m.toNat (.p z))) (Nat.le_refl _) (by simp) ⟨rfl, rfl⟩
    (fun j hj => push_old _ _ hj) (push_new _ _) (.inr ⟨_, _, rfl, hun, hok.pre⟩)
  refine ⟨E', _, e1, e4, e5, ?_, by rw [e2]; exact h⟩
  have hH : E'.H[E.H.length]? = some (.row i.size (List.replicate m.toNat (.p z))) := by rw [e2]; simp
  have hw : E'.w.heap[E'.ι E.H.length]? = some (.cells (madeCells v.cells (m.toNat * i.size)) e (0, 0)) := by rw [e1, e3]; exact push_new _ _
  have := whole_row hH hw (cap := m.toNat) (by simp) (by intro hh; have := congrArg List.length hh; simpa using this) (by simp [madeCells])
  rw [e3, List.length_replicate] at this
  exact this

theorem fill_row {sz : Nat} (h0 : 0 < sz) : ∀ (parts : List (Nat × Operand)) (ps : List (Nat × Opd)) (es : List AV) (c : Array Value),
    trParts parts = some ps → Uni sz es → CellsOK E (flat es) c → (ps.all fun p => (get G D p.2).fits sz && decide (p.1 < es.length)) = true →
    ∃ r, Instr.fill (fun i => some (i * sz, sz)) c (parts.map fun p => (p.1, a.eval p.2)) = some r ∧ Uni sz (ps.foldl (fun es p => es.set p.1 (get G D p.2)) es) ∧
      (ps.foldl (fun es p => es.set p.1 (get G D p.2)) es).length = es.length ∧ CellsOK E (flat (ps.foldl (fun es p => es.set p.1 (get G D p.2)) es)) r
  | [], ps, es, c, h1, hu, hc, _ => by
    cases h1
    exact ⟨c, rfl, hu, rfl, hc⟩
  | (i, x) :: r, ps, es, c, h1, hu, hc, hall => by
    simp only [trParts] at h1
    split at h1
    · rename_i y l hy hl
      cases h1
      simp only [List.all_cons, Bool.and_eq_true, decide_eq_true_eq] at hall
      obtain ⟨⟨hf, hi⟩, hall⟩ := hall
      obtain ⟨hx, hn⟩ := (get_conc hS hT hy).cellsOK hf
      have hlen : (get G D y).cells.length = sz := AV.fits_cells hf
      have hfl := flat_length hu
      have hb : i * sz + sz ≤ es.length * sz := by
        have : (i + 1) * sz ≤ es.length * sz := Nat.mul_le_mul_right _ (by omega)
        rw [Nat.add_mul] at this
        omega
      have hc' := hc.fold hx (off := i * sz) (by omega)
      rw [flat_set hu i _ hi hlen] at hc'
      have hu' : Uni sz (es.set i (get G D y)) := by
        intro e he
        rcases List.mem_or_eq_of_mem_set he with he | rfl
        · exact hu e he
        · exact hlen
      obtain ⟨q, hq, h2, h3, h4⟩ := fill_row h0 r l _ _ hl hu' hc' (by
        rw [List.all_eq_true] at hall ⊢
        intro p hp
        have := hall p hp
        rw [List.length_set]
        exact this)
      refine ⟨q, ?_, h2, by rw [List.foldl_cons, h3, List.length_set], h4⟩
      have hcs := hc.1
      simp only [List.map_cons, Instr.fill]
      rw [if_neg (by simp; omega)]
      exact hq
    · cases h1

theorem s_bsl {t e : TypeId} {sz b n : Nat} {z : PV} {parts : Array (Nat × Operand)} {ps : List (Nat × Opd)} (ho : o.op = .buildSlice t n parts) (ht : elemT P t = some (e, sz, b)) (hz : zeroT P e = some z)
    (h1 : trParts parts.toList = some ps) (hn : n * sz ≤ 1048576) (h : ev0 G (FCall P G) (.bsl sz z n ps) D E.H K) : RunsTo P G E K ((execOp a.eval o).run P E.w) := by
  obtain ⟨hu, i, hi, rfl, rfl, h0⟩ := elemT_ok ht
  obtain ⟨i', v, hi', hv, hsz, hc⟩ := zeroT_ok (P := P) hS hz
  rw [hi] at hi'
  cases hi'
  rw [ex_buildSlice ho]
  obtain ⟨hall, h⟩ := h
  have hok := made_ok hc hsz.symm h0 n
  have hun := uni_replicate n z
  rw [← hsz] at hun
  obtain ⟨r, hr, hru, hrl, hrc⟩ := fill_row hS hT h0 parts.toList ps _ _ h1 hun hok (by simpa using hall)
  rw [List.length_replicate] at hrl
  have hrun : (Instr.buildSlice t n (parts.map fun (i, x) => (i, a.eval x))).run P E.w = .ok (.slice (some ⟨E.w.heap.size, 0, none⟩) n n) (E.w.alloc (.cells r e)) := by
    have hgt : ¬ (n * i.size > 2 ^ 24) := by omega
    by_cases hz0 : n * i.size = 0
    · have hr' : Instr.fill (fun k => some (k * i.size, i.size)) #[] (parts.toList.map fun p => (p.1, a.eval p.2)) = some r := by
        have : madeCells v.cells (n * i.size) = #[] := by rw [hz0]; simp [madeCells, Array.range_zero']
        rw [this] at hr
        exact hr
      simp [Instr.buildSlice, run_underlying hu, sizeOf, typeInfo, hi, hz0, Array.range_zero', hr', newRow]
    · have hr' : Instr.fill (fun k => some (k * i.size, i.size)) (madeCells v.cells (n * i.size)) (parts.toList.map fun p => (p.1, a.eval p.2)) = some r := hr
      simp only [madeCells] at hr'
      simp [Instr.buildSlice, run_underlying hu, sizeOf, typeInfo, hi, hgt, hz0, zeroValue, hv, hr', newRow]
  simp only [Sem.run_bind, hrun, Result.andThen_ok, Sem.run_pure]
  obtain ⟨E', e1, e2, e3, e4, e5⟩ := new_block hS (w' := E.w.alloc (.cells r e)) (b := .row i.size (ps.foldl (fun es p => es.set p.1 (get G D p.2)) (List.replicate n (.p z)))) (Nat.le_refl _) (by simp) ⟨rfl, rfl⟩
    (fun j hj => push_old _ _ hj) (push_new _ _) (.inr ⟨_, _, rfl, hru, hrc.pre⟩)
  refine ⟨E', _, e1, e4, e5, ?_, by rw [e2]; exact h⟩
  have hH : E'.H[E.H.length]? = some (.row i.size (ps.foldl (fun es p => es.set p.1 (get G D p.2)) (List.replicate n (.p z)))) := by rw [e2]; simp
  have hw : E'.w.heap[E'.ι E.H.length]? = some (.cells r e (0, 0)) := by rw [e1, e3]; exact push_new _ _
  have hrs : r.size = n * i.size := by rw [← hrc.1, flat_length hru, hrl]
  have := whole_row hH hw (cap := n) (by omega) (by intro hh; rw [hh] at hrl; simpa using hrl.symm) (by omega)
  rw [e3, hrl] at this
  exact this

end
end Go.Ae
end

section
set_option linter.unusedSectionVars false
set_option linter.unusedSimpArgs false
set_option linter.unusedVariables false
namespace Go.Ae

theorem putArr_get (cur : Array Value) (o : Nat) (vs : List Value) (h : o + vs.length ≤ cur.size) (k : Nat) :
    ((cur.toList.take o ++ vs ++ cur.toList.drop (o + vs.length)).toArray)[k]? = if o ≤ k ∧ k < o + vs.length then vs[k - o]? else cur[k]? := by
  rw [List.getElem?_toArray]
  have ht : (cur.toList.take o).length = o := by simp; omega
  by_cases h1 : k < o
  · rw [List.append_assoc, List.getElem?_append_left (by omega), if_neg (by omega), List.getElem?_take, if_pos h1, Array.getElem?_toList]
  · rw [List.append_assoc, List.getElem?_append_right (by omega), ht]
    by_cases h2 : k < o + vs.length
    · rw [List.getElem?_append_left (by omega), if_pos (by omega)]
    · rw [List.getElem?_append_right (by omega), if_neg (by omega), List.getElem?_drop, Array.getElem?_toList]
      congr 1
      omega

theorem putArr_size (cur : Array Value) (o : Nat) (vs : List Value) (h : o + vs.length ≤ cur.size) : (cur.toList.take o ++ vs ++ cur.toList.drop (o + vs.length)).toArray.size = cur.size := by
  simp
  omega

theorem PreOK.put {E : Env} {cs xs : List AV} {cur vs : Array Value} {off : Nat} (h : PreOK E cs cur) (hx : CellsOK E xs vs) (ho : off + xs.length ≤ cs.length) {r : Array Value}
    (hg : ∀ k, r[k]? = if off ≤ k ∧ k < off + vs.size then vs[k - off]? else cur[k]?) : PreOK E (setMany cs off xs) r := by
  intro k x hxk
  rw [setMany_get _ _ _ _ ho] at hxk
  rw [hg k, ← hx.1]
  split at hxk
  · rename_i hk
    rw [if_pos hk]
    exact hx.pre _ _ hxk
  · rename_i hk
    rw [if_neg hk]
    exact h _ _ hxk

theorem set_block {G : Globals} {E : Env} (hS : Sim G E) {loc : Nat} {b b' : Blk} {cur c' : Array Value} {T : TypeId} (hH : E.H[loc]? = some b) (hown : E.Owns loc (E.ι loc))
    (hw : E.w.heap[E.ι loc]? = some (.cells cur T (0, 0))) (hsz : c'.size = cur.size)
    (hb : (∃ cs cs', b = .box cs ∧ b' = .box cs' ∧ cs.length = cs'.length ∧ PreOK E cs' c') ∨
      ∃ sz es es', b = .row sz es ∧ b' = .row sz es' ∧ es.length ≤ es'.length ∧ Uni sz es' ∧ PreOK E (flat es') c') :
    ∃ E', E'.w = E.w.setRow (E.ι loc) c' ∧ E'.H = E.H.set loc b' ∧ E'.ι = E.ι ∧ Le E E' ∧ Sim G E' := by
  have hlt : loc < E.H.length := (List.getElem?_eq_some_iff.1 hH).1
  have hnew : (E.w.setRow (E.ι loc) c').heap[E.ι loc]? = some (.cells c' T (0, 0)) := setRow_heap E.w (E.ι loc) cur c' T (0, 0) hw
  refine ⟨⟨E.w.setRow (E.ι loc) c', E.ι, E.H.set loc b', E.X⟩, rfl, rfl, rfl, ?_⟩
  have u : Upd E ⟨E.w.setRow (E.ι loc) c', E.ι, E.H.set loc b', E.X⟩ loc b' := {
    hl := Nat.le_of_lt hlt
    keep := ⟨rfl, rfl⟩
    hlen := by simp
    hH := fun j => by
      by_cases hj : j = loc
      · subst hj; simp [hlt]
      · rw [if_neg hj]
        simp only [List.getElem?_set]
        rw [if_neg (fun h => hj h.symm)]
    hι := fun _ _ => rfl
    size := by simp
    hw := fun k hk ho => setRow_other _ _ _ _ (fun h => ho (by subst h; exact hown))
    hext := rfl
    hown := fun k ⟨hj, _⟩ => .inr (by simp only at hj; subst hj; exact hown)
    kbox := fun cs' _ hq => by
      rcases hb with ⟨cs, cs'', h1, h2, h3, _⟩ | ⟨sz, es, es', h1, h2, _⟩
      · rw [h2] at hq; cases hq; exact ⟨cs, by rw [hH, h1], h3, rfl⟩
      · rw [h2] at hq; cases hq
    krow := fun sz es' _ hq => by
      rcases hb with ⟨cs, cs'', h1, h2, h3, _⟩ | ⟨sz', es, es'', h1, h2, h3, _⟩
      · rw [h2] at hq; cases hq
      · rw [h2] at hq; cases hq
        refine ⟨es, by rw [hH, h1], h3, fun _ _ => ⟨rfl, fun c T' fr hc => ?_⟩⟩
        rw [hw] at hc
        cases hc
        exact ⟨c', _, hnew, hsz⟩ }
  refine ⟨u.le hS, u.sim hS (fun cs hcs => ?_) (fun sz es hes hne => ?_)⟩
  · rcases hb with ⟨_, cs', _, rfl, _, hp⟩ | ⟨_, _, _, _, rfl, _⟩
    · cases hcs
      exact ⟨c', T, hnew, hp⟩
    · cases hcs
  · rcases hb with ⟨_, cs', _, rfl, _, hp⟩ | ⟨_, _, es', _, rfl, _, hu, hp⟩
    · cases hes
    · cases hes
      exact ⟨c', T, hnew, PreOK.row hu hp⟩

theorem mkAgg_cells (cs : List AV) : (mkAgg cs).cells = cs := by
  unfold mkAgg
  split
  · rename_i ps h
    rw [allP_some h]
    rfl
  · rfl

theorem setMany_whole {α : Type} (l vs : List α) (h : vs.length = l.length) : setMany l 0 vs = vs := by
  apply List.ext_getElem?
  intro k
  rw [setMany_get _ _ _ _ (by omega)]
  by_cases hk : 0 ≤ k ∧ k < 0 + vs.length
  · rw [if_pos hk, Nat.sub_zero]
  · rw [if_neg hk, List.getElem?_eq_none (by omega), List.getElem?_eq_none (by omega)]

theorem reCells_cells {e : AV} {fo : Nat} {vs : List AV} (h1 : ∀ v, vs = [v] → v.cells = [v]) : (reCells e fo vs).cells = setMany e.cells fo vs := by
  unfold reCells
  split
  · rename_i h
    obtain ⟨rfl, hl⟩ := h
    rw [setMany_whole _ _ hl]
    split
    · rename_i v
      split
      · exact h1 v rfl
      · exact mkAgg_cells _
    · exact mkAgg_cells _
  · exact mkAgg_cells _

theorem flat_setCells {sz : Nat} {es : List AV} (hu : Uni sz es) {k fo : Nat} {vs : List AV} {e e' : AV} (hk : es[k]? = some e) (hf : fo + vs.length ≤ sz) (he : e'.cells = setMany e.cells fo vs) :
    setMany (flat es) (k * sz + fo) vs = flat (es.set k e') ∧ e'.cells.length = sz := by
  have hlt : k < es.length := (List.getElem?_eq_some_iff.1 hk).1
  have hes : e.cells.length = sz := hu e (List.mem_of_getElem? hk)
  have hl' : e'.cells.length = sz := by rw [he, setMany_length, hes]
  refine ⟨?_, hl'⟩
  rw [← flat_set hu k e' hlt hl', he]
  have hfl := flat_length hu
  have hb : k * sz + sz ≤ es.length * sz := by
    have : (k + 1) * sz ≤ es.length * sz := Nat.mul_le_mul_right _ (by omega)
    rw [Nat.add_mul] at this
    omega
  apply List.ext_getElem?
  intro q
  rw [setMany_get _ _ _ _ (by omega), setMany_get _ _ _ _ (by rw [setMany_length]; omega), setMany_length, hes]
  by_cases h1 : k * sz + fo ≤ q ∧ q < k * sz + fo + vs.length
  · rw [if_pos h1, if_pos (by omega), setMany_get _ _ _ _ (by omega), if_pos (by omega)]
    congr 1
    omega
  · rw [if_neg h1]
    by_cases h2 : k * sz ≤ q ∧ q < k * sz + sz
    · rw [if_pos h2, setMany_get _ _ _ _ (by omega), if_neg (by omega)]
      have := flat_get hu k (q - k * sz) e hk (by omega)
      rw [← this]
      congr 1
      omega
    · rw [if_neg h2]

section
variable {P : Program} {G : Globals} {E : Env} {D : List AV} {a : Act} {o : Oper} {K : AV → List Blk → Prop} (hS : Sim G E) (hT : Slots E D a.tmps)
include hS hT

theorem s_st {t : TypeId} {n : Nat} {x y : Operand} {x' y' : Opd} (ho : o.op = .store t x y) (hn : sizeT P t = some n) (h0 : 0 < n) (hx : trO x = some x') (hy : trO y = some y')
    (h : ev0 G (FCall P G) (.st n x' y') D E.H K) : RunsTo P G E K ((execOp a.eval o).run P E.w) := by
  have c1 := get_conc hS hT hx
  have c2 := get_conc hS hT hy
  rw [ex_store ho]
  simp only [ev0] at h
  have run : ∀ {g o' : Nat} {cur : Array Value} {T : TypeId}, E.w.heap[g]? = some (.cells cur T (0, 0)) → (a.eval y).cells.size = n → o' + n ≤ cur.size → (∀ (i : Nat) (v : Value), (a.eval y).cells[i]? = some v → IsCell v) →
      ((do Instr.storeAt t (.pointer (some ⟨g, o', none⟩)) (a.eval y); pure Next.skip) : Sem Next).run P E.w =
        .ok .skip (E.w.setRow g (cur.toList.take o' ++ (a.eval y).cells.toList ++ cur.toList.drop (o' + (a.eval y).cells.toList.length)).toArray) := by
    intro g o' cur T hg hs hf hcell
    have hst := run_storeCells_at P g o' T (a.eval y).cells.toList 0 cur E.w hg (by simp; omega) (fun v hv => by
      obtain ⟨i, hi, rfl⟩ := List.mem_iff_getElem.1 hv
      exact (hcell i _ (by rw [← Array.getElem?_toList]; exact List.getElem?_eq_getElem hi)).one)
    simp only [Nat.add_zero] at hst
    have hne : ¬ ((a.eval y).cells.size ≠ n) := by omega
    simp only [Instr.storeAt, Instr.sureAddr, pure_bind, storeVar, Sem.run_bind, run_sizeT hn, Result.andThen_ok, hne, if_false, hst, Sem.run_pure]
  unfold stR at h
  split at h
  · rename_i loc off hq
    rw [hq] at c1
    split at h
    · rename_i cs hH
      obtain ⟨⟨hf, hle⟩, h⟩ := h
      obtain ⟨hc, hcn⟩ := c2.cellsOK hf
      obtain ⟨cur, T, hw, hpre⟩ := hS.box loc cs hH
      have hxl : (get G D y').cells.length = n := AV.fits_cells hf
      have hcur : off + n ≤ cur.size := by
        obtain ⟨v, hv, _⟩ := hpre (off + n - 1) _ (List.getElem?_eq_getElem (by omega))
        have := (Array.getElem?_eq_some_iff.1 hv).1
        omega
      rw [c1.ptr_inv hH, run hw hcn hcur hc.2.1]
      obtain ⟨E', e1, e2, e3, e4, e5⟩ := set_block hS hH ⟨rfl, .inl ⟨cs, hH⟩⟩ hw (putArr_size cur off (a.eval y).cells.toList (by simp; omega)) (b' := .box (setMany cs off (get G D y').cells))
        (.inl ⟨cs, _, rfl, rfl, by rw [setMany_length], PreOK.put (cur := cur) hpre hc (by omega) (fun k => by rw [putArr_get _ _ _ (by simp; omega)]; simp)⟩)
      exact ⟨E', e1, e4, e5, by rw [e2]; exact h⟩
    · exact h.elim
  · rename_i loc off len sz i fo hq
    rw [hq] at c1
    split at h
    · rename_i sz' es hH
      obtain ⟨⟨hl, rfl, hi, hf, hfo⟩, h⟩ := h
      obtain ⟨hc, hcn⟩ := c2.cellsOK hf
      have hlt : off + i < es.length := by omega
      have hne : es ≠ [] := by rintro rfl; simp at hlt
      obtain ⟨cur, T, hw, hrow⟩ := hS.row loc sz' es hH hne
      obtain ⟨hu, hpre⟩ := row_pre hrow
      have hxl : (get G D y').cells.length = n := AV.fits_cells hf
      have hfl := flat_length hu
      have hb : (off + i) * sz' + sz' ≤ es.length * sz' := by
        have : (off + i + 1) * sz' ≤ es.length * sz' := Nat.mul_le_mul_right _ (by omega)
        rw [Nat.add_mul (off + i) 1] at this
        omega
      have hg : es.getD (off + i) .any = es[off + i] := by simp [List.getD_eq_getElem?_getD, List.getElem?_eq_getElem hlt]
      rw [hg] at h
      have hone : ∀ v, (get G D y').cells = [v] → v.cells = [v] := by
        intro v hv
        obtain ⟨u, h1, h2, h3⟩ := hc.pre 0 v (by rw [hv]; rfl)
        exact h3.cells_one h2
      obtain ⟨hfs, hel⟩ := flat_setCells hu (List.getElem?_eq_getElem hlt) (fo := fo) (vs := (get G D y').cells) (by omega) (reCells_cells hone)
      have hcur : (off + i) * sz' + fo + n ≤ cur.size := by
        obtain ⟨v, hv, _⟩ := hpre ((off + i) * sz' + fo + n - 1) _ (List.getElem?_eq_getElem (by omega))
        have := (Array.getElem?_eq_some_iff.1 hv).1
        omega
      have hu' : Uni sz' (es.set (off + i) (reCells es[off + i] fo (get G D y').cells)) := by
        intro e he
        rcases List.mem_or_eq_of_mem_set he with he | rfl
        · exact hu e he
        · exact hel
      have hv : a.eval x = .pointer (some ⟨E.ι loc, (off + i) * sz' + fo, none⟩) := by
        generalize a.eval x = vx at c1
        cases c1 with
        | pe hc hs =>
          cases hc with
          | ow hH' => rw [hH] at hH'; cases hH'; rw [Nat.add_mul]
          | owS hlt hn => have := hn _ _ hH; omega
          | owE => omega
          | ow0 => omega
      rw [hv, run hw hcn hcur hc.2.1]
      obtain ⟨E', e1, e2, e3, e4, e5⟩ := set_block hS hH ⟨rfl, .inr ⟨sz', es, hH, hne⟩⟩ hw (putArr_size cur ((off + i) * sz' + fo) (a.eval y).cells.toList (by simp; omega))
        (b' := .row sz' (es.set (off + i) (reCells es[off + i] fo (get G D y').cells)))
        (.inr ⟨sz', es, _, rfl, rfl, by simp, hu', by
          rw [← hfs]
          exact PreOK.put (cur := cur) hpre hc (by omega) (fun k => by rw [putArr_get _ _ _ (by simp; omega)]; simp)⟩)
      exact ⟨E', e1, e4, e5, by rw [e2]; exact h⟩
    · exact h.elim
  · rename_i loc off len sz i fo hq
    rw [hq] at c1
    split at h
    · rename_i cs hH
      obtain ⟨⟨hl, rfl, hi, rfl, rfl, hf, hsc⟩, h⟩ := h
      obtain ⟨hc, hcn⟩ := c2.cellsOK hf
      obtain ⟨cur, T, hw, hpre⟩ := hS.box loc cs hH
      have hxl : (get G D y').cells = [get G D y'] := AV.scalar_cells hsc
      have hcur : off + i + 1 ≤ cur.size := by
        obtain ⟨v, hv, _⟩ := hpre (off + i) _ (List.getElem?_eq_getElem (by omega))
        have := (Array.getElem?_eq_some_iff.1 hv).1
        omega
      have hv : a.eval x = .pointer (some ⟨E.ι loc, off + i, none⟩) := by
        generalize a.eval x = vx at c1
        cases c1 with
        | pe hc hs =>
          cases hc with
          | bs hH' => simp
          | bsS hlt hn => exact absurd hH (hn cs)
          | bs0 => omega
      rw [hv, run hw hcn hcur hc.2.1]
      have hset : cs.set (off + i) (get G D y') = setMany cs (off + i) (get G D y').cells := by rw [hxl]; rfl
      obtain ⟨E', e1, e2, e3, e4, e5⟩ := set_block hS hH ⟨rfl, .inl ⟨cs, hH⟩⟩ hw (putArr_size cur (off + i) (a.eval y).cells.toList (by simp; omega)) (b' := .box (cs.set (off + i) (get G D y')))
        (.inl ⟨cs, _, rfl, rfl, by simp, by
          rw [hset]
          exact PreOK.put (cur := cur) hpre hc (by rw [hxl]; simp; omega) (fun k => by rw [putArr_get _ _ _ (by simp; omega)]; simp)⟩)
      exact ⟨E', e1, e4, e5, by rw [e2]; exact h⟩
    · exact h.elim
  · exact h.elim

end
end Go.Ae
end

section
set_option linter.unusedSectionVars false
set_option linter.unusedSimpArgs false
set_option linter.unusedVariables false
namespace Go.Ae

theorem optI_inv {G : Globals} {E : Env} (hS : Sim G E) {D : List AV} {a : Act} (hT : Slots E D a.tmps) {x : Option Operand} {x' : Option Opd} {d : Int} {K' : Int → Prop} (ho : optO x = some x') (h : optI G D x' d K') :
    ∃ n, K' n ∧ ((x = none ∧ x' = none ∧ n = d) ∨ ∃ k, x.map a.eval = some (.int k n)) := by
  cases x with
  | none => cases ho; exact ⟨d, h, .inl ⟨rfl, rfl, rfl⟩⟩
  | some o =>
    simp only [optO, Option.map_eq_some_iff] at ho
    obtain ⟨y, hy, rfl⟩ := ho
    obtain ⟨k, n, _, hv, h⟩ := asI_inv (get_conc hS hT hy) h
    exact ⟨n, h, .inr ⟨k, by simp [hv]⟩⟩

theorem run_bounds {P : Program} {w : World} {b : Bool} {len cap : Nat} {lo hi : Option Value} {l h : Int} (hlo : (lo = none ∧ l = 0) ∨ ∃ k, lo = some (.int k l)) (hhi : (hi = none ∧ h = len) ∨ ∃ k, hi = some (.int k h))
    (h0 : 0 ≤ l) (h1 : l ≤ h) (h2 : h ≤ cap) : (Instr.sliceBounds b len cap lo hi none).run P w = .ok (l.toNat, h.toNat, cap) w := by
  have hh : 0 ≤ h := by omega
  rcases hlo with ⟨rfl, rfl⟩ | ⟨k, rfl⟩ <;> rcases hhi with ⟨rfl, rfl⟩ | ⟨k', rfl⟩
  · simp [Instr.sliceBounds]
  · simp [Instr.sliceBounds, run_sliceBound w k' h cap _ hh h2]
  · simp [Instr.sliceBounds, run_sliceBound w k l len _ h0 h1]
  · have : l ≤ (h.toNat : Int) := by omega
    simp [Instr.sliceBounds, run_sliceBound w k' h cap _ hh h2, run_sliceBound w k l h.toNat _ h0 this]

section
variable {P : Program} {G : Globals} {E : Env} {D : List AV} {a : Act} {o : Oper} {K : AV → List Blk → Prop} (hS : Sim G E) (hT : Slots E D a.tmps)
include hS hT

theorem s_sls {t : TypeId} {x : Operand} {lo hi : Option Operand} {x' : Opd} {lo' hi' : Option Opd} (ho : o.op = .slice t x lo hi none) (ht : P.underlying t = some .string) (hx : trO x = some x')
    (hlo : optO lo = some lo') (hhi : optO hi = some hi') (h : ev0 G (FCall P G) (.sls x' lo' hi') D E.H K) : RunsTo P G E K ((execOp a.eval o).run P E.w) := by
  have c1 := get_conc hS hT hx
  rw [ex_slice ho]
  simp only [ev0, slsR] at h
  split at h
  · rename_i s hq
    rw [hq] at c1
    obtain ⟨hn, h, hcase⟩ := optI_inv hS hT hhi h
    obtain ⟨ln, h, lcase⟩ := optI_inv hS hT hlo h
    obtain ⟨⟨h0, h1, h2⟩, h⟩ := h
    have hsz : (⟨s.toArray⟩ : ByteArray).size = s.length := by show s.toArray.size = _; simp
    have hb := run_bounds (P := P) (w := E.w) (b := false) (len := s.length) (cap := s.length) (lo := lo.map a.eval) (hi := hi.map a.eval) (l := ln) (h := hn)
      (by rcases lcase with ⟨rfl, _, rfl⟩ | ⟨k, hk⟩; exact .inl ⟨rfl, rfl⟩; exact .inr ⟨k, hk⟩)
      (by rcases hcase with ⟨rfl, _, rfl⟩ | ⟨k, hk⟩; exact .inl ⟨rfl, rfl⟩; exact .inr ⟨k, hk⟩) h0 h1 h2
    have hext : (⟨s.toArray⟩ : ByteArray).extract ln.toNat hn.toNat = ⟨((s.take hn.toNat).drop ln.toNat).toArray⟩ := by
      apply ByteArray.ext
      rw [ByteArray.data_extract]
      simp [List.extract_toArray, List.extract_eq_take_drop, List.drop_take]
    rw [c1.str_inv]
    simp only [Instr.sliceAt, Sem.run_bind, run_underlying ht, Result.andThen_ok, Instr.slice, Option.map_none, Option.isSome_none, Bool.false_eq_true, if_false, hsz, hb, Sem.run_pure, pure_bind, hext]
    exact .same hS (.p .str) h
  · exact h.elim

theorem s_slc {t e : TypeId} {sz : Nat} {x : Operand} {lo hi mx : Option Operand} {x' : Opd} {lo' hi' mx' : Option Opd} (ho : o.op = .slice t x lo hi mx) (ht : P.underlying t = some (.slice e)) (hsz : sizeT P e = some sz)
    (hx : trO x = some x') (hlo : optO lo = some lo') (hhi : optO hi = some hi') (hmx : optO mx = some mx') (h : ev0 G (FCall P G) (.slc sz x' lo' hi' mx') D E.H K) : RunsTo P G E K ((execOp a.eval o).run P E.w) := by
  have c1 := get_conc hS hT hx
  rw [ex_slice ho]
  simp only [ev0, slcR] at h
  cases mx with
  | some m =>
    simp only [optO, Option.map_eq_some_iff] at hmx
    obtain ⟨m', hm', rfl⟩ := hmx
    obtain ⟨km, mn, _, hmv, h⟩ := asI_inv (get_conc hS hT hm') h
    obtain ⟨hn, h2, hcase⟩ := optI_inv hS hT hhi h
    clear h
    obtain ⟨ln, h3, lcase⟩ := optI_inv hS hT hlo h2
    clear h2
    obtain ⟨⟨rfl, rfl, rfl⟩, h⟩ := h3
    rcases hcase with ⟨_, _, hh⟩ | ⟨kh, hk⟩
    · cases hh
    · have hv : ∃ b len cap, a.eval x = .slice b len cap ∧ K (.p .e0) E.H := by
        split at h
        · rename_i q
          rw [q] at c1
          obtain ⟨b, len, cap, hv, _⟩ := rdS_slice hS hT c1 rfl
          exact ⟨_, _, _, hv, h⟩
        · rename_i q
          rw [q] at c1
          obtain ⟨b, len, cap, hv, _⟩ := rdS_slice hS hT c1 rfl
          exact ⟨_, _, _, hv, h⟩
        · exact h.elim
      obtain ⟨b, len, cap, hv, h⟩ := hv
      have e1 := fun y c => run_sliceBound (P := P) E.w km 0 y c (by omega) (by omega)
      have e2 := fun y c => run_sliceBound (P := P) E.w kh 0 y c (by omega) (by omega)
      rw [hv]
      have hsb : (Instr.sliceBounds true len cap (lo.map a.eval) (hi.map a.eval) (some (.int km 0))).run P E.w = .ok (0, 0, 0) E.w := by
        rcases lcase with ⟨rfl, _, _⟩ | ⟨kl, hl⟩
        · simp [Instr.sliceBounds, hk, e1, e2]
        · have e3 := fun y c => run_sliceBound (P := P) E.w kl 0 y c (by omega) (by omega)
          simp [Instr.sliceBounds, hk, hl, e1, e2, e3]
      simp only [Instr.sliceAt, Sem.run_bind, run_underlying ht, Result.andThen_ok, Instr.slice, Option.map_some, hmv, hsb, run_sizeT hsz, if_true, Sem.run_pure, Nat.sub_self]
      exact .same hS (.p .e0) h
  | none =>
    cases hmx
    simp only at h
    -- what remains when the value and the bounds are known
    have fin : ∀ {b : Option Addr} {len cap : Nat} {l h' : Int} {z : AV}, a.eval x = .slice b len cap → (h' = len ∧ hi = none ∨ ∃ k, hi.map a.eval = some (.int k h')) → (lo = none ∧ l = 0 ∨ ∃ k, lo.map a.eval = some (.int k l)) →
        0 ≤ l → l ≤ h' → h' ≤ cap → Conc E z (.slice (if cap = l.toNat then b else b.map (·.add (l.toNat * sz))) (h'.toNat - l.toNat) (cap - l.toNat)) → K z E.H →
        RunsTo P G E K ((do pure (Next.value (← Instr.sliceAt t (a.eval x) (lo.map a.eval) (hi.map a.eval) (Option.map a.eval none)))).run P E.w) := by
      intro b len cap l h' z hv hh hl h0 h1 h2 hc hk
      have hb := run_bounds (P := P) (w := E.w) (b := true) (len := len) (cap := cap) (lo := lo.map a.eval) (hi := hi.map a.eval) (l := l) (h := h')
        (by rcases hl with ⟨rfl, rfl⟩ | ⟨k, hk⟩; exact .inl ⟨rfl, rfl⟩; exact .inr ⟨k, hk⟩) (by rcases hh with ⟨rfl, rfl⟩ | ⟨k, hk⟩; exact .inl ⟨rfl, rfl⟩; exact .inr ⟨k, hk⟩) h0 h1 h2
      rw [hv]
      simp only [Instr.sliceAt, Sem.run_bind, run_underlying ht, Result.andThen_ok, Instr.slice, Option.map_none, hb, run_sizeT hsz, Sem.run_pure]
      exact .same hS hc hk
    split at h
    · rename_i sz' es hq
      rw [hq] at c1
      obtain ⟨hn, h, hcase⟩ := optI_inv hS hT hhi h
      obtain ⟨ln, h, lcase⟩ := optI_inv hS hT hlo h
      obtain ⟨⟨hszs, h0, h1, h2⟩, h⟩ := h
      have lc : lo = none ∧ ln = 0 ∨ ∃ k, lo.map a.eval = some (.int k ln) := by
        rcases lcase with ⟨h3, _, h4⟩ | h3
        · exact .inl ⟨h3, h4⟩
        · exact .inr h3
      have hc' : hn = es.length ∧ hi = none ∨ ∃ k, hi.map a.eval = some (.int k hn) := by
        rcases hcase with ⟨h3, _, h4⟩ | h3
        · exact .inl ⟨h4, h3⟩
        · exact .inr h3
      have hlen : ((es.take hn.toNat).drop ln.toNat).length = hn.toNat - ln.toNat := by simp; omega
      generalize hv : a.eval x = v at c1 fin ⊢
      cases c1 with
      | p c1 => cases c1 with
        | @sl0 _ b cap =>
          simp only [List.length_nil, Int.natCast_zero] at h2 hc'
          have hz : hn = 0 := by omega
          have hz' : ln = 0 := by omega
          subst hz; subst hz'
          refine fin rfl hc' lc (by omega) (by omega) (by omega) ?_ h
          simp only [List.take_nil, List.drop_nil, Int.toNat_zero, Nat.sub_self]
          exact .p .sl0
        | @sl _ _ ad cap vf hne hs hb hown hcap hu hm hcell hval =>
          refine fin rfl hc' lc h0 h1 (by omega) ?_ h
          have hszz : sz' = sz := by rcases hszs with h3 | h3; exact h3; exact absurd h3 hne
          subst hszz
          by_cases hemp : hn.toNat - ln.toNat = 0
          · rw [hemp]
            have : (es.take hn.toNat).drop ln.toNat = [] := List.eq_nil_of_length_eq_zero (by omega)
            rw [this]
            exact .p .sl0
          · have hne' : ¬ cap = ln.toNat := by omega
            rw [if_neg hne', Option.map_some]
            obtain ⟨ab, ao, asp⟩ := ad
            simp only at hs
            subst hs
            rw [addr_add]
            have hget : ∀ (i : Nat) (e : PV), ((es.take hn.toNat).drop ln.toNat)[i]? = some e → es[ln.toNat + i]? = some e := by
              intro i e he
              rw [List.getElem?_drop, List.getElem?_take] at he
              split at he
              · exact he
              · cases he
            have := PConc.sl (w := E.w) (O := E.Own) (sz := sz') (es := (es.take hn.toNat).drop ln.toNat) (a := ⟨ab, ao + ln.toNat * sz', none⟩) (cap := cap - ln.toNat) (fun i j => vf (ln.toNat + i) j)
              (by intro hh; rw [hh] at hlen; simp at hlen; omega) rfl hb hown (by omega) (fun i e he => hu _ e (hget i e he))
              (fun i e j he hj => by
                have := hm _ e j (hget i e he) hj
                simp only at this ⊢
                rw [← this]
                congr 2
                rw [Nat.add_mul]
                omega)
              (fun i e j he hj => hcell _ e j (hget i e he) hj) (fun i e j y he hy => hval _ e j y (hget i e he) hy)
            rw [hlen] at this
            exact .p this
    · rename_i hq
      rw [hq] at c1
      obtain ⟨hn, h2, hcase⟩ := optI_inv hS hT hhi h
      clear h
      obtain ⟨ln, h3, lcase⟩ := optI_inv hS hT hlo h2
      clear h2
      obtain ⟨⟨rfl, rfl⟩, h⟩ := h3
      generalize hv : a.eval x = v at c1 fin ⊢
      cases c1 with
      | p c1 =>
        cases c1
        refine fin (l := 0) (h' := 0) rfl ?_ ?_ (by omega) (by omega) (by omega) ?_ h
        · rcases hcase with ⟨h3, _, h4⟩ | h3
          · exact .inl ⟨rfl, h3⟩
          · exact .inr h3
        · rcases lcase with ⟨h3, _, h4⟩ | h3
          · exact .inl ⟨h3, h4⟩
          · exact .inr h3
        · simp only [Int.toNat_zero, Nat.sub_self, Nat.zero_mul]
          exact .p .e0
    · rename_i loc off len hq
      rw [hq] at c1
      split at h
      · rename_i sr es hH
        obtain ⟨hn, h2, hcase⟩ := optI_inv hS hT hhi h
        clear h
        obtain ⟨ln, h3, lcase⟩ := optI_inv hS hT hlo h2
        clear h2
        obtain ⟨⟨hl, rfl, h0, h1, rfl⟩, h⟩ := h3
        have lc : lo = none ∧ ln = 0 ∨ ∃ k, lo.map a.eval = some (.int k ln) := by
          rcases lcase with ⟨h3, _, h4⟩ | h3
          · exact .inl ⟨h3, h4⟩
          · exact .inr h3
        have hc' : (len : Int) = len ∧ hi = none ∨ ∃ k, hi.map a.eval = some (.int k (len : Int)) := by
          rcases hcase with ⟨h3, _, h4⟩ | h3
          · exact .inl ⟨h4, h3⟩
          · exact .inr h3
        generalize hv : a.eval x = v at c1 fin ⊢
        cases c1 with
        | @owE _ sz' b hH' =>
          have hz : ln = 0 := by omega
          subst hz
          refine fin rfl hc' lc (by omega) (by omega) (by omega) ?_ h
          simp only [Int.toNat_zero, Nat.sub_self, Nat.add_zero, Int.toNat_natCast]
          exact .owE hH'
        | @ow0 _ sz' es' cap b _ hH' hne hoff =>
          have hz : ln = 0 := by omega
          subst hz
          refine fin rfl hc' lc (by omega) (by omega) (by omega) ?_ h
          simp only [Int.toNat_zero, Nat.sub_self, Nat.add_zero, Int.toNat_natCast]
          exact .ow0 hH' hne hoff
        | @ow _ _ _ cap sz' es' c T fr hH' hl' hlen0 hcap hw hcc =>
          rw [hH] at hH'
          cases hH'
          refine fin rfl hc' lc h0 h1 (by omega) ?_ h
          rw [Int.toNat_natCast]
          by_cases hemp : len - ln.toNat = 0
          · rw [hemp]
            exact .ow0 hH (by rintro rfl; simp at hl; omega) (by omega)
          · rw [if_neg (by omega), Option.map_some, addr_add, ← Nat.add_mul]
            exact .ow hH (by omega) (by omega) (by omega) hw (by rw [show off + ln.toNat + (cap - ln.toNat) = off + cap by omega]; exact hcc)
        | owS hlt hnn => have := hnn _ _ hH; omega
      · exact h.elim
    · exact h.elim

theorem s_sla {t e : TypeId} {n : Nat} {x : Operand} {lo hi : Option Operand} {x' : Opd} {lo' hi' : Option Opd} (ho : o.op = .slice t x lo hi none) (ht : P.underlying t = some (.array n e)) (hsz : sizeT P e = some 1)
    (hx : trO x = some x') (hlo : optO lo = some lo') (hhi : optO hi = some hi') (h : ev0 G (FCall P G) (.sla n x' lo' hi') D E.H K) : RunsTo P G E K ((execOp a.eval o).run P E.w) := by
  have c1 := get_conc hS hT hx
  rw [ex_slice ho]
  simp only [ev0] at h
  split at h
  · rename_i loc off hq
    rw [hq] at c1
    split at h
    · rename_i cs hH
      obtain ⟨hn, h, hcase⟩ := optI_inv hS hT hhi h
      obtain ⟨ln, h, lcase⟩ := optI_inv hS hT hlo h
      obtain ⟨⟨hl, h0, h1, h2⟩, h⟩ := h
      have hb := run_bounds (P := P) (w := E.w) (b := false) (len := n) (cap := n) (lo := lo.map a.eval) (hi := hi.map a.eval) (l := ln) (h := hn)
        (by rcases lcase with ⟨rfl, _, rfl⟩ | ⟨k, hk⟩; exact .inl ⟨rfl, rfl⟩; exact .inr ⟨k, hk⟩)
        (by rcases hcase with ⟨rfl, _, rfl⟩ | ⟨k, hk⟩; exact .inl ⟨rfl, rfl⟩; exact .inr ⟨k, hk⟩) h0 h1 h2
      rw [c1.ptr_inv hH]
      simp only [Instr.sliceAt, Sem.run_bind, run_underlying ht, Result.andThen_ok, Instr.sureAddr, pure_bind, Option.map_none, hb, run_sizeT hsz, Sem.run_pure, Nat.mul_one]
      have hd : (hn - ln).toNat = hn.toNat - ln.toNat := by omega
      rw [hd] at h
      refine .same hS (x := .bs loc (off + ln.toNat) (hn.toNat - ln.toNat)) ?_ h
      by_cases hemp : hn.toNat - ln.toNat = 0
      · rw [hemp]
        exact .bs0 hH (by omega)
      · rw [if_neg (by omega), addr_add]
        exact .bs hH (by omega) (by omega) (by omega)
    · exact h.elim
  · exact h.elim

theorem s_cvs {s t e : TypeId} {x : Operand} {x' : Opd} (ho : o.op = .convert s t x) (hs : P.underlying s = some (.slice e)) (ht : P.underlying t = some .string) (he : P.underlying e = some (.int .u8)) (hsz : sizeT P e = some 1)
    (hx : trO x = some x') (h : ev0 G (FCall P G) (.cvs x') D E.H K) : RunsTo P G E K ((execOp a.eval o).run P E.w) := by
  have c1 := get_conc hS hT hx
  rw [ex_convert ho]
  simp only [ev0] at h
  split at h
  · rename_i sz es hq
    obtain ⟨l, rfl, hszs, h⟩ := h
    obtain ⟨b, len, cap, hv, hl, _, hb⟩ := rdS_slice hS hT c1 hq
    rw [hv]
    rw [hv] at c1
    simp only [List.length_map] at hl
    have key : ∃ ns : List Int, ns = l.map (fun b => (b.toNat : Int)) ∧ ∀ ad, b = some ad → (loadCells ad len).run P E.w = .ok (ns.map (Value.int .u8)).toArray E.w := by
      refine ⟨_, rfl, fun ad hb' => ?_⟩
      by_cases hne : l.map (fun b => AV.p (.int .u8 b.toNat)) = []
      · have : l = [] := by simpa using hne
        subst this
        simp at hl
        subst hl
        simp [loadCells, loadCellsFrom]
      · have hsz1 : sz = 1 := by rcases hszs with h1 | h1; exact h1; exact absurd h1 hne
        subst hsz1
        obtain ⟨ad', had, hsp⟩ := hb hne
        rw [hb'] at had
        cases had
        subst hb'
        have hcells := rd_cells hS hq c1 hne
        obtain ⟨ab, ao, asp⟩ := ad
        simp only at hsp
        subst hsp
        have := run_loadCells_list (P := P) (w := E.w) ⟨ab, ao, none⟩ ((l.map fun b => (b.toNat : Int)).map (Value.int .u8)) (fun j v hj => by
          rw [List.getElem?_map, List.getElem?_map, Option.map_map] at hj
          rw [Option.map_eq_some_iff] at hj
          obtain ⟨c, hcj, rfl⟩ := hj
          obtain ⟨_, hr⟩ := hcells j (.p (.int .u8 c.toNat)) (by rw [List.getElem?_map, hcj]; rfl)
          obtain ⟨u, h1, _, h3⟩ := hr 0 _ rfl
          rw [addr_add]
          rw [h3.int_inv] at h1
          simpa using h1)
        simp only [List.length_map] at this
        rw [hl]
        exact this
    obtain ⟨ns, hns, hld⟩ := key
    have hfold : ∀ (l : List UInt8) (s : List UInt8), ((l.map fun b => (b.toNat : Int)).foldl (fun (r : ByteArray) n => r.push (UInt8.ofNat n.toNat)) ⟨s.toArray⟩) = ⟨(s ++ l).toArray⟩ := by
      intro l
      induction l with
      | nil => intro s; simp
      | cons c r ih =>
        intro s
        simp only [List.map_cons, List.foldl_cons]
        have : (⟨s.toArray⟩ : ByteArray).push (UInt8.ofNat ((c.toNat : Int)).toNat) = ⟨(s ++ [c]).toArray⟩ := by
          apply ByteArray.ext
          simp [ByteArray.push]
        rw [this, ih]
        simp
    have hrun : (convert s t (.slice b len cap)).run P E.w = .ok (.string ⟨l.toArray⟩) E.w := by
      rw [run_convert_bytes_string E.w s t e b len cap hs he ht]
      cases b with
      | none =>
        have : l = [] := by
          rcases List.eq_nil_or_concat l with h1 | ⟨l', c, h1⟩
          · exact h1
          · obtain ⟨ad, h2, _⟩ := hb (by simp [h1])
            cases h2
        subst this
        simp [Conv.bytesToString]
        rfl
      | some ad =>
        rw [run_bytesToString E.w ad len cap ns (hld ad rfl), hns]
        have := hfold l []
        simp only [List.nil_append] at this
        rw [← this]
        rfl
    simp only [Sem.run_bind, hrun, Result.andThen_ok, Sem.run_pure]
    exact .same hS (.p .str) h
  · exact h.elim

end
end Go.Ae
end

section
set_option linter.unusedSectionVars false
set_option linter.unusedSimpArgs false
set_option linter.unusedVariables false
namespace Go.Ae

theorem read_flat {P : Program} {G : Globals} {E : Env} (hS : Sim G E) {x : AV} {v : Value} {sz : Nat} {es : List AV} (hc : Conc E x v) (h : rdS E.H x = some (sz, es)) (n : Nat) (hn : n ≤ es.length) :
    ∃ news : Array Value, CellsOK E (flat (es.take n)) news ∧ (∀ w : World, w.heap = E.w.heap → ∀ size, (size = sz ∨ n = 0) → (Builtin.firstCells size n v).run P w = .ok news w) ∧ (n ≠ 0 → Uni sz (es.take n)) := by
  obtain ⟨b, len, cap, hv, hl, _, hb⟩ := rdS_slice (a := { tmps := #[], defers := [] }) (D := []) (G := G) hS (by intro k x hx; simp at hx) hc h
  subst hv
  by_cases hn0 : n = 0
  · subst hn0
    refine ⟨#[], ⟨rfl, fun i v hv => by simp at hv, fun i x v hx => by simp at hx⟩, fun w hw size _ => ?_, fun h => absurd rfl h⟩
    cases b <;> simp [Builtin.firstCells, loadCells, loadCellsFrom]
  · have hne : es ≠ [] := by rintro rfl; simp at hn; exact hn0 hn
    obtain ⟨ad, rfl, hsp⟩ := hb hne
    obtain ⟨ab, ao, asp⟩ := ad
    simp only at hsp
    subst hsp
    have hcells := rd_cells hS h hc hne
    have hu : Uni sz (es.take n) := by
      intro e he
      obtain ⟨k, hk, rfl⟩ := List.mem_iff_getElem.1 he
      have : es[k]? = some (es.take n)[k] := by
        have := List.getElem?_eq_getElem hk
        rw [List.getElem?_take] at this
        split at this
        · exact this
        · cases this
      exact (hcells k _ this).1
    have hfl := flat_length hu
    have hreads : Reads E ab ao (flat (es.take n)) := by
      intro q x hq
      have hlt := (List.getElem?_eq_some_iff.1 hq).1
      rw [hfl] at hlt
      have hs0 : 0 < sz := by
        rcases Nat.eq_zero_or_pos sz with h0 | h0
        · subst h0; simp at hlt
        · exact h0
      have hqe : q / sz * sz + q % sz = q := by rw [Nat.mul_comm]; exact Nat.div_add_mod q sz
      rw [flat_div hu hs0 q hlt] at hq
      rw [Option.bind_eq_some_iff] at hq
      obtain ⟨e, he, hx⟩ := hq
      rw [List.getElem?_take] at he
      split at he
      · obtain ⟨v, h1, h2⟩ := (hcells _ e he).2 _ x hx
        simp only at h1
        rw [Nat.add_assoc, hqe] at h1
        exact ⟨v, h1, h2⟩
      · cases he
    have hex : ∀ j, ∃ v, j < (flat (es.take n)).length → E.w.cell? ⟨ab, ao + j, none⟩ = some v ∧ IsCell v ∧ ∀ x, (flat (es.take n))[j]? = some x → Conc E x v := by
      intro j
      by_cases hj : j < (flat (es.take n)).length
      · obtain ⟨v, h1, h2, h3⟩ := hreads j _ (List.getElem?_eq_getElem hj)
        exact ⟨v, fun _ => ⟨h1, h2, fun x hx => by rw [List.getElem?_eq_getElem hj] at hx; cases hx; exact h3⟩⟩
      · exact ⟨.nilIface, fun h => absurd h hj⟩
    obtain ⟨f, hf⟩ := Classical.skolem.1 hex
    refine ⟨((List.range (flat (es.take n)).length).map f).toArray, ⟨by simp, fun j v hv => ?_, fun j x v hx hv => ?_⟩, fun w hw size hsz => ?_, fun _ => hu⟩
    · simp only [List.getElem?_toArray, List.getElem?_map, Option.map_eq_some_iff] at hv
      obtain ⟨k, hk, rfl⟩ := hv
      obtain ⟨hj, rfl⟩ := List.getElem?_eq_some_iff.1 hk
      simp only [List.getElem_range]
      exact (hf j (by simpa using hj)).2.1
    · simp only [List.getElem?_toArray, List.getElem?_map, Option.map_eq_some_iff] at hv
      obtain ⟨k, hk, rfl⟩ := hv
      obtain ⟨hj, rfl⟩ := List.getElem?_eq_some_iff.1 hk
      simp only [List.getElem_range]
      exact (hf j (by simpa using hj)).2.2 x hx
    · have hss : size = sz := by rcases hsz with h1 | h1; exact h1; exact absurd h1 hn0
      subst hss
      have hcw : ∀ ad, w.cell? ad = E.w.cell? ad := fun ad => by simp [World.cell?, hw]
      refine run_firstCells_some (P := P) w size n ⟨ab, ao, none⟩ len cap _ (by rw [List.length_map, List.length_range, hfl, List.length_take, Nat.min_eq_left hn]) (fun j v hv => ?_)
      rw [addr_add, hcw]
      rw [List.getElem?_map, Option.map_eq_some_iff] at hv
      obtain ⟨k, hk, rfl⟩ := hv
      obtain ⟨hj, rfl⟩ := List.getElem?_eq_some_iff.1 hk
      simp only [List.getElem_range]
      exact (hf j (by simpa using hj)).1

section
variable {P : Program} {w : World}

theorem append_room {t u ty e : TypeId} {i : TypeInfo} (ht : P.underlying t = some (.slice e)) (hi : P.info? e = some i) {y : Value} {m : Nat} {g o sLen sCap : Nat} {cur : Array Value} {T : TypeId} {news : Array Value}
    (hy : (∃ e2 b c, P.underlying u = some (.slice e2) ∧ y = .slice b m c ∧ (Builtin.firstCells i.size m y).run P w = .ok news w) ∨
      (∃ k k' z, P.underlying u = some (.int k) ∧ y = .int k' (m : Int) ∧ (m : Int) ≤ 9223372036854775807 ∧ m * i.bytes ≤ 281474976710656 ∧ i.zero = some z ∧ z.cells.size = i.size ∧ news = Builtin.zeroCells z.cells m))
    (hns : news.size = m * i.size) (hg : w.heap[g]? = some (.cells cur T (0, 0))) (h1 : ∀ v ∈ news.toList, v.oneCell' = true) (hroom : sLen + m ≤ sCap) (hfit : o + sLen * i.size + news.size ≤ cur.size) :
    (Builtin.append_ #[t, u] ty #[.slice (some ⟨g, o, none⟩) sLen sCap, y]).run P w =
      .ok (.slice (some ⟨g, o, none⟩) (sLen + m) sCap) (w.setRow g (cur.toList.take (o + sLen * i.size) ++ news.toList ++ cur.toList.drop (o + sLen * i.size + news.toList.length)).toArray) := by
  have hst := run_storeCells_at P g (o + sLen * i.size) T news.toList 0 cur w hg (by simp; omega) h1
  simp only [Nat.add_zero] at hst
  rcases hy with ⟨e2, b, c, hu, rfl, hf⟩ | ⟨k, k', z, hu, rfl, hm, hb, hz, hzs, rfl⟩
  · simp [Builtin.append_, run_underlying ht, run_underlying hu, sizeOf, typeInfo, hi, Builtin.lenOf, hroom, hf, addr_add, hst]
  · have wl : IntKind.i64.wrap (m : Int) = (m : Int) := by rw [IntKind.wrap_i64]; omega
    have n1 : ¬ (m : Int) < 0 := by omega
    have n2 : ¬ (281474976710656 < (m : Int) * (i.bytes : Int)) := by
      have : ((m * i.bytes : Nat) : Int) ≤ 281474976710656 := by omega
      rw [Int.natCast_mul] at this
      omega
    by_cases h0 : m * i.size = 0
    · have hnil : Builtin.zeroCells z.cells m = #[] := by
        apply Array.eq_empty_of_size_eq_zero
        rw [hns, h0]
      rw [hnil] at hst ⊢
      have hst' : (storeCells ⟨g, o + sLen * i.size, none⟩ []).run P w = .ok () (w.setRow g (cur.toList.take (o + sLen * i.size) ++ ([] : List Value) ++ cur.toList.drop (o + sLen * i.size + ([] : List Value).length)).toArray) := hst
      simp [Builtin.append_, run_underlying ht, run_underlying hu, sizeOf, typeInfo, hi, asInt, asIntOf, wl, n1, n2, hroom, h0, addr_add]
      simpa using congrArg (fun r : Result Unit => r.andThen fun _ w' => Result.ok (Value.slice (some ⟨g, o, none⟩) (sLen + m) sCap) w') hst'
    · simp [Builtin.append_, run_underlying ht, run_underlying hu, sizeOf, typeInfo, hi, asInt, asIntOf, wl, n1, n2, hroom, h0, zeroValue, hz, addr_add, hst]

end
end Go.Ae
end

section
set_option linter.unusedSectionVars false
set_option linter.unusedSimpArgs false
set_option linter.unusedVariables false
namespace Go.Ae

section
variable {P : Program} {w : World}

theorem append_grow {t u ty e : TypeId} {i : TypeInfo} {z : Value} (ht : P.underlying t = some (.slice e)) (hi : P.info? e = some i) (hz : i.zero = some z) (hzs : z.cells.size = i.size) {s y : Value} {m sLen sCap : Nat} {base : Option Addr} {olds news : Array Value}
    (hs : s = .slice base sLen sCap) (hso : (Builtin.firstCells i.size sLen s).run P w.drew = .ok olds w.drew)
    (hy : (∃ e2 b c, P.underlying u = some (.slice e2) ∧ y = .slice b m c ∧ (Builtin.firstCells i.size m y).run P w.drew = .ok news w.drew) ∨
      (∃ k k', P.underlying u = some (.int k) ∧ y = .int k' (m : Int) ∧ news = Builtin.zeroCells z.cells m))
    (hroom : sCap < sLen + m) (hm : sLen + m ≤ 1099511627776) (hb : (sLen + m) * i.bytes ≤ 1099511627776) :
    (Builtin.append_ #[t, u] ty #[s, y]).run P w =
      .ok (.slice (some ⟨w.heap.size, 0, none⟩) (sLen + m) (grownCap w (sLen + m) sCap e))
        (w.drew.alloc (.cells (olds ++ news ++ Builtin.zeroCells z.cells (grownCap w (sLen + m) sCap e - (sLen + m))) e)) := by
  subst hs
  have hn : ¬ (sLen + m ≤ sCap) := by omega
  have h63' : ¬ (9223372036854775807 < ((sLen : Int) + (m : Int))) := by omega
  have hfit := growslice_fits (bytes := i.bytes) hroom (by omega)
  have h48' : ¬ (281474976710656 < Builtin.nextslicecap (sLen + m) sCap * i.bytes) := by omega
  rcases hy with ⟨e2, b, c, hu, rfl, hf⟩ | ⟨k, k', hu, rfl, rfl⟩
  · simp [Builtin.append_, run_underlying ht, run_underlying hu, sizeOf, typeInfo, zeroValue, hi, hz, Builtin.lenOf, hn, h63', h48', Question.forced, hf, hso, newRow, grownCap]
  · have wl : IntKind.i64.wrap (m : Int) = (m : Int) := by rw [IntKind.wrap_i64]; omega
    have n1 : ¬ (m : Int) < 0 := by omega
    have hmb : m * i.bytes ≤ (sLen + m) * i.bytes := Nat.mul_le_mul_right _ (by omega)
    have n2 : ¬ (281474976710656 < (m : Int) * (i.bytes : Int)) := by
      have : ((m * i.bytes : Nat) : Int) ≤ 281474976710656 := by omega
      rw [Int.natCast_mul] at this
      omega
    by_cases h0 : m * i.size = 0
    · have hnil : Builtin.zeroCells z.cells m = #[] := by
        apply Array.eq_empty_of_size_eq_zero
        rw [size_zeroCells, hzs, h0]
      simp [Builtin.append_, run_underlying ht, run_underlying hu, sizeOf, typeInfo, zeroValue, hi, hz, asInt, asIntOf, wl, n1, n2, Builtin.lenOf, hn, h63', h48', Question.forced, hso, newRow, grownCap, h0, hnil]
    · simp [Builtin.append_, run_underlying ht, run_underlying hu, sizeOf, typeInfo, zeroValue, hi, hz, asInt, asIntOf, wl, n1, n2, Builtin.lenOf, hn, h63', h48', Question.forced, hso, newRow, grownCap, h0]

theorem append_zero {t u ty e : TypeId} {i : TypeInfo} (ht : P.underlying t = some (.slice e)) (hi : P.info? e = some i) {y : Value} {base : Option Addr} {cap : Nat}
    (hy : (∃ e2 b c, P.underlying u = some (.slice e2) ∧ y = .slice b 0 c) ∨ (∃ k k', P.underlying u = some (.int k) ∧ y = .int k' (0 : Int))) :
    (Builtin.append_ #[t, u] ty #[.slice base 0 cap, y]).run P w = .ok (.slice base 0 cap) w := by
  rcases hy with ⟨e2, b, c, hu, rfl⟩ | ⟨k, k', hu, rfl⟩
  · cases base <;> cases b <;> simp [Builtin.append_, run_underlying ht, run_underlying hu, sizeOf, typeInfo, hi, Builtin.lenOf, Builtin.firstCells, loadCells, loadCellsFrom, storeCells]
  · have wl : IntKind.i64.wrap 0 = 0 := rfl
    cases base <;> simp [Builtin.append_, run_underlying ht, run_underlying hu, sizeOf, typeInfo, hi, asInt, asIntOf, wl, storeCells]

end

def appR (H : List Blk) (sz bytes : Nat) (x : AV) (ys : List AV) (K : AV → List Blk → Prop) : Prop :=
  match x with
  | .ow loc off len => (match H[loc]? with
    | some (.row sr es) => (off = 0 ∧ len = es.length ∧ sr = sz ∧ len + ys.length ≤ 1099511627776 ∧ (len + ys.length) * bytes ≤ 1099511627776) ∧
        K (.ow loc 0 (len + ys.length)) (H.set loc (.row sr (es ++ ys)))
    | _ => False)
  | .p .e0 => (ys.length ≤ 1099511627776 ∧ ys.length * bytes ≤ 1099511627776) ∧ K (.ow H.length 0 ys.length) (H ++ [.row sz ys])
  | _ => False

theorem new_empty {G : Globals} {E : Env} (hS : Sim G E) (sz : Nat) : ∃ E', E'.w = E.w ∧ E'.H = E.H ++ [.row sz []] ∧ Le E E' ∧ Sim G E' := by
  refine ⟨⟨E.w, E.ι, E.H ++ [.row sz []], E.X⟩, rfl, rfl, ?_⟩
  have u : Upd E ⟨E.w, E.ι, E.H ++ [.row sz []], E.X⟩ E.H.length (.row sz []) := {
    hl := Nat.le_refl _
    keep := ⟨rfl, rfl⟩
    hlen := by simp
    hH := fun j => by
      by_cases hj : j = E.H.length
      · subst hj; simp
      · rw [if_neg hj]
        rcases Nat.lt_or_ge j E.H.length with h | h
        · exact List.getElem?_append_left h
        · rw [List.getElem?_eq_none h, List.getElem?_eq_none (by simp; omega)]
    hι := fun _ _ => rfl
    size := Nat.le_refl _
    hw := fun _ _ _ => rfl
    hext := rfl
    hown := fun j ⟨_, h⟩ => by
      rcases h with ⟨cs, h⟩ | ⟨sz', es, h, hne⟩
      · simp at h
      · simp at h; exact absurd h.2 (fun e => hne e)
    kbox := fun _ h => by omega
    krow := fun _ _ h => by omega }
  exact ⟨u.le hS, u.sim hS (fun cs hcs => by cases hcs) (fun sz es hes hne => by cases hes; exact absurd rfl hne)⟩

theorem move_block {G : Globals} {E : Env} (hS : Sim G E) {loc sz : Nat} {es es' : List AV} {w' : World} {k : Nat} {c : Array Value} {T : TypeId} (hH : E.H[loc]? = some (.row sz es)) (hk : E.w.heap.size ≤ k) (hsz : E.w.heap.size ≤ w'.heap.size) (hkp : w'.os = E.w.os ∧ w'.output = E.w.output)
    (hold : ∀ j, j < E.w.heap.size → w'.heap[j]? = E.w.heap[j]?) (hnew : w'.heap[k]? = some (.cells c T (0, 0))) (hl : es.length < es'.length) (hu : Uni sz es') (hp : PreOK E (flat es') c) :
    ∃ E', E'.w = w' ∧ E'.H = E.H.set loc (.row sz es') ∧ E'.ι loc = k ∧ Le E E' ∧ Sim G E' := by
  have hlt : loc < E.H.length := (List.getElem?_eq_some_iff.1 hH).1
  refine ⟨⟨w', updι E.ι loc k, E.H.set loc (.row sz es'), E.X⟩, rfl, rfl, by simp [updι], ?_⟩
  have u : Upd E ⟨w', updι E.ι loc k, E.H.set loc (.row sz es'), E.X⟩ loc (.row sz es') := {
    keep := hkp
    hl := Nat.le_of_lt hlt
    hlen := by simp
    hH := fun j => by
      by_cases hj : j = loc
      · subst hj; simp [hlt]
      · rw [if_neg hj]
        simp only [List.getElem?_set]
        rw [if_neg (fun h => hj h.symm)]
    hι := fun j hj => by simp [updι, hj]
    size := hsz
    hw := fun j hj _ => hold j hj
    hext := rfl
    hown := fun j ⟨hj, _⟩ => .inl (by simp [updι] at hj; omega)
    kbox := fun _ _ h => by cases h
    krow := fun sz' es'' _ h => by
      cases h
      exact ⟨es, hH, by omega, fun _ h => by omega⟩ }
  refine ⟨u.le hS, u.sim hS (fun cs hcs => by cases hcs) (fun sz' es'' hes hne => ?_)⟩
  cases hes
  exact ⟨c, T, by simp only [updι, if_true]; exact hnew, PreOK.row hu hp⟩

theorem PreOK.append {E : Env} {xs ys : List AV} {c vs : Array Value} (h : PreOK E xs c) (hy : CellsOK E ys vs) {r : Array Value} (h1 : ∀ j, j < xs.length → r[j]? = c[j]?) (h2 : ∀ j, j < vs.size → r[xs.length + j]? = vs[j]?) :
    PreOK E (xs ++ ys) r := by
  intro j x hx
  rcases Nat.lt_or_ge j xs.length with hj | hj
  · rw [List.getElem?_append_left hj] at hx
    rw [h1 j hj]
    exact h _ _ hx
  · rw [List.getElem?_append_right hj] at hx
    obtain ⟨v, e1, e2⟩ := hy.pre _ _ hx
    have hjv : j - xs.length < vs.size := (Array.getElem?_eq_some_iff.1 e1).1
    have := h2 _ hjv
    rw [show xs.length + (j - xs.length) = j by omega] at this
    exact ⟨v, by rw [this]; exact e1, e2⟩

theorem uni_append {sz : Nat} {a b : List AV} (h1 : Uni sz a) (h2 : Uni sz b) : Uni sz (a ++ b) := by
  intro e he
  rcases List.mem_append.1 he with h | h
  · exact h1 e h
  · exact h2 e h

theorem set_same {α : Type} {l : List α} {i : Nat} {x : α} (h : l[i]? = some x) : l.set i x = l := by
  apply List.ext_getElem?
  intro j
  rw [List.getElem?_set]
  split
  · rename_i hij
    subst hij
    split
    · exact h.symm
    · rename_i hlt
      rw [List.getElem?_eq_none (by omega)]
  · rfl

section
variable {P : Program} {G : Globals} {E : Env} (hS : Sim G E)
include hS

theorem append_any {t u ty e : TypeId} {i : TypeInfo} {z : Value} (ht : P.underlying t = some (.slice e)) (hi : P.info? e = some i) (hz : i.zero = some z) (hzs : z.cells.size = i.size) (hs0 : 0 < i.size) {x : AV} {s y : Value} {ys : List AV} {news : Array Value}
    (hc : Conc E x s) (hys : Uni i.size ys) (hnews : CellsOK E (flat ys) news)
    (hy : (∃ e2 b c, P.underlying u = some (.slice e2) ∧ y = .slice b ys.length c ∧ ∀ w : World, w.heap = E.w.heap → (Builtin.firstCells i.size ys.length y).run P w = .ok news w) ∨
      (∃ k k', P.underlying u = some (.int k) ∧ y = .int k' (ys.length : Int) ∧ news = Builtin.zeroCells z.cells ys.length))
    {Kx : AV → List Blk → Prop}
    (h : appR E.H i.size i.bytes x ys Kx) :
    ∃ v w' E' r, (Builtin.append_ #[t, u] ty #[s, y]).run P E.w = .ok v w' ∧ E'.w = w' ∧ Le E E' ∧ Sim G E' ∧ Conc E' r v ∧ Kx r E'.H := by
  have hfl := flat_length hys
  have hnl : news.size = ys.length * i.size := by rw [← hnews.1, hfl]
  have hcell : ∀ v ∈ news.toList, v.oneCell' = true := by
    intro v hv
    obtain ⟨k, hk, rfl⟩ := List.mem_iff_getElem.1 hv
    exact (hnews.2.1 k _ (by rw [← Array.getElem?_toList]; exact List.getElem?_eq_getElem hk)).one
  have hyz : ys.length = 0 → (∃ e2 b c, P.underlying u = some (.slice e2) ∧ y = .slice b 0 c) ∨ (∃ k k', P.underlying u = some (.int k) ∧ y = .int k' (0 : Int)) := by
    intro h0
    rcases hy with ⟨e2, b, c, h1, h2, _⟩ | ⟨k, k', h1, h2, _⟩
    · rw [h0] at h2; exact .inl ⟨e2, b, c, h1, h2⟩
    · rw [h0] at h2; exact .inr ⟨k, k', h1, h2⟩
  have hyg : ∀ w : World, w.heap = E.w.heap → (∃ e2 b c, P.underlying u = some (.slice e2) ∧ y = .slice b ys.length c ∧ (Builtin.firstCells i.size ys.length y).run P w = .ok news w) ∨
      (∃ k k', P.underlying u = some (.int k) ∧ y = .int k' (ys.length : Int) ∧ news = Builtin.zeroCells z.cells ys.length) := by
    intro w hw
    rcases hy with ⟨e2, b, c, h1, h2, h3⟩ | h1
    · exact .inl ⟨e2, b, c, h1, h2, h3 w hw⟩
    · exact .inr h1
  have fromNothing : ∀ (base : Option Addr), 0 < ys.length → ys.length ≤ 1099511627776 → ys.length * i.bytes ≤ 1099511627776 →
      (Builtin.append_ #[t, u] ty #[.slice base 0 0, y]).run P E.w = .ok (.slice (some ⟨E.w.heap.size, 0, none⟩) ys.length (grownCap E.w ys.length 0 e))
        (E.w.drew.alloc (.cells (news ++ Builtin.zeroCells z.cells (grownCap E.w ys.length 0 e - ys.length)) e)) := by
    intro base h0 h1 h2
    have := append_grow (P := P) (w := E.w) (ty := ty) ht hi hz hzs (s := .slice base 0 0) (olds := #[]) rfl (by cases base <;> simp [Builtin.firstCells, loadCells, loadCellsFrom]) (hyg E.w.drew rfl) (by omega) (by omega) (by simpa using h2)
    simpa using this
  have hzc := size_zeroCells z.cells
  unfold appR at h
  split at h
  · rename_i loc off len
    split at h
    · rename_i sr es hH
      obtain ⟨⟨rfl, rfl, rfl, hm, hb⟩, h⟩ := h
      have emptyCase : es = [] → ∀ base : Option Addr, s = .slice base 0 0 → ∃ v w' E' r, (Builtin.append_ #[t, u] ty #[s, y]).run P E.w = .ok v w' ∧ E'.w = w' ∧ Le E E' ∧ Sim G E' ∧ Conc E' r v ∧ Kx r E'.H := by
        intro he base hsb
        subst he
        subst hsb
        simp only [List.length_nil, Nat.zero_add, List.nil_append] at h hm hb
        by_cases h0 : ys.length = 0
        · have hy0 := List.eq_nil_of_length_eq_zero h0
          subst hy0
          refine ⟨.slice base 0 0, E.w, E, .ow loc 0 0, append_zero ht hi (hyz rfl), rfl, Le.refl E, hS, .owE hH, ?_⟩
          rw [set_same hH] at h
          exact h
        · have hr := fromNothing base (by omega) hm hb
          obtain ⟨E', e1, e2, e3, e4, e5⟩ := move_block hS hH (w' := E.w.drew.alloc (.cells (news ++ Builtin.zeroCells z.cells (grownCap E.w ys.length 0 e - ys.length)) e)) (k := E.w.heap.size) (es' := ys) (Nat.le_refl _) (by simp) ⟨rfl, rfl⟩
            (fun j hj => push_old E.w.drew _ hj) (push_new E.w.drew _) (by simp; omega) hys (by
              have := PreOK.append (E := E) (xs := []) (c := #[]) (ys := flat ys) (r := news ++ Builtin.zeroCells z.cells (grownCap E.w ys.length 0 e - ys.length)) (fun j x hx => by simp at hx) hnews (fun j hj => by simp at hj)
                (fun j hj => by simp [Array.getElem?_append, hj])
              simpa using this)
          refine ⟨_, _, E', _, hr, e1, e4, e5, ?_, by rw [e2]; exact h⟩
          have hg := grownCap_ge E.w ys.length 0 e
          have hlt : loc < E.H.length := (List.getElem?_eq_some_iff.1 hH).1
          have := whole_row (E' := E') (loc := loc) (sz := i.size) (es := ys) (cap := grownCap E.w ys.length 0 e) (by rw [e2]; simp [hlt]) (by rw [e1, e3]; exact push_new E.w.drew _) hg (by intro hh; subst hh; simp at h0) (by
            simp only [Array.size_append, hzc, hnl, hzs, ← Nat.add_mul]
            rw [show ys.length + (grownCap E.w ys.length 0 e - ys.length) = grownCap E.w ys.length 0 e by omega]
            exact Nat.le_refl _)
          rw [e3] at this
          exact this
      generalize hlen : es.length = nl at hc
      cases hc with
      | @owE _ sz' base hH' =>
        rw [hH] at hH'
        cases hH'
        exact emptyCase rfl base rfl
      | ow0 hH' hne ho => rw [hH] at hH'; cases hH'; exact absurd (List.eq_nil_of_length_eq_zero ho.symm) hne
      | @ow _ _ _ cap _ _ cur T fr hH' hl h0 hcap hw hcc =>
        rw [hH] at hH'
        cases hH'
        subst hlen
        have hne : es ≠ [] := by rintro rfl; simp at h0
        obtain ⟨cur', T', hw', hrow⟩ := hS.row loc i.size es hH hne
        rw [hw] at hw'
        cases hw'
        obtain ⟨hu, hpre⟩ := row_pre hrow
        have hesl := flat_length hu
        simp only [Nat.zero_mul, Nat.zero_add] at hcc hl ⊢
        by_cases hroom : es.length + ys.length ≤ cap
        · have hfit : 0 + es.length * i.size + news.size ≤ cur.size := by
            rw [hnl, Nat.zero_add, ← Nat.add_mul]
            exact Nat.le_trans (Nat.mul_le_mul_right _ hroom) hcc
          have hroomy : (∃ e2 b c, P.underlying u = some (.slice e2) ∧ y = .slice b ys.length c ∧ (Builtin.firstCells i.size ys.length y).run P E.w = .ok news E.w) ∨
              (∃ k k' z, P.underlying u = some (.int k) ∧ y = .int k' (ys.length : Int) ∧ (ys.length : Int) ≤ 9223372036854775807 ∧ ys.length * i.bytes ≤ 281474976710656 ∧ i.zero = some z ∧ z.cells.size = i.size ∧ news = Builtin.zeroCells z.cells ys.length) := by
            rcases hyg E.w rfl with h1 | ⟨k, k', h1, h2, h3⟩
            · exact .inl h1
            · have : ys.length * i.bytes ≤ (es.length + ys.length) * i.bytes := Nat.mul_le_mul_right _ (by omega)
              exact .inr ⟨k, k', z, h1, h2, by omega, by omega, hz, hzs, h3⟩
          have hr := append_room (P := P) (w := E.w) (ty := ty) ht hi hroomy hnl hw hcell hroom hfit
          have hget := putArr_get cur (0 + es.length * i.size) news.toList (by simpa using hfit)
          obtain ⟨E', e1, e2, e3, e4, e5⟩ := set_block hS hH ⟨rfl, .inr ⟨_, _, hH, hne⟩⟩ hw (putArr_size cur (0 + es.length * i.size) news.toList (by simpa using hfit)) (b' := .row i.size (es ++ ys))
            (.inr ⟨_, _, _, rfl, rfl, by simp, uni_append hu hys, by
              rw [flat_append]
              refine PreOK.append (c := cur) (vs := news) hpre hnews (fun j hj => ?_) (fun j hj => ?_)
              · rw [hget j, if_neg (by omega)]
              · rw [hget, if_pos (by simp; omega), hesl, Nat.zero_add, Nat.add_sub_cancel_left, Array.getElem?_toList]⟩)
          refine ⟨_, _, E', _, hr, e1, e4, e5, ?_, by rw [e2]; exact h⟩
          have hlt : loc < E.H.length := (List.getElem?_eq_some_iff.1 hH).1
          have hnew : E'.w.heap[E'.ι loc]? = some (.cells (cur.toList.take (0 + es.length * i.size) ++ news.toList ++ cur.toList.drop (0 + es.length * i.size + news.toList.length)).toArray T (0, 0)) := by
            rw [e1, e3]
            exact setRow_heap E.w (E.ι loc) cur _ T (0, 0) hw
          have := Conc.ow (E := E') (loc := loc) (off := 0) (len := es.length + ys.length) (cap := cap) (sz := i.size) (es := es ++ ys) (by rw [e2]; simp [hlt]) (by simp) (by omega) hroom hnew (by
            rw [putArr_size cur (0 + es.length * i.size) news.toList (by simpa using hfit), Nat.zero_add]
            exact hcc)
          rw [e3, Nat.zero_mul] at this
          exact this
        · obtain ⟨olds, ho1, ho2, ho3⟩ := read_flat (P := P) hS (x := .ow loc 0 es.length) (v := .slice (some ⟨E.ι loc, 0, none⟩) es.length cap) (sz := i.size) (es := es)
            (by have := Conc.ow (E := E) (off := 0) (len := es.length) (cap := cap) hH (by omega) h0 hcap hw (by simpa using hcc); rwa [Nat.zero_mul] at this) (by simp [rdS, hH]) es.length (Nat.le_refl _)
          rw [List.take_length] at ho1
          have hr := append_grow (P := P) (w := E.w) (ty := ty) ht hi hz hzs (s := .slice (some ⟨E.ι loc, 0, none⟩) es.length cap) (olds := olds) rfl (ho2 E.w.drew rfl _ (.inl rfl)) (hyg E.w.drew rfl) (by omega) hm hb
          obtain ⟨E', e1, e2, e3, e4, e5⟩ := move_block hS hH (w' := E.w.drew.alloc (.cells (olds ++ news ++ Builtin.zeroCells z.cells (grownCap E.w (es.length + ys.length) cap e - (es.length + ys.length))) e)) (k := E.w.heap.size) (es' := es ++ ys)
            (Nat.le_refl _) (by simp) ⟨rfl, rfl⟩ (fun j hj => push_old E.w.drew _ hj) (push_new E.w.drew _) (by simp; omega) (uni_append hu hys) (by
              rw [flat_append]
              have hol := ho1.1
              refine PreOK.append (c := olds) (vs := news) ho1.pre hnews (fun j hj => ?_) (fun j hj => ?_)
              · rw [Array.append_assoc, Array.getElem?_append_left (by omega)]
              · rw [Array.append_assoc, Array.getElem?_append_right (by omega), hol, Nat.add_sub_cancel_left, Array.getElem?_append_left hj])
          refine ⟨_, _, E', _, hr, e1, e4, e5, ?_, by rw [e2]; exact h⟩
          have hg := grownCap_ge E.w (es.length + ys.length) cap e
          have hlt : loc < E.H.length := (List.getElem?_eq_some_iff.1 hH).1
          have := whole_row (E' := E') (loc := loc) (sz := i.size) (es := es ++ ys) (cap := grownCap E.w (es.length + ys.length) cap e) (by rw [e2]; simp [hlt]) (by rw [e1, e3]; exact push_new E.w.drew _) (by simpa using hg)
            (by intro hh; simp at hh; exact absurd hh.1 hne) (by
              simp only [Array.size_append, hzc, hnl, ← ho1.1, hesl, hzs, ← Nat.add_mul]
              rw [show es.length + ys.length + (grownCap E.w (es.length + ys.length) cap e - (es.length + ys.length)) = grownCap E.w (es.length + ys.length) cap e by omega]
              exact Nat.le_refl _)
          rw [e3, List.length_append] at this
          exact this
      | owS hlt hn => have := hn _ _ hH; omega
    · exact h.elim
  · obtain ⟨⟨hm, hb⟩, h⟩ := h
    cases hc with
    | p hc =>
      cases hc with
      | @e0 base =>
        by_cases h0 : ys.length = 0
        · have hy0 := List.eq_nil_of_length_eq_zero h0
          subst hy0
          obtain ⟨E', e1, e2, e3, e4⟩ := new_empty hS i.size
          refine ⟨_, _, E', _, append_zero ht hi (hyz rfl), e1, e3, e4, ?_, by rw [e2]; exact h⟩
          exact Conc.owE (sz := i.size) (by rw [e2]; simp)
        · have hr := fromNothing base (by omega) hm hb
          obtain ⟨E', e1, e2, e3, e4, e5⟩ := new_block hS (w' := E.w.drew.alloc (.cells (news ++ Builtin.zeroCells z.cells (grownCap E.w ys.length 0 e - ys.length)) e)) (k := E.w.heap.size) (b := .row i.size ys) (Nat.le_refl _) (by simp) ⟨rfl, rfl⟩
            (fun j hj => push_old E.w.drew _ hj) (push_new E.w.drew _) (.inr ⟨_, _, rfl, hys, by
              have := PreOK.append (E := E) (xs := []) (c := #[]) (ys := flat ys) (r := news ++ Builtin.zeroCells z.cells (grownCap E.w ys.length 0 e - ys.length)) (fun j x hx => by simp at hx) hnews (fun j hj => by simp at hj)
                (fun j hj => by simp [Array.getElem?_append, hj])
              simpa using this⟩)
          refine ⟨_, _, E', _, hr, e1, e4, e5, ?_, by rw [e2]; exact h⟩
          have hg := grownCap_ge E.w ys.length 0 e
          have := whole_row (E' := E') (loc := E.H.length) (sz := i.size) (es := ys) (cap := grownCap E.w ys.length 0 e) (by rw [e2]; simp) (by rw [e1, e3]; exact push_new E.w.drew _) hg (by intro hh; subst hh; simp at h0) (by
            simp only [Array.size_append, hzc, hnl, hzs, ← Nat.add_mul]
            rw [show ys.length + (grownCap E.w ys.length 0 e - ys.length) = grownCap E.w ys.length 0 e by omega]
            exact Nat.le_refl _)
          rw [e3] at this
          exact this
  · exact h.elim

end
end Go.Ae
end

section
set_option linter.unusedSectionVars false
set_option linter.unusedSimpArgs false
set_option linter.unusedVariables false
namespace Go.Ae

theorem putAt_length {α : Type} (l vs : List α) (off : Nat) (h : off + vs.length ≤ l.length) : (putAt l off vs).length = l.length := by
  simp [putAt]; omega

theorem putAt_get {α : Type} (l vs : List α) (off k : Nat) (h : off + vs.length ≤ l.length) : (putAt l off vs)[k]? = if off ≤ k ∧ k < off + vs.length then vs[k - off]? else l[k]? := by
  have h1 : (l.take off).length = off := by simp; omega
  unfold putAt
  rcases Nat.lt_or_ge k off with hk | hk
  · rw [if_neg (by omega), List.append_assoc, List.getElem?_append_left (by omega), List.getElem?_take, if_pos hk]
  · rw [List.append_assoc, List.getElem?_append_right (by omega), h1]
    rcases Nat.lt_or_ge k (off + vs.length) with hk2 | hk2
    · rw [if_pos ⟨hk, hk2⟩, List.getElem?_append_left (by omega)]
    · rw [if_neg (by omega), List.getElem?_append_right (by omega), List.getElem?_drop]
      congr 1
      omega

theorem putAt_uni {sz : Nat} {es vs : List AV} {off : Nat} (h1 : Uni sz es) (h2 : Uni sz vs) : Uni sz (putAt es off vs) := by
  intro e he
  unfold putAt at he
  simp only [List.mem_append] at he
  rcases he with (h | h) | h
  · exact h1 e (List.mem_of_mem_take h)
  · exact h2 e h
  · exact h1 e (List.mem_of_mem_drop h)

theorem flat_putAt {sz : Nat} {es vs : List AV} {off : Nat} (h1 : Uni sz es) (h2 : Uni sz vs) (h : off + vs.length ≤ es.length) (h0 : 0 < sz) (q : Nat) :
    (flat (putAt es off vs))[q]? = if off * sz ≤ q ∧ q < off * sz + vs.length * sz then (flat vs)[q - off * sz]? else (flat es)[q]? := by
  have hu := putAt_uni (off := off) h1 h2
  have hl := putAt_length es vs off h
  have hdm : q / sz * sz + q % sz = q := by rw [Nat.mul_comm]; exact Nat.div_add_mod q sz
  have hm := Nat.mod_lt q h0
  rcases Nat.lt_or_ge q (es.length * sz) with hq | hq
  · rw [flat_div hu h0 q (by rw [hl]; exact hq), putAt_get _ _ _ _ h]
    by_cases hin : off ≤ q / sz ∧ q / sz < off + vs.length
    · have ha : off * sz ≤ q := by
        have := Nat.mul_le_mul_right sz hin.1
        omega
      have hb : q < off * sz + vs.length * sz := by
        rw [← Nat.add_mul]
        exact (Nat.div_lt_iff_lt_mul h0).1 hin.2
      rw [if_pos hin, if_pos ⟨ha, hb⟩, flat_div h2 h0 _ (by omega)]
      have e1 : (q - off * sz) / sz = q / sz - off := by
        rw [Nat.mul_comm off, Nat.sub_mul_div]
      have e2 : (q - off * sz) % sz = q % sz := by
        conv => rhs; rw [show q = (q - off * sz) + off * sz by omega]
        simp
      rw [e1, e2]
    · have hn : ¬ (off * sz ≤ q ∧ q < off * sz + vs.length * sz) := by
        rintro ⟨ha, hb⟩
        apply hin
        refine ⟨(Nat.le_div_iff_mul_le h0).2 ha, ?_⟩
        rw [← Nat.add_mul] at hb
        exact (Nat.div_lt_iff_lt_mul h0).2 hb
      rw [if_neg hin, if_neg hn, flat_div h1 h0 q hq]
  · have hn : ¬ (off * sz ≤ q ∧ q < off * sz + vs.length * sz) := by
      rintro ⟨_, hb⟩
      rw [← Nat.add_mul] at hb
      have := Nat.mul_le_mul_right sz h
      omega
    rw [if_neg hn, List.getElem?_eq_none (by rw [flat_length hu, hl]; exact hq), List.getElem?_eq_none (by rw [flat_length h1]; exact hq)]

theorem ConcL.append {E : Env} {xs ys : List AV} {us vs : Array Value} (h1 : ConcL E xs us) (h2 : ConcL E ys vs) : ConcL E (xs ++ ys) (us ++ vs) := by
  refine ⟨by simp [h1.1, h2.1], fun i x v hx hv => ?_⟩
  have hl := h1.1
  rcases Nat.lt_or_ge i xs.length with hi | hi
  · rw [List.getElem?_append_left hi] at hx
    rw [Array.getElem?_append_left (by omega)] at hv
    exact h1.2 i x v hx hv
  · rw [List.getElem?_append_right hi] at hx
    rw [Array.getElem?_append_right (by omega)] at hv
    rw [hl] at hx
    exact h2.2 _ x v hx hv

theorem run_enter {P : Program} {f : Nat} {fn : Func} {w : World} (hf : P.funcs[f]? = some fn) (hb : fn.body.isNone = false) (hn : (fn.name == "runtime.NumGoroutine") = false) (args : Array Value) :
    (callFunc f args).run P w = .ok (.enter f args) w := by
  unfold callFunc
  rw [Sem.run_bind, run_program]
  simp only [Result.andThen_ok, hf, hn, hb, Bool.false_eq_true, if_false, Sem.run_pure]

section
variable {P : Program} {G : Globals} {E : Env} {D : List AV} {a : Act} {o : Oper} {K : AV → List Blk → Prop} (hS : Sim G E) (hT : Slots E D a.tmps)
include hS hT

theorem s_app {c : Call} {t u e : TypeId} {sz b : Nat} {z : PV} {x y : Operand} {x' y' : Opd} (ho : o.op = .call c) (hb : c.callee = .builtin .append) (ha : c.args.toList = [x, y]) (hts : c.argTypes.toList = [t, u])
    (ht : elemT P t = some (e, sz, b)) (hu : ∃ e2, P.underlying u = some (.slice e2)) (hz : zeroT P e = some z) (hx : trO x = some x') (hy : trO y = some y')
    (h : ev0 G (FCall P G) (.app sz b x' y') D E.H K) : RunsTo P G E K ((execOp a.eval o).run P E.w) := by
  have c1 := get_conc hS hT hx
  have c2 := get_conc hS hT hy
  have hargs : c.args = #[x, y] := by rw [← ha]
  have htys : c.argTypes = #[t, u] := by rw [← hts]
  obtain ⟨hut, i, hi, rfl, rfl, h0⟩ := elemT_ok ht
  obtain ⟨i', v, hi', hv, hsz, hc⟩ := zeroT_ok (P := P) hS hz
  rw [hi] at hi'
  cases hi'
  have hzs : v.cells.size = i.size := by rw [← hc.1, List.length_map, hsz]
  rw [ex_call ho]
  simp only [resolve, hb, hargs, htys, invoke, builtin, pure_bind]
  simp only [ev0] at h
  split at h
  · rename_i sy ys hr
    obtain ⟨hsy, h⟩ := h
    obtain ⟨b', len, cap, hyv, hl, _, _⟩ := rdS_slice (a := { tmps := #[], defers := [] }) (D := []) (G := G) hS (by intro k x hx; simp at hx) c2 hr
    obtain ⟨news, n1, n2, n3⟩ := read_flat (P := P) hS c2 hr ys.length (Nat.le_refl _)
    rw [List.take_length] at n1 n3
    obtain ⟨e2, hu⟩ := hu
    have hyu : Uni i.size ys := by
      rcases hsy with rfl | rfl
      · by_cases hy0 : ys.length = 0
        · rw [List.eq_nil_of_length_eq_zero hy0]; intro e he; cases he
        · exact n3 hy0
      · intro e he; cases he
    obtain ⟨v', w', E', r, h1, h2, h3, h4, h5, h6⟩ := append_any (P := P) (ty := o.type) hS hut hi hv hzs h0 (x := get G D x') (Kx := K) c1 hyu n1
      (.inl ⟨e2, b', cap, hu, by rw [hyv, hl], fun w hw => n2 w hw _ (by
        rcases hsy with rfl | rfl
        · exact .inl rfl
        · exact .inr rfl)⟩) (by
        unfold appR
        split at h
        · rename_i loc off len hq
          (try rw [hq])
          exact h
        · rename_i hq
          (try rw [hq])
          exact h
        · exact h.elim)
    simp only [List.map_toArray, List.map_cons, List.map_nil, Sem.run_bind, h1, Result.andThen_ok, Sem.run_pure]
    exact ⟨E', r, h2, h3, h4, h5, h6⟩
  · exact h.elim

theorem s_apz {c : Call} {t u e : TypeId} {sz b : Nat} {z : PV} {x y : Operand} {x' y' : Opd} (ho : o.op = .call c) (hb : c.callee = .builtin .append) (ha : c.args.toList = [x, y]) (hts : c.argTypes.toList = [t, u])
    (ht : elemT P t = some (e, sz, b)) (hu : ∃ k, P.underlying u = some (.int k)) (hz : zeroT P e = some z) (hx : trO x = some x') (hy : trO y = some y')
    (h : ev0 G (FCall P G) (.apz sz b z x' y') D E.H K) : RunsTo P G E K ((execOp a.eval o).run P E.w) := by
  have c1 := get_conc hS hT hx
  have hargs : c.args = #[x, y] := by rw [← ha]
  have htys : c.argTypes = #[t, u] := by rw [← hts]
  obtain ⟨hut, i, hi, rfl, rfl, h0⟩ := elemT_ok ht
  obtain ⟨i', v, hi', hv, hsz, hc⟩ := zeroT_ok (P := P) hS hz
  rw [hi] at hi'
  cases hi'
  have hzs : v.cells.size = i.size := by rw [← hc.1, List.length_map, hsz]
  rw [ex_call ho]
  simp only [resolve, hb, hargs, htys, invoke, builtin, pure_bind]
  obtain ⟨k', n, _, hn, h⟩ := asI_inv (get_conc hS hT hy) h
  obtain ⟨k, hu⟩ := hu
  have hok := made_ok hc hsz.symm h0 n.toNat
  have hun := uni_replicate n.toNat z
  rw [← hsz] at hun
  rw [show madeCells v.cells (n.toNat * i.size) = Builtin.zeroCells v.cells n.toNat by unfold Builtin.zeroCells madeCells; rw [hzs]] at hok
  have hnn : 0 ≤ n := by
    split at h
    · split at h
      · exact h.1.2.2.2.1
      · exact h.elim
    · exact h.1.1
    · exact h.elim
  obtain ⟨v', w', E', r, h1, h2, h3, h4, h5, h6⟩ := append_any (P := P) (ty := o.type) (u := u) hS hut hi hv hzs h0 (x := get G D x') (y := a.eval y) (Kx := K) c1 hun hok
    (.inr ⟨k, k', hu, by rw [hn]; congr 1; simp; omega, by rw [List.length_replicate]⟩) (by
      unfold appR
      rw [List.length_replicate]
      split at h
      · rename_i loc off len hq
        (try rw [hq])
        (try simp only)
        split at h
        · rename_i sr es hH
          (try rw [hH])
          exact ⟨⟨h.1.1, h.1.2.1, h.1.2.2.1, h.1.2.2.2.2⟩, h.2⟩
        · exact h.elim
      · rename_i hq
        (try rw [hq])
        exact ⟨h.1.2, h.2⟩
      · exact h.elim)
  simp only [List.map_toArray, List.map_cons, List.map_nil, Sem.run_bind, h1, Result.andThen_ok, Sem.run_pure]
  exact ⟨E', r, h2, h3, h4, h5, h6⟩

theorem s_cpy {c : Call} {t u e e2 : TypeId} {sz b : Nat} {x y : Operand} {x' y' : Opd} (ho : o.op = .call c) (hb : c.callee = .builtin .copy) (ha : c.args.toList = [x, y]) (hts : c.argTypes.toList = [t, u])
    (ht : elemT P t = some (e, sz, b)) (hx : trO x = some x') (hy : trO y = some y')
    (h : ev0 G (FCall P G) (.cpy sz x' y') D E.H K) : RunsTo P G E K ((execOp a.eval o).run P E.w) := by
  have c1 := get_conc hS hT hx
  have c2 := get_conc hS hT hy
  have hargs : c.args = #[x, y] := by rw [← ha]
  have htys : c.argTypes = #[t, u] := by rw [← hts]
  obtain ⟨hut, i, hi, rfl, rfl, h0⟩ := elemT_ok ht
  have key : ∀ {v : Value} {w' : World}, (Builtin.copy_ #[t, u] o.type #[a.eval x, a.eval y]).run P E.w = .ok v w' → (execOp a.eval o).run P E.w = .ok (.value v) w' := by
    intro v w' hr
    rw [ex_call ho]
    simp only [resolve, hb, hargs, htys, invoke, builtin, pure_bind, List.map_toArray, List.map_cons, List.map_nil, Sem.run_bind, hr, Result.andThen_ok, Sem.run_pure]
  simp only [ev0] at h
  split at h
  · rename_i sy ys hr
    obtain ⟨hsy, h⟩ := h
    obtain ⟨b', len, cap, hyv, hl, _, _⟩ := rdS_slice (a := { tmps := #[], defers := [] }) (D := []) (G := G) hS (by intro k x hx; simp at hx) c2 hr
    split at h
    · rename_i loc off dl hq
      rw [hq] at c1
      split at h
      · rename_i sr es hH
        obtain ⟨⟨hle, rfl⟩, h⟩ := h
        have hmin : Nat.min ys.length dl = min ys.length dl := rfl
        obtain ⟨news, n1, n2, n3⟩ := read_flat (P := P) hS c2 hr (min ys.length dl) (Nat.min_le_left _ _)
        have hfirst : (Builtin.firstCells i.size (min ys.length dl) (a.eval y)).run P E.w = .ok news E.w := n2 E.w rfl _ (by
          rcases hsy with rfl | rfl
          · exact .inl rfl
          · exact .inr (by simp))
        have hyu : Uni i.size (ys.take (min ys.length dl)) := by
          by_cases hy0 : min ys.length dl = 0
          · rw [hy0]; intro e he; cases he
          · rcases hsy with rfl | rfl
            · exact n3 hy0
            · simp at hy0
        have nothing : dl = 0 → ∀ (bb : Option Addr) (cp : Nat), a.eval x = .slice bb 0 cp → RunsTo P G E K ((execOp a.eval o).run P E.w) := by
          intro hd bb cp hv
          subst hd
          have hn0 : news = #[] := by
            apply Array.eq_empty_of_size_eq_zero
            rw [← n1.1, flat_length hyu]
            simp
          subst hn0
          have hnil : ys.take (min ys.length 0) = [] := by simp
          rw [hnil] at h
          have hps : E.H.set loc (.row i.size (putAt es off [])) = E.H := by
            have : putAt es off [] = es := by simp [putAt]
            rw [this]
            exact set_same hH
          rw [hps] at h
          simp only [Nat.min_zero] at h hfirst
          have hres : (Builtin.copy_ #[t, u] o.type #[a.eval x, a.eval y]).run P E.w = .ok (goInt 0) E.w := by
            rw [hv]
            rw [hyv] at hfirst ⊢
            cases bb <;> simp [Builtin.copy_, run_underlying hut, Builtin.lenOf, sizeOf, typeInfo, hi, hfirst, storeCells]
          rw [key hres]
          exact .same hS .i h
        generalize hdl : dl = nd at c1
        generalize hav : a.eval x = av at c1
        cases c1 with
        | @owE _ sz' base hH' => exact nothing hdl base 0 hav
        | @ow0 _ _ _ cp bb _ hH' hne ho => exact nothing hdl bb cp hav
        | @ow _ _ _ cp _ es' cur T fr hH' hl' hd0 hcap hw hcc =>
          subst hdl
          rw [hH] at hH'
          cases hH'
          have hne : es ≠ [] := by rintro rfl; simp at hl'; omega
          obtain ⟨cur', T', hw', hrow⟩ := hS.row loc i.size es hH hne
          rw [hw] at hw'
          cases hw'
          obtain ⟨hu, hpre⟩ := row_pre hrow
          have hnl : news.size = min ys.length dl * i.size := by
            rw [← n1.1, flat_length hyu, List.length_take, Nat.min_eq_left (Nat.min_le_left _ _)]
          have htl : (ys.take (min ys.length dl)).length = min ys.length dl := by rw [List.length_take]; omega
          have hnd : min ys.length dl ≤ dl := Nat.min_le_right _ _
          have hfit : off * i.size + news.size ≤ cur.size := by
            rw [hnl, ← Nat.add_mul]
            exact Nat.le_trans (Nat.mul_le_mul_right _ (by omega)) hcc
          have hcell : ∀ v ∈ news.toList, v.oneCell' = true := by
            intro v hv
            obtain ⟨k, hk, rfl⟩ := List.mem_iff_getElem.1 hv
            exact (n1.2.1 k _ (by rw [← Array.getElem?_toList]; exact List.getElem?_eq_getElem hk)).one
          have hst := run_storeCells_at P (E.ι loc) (off * i.size) T news.toList 0 cur E.w hw (by simp; omega) hcell
          simp only [Nat.add_zero] at hst
          have hres : (Builtin.copy_ #[t, u] o.type #[a.eval x, a.eval y]).run P E.w = .ok (goInt (min ys.length dl : Nat)) (E.w.setRow (E.ι loc) (cur.toList.take (off * i.size) ++ news.toList ++ cur.toList.drop (off * i.size + news.toList.length)).toArray) := by
            rw [hav]
            rw [hyv, hl] at hfirst ⊢
            simp [Builtin.copy_, Builtin.lenOf, run_underlying hut, sizeOf, typeInfo, hi, hfirst, hst, hmin]
          rw [key hres]
          have hget := putArr_get cur (off * i.size) news.toList (by simpa using hfit)
          obtain ⟨E', e1, e2, e3, e4, e5⟩ := set_block hS hH ⟨rfl, .inr ⟨_, _, hH, hne⟩⟩ hw (putArr_size cur (off * i.size) news.toList (by simpa using hfit)) (b' := .row i.size (putAt es off (ys.take (min ys.length dl))))
            (.inr ⟨_, _, _, rfl, rfl, by rw [putAt_length _ _ _ (by omega)]; exact Nat.le_refl _, putAt_uni hu hyu, by
              intro q x hq
              rw [flat_putAt hu hyu (by omega) h0, htl] at hq
              rw [hget, show news.toList.length = min ys.length dl * i.size by simpa using hnl]
              split at hq
              · rename_i hin
                rw [if_pos hin]
                obtain ⟨v, h1, h2⟩ := n1.pre _ _ hq
                exact ⟨v, by rw [Array.getElem?_toList]; exact h1, h2⟩
              · rename_i hin
                rw [if_neg hin]
                exact hpre _ _ hq⟩)
          exact ⟨E', _, e1, e4, e5, .i, by rw [e2]; exact h⟩
        | owS hlt hn => subst hdl; have := hn _ _ hH; omega
      · exact h.elim
    · exact h.elim
  · exact h.elim

theorem s_call {c : Call} {f : Nat} {xs : List Opd} (ho : o.op = .call c) (hb : c.callee = .value (.func f)) (ha : trOs c.args.toList = some xs)
    (h : ev0 G (FCall P G) (.call f xs) D E.H K) : RunsTo P G E K ((execOp a.eval o).run P E.w) := by
  obtain ⟨l1, c1⟩ := trOs_conc hS hT ha
  obtain ⟨⟨fn, hf, hbd, hnm⟩, h⟩ := h
  rw [ex_call ho]
  have hr : (do let d ← resolve a.eval c o.type; invoke d.target d.args : Sem Next).run P E.w = .ok (.enter f (c.args.map a.eval)) E.w := by
    simp [resolve, hb, Act.eval, Deferred.ofValue, invoke, run_enter hf hbd hnm]
  rw [hr]
  refine ⟨rfl, h E _ rfl hS ⟨by simpa using l1, fun i x v hx hv => c1 i x v hx ?_⟩⟩
  simpa using hv

theorem s_callv {c : Call} {f : Operand} {f' : Opd} {xs : List Opd} (ho : o.op = .call c) (hb : c.callee = .value f) (hf' : trO f = some f') (ha : trOs c.args.toList = some xs)
    (h : ev0 G (FCall P G) (.callv f' xs) D E.H K) : RunsTo P G E K ((execOp a.eval o).run P E.w) := by
  obtain ⟨l1, c1⟩ := trOs_conc hS hT ha
  have c0 := get_conc hS hT hf'
  simp only [ev0] at h
  split at h
  · rename_i g first cap hq
    rw [hq] at c0
    obtain ⟨vf, vc, hv, h1, h2⟩ := c0.fn_inv
    obtain ⟨⟨fn, hf, hbd, hnm⟩, h⟩ := h
    rw [ex_call ho]
    have hr : (do let d ← resolve a.eval c o.type; invoke d.target d.args : Sem Next).run P E.w = .ok (.enter g (vf ++ c.args.map a.eval ++ vc)) E.w := by
      simp [resolve, hb, hv, Deferred.ofValue, invoke, run_enter hf hbd hnm]
    rw [hr]
    have hc1 : ConcL E (xs.map (get G D)) (c.args.map a.eval) := ⟨by simpa using l1, fun i x v hx hv => c1 i x v hx (by simpa using hv)⟩
    exact ⟨rfl, h E _ rfl hS ((h1.append hc1).append h2)⟩
  · exact h.elim

end
end Go.Ae
end

section
set_option linter.unusedSectionVars false
set_option linter.unusedSimpArgs false
set_option linter.unusedVariables false
namespace Go.Ae

theorem trOp1_inv {f : Opd → Option I} {x : Operand} {i : I} (h : trOp1 f x = some i) : ∃ a, trO x = some a ∧ f a = some i := by
  unfold trOp1 at h
  split at h
  · rename_i a ha; exact ⟨a, ha, h⟩
  · cases h

theorem trOp2_inv {f : Opd → Opd → Option I} {x y : Operand} {i : I} (h : trOp2 f x y = some i) : ∃ a b, trO x = some a ∧ trO y = some b ∧ f a b = some i := by
  unfold trOp2 at h
  split at h
  · rename_i a b ha hb; exact ⟨a, b, ha, hb, h⟩
  · cases h

section
variable {P : Program} {G : Globals} {E : Env} {D : List AV} {a : Act} {o : Oper} {K : AV → List Blk → Prop} (hS : Sim G E) (hT : Slots E D a.tmps)
include hS hT

theorem tr_eq {neg : Bool} {t u : TypeId} {x y : Operand} {i : I} (ho : o.op = .binOp (if neg then .neq else .eql) t x y u) (ht : trEq P neg t x y = some i) (h : ev0 G (FCall P G) i D E.H K) :
    RunsTo P G E K ((execOp a.eval o).run P E.w) := by
  unfold trEq at ht
  split at ht
  · obtain ⟨p, q, hx, hy, ht⟩ := trOp2_inv ht
    cases ht
    exact s_bin hS hT ho hx hy h
  · obtain ⟨p, q, hx, hy, ht⟩ := trOp2_inv ht
    cases ht
    exact s_bin hS hT ho hx hy h
  · rename_i hu
    obtain ⟨p, q, hx, hy, ht⟩ := trOp2_inv ht
    cases ht
    exact s_eqb hS hT ho hu hx hy h
  · rename_i hu
    split at ht
    · rename_i hy
      obtain ⟨p, hx, ht⟩ := trOp1_inv ht
      cases ht
      exact s_eqp hS hT ho hu hx hy h
    · cases ht
  · rename_i hu
    split at ht
    · rename_i hy
      obtain ⟨p, hx, ht⟩ := trOp1_inv ht
      cases ht
      exact s_eqf hS hT ho hu hx hy h
    · cases ht
  · rename_i hu
    split at ht
    · rename_i hy
      obtain ⟨p, hx, ht⟩ := trOp1_inv ht
      cases ht
      exact s_eqs hS hT ho hu hx hy h
    · cases ht
  · rename_i hu
    split at ht
    · rename_i ks hk
      split at ht
      · rename_i hp
        obtain ⟨p, q, hx, hy, ht⟩ := trOp2_inv ht
        cases ht
        exact s_eqa hS hT ho hk (by unfold isAggT; rw [hu]) hp hx hy h
      · cases ht
    · cases ht
  · rename_i hu
    split at ht
    · rename_i ks hk
      split at ht
      · rename_i hp
        obtain ⟨p, q, hx, hy, ht⟩ := trOp2_inv ht
        cases ht
        exact s_eqa hS hT ho hk (by unfold isAggT; rw [hu]) hp hx hy h
      · cases ht
    · cases ht
  · cases ht

theorem tr_builtin {c : Call} {b : Builtin} {i : I} (ho : o.op = .call c) (hb : c.callee = .builtin b) (ht : trBuiltin P b c.args.toList c.argTypes.toList = some i) (h : ev0 G (FCall P G) i D E.H K) :
    RunsTo P G E K ((execOp a.eval o).run P E.w) := by
  generalize hl : c.args.toList = l at ht
  generalize hm : c.argTypes.toList = m at ht
  unfold trBuiltin at ht
  split at ht
  · split at ht
    · rename_i hu
      obtain ⟨p, hx, ht⟩ := trOp1_inv ht
      cases ht
      exact s_lns hS hT ho hb hl hm hu hx h
    · rename_i hu
      obtain ⟨p, hx, ht⟩ := trOp1_inv ht
      cases ht
      exact s_len hS hT ho hb hl hm hu hx h
    · rename_i hu
      cases ht
      exact s_lnc hS hT ho hb hl hm hu h
    · cases ht
  · obtain ⟨p, q, hx, hy, ht⟩ := trOp2_inv ht
    cases ht
    exact s_mx (mn := false) hS hT ho hb hl hx hy h
  · obtain ⟨p, q, hx, hy, ht⟩ := trOp2_inv ht
    cases ht
    exact s_mx (mn := true) hS hT ho hb hl hx hy h
  · split at ht
    · rename_i he
      split at ht
      · rename_i hu
        split at ht
        · rename_i hz
          obtain ⟨p, q, hx, hy, ht⟩ := trOp2_inv ht
          cases ht
          exact s_apz hS hT ho hb hl hm he ⟨_, hu⟩ hz hx hy h
        · cases ht
      · rename_i hu
        split at ht
        · rename_i hz
          obtain ⟨p, q, hx, hy, ht⟩ := trOp2_inv ht
          cases ht
          exact s_app hS hT ho hb hl hm he ⟨_, hu⟩ hz hx hy h
        · cases ht
      · cases ht
    · cases ht
  · split at ht
    · rename_i he _
      obtain ⟨p, q, hx, hy, ht⟩ := trOp2_inv ht
      cases ht
      exact s_cpy (e2 := 0) hS hT ho hb hl hm he hx hy h
    · cases ht
  · cases ht

theorem tr_ok {i : I} (ht : trI P o.op = some i) (h : ev0 G (FCall P G) i D E.H K) : RunsTo P G E K ((execOp a.eval o).run P E.w) := by
  generalize ho : o.op = op at ht
  unfold trI at ht
  split at ht
  · obtain ⟨p, hx, ht⟩ := trOp1_inv ht
    cases ht
    exact s_mv hS hT (.inl ho) hx h
  · obtain ⟨p, hx, ht⟩ := trOp1_inv ht
    cases ht
    exact s_mv hS hT (.inr ho) hx h
  · split at ht
    · rename_i hc hx hy
      cases ht
      exact s_pick hS hT ho hc hx hy h
    · cases ht
  · simp only [Option.map_eq_some_iff] at ht
    obtain ⟨z, hz, rfl⟩ := ht
    exact s_alloc hS ho hz h
  · split at ht
    · obtain ⟨p, hx, ht⟩ := trOp1_inv ht
      cases ht
      exact s_box (n := 0) hS hT ho hx h
    · cases ht
  · split at ht
    · rename_i hz hps hpl
      simp only [Option.map_eq_some_iff] at ht
      obtain ⟨qs, hq, rfl⟩ := ht
      exact s_bd hS hT ho hz hps hpl hq h
    · cases ht
  · split at ht
    · rename_i he hps
      split at ht
      · rename_i hz
        split at ht
        · rename_i hn
          cases ht
          exact s_bsl hS hT ho he hz hps hn h
        · cases ht
      · cases ht
    · cases ht
  · split at ht
    · rename_i hl
      obtain ⟨p, hx, ht⟩ := trOp1_inv ht
      cases ht
      exact s_ld hS hT ho hl hx h
    · cases ht
  · split at ht
    · rename_i hn
      split at ht
      · rename_i h0
        obtain ⟨p, q, hx, hy, ht⟩ := trOp2_inv ht
        cases ht
        exact s_st hS hT ho hn h0 hx hy h
      · cases ht
    · cases ht
  · obtain ⟨p, hx, ht⟩ := trOp1_inv ht
    cases ht
    exact s_nc hS hT ho hx h
  · split at ht
    · exact tr_eq (neg := false) hS hT ho ht h
    · exact tr_eq (neg := true) hS hT ho ht h
    · obtain ⟨p, q, hx, hy, ht⟩ := trOp2_inv ht
      cases ht
      exact s_bin hS hT ho hx hy h
  · obtain ⟨p, hx, ht⟩ := trOp1_inv ht
    cases ht
    exact s_un hS hT ho hx h
  · split at ht
    · rename_i hs hd
      obtain ⟨p, hx, ht⟩ := trOp1_inv ht
      cases ht
      exact s_conv hS hT ho hs hd hx h
    · rename_i hs hd
      split at ht
      · rename_i he hn
        obtain ⟨p, hx, ht⟩ := trOp1_inv ht
        cases ht
        exact s_cvs hS hT ho hs hd he hn hx h
      · cases ht
    · cases ht
  · split at ht
    · rename_i h1 h2
      cases ht
      exact s_mkf hS hT ho h1 h2 h
    · cases ht
  · split at ht
    · rename_i he
      split at ht
      · rename_i hz
        obtain ⟨p, q, hx, hy, ht⟩ := trOp2_inv ht
        cases ht
        exact s_mks hS hT ho he hz hx hy h
      · cases ht
    · cases ht
  · split at ht
    · rename_i hu
      split at ht
      · rename_i hlo hhi
        obtain ⟨p, hx, ht⟩ := trOp1_inv ht
        cases ht
        exact s_sls hS hT ho hu hx hlo hhi h
      · cases ht
    · rename_i hu
      split at ht
      · rename_i hn hlo hhi hmx
        obtain ⟨p, hx, ht⟩ := trOp1_inv ht
        cases ht
        exact s_slc hS hT ho hu hn hx hlo hhi hmx h
      · cases ht
    · rename_i hu
      split at ht
      · rename_i hn hlo hhi
        obtain ⟨p, hx, ht⟩ := trOp1_inv ht
        cases ht
        exact s_sla hS hT ho hu hn hx hlo hhi h
      · cases ht
    · cases ht
  · split at ht
    · rename_i hu
      split at ht
      · rename_i hf
        split at ht
        · rename_i hn
          split at ht
          · rename_i h0
            obtain ⟨p, hx, ht⟩ := trOp1_inv ht
            cases ht
            exact s_fa hS hT ho hu hf hn h0 hx h
          · cases ht
        · cases ht
      · cases ht
    · cases ht
  · split at ht
    · rename_i hu
      split at ht
      · rename_i hf
        split at ht
        · rename_i hn
          obtain ⟨p, hx, ht⟩ := trOp1_inv ht
          cases ht
          exact s_fld hS hT ho hu hf hn hx h
        · cases ht
      · cases ht
    · cases ht
  · split at ht
    · rename_i hu
      split at ht
      · rename_i hn
        obtain ⟨p, q, hx, hy, ht⟩ := trOp2_inv ht
        cases ht
        exact s_ia hS hT ho hu hn hx hy h
      · cases ht
    · rename_i hu
      split at ht
      · rename_i hn
        obtain ⟨p, q, hx, hy, ht⟩ := trOp2_inv ht
        cases ht
        exact s_iaa hS hT ho hu hn hx hy h
      · cases ht
    · cases ht
  · split at ht
    · rename_i hu
      split at ht
      · rename_i hn hm
        obtain ⟨p, q, hx, hy, ht⟩ := trOp2_inv ht
        cases ht
        exact s_idx hS hT ho hu hn hm hx hy h
      · cases ht
    · rename_i hu
      obtain ⟨p, q, hx, hy, ht⟩ := trOp2_inv ht
      cases ht
      exact s_ids hS hT ho hu hx hy h
    · cases ht
  · obtain ⟨p, hx, ht⟩ := trOp1_inv ht
    cases ht
    exact s_ext hS hT ho hx h
  · split at ht
    · rename_i hb
      exact tr_builtin hS hT ho hb ht h
    · rename_i hb
      simp only [Option.map_eq_some_iff] at ht
      obtain ⟨l, hl, rfl⟩ := ht
      exact s_call hS hT ho hb hl h
    · rename_i hb
      split at ht
      · rename_i hf hl
        cases ht
        exact s_callv hS hT ho hb hf hl h
      · cases ht
    · cases ht
  · cases ht

end
end Go.Ae
end

section
set_option linter.unusedSectionVars false
set_option linter.unusedSimpArgs false
set_option linter.unusedVariables false
namespace Go.Ae

mutual
def ren (f : Nat → Nat) : AV → AV
  | .p x => .p x
  | .agg cs => .agg (renL f cs)
  | .ow l o n => .ow (f l) o n
  | .bs l o n => .bs (f l) o n
  | .ptr l o => .ptr (f l) o
  | .pe x sz i fo => .pe (ren f x) sz i fo
  | .fn g a c => .fn g (renL f a) (renL f c)
  | .tup cs => .tup (renL f cs)
  | .any => .any
def renL (f : Nat → Nat) : List AV → List AV
  | [] => []
  | x :: r => ren f x :: renL f r
end

theorem renL_map (f : Nat → Nat) (l : List AV) : renL f l = l.map (ren f) := by
  induction l with
  | nil => rfl
  | cons x r ih => simp [renL, ih]

def renB (f : Nat → Nat) : Blk → Blk
  | .box cs => .box (cs.map (ren f))
  | .row sz es => .row sz (es.map (ren f))
  | .dead => .dead

theorem ren_cells (f : Nat → Nat) (x : AV) : (ren f x).cells = x.cells.map (ren f) := by
  cases x with
  | p x => simp [ren, AV.cells_p]
  | agg cs => simp [ren, AV.cells, renL_map]
  | _ => simp [ren, AV.cells]

theorem renB_box {f : Nat → Nat} {b : Blk} {cs : List AV} (h : renB f b = .box cs) : ∃ c0, b = .box c0 ∧ cs = c0.map (ren f) := by
  cases b with
  | box c0 => cases h; exact ⟨c0, rfl, rfl⟩
  | _ => cases h

theorem renB_row {f : Nat → Nat} {b : Blk} {sz : Nat} {es : List AV} (h : renB f b = .row sz es) : ∃ e0, b = .row sz e0 ∧ es = e0.map (ren f) := by
  cases b with
  | row sz' e0 => cases h; exact ⟨e0, rfl, rfl⟩
  | _ => cases h

structure Sees (E E2 : Env) (f : Nat → Nat) : Prop where
  w : E2.w = E.w
  ι : ∀ i, i < E2.H.length → E2.ι i = E.ι (f i)
  inj : ∀ i j, i < E2.H.length → j < E2.H.length → f i = f j → i = j
  lt : ∀ i, f i < E.H.length → i < E2.H.length
  H : ∀ i b, E2.H[i]? = some b → E.H[f i]? = some (renB f b)
  X : ∀ b, E2.X b → E.X b ∨ ∃ loc, E.Owns loc b ∧ ∀ i, i < E2.H.length → f i ≠ loc

theorem Sees.box {E E2 : Env} {f : Nat → Nat} (s : Sees E E2 f) {i : Nat} {cs : List AV} (h : E.H[f i]? = some (.box cs)) : ∃ c0, E2.H[i]? = some (.box c0) ∧ cs = c0.map (ren f) := by
  have hi := s.lt i (List.getElem?_eq_some_iff.1 h).1
  have hb := List.getElem?_eq_getElem hi
  have := s.H i _ hb
  rw [h] at this
  obtain ⟨c0, e1, e2⟩ := renB_box (Option.some.inj this).symm
  exact ⟨c0, by rw [hb, e1], e2⟩

theorem Sees.row {E E2 : Env} {f : Nat → Nat} (s : Sees E E2 f) {i sz : Nat} {es : List AV} (h : E.H[f i]? = some (.row sz es)) : ∃ e0, E2.H[i]? = some (.row sz e0) ∧ es = e0.map (ren f) := by
  have hi := s.lt i (List.getElem?_eq_some_iff.1 h).1
  have hb := List.getElem?_eq_getElem hi
  have := s.H i _ hb
  rw [h] at this
  obtain ⟨e0, e1, e2⟩ := renB_row (Option.some.inj this).symm
  exact ⟨e0, by rw [hb, e1], e2⟩

theorem Sees.owns {E E2 : Env} {f : Nat → Nat} (s : Sees E E2 f) {i b : Nat} (h : E2.Owns i b) : E.Owns (f i) b ∧ i < E2.H.length := by
  obtain ⟨hι, h⟩ := h
  have hi : i < E2.H.length := by
    rcases h with ⟨cs, h⟩ | ⟨sz, es, h, _⟩ <;> exact (List.getElem?_eq_some_iff.1 h).1
  refine ⟨⟨by rw [← s.ι i hi]; exact hι, ?_⟩, hi⟩
  rcases h with ⟨cs, h⟩ | ⟨sz, es, h, hne⟩
  · exact .inl ⟨_, s.H i _ h⟩
  · exact .inr ⟨sz, _, s.H i _ h, by simpa using hne⟩

theorem Sees.owns' {E E2 : Env} {f : Nat → Nat} (s : Sees E E2 f) {i b : Nat} (h : E.Owns (f i) b) : E2.Owns i b := by
  obtain ⟨hι, h⟩ := h
  rcases h with ⟨cs, h⟩ | ⟨sz, es, h, hne⟩
  · obtain ⟨c0, h0, _⟩ := s.box h
    exact ⟨by rw [s.ι i (List.getElem?_eq_some_iff.1 h0).1]; exact hι, .inl ⟨c0, h0⟩⟩
  · obtain ⟨e0, h0, he⟩ := s.row h
    exact ⟨by rw [s.ι i (List.getElem?_eq_some_iff.1 h0).1]; exact hι, .inr ⟨sz, e0, h0, by rintro rfl; simp at he; exact hne he⟩⟩

theorem Sees.own {E E2 : Env} {f : Nat → Nat} (s : Sees E E2 f) {b : Nat} (h : ¬ E.Own b) : ¬ E2.Own b := by
  rintro (⟨i, hi⟩ | hx)
  · exact h (.inl ⟨_, (s.owns hi).1⟩)
  · rcases s.X b hx with hx | ⟨loc, hl, _⟩
    · exact h (.inr hx)
    · exact h (.inl ⟨_, hl⟩)

theorem Sees.conc {E E2 : Env} {f : Nat → Nat} (s : Sees E E2 f) {y : AV} {v : Value} (h : Conc E y v) : ∀ x, y = ren f x → Conc E2 x v := by
  induction h with
  | p h =>
    intro x hx
    cases x with
    | p x =>
      cases hx
      exact .p (h.mono (by rw [s.w]; exact Nat.le_refl _) (fun b hb ho => ⟨by rw [s.w], s.own ho⟩))
    | _ => cases hx
  | agg hl hc _ ih =>
    intro x hx
    cases x with
    | agg cs =>
      simp only [ren, renL_map, AV.agg.injEq] at hx
      subst hx
      exact .agg (by simpa using hl) hc (fun i x v hx hv => ih i _ v (by simp [hx]) hv _ rfl)
    | _ => cases hx
  | @owE loc sz a hH =>
    intro x hx
    cases x with
    | ow l o n =>
      cases hx
      obtain ⟨e0, h0, he⟩ := s.row hH
      have : e0 = [] := by simpa using he.symm
      subst this
      exact .owE h0
    | _ => cases hx
  | @ow0 loc sz es cap a off hH hne ho =>
    intro x hx
    cases x with
    | ow l o n =>
      cases hx
      obtain ⟨e0, h0, he⟩ := s.row hH
      subst he
      exact .ow0 h0 (by simpa using hne) (by simpa using ho)
    | _ => cases hx
  | @ow loc off len cap sz es c T fr hH hl h0 hcap hw hc =>
    intro x hx
    cases x with
    | ow l o n =>
      cases hx
      obtain ⟨e0, h0', he⟩ := s.row hH
      subst he
      have hi := (List.getElem?_eq_some_iff.1 h0').1
      rw [← s.ι _ hi] at hw ⊢
      exact .ow h0' (by simpa using hl) h0 hcap (by rw [s.w]; exact hw) hc
    | _ => cases hx
  | @owS loc off len v hl hH hv =>
    intro x hx
    cases x with
    | ow l o n =>
      cases hx
      exact .owS (s.lt _ hl) (fun sz es he => by simpa using hH sz _ (s.H _ _ he)) hv
    | _ => cases hx
  | @bs loc off len cap cs hH hl h0 hcap =>
    intro x hx
    cases x with
    | bs l o n =>
      cases hx
      obtain ⟨c0, h0', he⟩ := s.box hH
      subst he
      rw [← s.ι _ (List.getElem?_eq_some_iff.1 h0').1]
      exact .bs h0' (by simpa using hl) h0 hcap
    | _ => cases hx
  | @bs0 loc off cap a cs hH hl =>
    intro x hx
    cases x with
    | bs l o n =>
      cases hx
      obtain ⟨c0, h0', he⟩ := s.box hH
      subst he
      exact .bs0 h0' (by simpa using hl)
    | _ => cases hx
  | @bsS loc off len v hl hH hv =>
    intro x hx
    cases x with
    | bs l o n =>
      cases hx
      exact .bsS (s.lt _ hl) (fun cs he => hH _ (s.H _ _ he)) hv
    | _ => cases hx
  | @ptr loc off cs hH =>
    intro x hx
    cases x with
    | ptr l o =>
      cases hx
      obtain ⟨c0, h0', he⟩ := s.box hH
      rw [← s.ι _ (List.getElem?_eq_some_iff.1 h0').1]
      exact .ptr h0'
    | _ => cases hx
  | @ptrS loc off v hl hH hv =>
    intro x hx
    cases x with
    | ptr l o =>
      cases hx
      exact .ptrS (s.lt _ hl) (fun cs he => hH _ (s.H _ _ he)) hv
    | _ => cases hx
  | pe _ hs ih =>
    intro x hx
    cases x with
    | pe x sz i fo =>
      simp only [ren, AV.pe.injEq] at hx
      obtain ⟨h1, rfl, rfl, rfl⟩ := hx
      exact .pe (ih _ h1) hs
    | _ => cases hx
  | fn hl1 hl2 _ _ ih1 ih2 =>
    intro x hx
    cases x with
    | fn g a c =>
      simp only [ren, renL_map, AV.fn.injEq] at hx
      obtain ⟨rfl, rfl, rfl⟩ := hx
      exact .fn (by simpa using hl1) (by simpa using hl2) (fun i x v hx hv => ih1 i _ v (by simp [hx]) hv _ rfl) (fun i x v hx hv => ih2 i _ v (by simp [hx]) hv _ rfl)
    | _ => cases hx
  | tup hl _ ih =>
    intro x hx
    cases x with
    | tup cs =>
      simp only [ren, renL_map, AV.tup.injEq] at hx
      subst hx
      exact .tup (by simpa using hl) (fun i x v hx hv => ih i _ v (by simp [hx]) hv _ rfl)
    | _ => cases hx
  | any =>
    intro x hx
    cases x with
    | any => exact .any
    | _ => cases hx

def GOK (G : Globals) : Prop := ∀ g x, G g = some x → ∀ f, ren f x = x

theorem Sees.sim {G : Globals} (hG : GOK G) {E E2 : Env} {f : Nat → Nat} (s : Sees E E2 f) (hS : Sim G E) : Sim G E2 where
  inj := fun i j b hi hj => by
    obtain ⟨h1, l1⟩ := s.owns hi
    obtain ⟨h2, l2⟩ := s.owns hj
    exact s.inj i j l1 l2 (hS.inj _ _ _ h1 h2)
  box := fun i cs h => by
    have hi := (List.getElem?_eq_some_iff.1 h).1
    obtain ⟨c, T, hw, hc⟩ := hS.box (f i) _ (s.H i _ h)
    refine ⟨c, T, by rw [s.w, s.ι i hi]; exact hw, fun j x hx => ?_⟩
    obtain ⟨v, h1, h2, h3⟩ := hc j (ren f x) (by simp [hx])
    exact ⟨v, h1, h2, s.conc h3 x rfl⟩
  row := fun i sz es h hne => by
    have hi := (List.getElem?_eq_some_iff.1 h).1
    obtain ⟨c, T, hw, hc⟩ := hS.row (f i) sz _ (s.H i _ h) (by simpa using hne)
    refine ⟨c, T, by rw [s.w, s.ι i hi]; exact hw, fun k e he => ?_⟩
    obtain ⟨h1, h2⟩ := hc k (ren f e) (by simp [he])
    refine ⟨by rw [ren_cells] at h1; simpa using h1, fun j x hx => ?_⟩
    obtain ⟨v, h1, h2, h3⟩ := h2 j (ren f x) (by rw [ren_cells]; simp [hx])
    exact ⟨v, h1, h2, s.conc h3 x rfl⟩
  glob := fun g x hg => s.conc (hS.glob g x hg) x (hG g x hg f).symm
  ext := fun b hb => by
    rcases s.X b hb with hx | ⟨loc, hl, hn⟩
    · obtain ⟨h1, h2⟩ := hS.ext b hx
      exact ⟨by rw [s.w]; exact h1, fun ⟨i, hi⟩ => h2 ⟨_, (s.owns hi).1⟩⟩
    · refine ⟨by rw [s.w]; exact hS.lt hl, fun ⟨i, hi⟩ => ?_⟩
      obtain ⟨h1, l1⟩ := s.owns hi
      exact hn i l1 (hS.inj _ _ _ h1 hl)

end Go.Ae
end

section
set_option linter.unusedSectionVars false
set_option linter.unusedSimpArgs false
set_option linter.unusedVariables false
namespace Go.Ae

def fr (σ : List Nat) (n : Nat) (i : Nat) : Nat := if i < σ.length then σ.getD i 0 else n + (i - σ.length)

def setAll {α : Type} (l : List α) : List Nat → List α → List α
  | i :: σ, x :: xs => setAll (l.set i x) σ xs
  | _, _ => l

def merge (H : List Blk) (σ : List Nat) (H' : List Blk) : List Blk :=
  setAll H σ (H'.map (renB (fr σ H.length))) ++ (H'.drop σ.length).map (renB (fr σ H.length))

theorem setAll_length {α : Type} : ∀ (l : List α) (σ : List Nat) (xs : List α), (setAll l σ xs).length = l.length
  | l, [], xs => by cases xs <;> rfl
  | l, i :: σ, [] => rfl
  | l, i :: σ, x :: xs => by simp [setAll, setAll_length]

theorem setAll_other {α : Type} : ∀ (l : List α) (σ : List Nat) (xs : List α) (j : Nat), j ∉ σ → (setAll l σ xs)[j]? = l[j]?
  | l, [], xs, j, _ => by cases xs <;> rfl
  | l, i :: σ, [], j, _ => rfl
  | l, i :: σ, x :: xs, j, h => by
    simp only [List.mem_cons, not_or] at h
    rw [setAll, setAll_other _ _ _ _ h.2, List.getElem?_set_ne (fun e => h.1 e.symm)]

theorem setAll_at {α : Type} : ∀ (l : List α) (σ : List Nat) (xs : List α) (k : Nat) (i : Nat), σ.Nodup → (∀ i ∈ σ, i < l.length) → σ[k]? = some i → k < xs.length → (setAll l σ xs)[i]? = xs[k]?
  | l, [], xs, k, i, _, _, h, _ => by simp at h
  | l, j :: σ, [], k, i, _, _, _, h => by simp at h
  | l, j :: σ, x :: xs, 0, i, hn, hl, h, _ => by
    simp only [List.getElem?_cons_zero, Option.some.injEq] at h
    subst h
    rw [setAll, setAll_other _ _ _ _ (List.nodup_cons.1 hn).1, List.getElem?_set_self (hl j (by simp))]
    rfl
  | l, j :: σ, x :: xs, k + 1, i, hn, hl, h, hk => by
    rw [setAll, setAll_at _ σ xs k i (List.nodup_cons.1 hn).2 (fun m hm => by rw [List.length_set]; exact hl m (by simp [hm])) (by simpa using h) (by simpa using hk)]
    rfl

section
variable {H : List Blk} {σ : List Nat} {H' : List Blk} (hn : σ.Nodup) (hl : ∀ i ∈ σ, i < H.length) (hle : σ.length ≤ H'.length)

theorem merge_length : (merge H σ H').length = H.length + (H'.length - σ.length) := by
  simp [merge, setAll_length]

theorem fr_lt {i : Nat} (hi : i < σ.length) (n : Nat) : fr σ n i = σ[i] := by
  simp [fr, hi]

theorem fr_ge {i : Nat} (hi : σ.length ≤ i) (n : Nat) : fr σ n i = n + (i - σ.length) := by
  simp [fr, Nat.not_lt.2 hi]

include hn hl hle

theorem merge_at (i : Nat) : (merge H σ H')[fr σ H.length i]? = (H'[i]?).map (renB (fr σ H.length)) := by
  rcases Nat.lt_or_ge i σ.length with hi | hi
  · rw [fr_lt hi, merge, List.getElem?_append_left (by rw [setAll_length]; exact hl _ (List.getElem_mem hi)),
      setAll_at H σ _ i _ hn hl (List.getElem?_eq_getElem hi) (by rw [List.length_map]; omega), List.getElem?_map]
  · rw [fr_ge hi, merge, List.getElem?_append_right (by rw [setAll_length]; omega), setAll_length, List.getElem?_map, List.getElem?_drop]
    rw [show σ.length + (H.length + (i - σ.length) - H.length) = i by omega]

theorem merge_other {j : Nat} (hj : j < H.length) (h : j ∉ σ) : (merge H σ H')[j]? = H[j]? := by
  rw [merge, List.getElem?_append_left (by rw [setAll_length]; exact hj), setAll_other _ _ _ _ h]

theorem merge_cases (j : Nat) : (∃ i, j = fr σ H.length i) ∨ (j < H.length ∧ j ∉ σ) := by
  rcases Nat.lt_or_ge j H.length with hj | hj
  · by_cases h : j ∈ σ
    · obtain ⟨i, hi, e⟩ := List.mem_iff_getElem.1 h
      exact .inl ⟨i, by rw [fr_lt hi, e]⟩
    · exact .inr ⟨hj, h⟩
  · exact .inl ⟨j - H.length + σ.length, by rw [fr_ge (by omega)]; omega⟩

theorem fr_inj {i j : Nat} (h : fr σ H.length i = fr σ H.length j) : i = j := by
  rcases Nat.lt_or_ge i σ.length with hi | hi
  · rcases Nat.lt_or_ge j σ.length with hj | hj
    · rw [fr_lt hi, fr_lt hj] at h
      exact (List.getElem_inj hn).1 h
    · rw [fr_lt hi, fr_ge hj] at h
      have := hl _ (List.getElem_mem hi)
      omega
  · rcases Nat.lt_or_ge j σ.length with hj | hj
    · rw [fr_ge hi, fr_lt hj] at h
      have := hl _ (List.getElem_mem hj)
      omega
    · rw [fr_ge hi, fr_ge hj] at h
      omega

theorem fr_not {i j : Nat} (hj : j < H.length) (h : j ∉ σ) : fr σ H.length i ≠ j := by
  intro e
  rcases Nat.lt_or_ge i σ.length with hi | hi
  · rw [fr_lt hi] at e
    exact h (e ▸ List.getElem_mem hi)
  · rw [fr_ge hi] at e
    omega

end

def backι (σ : List Nat) (n : Nat) (ι ι0 : Nat → Nat) (j : Nat) : Nat :=
  if j < n then (if j ∈ σ then ι0 (σ.idxOf j) else ι j) else ι0 (j - n + σ.length)

theorem backι_fr {σ : List Nat} {n : Nat} {ι ι0 : Nat → Nat} (hn : σ.Nodup) (hl : ∀ i ∈ σ, i < n) (i : Nat) : backι σ n ι ι0 (fr σ n i) = ι0 i := by
  rcases Nat.lt_or_ge i σ.length with hi | hi
  · rw [fr_lt hi, backι, if_pos (hl _ (List.getElem_mem hi)), if_pos (List.getElem_mem hi), hn.idxOf_getElem]
  · rw [fr_ge hi, backι, if_neg (by omega)]
    congr 1
    omega

theorem backι_other {σ : List Nat} {n : Nat} {ι ι0 : Nat → Nat} {j : Nat} (hj : j < n) (h : j ∉ σ) : backι σ n ι ι0 j = ι j := by
  rw [backι, if_pos hj, if_neg h]

section
variable {G : Globals} {E E0 E1 : Env} {σ : List Nat} (hn : σ.Nodup) (hl : ∀ i ∈ σ, i < E.H.length) (hσ : σ.length = E0.H.length)
  (hw0 : E0.w = E.w) (hι0 : ∀ i, i < σ.length → E0.ι i = E.ι (fr σ E.H.length i)) (hH0 : ∀ i b, E0.H[i]? = some b → E.H[fr σ E.H.length i]? = some (renB (fr σ E.H.length) b))
  (hX0 : ∀ b, E0.X b ↔ E.X b ∨ ∃ j, j < E.H.length ∧ j ∉ σ ∧ E.Owns j b) (hS : Sim G E) (hS1 : Sim G E1) (hle : Le E0 E1)

def back (E E1 : Env) (σ : List Nat) : Env := ⟨E1.w, backι σ E.H.length E.ι E1.ι, merge E.H σ E1.H, E.X⟩

include hn hl hσ hle

theorem back_at (i : Nat) : (back E E1 σ).H[fr σ E.H.length i]? = (E1.H[i]?).map (renB (fr σ E.H.length)) := merge_at hn hl (by rw [hσ]; exact hle.len) i

theorem back_other {j : Nat} (hj : j < E.H.length) (h : j ∉ σ) : (back E E1 σ).H[j]? = E.H[j]? := merge_other hn hl (by rw [hσ]; exact hle.len) hj h

theorem back_owns (i b : Nat) : (back E E1 σ).Owns (fr σ E.H.length i) b ↔ E1.Owns i b := by
  unfold Env.Owns
  rw [back_at hn hl hσ hle]
  rw [show (back E E1 σ).ι (fr σ E.H.length i) = E1.ι i from backι_fr hn hl i]
  constructor
  · rintro ⟨h1, ⟨cs, h⟩ | ⟨sz, es, h, hne⟩⟩
    · rw [Option.map_eq_some_iff] at h
      obtain ⟨b', h, e⟩ := h
      obtain ⟨c0, rfl, _⟩ := renB_box e
      exact ⟨h1, .inl ⟨c0, h⟩⟩
    · rw [Option.map_eq_some_iff] at h
      obtain ⟨b', h, e⟩ := h
      obtain ⟨e0, rfl, he⟩ := renB_row e
      exact ⟨h1, .inr ⟨sz, e0, h, by rintro rfl; exact hne (by simpa using he)⟩⟩
  · rintro ⟨h1, ⟨cs, h⟩ | ⟨sz, es, h, hne⟩⟩
    · exact ⟨h1, .inl ⟨_, by rw [h]; rfl⟩⟩
    · exact ⟨h1, .inr ⟨sz, es.map (ren (fr σ E.H.length)), by rw [h]; rfl, by simpa using hne⟩⟩

theorem back_owns_other {j : Nat} (hj : j < E.H.length) (h : j ∉ σ) (b : Nat) : (back E E1 σ).Owns j b ↔ E.Owns j b := by
  unfold Env.Owns
  rw [back_other hn hl hσ hle hj h]
  rw [show (back E E1 σ).ι j = E.ι j from backι_other hj h]

theorem back_cases (j : Nat) : (∃ i, j = fr σ E.H.length i) ∨ (j < E.H.length ∧ j ∉ σ) := merge_cases hn hl (by rw [hσ]; exact hle.len) j

include hX0

theorem back_own {b : Nat} (h : ¬ E1.Own b) : ¬ (back E E1 σ).Own b := by
  rintro (⟨j, hj⟩ | hx)
  · rcases back_cases hn hl hσ hle j with ⟨i, rfl⟩ | ⟨h1, h2⟩
    · exact h (.inl ⟨i, (back_owns hn hl hσ hle i b).1 hj⟩)
    · refine h (.inr ?_)
      rw [hle.ext]
      exact (hX0 b).2 (.inr ⟨j, h1, h2, (back_owns_other hn hl hσ hle h1 h2 b).1 hj⟩)
  · refine h (.inr ?_)
    rw [hle.ext]
    exact (hX0 b).2 (.inl hx)

theorem back_conc {x : AV} {v : Value} (h : Conc E1 x v) : Conc (back E E1 σ) (ren (fr σ E.H.length) x) v := by
  have hat := fun i => back_at hn hl hσ hle i
  have hlt : ∀ {i}, i < E1.H.length → fr σ E.H.length i < (back E E1 σ).H.length := by
    intro i hi
    have := hat i
    rw [List.getElem?_eq_getElem hi] at this
    exact (List.getElem?_eq_some_iff.1 this).1
  have hbox : ∀ {i cs}, E1.H[i]? = some (.box cs) → (back E E1 σ).H[fr σ E.H.length i]? = some (.box (cs.map (ren (fr σ E.H.length)))) := by
    intro i cs h; rw [hat, h]; rfl
  have hrow : ∀ {i sz es}, E1.H[i]? = some (.row sz es) → (back E E1 σ).H[fr σ E.H.length i]? = some (.row sz (es.map (ren (fr σ E.H.length)))) := by
    intro i sz es h; rw [hat, h]; rfl
  have hnbox : ∀ {i cs}, (back E E1 σ).H[fr σ E.H.length i]? = some (.box cs) → ∃ c0, E1.H[i]? = some (.box c0) := by
    intro i cs h
    rw [hat, Option.map_eq_some_iff] at h
    obtain ⟨b', h, e⟩ := h
    obtain ⟨c0, rfl, _⟩ := renB_box e
    exact ⟨c0, h⟩
  have hι : ∀ i, (back E E1 σ).ι (fr σ E.H.length i) = E1.ι i := backι_fr hn hl
  induction h with
  | p h => exact .p (h.mono (Nat.le_refl _) (fun b hb ho => ⟨rfl, back_own hn hl hσ hX0 hle ho⟩))
  | agg hl' hc _ ih =>
    simp only [ren, renL_map]
    refine .agg (by simpa using hl') hc (fun i x v hx hv => ?_)
    simp only [List.getElem?_map, Option.map_eq_some_iff] at hx
    obtain ⟨x0, hx, rfl⟩ := hx
    exact ih i x0 v hx hv
  | owE hH => exact .owE (hrow hH)
  | ow0 hH hne ho => exact .ow0 (hrow hH) (by simpa using hne) (by simpa using ho)
  | @ow loc off len cap sz es c T fr' hH hl' h0 hcap hw hc =>
    rw [← hι]
    exact .ow (hrow hH) (by simpa using hl') h0 hcap (by rw [hι]; exact hw) hc
  | owS hl' hH hv =>
    refine .owS (hlt hl') (fun sz es he => ?_) hv
    rw [hat, Option.map_eq_some_iff] at he
    obtain ⟨b', he, e⟩ := he
    obtain ⟨e0, rfl, rfl⟩ := renB_row e
    simpa using hH _ _ he
  | bs hH hl' h0 hcap =>
    rw [← hι]
    exact .bs (hbox hH) (by simpa using hl') h0 hcap
  | bs0 hH hl' => exact .bs0 (hbox hH) (by simpa using hl')
  | bsS hl' hH hv =>
    refine .bsS (hlt hl') (fun cs he => ?_) hv
    obtain ⟨c0, h0⟩ := hnbox he
    exact hH _ h0
  | ptr hH =>
    rw [← hι]
    exact .ptr (hbox hH)
  | ptrS hl' hH hv =>
    refine .ptrS (hlt hl') (fun cs he => ?_) hv
    obtain ⟨c0, h0⟩ := hnbox he
    exact hH _ h0
  | pe _ hs ih => exact .pe ih hs
  | fn hl1 hl2 _ _ ih1 ih2 =>
    simp only [ren, renL_map]
    refine .fn (by simpa using hl1) (by simpa using hl2) (fun i x v hx hv => ?_) (fun i x v hx hv => ?_)
    · simp only [List.getElem?_map, Option.map_eq_some_iff] at hx
      obtain ⟨x0, hx, rfl⟩ := hx
      exact ih1 i x0 v hx hv
    · simp only [List.getElem?_map, Option.map_eq_some_iff] at hx
      obtain ⟨x0, hx, rfl⟩ := hx
      exact ih2 i x0 v hx hv
  | tup hl' _ ih =>
    simp only [ren, renL_map]
    refine .tup (by simpa using hl') (fun i x v hx hv => ?_)
    simp only [List.getElem?_map, Option.map_eq_some_iff] at hx
    obtain ⟨x0, hx, rfl⟩ := hx
    exact ih i x0 v hx hv
  | any => exact .any

include hw0 hι0 hH0 hS hS1

theorem back_ownL {b : Nat} (h : ¬ E.OwnL b) : ¬ E0.OwnL b := by
  rintro ⟨i, hi, h'⟩
  have hlt : i < E0.H.length := by rcases h' with ⟨cs, h'⟩ | ⟨sz, es, h', _⟩ <;> exact (List.getElem?_eq_some_iff.1 h').1
  refine h ⟨fr σ E.H.length i, by rw [← hι0 i (by omega)]; exact hi, ?_⟩
  rcases h' with ⟨cs, h'⟩ | ⟨sz, es, h', hne⟩
  · exact .inl ⟨_, hH0 _ _ h'⟩
  · exact .inr ⟨sz, _, hH0 _ _ h', by simpa using hne⟩

theorem back_heap {j b : Nat} (hj : j < E.H.length) (h : j ∉ σ) (ho : E.Owns j b) : E1.w.heap[b]? = E.w.heap[b]? ∧ ¬ E1.OwnL b := by
  have hn0 : ¬ E0.OwnL b := by
    rintro ⟨i, hi, h'⟩
    have hlt : i < E0.H.length := by rcases h' with ⟨cs, h'⟩ | ⟨sz, es, h', _⟩ <;> exact (List.getElem?_eq_some_iff.1 h').1
    have : E.Owns (fr σ E.H.length i) b := ⟨by rw [← hι0 i (by omega)]; exact hi, by
      rcases h' with ⟨cs, h'⟩ | ⟨sz, es, h', hne⟩
      · exact .inl ⟨_, hH0 _ _ h'⟩
      · exact .inr ⟨sz, _, hH0 _ _ h', by simpa using hne⟩⟩
    exact fr_not hn hl (H' := E1.H) (by rw [hσ]; exact hle.len) hj h (hS.inj _ _ _ this ho)
  have := hle.imm b (by rw [hw0]; exact hS.lt ho) hn0
  rw [hw0] at this
  exact this

theorem back_le : Le E (back E E1 σ) where
  keep := by have := hle.keep; rw [hw0] at this; exact this
  size := by have := hle.size; rw [hw0] at this; exact this
  imm := fun b hb ho => by
    have hn0 := back_ownL hn hl hσ hw0 hι0 hH0 hX0 hS hS1 hle ho
    obtain ⟨h1, h2⟩ := hle.imm b (by rw [hw0]; exact hb) hn0
    rw [hw0] at h1
    refine ⟨h1, ?_⟩
    rintro ⟨j, hj⟩
    rcases back_cases hn hl hσ hle j with ⟨i, rfl⟩ | ⟨h3, h4⟩
    · exact h2 ⟨i, (back_owns hn hl hσ hle i b).1 hj⟩
    · exact ho ⟨j, (back_owns_other hn hl hσ hle h3 h4 b).1 hj⟩
  ext := rfl
  len := by simp only [back, merge_length]; omega
  box := fun j cs' hj hH => by
    rcases back_cases hn hl hσ hle j with ⟨i, rfl⟩ | ⟨h3, h4⟩
    · have hi : i < σ.length := by
        rcases Nat.lt_or_ge i σ.length with h | h
        · exact h
        · rw [fr_ge h] at hj; omega
      rw [back_at hn hl hσ hle, Option.map_eq_some_iff] at hH
      obtain ⟨b', hH, e⟩ := hH
      obtain ⟨c1, rfl, rfl⟩ := renB_box e
      obtain ⟨c0, h0, hlen, hι⟩ := hle.box i c1 (by omega) hH
      refine ⟨_, hH0 i _ h0, by simpa using hlen, ?_⟩
      rw [show (back E E1 σ).ι (fr σ E.H.length i) = E1.ι i from backι_fr hn hl i, hι, hι0 i hi]
    · rw [back_other hn hl hσ hle h3 h4] at hH
      exact ⟨cs', hH, rfl, backι_other h3 h4⟩
  row := fun j sz es' hj hH => by
    rcases back_cases hn hl hσ hle j with ⟨i, rfl⟩ | ⟨h3, h4⟩
    · have hi : i < σ.length := by
        rcases Nat.lt_or_ge i σ.length with h | h
        · exact h
        · rw [fr_ge h] at hj; omega
      rw [back_at hn hl hσ hle, Option.map_eq_some_iff] at hH
      obtain ⟨b', hH, e⟩ := hH
      obtain ⟨e1, rfl, rfl⟩ := renB_row e
      obtain ⟨e0, h0, hlen, hm⟩ := hle.row i sz e1 (by omega) hH
      refine ⟨_, hH0 i _ h0, by simpa using hlen, fun hne heq => ?_⟩
      obtain ⟨m1, m2⟩ := hm (by simpa using hne) (by simpa using heq)
      rw [show (back E E1 σ).ι (fr σ E.H.length i) = E1.ι i from backι_fr hn hl i, m1, hι0 i hi]
      refine ⟨rfl, fun c T fr' hc => ?_⟩
      rw [← hι0 i hi, ← hw0] at hc
      rw [← hι0 i hi]
      exact m2 c T fr' hc
    · rw [back_other hn hl hσ hle h3 h4] at hH
      refine ⟨es', hH, Nat.le_refl _, fun hne _ => ⟨backι_other h3 h4, fun c T fr' hc => ?_⟩⟩
      have := (back_heap hn hl hσ hw0 hι0 hH0 hX0 hS hS1 hle h3 h4 (b := E.ι j) ⟨rfl, .inr ⟨sz, es', hH, hne⟩⟩).1
      exact ⟨c, fr', this.trans hc, rfl⟩

theorem back_sim : Sim G (back E E1 σ) := by
  have le := back_le hn hl hσ hw0 hι0 hH0 hX0 hS hS1 hle
  have hι : ∀ i, (back E E1 σ).ι (fr σ E.H.length i) = E1.ι i := backι_fr hn hl
  have cross : ∀ {i j b}, (back E E1 σ).Owns (fr σ E.H.length i) b → j < E.H.length → j ∉ σ → (back E E1 σ).Owns j b → False := by
    intro i j b h1 h3 h4 h2
    have h1 := (back_owns hn hl hσ hle i b).1 h1
    have h2 := (back_owns_other hn hl hσ hle h3 h4 b).1 h2
    exact (back_heap hn hl hσ hw0 hι0 hH0 hX0 hS hS1 hle h3 h4 h2).2 ⟨i, h1⟩
  refine ⟨fun i j b hi hj => ?_, fun j cs hH => ?_, fun j sz es hH hne => ?_, fun g x hg => (hS.glob g x hg).mono le, fun b hb => ?_⟩
  · rcases back_cases hn hl hσ hle i with ⟨i, rfl⟩ | ⟨h1, h2⟩
    · rcases back_cases hn hl hσ hle j with ⟨j, rfl⟩ | ⟨h3, h4⟩
      · rw [hS1.inj _ _ _ ((back_owns hn hl hσ hle i b).1 hi) ((back_owns hn hl hσ hle j b).1 hj)]
      · exact (cross hi h3 h4 hj).elim
    · rcases back_cases hn hl hσ hle j with ⟨j, rfl⟩ | ⟨h3, h4⟩
      · exact (cross hj h1 h2 hi).elim
      · exact hS.inj _ _ _ ((back_owns_other hn hl hσ hle h1 h2 b).1 hi) ((back_owns_other hn hl hσ hle h3 h4 b).1 hj)
  · rcases back_cases hn hl hσ hle j with ⟨i, rfl⟩ | ⟨h3, h4⟩
    · rw [back_at hn hl hσ hle, Option.map_eq_some_iff] at hH
      obtain ⟨b', hH, e⟩ := hH
      obtain ⟨c1, rfl, rfl⟩ := renB_box e
      obtain ⟨c, T, hw, hc⟩ := hS1.box i c1 hH
      refine ⟨c, T, by rw [hι]; exact hw, fun k x hx => ?_⟩
      simp only [List.getElem?_map, Option.map_eq_some_iff] at hx
      obtain ⟨x0, hx, rfl⟩ := hx
      obtain ⟨v, h1, h2, h3⟩ := hc k x0 hx
      exact ⟨v, h1, h2, back_conc hn hl hσ hX0 hle h3⟩
    · rw [back_other hn hl hσ hle h3 h4] at hH
      obtain ⟨c, T, hw, hc⟩ := hS.box j cs hH
      have := (back_heap hn hl hσ hw0 hι0 hH0 hX0 hS hS1 hle h3 h4 (b := E.ι j) ⟨rfl, .inl ⟨cs, hH⟩⟩).1
      refine ⟨c, T, ?_, fun k x hx => let ⟨v, e1, e2, e3⟩ := hc k x hx; ⟨v, e1, e2, e3.mono le⟩⟩
      rw [show (back E E1 σ).ι j = E.ι j from backι_other h3 h4]
      exact this.trans hw
  · rcases back_cases hn hl hσ hle j with ⟨i, rfl⟩ | ⟨h3, h4⟩
    · rw [back_at hn hl hσ hle, Option.map_eq_some_iff] at hH
      obtain ⟨b', hH, e⟩ := hH
      obtain ⟨e1, rfl, rfl⟩ := renB_row e
      obtain ⟨c, T, hw, hc⟩ := hS1.row i sz e1 hH (by simpa using hne)
      refine ⟨c, T, by rw [hι]; exact hw, fun k x hx => ?_⟩
      simp only [List.getElem?_map, Option.map_eq_some_iff] at hx
      obtain ⟨x0, hx, rfl⟩ := hx
      obtain ⟨h1, h2⟩ := hc k x0 hx
      refine ⟨by rw [ren_cells, List.length_map]; exact h1, fun q y hy => ?_⟩
      rw [ren_cells] at hy
      simp only [List.getElem?_map, Option.map_eq_some_iff] at hy
      obtain ⟨y0, hy, rfl⟩ := hy
      obtain ⟨v, e1, e2, e3⟩ := h2 q y0 hy
      exact ⟨v, e1, e2, back_conc hn hl hσ hX0 hle e3⟩
    · rw [back_other hn hl hσ hle h3 h4] at hH
      obtain ⟨c, T, hw, hc⟩ := hS.row j sz es hH hne
      have := (back_heap hn hl hσ hw0 hι0 hH0 hX0 hS hS1 hle h3 h4 (b := E.ι j) ⟨rfl, .inr ⟨sz, es, hH, hne⟩⟩).1
      refine ⟨c, T, ?_, fun k x hx => ⟨(hc k x hx).1, fun q y hy => let ⟨v, e1, e2, e3⟩ := (hc k x hx).2 q y hy; ⟨v, e1, e2, e3.mono le⟩⟩⟩
      rw [show (back E E1 σ).ι j = E.ι j from backι_other h3 h4]
      exact this.trans hw
  · obtain ⟨h1, h2⟩ := hS.ext b hb
    exact ⟨Nat.lt_of_lt_of_le h1 le.size, (le.imm b h1 h2).2⟩

end

theorem FCall.frame {P : Program} {G : Globals} (hG : GOK G) {g : Nat} {args0 args : List AV} {H0 H : List Blk} {K0 K : AV → List Blk → Prop} (σ : List Nat) (h : FCall P G g args0 H0 K0)
    (hn : σ.Nodup) (hH : σ.map (fun l => H[l]?) = H0.map (fun b => some (renB (fr σ H.length) b))) (ha : args = args0.map (ren (fr σ H.length)))
    (hK : ∀ r H', H0.length ≤ H'.length → K0 r H' → K (ren (fr σ H.length) r) (merge H σ H')) : FCall P G g args H K := by
  obtain ⟨hfn, h⟩ := h
  refine ⟨hfn, ?_⟩
  intro E vs hE hS hargs
  subst hE
  subst ha
  have hσ : σ.length = H0.length := by simpa using congrArg List.length hH
  have hat : ∀ i b, H0[i]? = some b → E.H[fr σ E.H.length i]? = some (renB (fr σ E.H.length) b) := by
    intro i b hb
    have hi := (List.getElem?_eq_some_iff.1 hb).1
    have := congrArg (fun l => l[i]?) hH
    simp only [List.getElem?_map, hb, Option.map_some] at this
    rw [List.getElem?_eq_getElem (by omega : i < σ.length), Option.map_some, Option.some.injEq] at this
    rw [fr_lt (by omega)]
    exact this
  have hl : ∀ l ∈ σ, l < E.H.length := by
    intro l hl
    obtain ⟨i, hi, rfl⟩ := List.mem_iff_getElem.1 hl
    have := hat i _ (List.getElem?_eq_getElem (by omega))
    rw [fr_lt hi] at this
    exact (List.getElem?_eq_some_iff.1 this).1
  let E0 : Env := ⟨E.w, fun i => E.ι (fr σ E.H.length i), H0, fun b => E.X b ∨ ∃ j, j < E.H.length ∧ j ∉ σ ∧ E.Owns j b⟩
  have s : Sees E E0 (fr σ E.H.length) := {
    w := rfl
    ι := fun _ _ => rfl
    inj := fun i j _ _ he => fr_inj (H' := H0) hn hl (by omega) he
    lt := fun i hi => by
      rcases Nat.lt_or_ge i σ.length with h1 | h1
      · show i < H0.length; omega
      · rw [fr_ge h1] at hi; omega
    H := hat
    X := fun b hb => by
      rcases hb with hb | ⟨j, h1, h2, h3⟩
      · exact .inl hb
      · exact .inr ⟨j, h3, fun i hi => fr_not (H' := H0) hn hl (by omega) h1 h2⟩ }
  have hS0 := s.sim hG hS
  refine Calls.mono (h E0 vs rfl hS0 ⟨by simpa using hargs.1, fun i x v hx hv => s.conc (hargs.2 i _ v (by simp [hx]) hv) x rfl⟩) ?_
  rintro e w' ⟨E1, x, v, rfl, rfl, hle, hS1, hc, hk⟩
  refine ⟨back E E1 σ, _, v, rfl, rfl, ?_, ?_, back_conc (E0 := E0) hn hl hσ (fun b => Iff.rfl) hle hc, hK x E1.H hle.len hk⟩
  · exact back_le (E0 := E0) hn hl hσ rfl (fun _ _ => rfl) hat (fun b => Iff.rfl) hS hS1 hle
  · exact back_sim (E0 := E0) hn hl hσ rfl (fun _ _ => rfl) hat (fun b => Iff.rfl) hS hS1 hle

end Go.Ae
end
