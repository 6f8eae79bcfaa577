/- Texts of this claim, joined by program: A21, A22, A23, A24, A25, A26, A27, A28, A29, A31, A32, A33, A40, A41, A42, A43, A44, A50, A51. -/
import Derived.Test.YtlpbcjimfefmeaaDoorKP1
import Derived.Orders
import Derived.Scope
import Derived.ScopeJumps
import Derived.ChangeArms
import Derived.ChangeReads
import Derived.ChangeBears
import Derived.ReadAgain
import Derived.OpenShut
import Derived.WideShapes
import Derived.ChangeSame
import Derived.RowKit
import Derived.ProofKit
set_option linter.all false
section
set_option linter.unusedSectionVars false
set_option linter.unusedSimpArgs false
set_option linter.unusedVariables false
namespace Go.Ae

def optL : Option Opd → List Opd
  | none => []
  | some x => [x]

def I.opds : I → List Opd
  | .mv x => [x]
  | .pick c a b => [c, a, b]
  | .alloc _ => []
  | .box x => [x]
  | .bd _ ps => ps.map (·.2.2)
  | .bsl _ _ _ ps => ps.map (·.2)
  | .ld _ x => [x]
  | .st _ x v => [x, v]
  | .nc x => [x]
  | .bin _ x y => [x, y]
  | .eqb _ x y => [x, y]
  | .eqp _ x => [x]
  | .eqf _ x => [x]
  | .eqs _ x => [x]
  | .eqa _ _ x y => [x, y]
  | .un _ x => [x]
  | .conv _ x => [x]
  | .cvs x => [x]
  | .mkf _ a b => a ++ b
  | .mks _ _ _ l c => [l, c]
  | .slc _ x lo hi m => x :: (optL lo ++ optL hi ++ optL m)
  | .sls x lo hi => x :: (optL lo ++ optL hi)
  | .sla _ x lo hi => x :: (optL lo ++ optL hi)
  | .fa _ x => [x]
  | .fld _ _ x => [x]
  | .ia _ x i => [x, i]
  | .iaa _ _ x i => [x, i]
  | .idx _ _ _ x i => [x, i]
  | .ids x i => [x, i]
  | .ext _ x => [x]
  | .len x => [x]
  | .lns x => [x]
  | .mx _ x y => [x, y]
  | .app _ _ x y => [x, y]
  | .apz _ _ _ x y => [x, y]
  | .cpy _ x y => [x, y]
  | .call _ as => as
  | .callv f as => f :: as

theorem optI_congr {G : Globals} {D D' : List AV} {x : Option Opd} {d : Int} {K : Int → Prop} (h : ∀ y ∈ optL x, get G D y = get G D' y) : optI G D x d K = optI G D' x d K := by
  cases x with
  | none => rfl
  | some y => simp only [optI, h y (by simp [optL])]

theorem ev0_congr {G : Globals} {C : CallR} {i : I} {D D' : List AV} {H : List Blk} {K : AV → List Blk → Prop} (h : ∀ x ∈ i.opds, get G D x = get G D' x) : ev0 G C i D H K = ev0 G C i D' H K := by
  cases i with
  | bd z ps =>
    simp only [I.opds, List.mem_map, forall_exists_index, and_imp, forall_apply_eq_imp_iff₂] at h
    simp only [ev0]
    have h1 : (ps.all fun p => (get G D p.2.2).fits p.2.1 && decide (p.1 + p.2.1 ≤ z.length)) = (ps.all fun p => (get G D' p.2.2).fits p.2.1 && decide (p.1 + p.2.1 ≤ z.length)) := by
      rw [Bool.eq_iff_iff, List.all_eq_true, List.all_eq_true]
      constructor <;> intro h' p hp
      · rw [← h p hp]; exact h' p hp
      · rw [h p hp]; exact h' p hp
    have h2 : ∀ (l : List (Nat × Nat × Opd)) (cs : List AV), (∀ p ∈ l, get G D p.2.2 = get G D' p.2.2) → l.foldl (fun cs p => setMany cs p.1 (get G D p.2.2).cells) cs = l.foldl (fun cs p => setMany cs p.1 (get G D' p.2.2).cells) cs := by
      intro l
      induction l with
      | nil => intro cs _; rfl
      | cons p l ih => intro cs hl; simp only [List.foldl_cons, hl p (by simp)]; exact ih _ (fun q hq => hl q (by simp [hq]))
    rw [h1, h2 ps _ h]
  | bsl sz z n ps =>
    simp only [I.opds, List.mem_map, forall_exists_index, and_imp, forall_apply_eq_imp_iff₂] at h
    simp only [ev0]
    have h1 : (ps.all fun p => (get G D p.2).fits sz && decide (p.1 < n)) = (ps.all fun p => (get G D' p.2).fits sz && decide (p.1 < n)) := by
      rw [Bool.eq_iff_iff, List.all_eq_true, List.all_eq_true]
      constructor <;> intro h' p hp
      · rw [← h p hp]; exact h' p hp
      · rw [h p hp]; exact h' p hp
    have h2 : ∀ (l : List (Nat × Opd)) (cs : List AV), (∀ p ∈ l, get G D p.2 = get G D' p.2) → l.foldl (fun es p => es.set p.1 (get G D p.2)) cs = l.foldl (fun es p => es.set p.1 (get G D' p.2)) cs := by
      intro l
      induction l with
      | nil => intro cs _; rfl
      | cons p l ih => intro cs hl; simp only [List.foldl_cons, hl p (by simp)]; exact ih _ (fun q hq => hl q (by simp [hq]))
    rw [h1, h2 ps _ h]
  | mkf f a b =>
    simp only [I.opds, List.mem_append] at h
    simp only [ev0]
    rw [List.map_congr_left (fun x hx => h x (.inl hx)), List.map_congr_left (fun x hx => h x (.inr hx))]
  | call f as =>
    simp only [I.opds] at h
    simp only [ev0]
    rw [List.map_congr_left h]
  | callv f as =>
    simp only [I.opds, List.mem_cons, forall_eq_or_imp] at h
    simp only [ev0]
    rw [List.map_congr_left h.2, h.1]
  | slc sz x lo hi mx =>
    simp only [I.opds, List.mem_cons, List.mem_append, forall_eq_or_imp] at h
    have h1 : ∀ d K, optI G D lo d K = optI G D' lo d K := fun d K => optI_congr (fun y hy => h.2 y (.inl (.inl hy)))
    have h2 : ∀ d K, optI G D hi d K = optI G D' hi d K := fun d K => optI_congr (fun y hy => h.2 y (.inl (.inr hy)))
    simp only [ev0, slcR, h.1, h1, h2]
    cases mx with
    | none => rfl
    | some m => simp only [h.2 m (.inr (by simp [optL]))]
  | sls x lo hi =>
    simp only [I.opds, List.mem_cons, List.mem_append, forall_eq_or_imp] at h
    have h1 : ∀ d K, optI G D lo d K = optI G D' lo d K := fun d K => optI_congr (fun y hy => h.2 y (.inl hy))
    have h2 : ∀ d K, optI G D hi d K = optI G D' hi d K := fun d K => optI_congr (fun y hy => h.2 y (.inr hy))
    simp only [ev0, slsR, h.1, h1, h2]
  | sla n x lo hi =>
    simp only [I.opds, List.mem_cons, List.mem_append, forall_eq_or_imp] at h
    have h1 : ∀ d K, optI G D lo d K = optI G D' lo d K := fun d K => optI_congr (fun y hy => h.2 y (.inl hy))
    have h2 : ∀ d K, optI G D hi d K = optI G D' hi d K := fun d K => optI_congr (fun y hy => h.2 y (.inr hy))
    simp only [ev0, h.1, h1, h2]
  | alloc z => rfl
  | _ =>
    simp only [I.opds, List.mem_cons, List.not_mem_nil, or_false, forall_eq_or_imp, forall_eq] at h
    simp only [ev0, h]

def MonoR (C : CallR) : Prop := ∀ f as H (K K' : AV → List Blk → Prop), (∀ r H, K r H → K' r H) → C f as H K → C f as H K'

theorem FCall.monoR (P : Program) (G : Globals) : MonoR (FCall P G) := by
  intro f as H K K' h ⟨h1, h2⟩
  refine ⟨h1, fun E vs a b c => Calls.mono (h2 E vs a b c) ?_⟩
  rintro e w ⟨E', x, v, e1, e2, e3, e4, e5, e6⟩
  exact ⟨E', x, v, e1, e2, e3, e4, e5, h _ _ e6⟩

theorem asI_mono {x : AV} {K K' : Int → Prop} (h : ∀ n, K n → K' n) (hh : asI x K) : asI x K' := by
  unfold asI at *; split at hh
  · exact h _ hh
  · exact hh

theorem asG_mono {x : AV} {b : Bool} {K K' : Bool → Prop} (h : ∀ n, K n → K' n) (hh : asG x b K) : asG x b K' := by
  unfold asG at *; split at hh
  · exact h _ hh
  · exact h _ hh
  · exact hh.elim
theorem asB_mono {x : AV} {K K' : Bool → Prop} (h : ∀ n, K n → K' n) (hh : asB x K) : asB x K' := by
  unfold asB at *; split at hh
  · exact h _ hh
  · exact hh

theorem optI_mono {G : Globals} {D : List AV} {x : Option Opd} {d : Int} {K K' : Int → Prop} (h : ∀ n, K n → K' n) (hh : optI G D x d K) : optI G D x d K' := by
  cases x with
  | none => exact h _ hh
  | some y => exact asI_mono h hh

theorem lenR_mono {H : List Blk} {x : AV} {K K' : Nat → Prop} (h : ∀ n, K n → K' n) (hh : lenR H x K) : lenR H x K' := by
  unfold lenR at *
  split at hh <;> first | exact h _ hh | (split at hh <;> first | exact ⟨hh.1, h _ hh.2⟩ | exact h _ hh | exact hh.elim) | exact hh.elim

theorem partP_mono {e : PV} {fo : Nat} {n : Option Nat} {K K' : AV → Prop} (h : ∀ n, K n → K' n) (hh : partP e fo n K) : partP e fo n K' := by
  unfold partP at *
  split at hh
  · exact ⟨hh.1, h _ hh.2⟩
  · split at hh <;> rename_i hc
    · simp only [hc]; exact ⟨hh.1, h _ hh.2⟩
    · simp only [hc]; exact ⟨hh.1, h _ hh.2⟩

theorem partA_mono {cs : List AV} {fo : Nat} {n : Option Nat} {K K' : AV → Prop} (h : ∀ n, K n → K' n) (hh : partA cs fo n K) : partA cs fo n K' := by
  unfold partA at *
  split at hh <;> exact ⟨hh.1, h _ hh.2⟩

theorem ldR_mono {H : List Blk} {n : Option Nat} {x : AV} {K K' : AV → Prop} (h : ∀ n, K n → K' n) (hh : ldR H n x K) : ldR H n x K' := by
  unfold ldR at *
  split at hh
  · split at hh
    · exact partA_mono h hh
    · exact hh
  · exact ⟨hh.1, hh.2.1, partP_mono h hh.2.2⟩
  · split at hh
    · exact ⟨hh.1, partA_mono h hh.2⟩
    · exact hh
  · split at hh
    · exact ⟨hh.1, h _ hh.2⟩
    · exact hh
  · exact hh

theorem stR_mono {H : List Blk} {n : Nat} {x v : AV} {K K' : List Blk → Prop} (h : ∀ n, K n → K' n) (hh : stR H n x v K) : stR H n x v K' := by
  unfold stR at *
  split at hh
  · split at hh
    · exact ⟨hh.1, h _ hh.2⟩
    · exact hh
  · split at hh
    · exact ⟨hh.1, h _ hh.2⟩
    · exact hh
  · split at hh
    · exact ⟨hh.1, h _ hh.2⟩
    · exact hh
  · exact hh

theorem binI_mono {o : BinOp} {k : IntKind} {a b : Int} {K K' : AV → Prop} (h : ∀ n, K n → K' n) (hh : binI o k a b K) : binI o k a b K' := by
  cases o <;> simp only [binI] at * <;> first | exact h _ hh | exact ⟨hh.1, h _ hh.2⟩

theorem binS_mono {o : BinOp} {a b : List UInt8} {K K' : AV → Prop} (h : ∀ n, K n → K' n) (hh : binS o a b K) : binS o a b K' := by
  cases o <;> simp only [binS] at * <;> first | exact h _ hh | exact ⟨hh.1, h _ hh.2⟩

theorem binR_mono {o : BinOp} {x y : AV} {K K' : AV → Prop} (h : ∀ n, K n → K' n) (hh : binR o x y K) : binR o x y K' := by
  unfold binR at *
  split at hh
  · exact ⟨hh.1, binI_mono h hh.2⟩
  · exact binS_mono h hh
  · exact hh

theorem slcR_mono {H : List Blk} {sz : Nat} {x : AV} {G : Globals} {D : List AV} {lo hi mx : Option Opd} {K K' : AV → Prop} (h : ∀ n, K n → K' n) (hh : slcR H sz x G D lo hi mx K) : slcR H sz x G D lo hi mx K' := by
  unfold slcR at *
  split at hh
  · refine asI_mono (fun m => optI_mono (fun h' => optI_mono (fun l hl => ⟨hl.1, ?_⟩))) hh
    have hl := hl.2
    split at hl <;> first | exact h _ hl | exact hl
  · split at hh
    · exact optI_mono (fun _ => optI_mono (fun _ hl => ⟨hl.1, h _ hl.2⟩)) hh
    · exact optI_mono (fun _ => optI_mono (fun _ hl => ⟨hl.1, h _ hl.2⟩)) hh
    · split at hh
      · exact optI_mono (fun _ => optI_mono (fun _ hl => ⟨hl.1, h _ hl.2⟩)) hh
      · exact hh
    · exact hh

theorem slsR_mono {x : AV} {G : Globals} {D : List AV} {lo hi : Option Opd} {K K' : AV → Prop} (h : ∀ n, K n → K' n) (hh : slsR x G D lo hi K) : slsR x G D lo hi K' := by
  unfold slsR at *
  split at hh
  · exact optI_mono (fun _ => optI_mono (fun _ hl => ⟨hl.1, h _ hl.2⟩)) hh
  · exact hh

theorem ev0_mono {G : Globals} {C : CallR} (hC : MonoR C) {i : I} {D : List AV} {H : List Blk} {K K' : AV → List Blk → Prop} (h : ∀ r H, K r H → K' r H) (hh : ev0 G C i D H K) : ev0 G C i D H K' := by
  cases i with
  | mv x => exact h _ _ hh
  | pick c a b => exact asB_mono (fun _ => h _ _) hh
  | alloc z => exact h _ _ hh
  | box x => exact ⟨hh.1, h _ _ hh.2⟩
  | bd z ps => exact ⟨hh.1, h _ _ hh.2⟩
  | bsl sz z n ps => exact ⟨hh.1, h _ _ hh.2⟩
  | ld n x => exact ldR_mono (fun _ => h _ _) hh
  | st n x v => exact stR_mono (fun _ => h _ _) hh
  | nc x =>
    simp only [ev0] at *
    split at hh
    · split at hh
      · exact h _ _ hh
      · exact hh
    · exact h _ _ hh
    · exact h _ _ hh
    · exact hh
  | bin o x y => exact binR_mono (fun _ => h _ _) hh
  | eqb neg x y => exact asB_mono (fun _ => asB_mono (fun _ => h _ _)) hh
  | eqp neg x =>
    simp only [ev0] at *
    split at hh
    · exact h _ _ hh
    · split at hh
      · exact h _ _ hh
      · exact hh
    · exact hh
  | eqf neg x =>
    simp only [ev0] at *
    split at hh
    · exact h _ _ hh
    · exact h _ _ hh
    · exact hh
  | eqs neg x =>
    simp only [ev0] at *
    split at hh
    · exact ⟨fun hn => h _ _ (hh.1 hn), fun hn b => h _ _ (hh.2 hn b)⟩
    · exact hh
  | eqa neg ks x y =>
    simp only [ev0] at *
    split at hh
    · exact ⟨hh.1, h _ _ hh.2⟩
    · exact hh
  | un o x =>
    simp only [ev0] at *
    split at hh
    · exact h _ _ hh
    · exact h _ _ hh
    · exact hh
  | conv k x => exact asI_mono (fun _ => h _ _) hh
  | cvs x =>
    simp only [ev0] at *
    split at hh
    · obtain ⟨l, h1, h2, h3⟩ := hh
      exact ⟨l, h1, h2, h _ _ h3⟩
    · exact hh
  | mkf f a b => exact h _ _ hh
  | mks sz z b l c => exact asI_mono (fun _ => asI_mono (fun _ hl => ⟨hl.1, h _ _ hl.2⟩)) hh
  | slc sz x lo hi mx => exact slcR_mono (K := fun v => K v H) (K' := fun v => K' v H) (fun _ => h _ _) hh
  | sls x lo hi => exact slsR_mono (K := fun v => K v H) (K' := fun v => K' v H) (fun _ => h _ _) hh
  | sla n x lo hi =>
    simp only [ev0] at *
    split at hh
    · split at hh
      · exact optI_mono (fun _ => optI_mono (fun _ hl => ⟨hl.1, h _ _ hl.2⟩)) hh
      · exact hh
    · exact hh
  | fa off x =>
    simp only [ev0] at *
    split at hh
    · split at hh
      · exact h _ _ hh
      · exact hh
    · exact h _ _ hh
    · exact hh
  | fld off n x =>
    simp only [ev0] at *
    split at hh
    · split at hh <;> exact ⟨hh.1, h _ _ hh.2⟩
    · exact partA_mono (fun _ => h _ _) hh
    · exact hh
  | ia sz x i => exact asI_mono (fun _ => lenR_mono (fun _ hl => ⟨hl.1, h _ _ hl.2⟩)) hh
  | iaa len sz x i =>
    refine asI_mono (fun n hl => ?_) hh
    split at hl
    · split at hl
      · exact ⟨hl.1, h _ _ hl.2⟩
      · exact hl
    · exact ⟨hl.1, h _ _ hl.2⟩
    · exact hl
  | idx len sz n x i =>
    refine asI_mono (fun m hl => ?_) hh
    split at hl
    · refine ⟨hl.1, ?_⟩
      have hl := hl.2
      split at hl <;> exact ⟨hl.1, h _ _ hl.2⟩
    · exact ⟨hl.1, partA_mono (fun _ => h _ _) hl.2⟩
    · exact hl
  | ids x i =>
    refine asI_mono (fun m hl => ?_) hh
    split at hl
    · exact ⟨hl.1, h _ _ hl.2⟩
    · exact hl
  | ext j x =>
    simp only [ev0] at *
    split at hh
    · exact ⟨hh.1, h _ _ hh.2⟩
    · exact hh
  | len x => exact lenR_mono (K := fun n => K (.p (.int .i64 n)) H) (K' := fun n => K' (.p (.int .i64 n)) H) (fun _ => h _ _) hh
  | lns x =>
    simp only [ev0] at *
    split at hh
    · exact h _ _ hh
    · exact hh
  | mx mn x y =>
    simp only [ev0] at *
    split at hh
    · exact asI_mono (fun _ => h _ _) hh
    · exact hh
  | app sz b x y =>
    simp only [ev0] at *
    split at hh
    · refine ⟨hh.1, ?_⟩
      have hh := hh.2
      split at hh
      · split at hh
        · exact ⟨hh.1, h _ _ hh.2⟩
        · exact hh
      · exact ⟨hh.1, h _ _ hh.2⟩
      · exact hh
    · exact hh
  | apz sz b z x y =>
    refine asI_mono (fun m hh => ?_) hh
    split at hh
    · split at hh
      · exact ⟨hh.1, h _ _ hh.2⟩
      · exact hh
    · exact ⟨hh.1, h _ _ hh.2⟩
    · exact hh
  | cpy sz x y =>
    simp only [ev0] at *
    split at hh
    · refine ⟨hh.1, ?_⟩
      have hh := hh.2
      split at hh
      · split at hh
        · exact ⟨hh.1, h _ _ hh.2⟩
        · exact hh
      · exact hh
    · exact hh
  | call f as => exact hC _ _ _ _ _ h hh
  | callv f as =>
    simp only [ev0] at *
    split at hh
    · exact hC _ _ _ _ _ h hh
    · exact hh

end Go.Ae
end

section
set_option linter.unusedSectionVars false
set_option linter.unusedSimpArgs false
set_option linter.unusedVariables false
namespace Go.Ae

def Ins.i : Ins → I
  | .d _ i => i
  | .n i => i
  | .gd _ _ _ i => i
  | .gn _ _ i => i

def Ins.dst : Ins → Option Nat
  | .d k _ => some k
  | .n _ => none
  | .gd _ _ k _ => some k
  | .gn _ _ _ => none

def Ins.grd : Ins → Option (Nat × Bool)
  | .d _ _ => none
  | .n _ => none
  | .gd s b _ _ => some (s, b)
  | .gn s b _ => some (s, b)

def Opd.slot : Opd → List Nat
  | .t n => [n]
  | _ => []

def Ins.looks (x : Ins) : List Nat :=
  x.i.opds.flatMap Opd.slot ++ (match x.grd with
    | some g => [g.1]
    | none => [])

def putD (D : List AV) (d : Option Nat) (r : AV) : List AV :=
  match d with
  | some d => D.set d r
  | none => D

def evI (G : Globals) (C : CallR) (x : Ins) (D : List AV) (H : List Blk) (K : AV → List Blk → Prop) : Prop :=
  match x.grd with
  | none => ev0 G C x.i D H K
  | some g => asG (D.getD g.1 .any) g.2 fun v => (v = g.2 → ev0 G C x.i D H K) ∧ (v ≠ g.2 → K (.tup []) H)

theorem ev1_evI {G : Globals} {C : CallR} {x : Ins} {D : List AV} {H : List Blk} {K : List AV → List Blk → Prop} : ev1 G C x D H K = evI G C x D H (fun r H => K (putD D x.dst r) H) := by
  cases x <;> rfl

theorem get_congr {G : Globals} {D D' : List AV} {x : Opd} (h : ∀ s ∈ x.slot, D.getD s .any = D'.getD s .any) : get G D x = get G D' x := by
  cases x with
  | t n => exact h n (by simp [Opd.slot])
  | _ => rfl

theorem evI_congr {G : Globals} {C : CallR} {x : Ins} {D D' : List AV} {H : List Blk} {K : AV → List Blk → Prop} (h : ∀ s ∈ x.looks, D.getD s .any = D'.getD s .any) : evI G C x D H K = evI G C x D' H K := by
  have h0 : ev0 G C x.i D H K = ev0 G C x.i D' H K := ev0_congr (fun y hy => get_congr (fun s hs => h s (by
    simp only [Ins.looks, List.mem_append, List.mem_flatMap]
    exact .inl ⟨y, hy, hs⟩)))
  unfold evI
  cases hg : x.grd with
  | none => exact h0
  | some g => simp only [h0, h g.1 (by simp [Ins.looks, hg])]

theorem evI_mono {G : Globals} {C : CallR} (hC : MonoR C) {x : Ins} {D : List AV} {H : List Blk} {K K' : AV → List Blk → Prop} (h : ∀ r H, K r H → K' r H) (hh : evI G C x D H K) : evI G C x D H K' := by
  unfold evI at *
  cases hg : x.grd with
  | none => rw [hg] at hh; exact ev0_mono hC h hh
  | some g =>
    rw [hg] at hh
    exact asG_mono (fun v hv => ⟨fun e => ev0_mono hC h (hv.1 e), fun e => h _ _ (hv.2 e)⟩) hh

def quiet : I → Bool
  | .mv _ => true
  | .pick _ _ _ => true
  | .bd _ _ => true
  | .ld _ _ => true
  | .nc _ => true
  | .bin _ _ _ => true
  | .eqb _ _ _ => true
  | .eqp _ _ => true
  | .eqf _ _ => true
  | .eqa _ _ _ _ => true
  | .un _ _ => true
  | .conv _ _ => true
  | .cvs _ => true
  | .mkf _ _ _ => true
  | .slc _ _ _ _ _ => true
  | .sls _ _ _ => true
  | .sla _ _ _ _ => true
  | .fa _ _ => true
  | .fld _ _ _ => true
  | .ia _ _ _ => true
  | .iaa _ _ _ _ => true
  | .idx _ _ _ _ _ => true
  | .ids _ _ => true
  | .ext _ _ => true
  | .len _ => true
  | .lns _ => true
  | .mx _ _ _ => true
  | _ => false

def hdep : I → Bool
  | .mv _ => false
  | .pick _ _ _ => false
  | .bd _ _ => false
  | .bin _ _ _ => false
  | .eqb _ _ _ => false
  | .eqf _ _ => false
  | .eqa _ _ _ _ => false
  | .un _ _ => false
  | .conv _ _ => false
  | .mkf _ _ _ => false
  | .sls _ _ _ => false
  | .fld _ _ _ => false
  | .idx _ _ _ _ _ => false
  | .ids _ _ => false
  | .ext _ _ => false
  | .lns _ => false
  | .mx _ _ _ => false
  | _ => true

section det

def Det {α : Type} (F : (α → Prop) → Prop) : Prop := ∀ K, F K → ∃ r, K r ∧ ∀ K', K' r → F K'

theorem det_pure {α : Type} (r : α) : Det (fun K => K r) := fun K h => ⟨r, h, fun _ h => h⟩
theorem det_and {α : Type} {p : Prop} {F : (α → Prop) → Prop} (h : Det F) : Det (fun K => p ∧ F K) := fun K hh => by
  obtain ⟨r, h1, h2⟩ := h K hh.2
  exact ⟨r, h1, fun K' hk => ⟨hh.1, h2 K' hk⟩⟩
theorem det_false {α : Type} : Det (fun _ : α → Prop => False) := fun K h => h.elim
theorem det_map {α β : Type} {F : (α → Prop) → Prop} (h : Det F) (g : α → β) : Det (fun K => F (fun x => K (g x))) := fun K hh => by
  obtain ⟨r, h1, h2⟩ := h _ hh
  exact ⟨g r, h1, fun K' hk => h2 _ hk⟩
theorem det_bind {α β : Type} {F : (α → Prop) → Prop} {g : α → (β → Prop) → Prop} (h : Det F) (hg : ∀ x, Det (g x)) : Det (fun K => F (fun x => g x K)) := fun K hh => by
  obtain ⟨r, h1, h2⟩ := h _ hh
  obtain ⟨r', h3, h4⟩ := hg r K h1
  exact ⟨r', h3, fun K' hk => h2 _ (h4 K' hk)⟩

theorem asI_det (x : AV) : Det (asI x) := by
  unfold asI; split
  · exact det_pure _
  · exact det_false
theorem asG_det (x : AV) (b : Bool) : Det (asG x b) := by
  unfold asG; split
  · exact det_pure _
  · exact det_pure _
  · exact fun K h => h.elim
theorem asB_det (x : AV) : Det (asB x) := by
  unfold asB; split
  · exact det_pure _
  · exact det_false
theorem optI_det (G : Globals) (D : List AV) (x : Option Opd) (d : Int) : Det (optI G D x d) := by
  cases x with
  | none => exact det_pure _
  | some y => exact asI_det _
theorem lenR_det (H : List Blk) (x : AV) : Det (lenR H x) := by
  unfold lenR
  split
  · exact det_pure _
  · exact det_pure _
  · split
    · exact det_and (det_pure _)
    · exact det_false
  · split
    · exact det_pure _
    · exact det_false
  · exact det_false
theorem partP_det (e : PV) (fo : Nat) (n : Option Nat) : Det (partP e fo n) := by
  unfold partP
  split
  · exact det_and (det_pure _)
  · split
    · exact det_and (det_pure _)
    · exact det_and (det_pure _)
theorem partA_det (cs : List AV) (fo : Nat) (n : Option Nat) : Det (partA cs fo n) := by
  unfold partA
  split
  · exact det_and (det_pure _)
  · exact det_and (det_pure _)
theorem ldR_det (H : List Blk) (n : Option Nat) (x : AV) : Det (ldR H n x) := by
  unfold ldR
  split
  · split
    · exact partA_det _ _ _
    · exact det_false
  · exact det_and (det_and (partP_det _ _ _))
  · split
    · exact det_and (partA_det _ _ _)
    · exact det_false
  · split
    · exact det_and (det_pure _)
    · exact det_false
  · exact det_false
theorem binR_det (o : BinOp) (x y : AV) : Det (binR o x y) := by
  unfold binR
  split
  · refine det_and ?_
    show Det (fun K => binI _ _ _ _ K)
    cases o <;> simp only [binI] <;> first | exact det_pure _ | exact det_and (det_pure _)
  · show Det (fun K => binS _ _ _ K)
    cases o <;> simp only [binS] <;> first | exact det_pure _ | exact det_and (det_pure _) | exact det_false
  · exact det_false
theorem slcR_det (H : List Blk) (sz : Nat) (x : AV) (G : Globals) (D : List AV) (lo hi m : Option Opd) : Det (slcR H sz x G D lo hi m) := by
  unfold slcR
  split
  · refine det_bind (asI_det _) (fun _ => det_bind (optI_det _ _ _ _) (fun _ => det_bind (optI_det _ _ _ _) (fun _ => det_and ?_)))
    split
    · exact det_pure _
    · exact det_pure _
    · exact det_false
  · split
    · exact det_bind (optI_det _ _ _ _) (fun _ => det_bind (optI_det _ _ _ _) (fun _ => det_and (det_pure _)))
    · exact det_bind (optI_det _ _ _ _) (fun _ => det_bind (optI_det _ _ _ _) (fun _ => det_and (det_pure _)))
    · split
      · exact det_bind (optI_det _ _ _ _) (fun _ => det_bind (optI_det _ _ _ _) (fun _ => det_and (det_pure _)))
      · exact det_false
    · exact det_false
theorem slsR_det (x : AV) (G : Globals) (D : List AV) (lo hi : Option Opd) : Det (slsR x G D lo hi) := by
  unfold slsR
  split
  · exact det_bind (optI_det _ _ _ _) (fun _ => det_bind (optI_det _ _ _ _) (fun _ => det_and (det_pure _)))
  · exact det_false

def qR (G : Globals) (D : List AV) (H : List Blk) (i : I) (K : AV → Prop) : Prop := ev0 G (fun _ _ _ _ => False) i D H (fun r _ => K r)

theorem quiet_qR {G : Globals} {C : CallR} {i : I} (hq : quiet i = true) {D : List AV} {H : List Blk} {K : AV → List Blk → Prop} : ev0 G C i D H K ↔ qR G D H i (fun r => K r H) := by
  cases i <;> first | exact Iff.rfl | cases hq

theorem qR_det {G : Globals} {i : I} (hq : quiet i = true) (D : List AV) (H : List Blk) : Det (qR G D H i) := by
  unfold qR
  cases i with
  | mv x => exact det_pure _
  | pick c a b => exact det_bind (asB_det _) (fun _ => det_pure _)
  | bd z ps => exact det_and (det_pure _)
  | ld n x => exact ldR_det _ _ _
  | nc x =>
    simp only [ev0]
    split
    · split
      · exact det_pure _
      · exact det_false
    · exact det_pure _
    · exact det_pure _
    · exact det_false
  | bin o x y => exact binR_det _ _ _
  | eqb neg x y => exact det_bind (asB_det _) (fun _ => det_bind (asB_det _) (fun _ => det_pure _))
  | eqp neg x =>
    simp only [ev0]
    split
    · exact det_pure _
    · split
      · exact det_pure _
      · exact det_false
    · exact det_false
  | eqf neg x =>
    simp only [ev0]
    split
    · exact det_pure _
    · exact det_pure _
    · exact det_false
  | eqa neg ks x y =>
    simp only [ev0]
    split
    · exact det_and (det_pure _)
    · exact det_false
  | un o x =>
    simp only [ev0]
    split
    · exact det_pure _
    · exact det_pure _
    · exact det_false
  | conv k x => exact det_bind (asI_det _) (fun _ => det_pure _)
  | cvs x =>
    simp only [ev0]
    split
    · intro K hh
      obtain ⟨l, h1, h2, h3⟩ := hh
      exact ⟨_, h3, fun K' hk => ⟨l, h1, h2, hk⟩⟩
    · exact det_false
  | mkf f a b => exact det_pure _
  | slc sz x lo hi m => exact slcR_det _ _ _ _ _ _ _ _
  | sls x lo hi => exact slsR_det _ _ _ _ _
  | sla n x lo hi =>
    simp only [ev0]
    split
    · split
      · exact det_bind (optI_det _ _ _ _) (fun _ => det_bind (optI_det _ _ _ _) (fun _ => det_and (det_pure _)))
      · exact det_false
    · exact det_false
  | fa off x =>
    simp only [ev0]
    split
    · split
      · exact det_pure _
      · exact det_false
    · exact det_pure _
    · exact det_false
  | fld off n x =>
    simp only [ev0]
    split
    · split
      · exact det_and (det_pure _)
      · exact det_and (det_pure _)
    · exact partA_det _ _ _
    · exact det_false
  | ia sz x i => exact det_bind (asI_det _) (fun _ => det_bind (lenR_det _ _) (fun _ => det_and (det_pure _)))
  | iaa len sz x i =>
    refine det_bind (asI_det _) (fun _ => ?_)
    split
    · split
      · exact det_and (det_pure _)
      · exact det_false
    · exact det_and (det_pure _)
    · exact det_false
  | idx len sz n x i =>
    refine det_bind (asI_det _) (fun _ => ?_)
    split
    · refine det_and ?_
      split
      · exact det_and (det_pure _)
      · exact det_and (det_pure _)
    · exact det_and (partA_det _ _ _)
    · exact det_false
  | ids x i =>
    refine det_bind (asI_det _) (fun _ => ?_)
    split
    · exact det_and (det_pure _)
    · exact det_false
  | ext j x =>
    simp only [ev0]
    split
    · exact det_and (det_pure _)
    · exact det_false
  | len x => exact det_map (F := lenR H (get G D x)) (lenR_det _ _) (fun n => AV.p (.int .i64 n))
  | lns x =>
    simp only [ev0]
    split
    · exact det_pure _
    · exact det_false
  | mx mn x y =>
    simp only [ev0]
    split
    · exact det_bind (asI_det _) (fun _ => det_pure _)
    · exact det_false
  | _ => cases hq

theorem qR_hindep {G : Globals} {i : I} (hq : quiet i = true) (hd : hdep i = false) (D : List AV) (H H' : List Blk) (K : AV → Prop) : qR G D H i K ↔ qR G D H' i K := by
  cases i <;> first | (cases hq; done) | (cases hd; done) | exact Iff.rfl

end det

def qI (G : Globals) (D : List AV) (H : List Blk) (x : Ins) (K : AV → Prop) : Prop := evI G (fun _ _ _ _ => False) x D H (fun r _ => K r)

theorem quiet_qI {G : Globals} {C : CallR} {x : Ins} (hq : quiet x.i = true) {D : List AV} {H : List Blk} {K : AV → List Blk → Prop} : evI G C x D H K ↔ qI G D H x (fun r => K r H) := by
  unfold qI evI
  cases x.grd with
  | none => exact quiet_qR hq
  | some g => simp only [quiet_qR (C := C) hq, quiet_qR (C := fun _ _ _ _ => False) hq]

theorem qI_det {G : Globals} {x : Ins} (hq : quiet x.i = true) (D : List AV) (H : List Blk) : Det (qI G D H x) := by
  unfold qI evI
  cases x.grd with
  | none => exact qR_det hq D H
  | some g =>
    refine det_bind (asG_det _ _) (fun v => ?_)
    intro K hh
    by_cases hv : v = g.2
    · obtain ⟨r, h1, h2⟩ := qR_det hq D H K (hh.1 hv)
      exact ⟨r, h1, fun K' hk => ⟨fun _ => h2 K' hk, fun hn => absurd hv hn⟩⟩
    · exact ⟨.tup [], hh.2 hv, fun K' hk => ⟨fun e => absurd e hv, fun _ => hk⟩⟩

theorem qI_hindep {G : Globals} {x : Ins} (hq : quiet x.i = true) (hd : hdep x.i = false) (D : List AV) (H H' : List Blk) (K : AV → Prop) : qI G D H x K ↔ qI G D H' x K := by
  unfold qI evI
  cases x.grd with
  | none => exact qR_hindep hq hd D H H' K
  | some g =>
    have := qR_hindep (G := G) hq hd D H H' K
    unfold qR at this
    simp only [this]

structure Dop where
  ins : Ins
  pre : List Nat

def rdy (ops : List Dop) (L : Nat → Bool) (i : Nat) : Prop := ∃ o, ops[i]? = some o ∧ L i = false ∧ ∀ p ∈ o.pre, L p = true

def upL (L : Nat → Bool) (i : Nat) : Nat → Bool := fun j => j == i || L j

def evAny (G : Globals) (C : CallR) (ops : List Dop) (K : List AV → List Blk → Prop) : Nat → (Nat → Bool) → List AV → List Blk → Prop
  | 0, L, D, H => (∀ i, ¬ rdy ops L i) ∧ K D H
  | f + 1, L, D, H => ((∀ i, ¬ rdy ops L i) → K D H) ∧ ∀ i o, ops[i]? = some o → rdy ops L i → ev1 G C o.ins D H (fun D' H' => evAny G C ops K f (upL L i) D' H')

def sameAt (D : List AV) (d : Option Nat) (r : AV) : Prop :=
  match d with
  | some d => r = D.getD d .any
  | none => True

def rchk (G : Globals) : List Ins → List AV → List Blk → Prop
  | [], _, _ => True
  | q :: qs, D, H => qI G D H q (sameAt D q.dst) ∧ rchk G qs D H

def evR (G : Globals) (C : CallR) : List (Ins × List Ins) → List AV → List Blk → (List AV → List Blk → Prop) → Prop
  | [], D, H, K => K D H
  | (x, qs) :: l, D, H, K => ev1 G C x D H (fun D H => rchk G qs D H ∧ evR G C l D H K)

def readsAny (d : Option Nat) (l : List Nat) : Bool :=
  match d with
  | some d => l.contains d
  | none => false

def dstEq (d e : Option Nat) : Bool :=
  match d, e with
  | some d, some e => d == e
  | _, _ => false

abbrev Taken := List (Nat × Ins × Nat)

def maskOf (pre : List Nat) (tk : Taken) : Nat := pre.foldl (fun m p => m ||| 1 <<< p) (tk.foldl (fun m t => if pre.contains t.1 then m ||| t.2.2 else m) 0)

def hasT (tk : Taken) (i : Nat) : Bool := tk.any fun t => t.1 == i

def onlyRdy (ops : List Dop) (tk : Taken) (k : Nat) : Bool :=
  (List.range ops.length).all fun i => i == k || hasT tk i || (match ops[i]? with
    | some o => !(o.pre.all fun p => hasT tk p)
    | none => true)

def okOrd (ops : List Dop) : Taken → List (Nat × List Nat) → Bool
  | tk, [] => (List.range ops.length).all (hasT tk)
  | tk, (k, qs) :: r =>
    match ops[k]? with
    | none => false
    | some o =>
      let m := maskOf o.pre tk
      (!(hasT tk k) && o.pre.all (hasT tk) && (tk.all fun t => !(readsAny t.2.1.dst o.ins.looks) || m.testBit t.1)) &&
      ((quiet o.ins.i && qs.isEmpty && !(readsAny o.ins.dst o.ins.looks) && tk.all (fun t => !(readsAny o.ins.dst t.2.1.looks) && !(dstEq o.ins.dst t.2.1.dst))) ||
        (onlyRdy ops tk k && tk.all (fun t => (!(readsAny o.ins.dst t.2.1.looks) && !(dstEq o.ins.dst t.2.1.dst)) || m.testBit t.1) &&
          tk.all (fun t => !(quiet t.2.1.i && hdep t.2.1.i) || m.testBit t.1 || qs.contains t.1))) &&
      okOrd ops ((k, o.ins, m) :: tk) r

def resolveV (ops : List Dop) : List (Nat × List Nat) → List (Ins × List Ins)
  | [] => []
  | (k, qs) :: r =>
    match ops[k]? with
    | some o => (o.ins, qs.filterMap fun q => (ops[q]?).map (·.ins)) :: resolveV ops r
    | none => resolveV ops r

end Go.Ae
end

section
set_option linter.unusedSectionVars false
set_option linter.unusedSimpArgs false
set_option linter.unusedVariables false
namespace Go.Ae

theorem testBit_fold (l : List Nat) : ∀ (m j : Nat), (l.foldl (fun m p => m ||| 1 <<< p) m).testBit j = true → m.testBit j = true ∨ j ∈ l := by
  induction l with
  | nil => intro m j h; exact .inl h
  | cons p l ih =>
    intro m j h
    rcases ih _ j h with h | h
    · rw [Nat.testBit_or, Bool.or_eq_true] at h
      rcases h with h | h
      · exact .inl h
      · refine .inr ?_
        rw [Nat.testBit_shiftLeft] at h
        simp only [ge_iff_le, Bool.and_eq_true, decide_eq_true_eq] at h
        have : j - p = 0 := by
          rcases Nat.eq_zero_or_pos (j - p) with h0 | h0
          · exact h0
          · have := Nat.testBit_lt_two_pow (x := 1) (i := j - p) (Nat.one_lt_two_pow (by omega))
            rw [this] at h
            exact absurd h.2 (by simp)
        have : j = p := by omega
        subst this
        simp
    · exact .inr (by simp [h])

theorem testBit_tk (pre : List Nat) (tk : Taken) : ∀ (m j : Nat), (tk.foldl (fun m t => if pre.contains t.1 then m ||| t.2.2 else m) m).testBit j = true → m.testBit j = true ∨ ∃ t ∈ tk, t.1 ∈ pre ∧ t.2.2.testBit j = true := by
  induction tk with
  | nil => intro m j h; exact .inl h
  | cons t tk ih =>
    intro m j h
    rcases ih _ j h with h | ⟨u, h1, h2, h3⟩
    · simp only at h
      split at h
      · rename_i hc
        rw [Nat.testBit_or, Bool.or_eq_true] at h
        rcases h with h | h
        · exact .inl h
        · exact .inr ⟨t, by simp, by simpa using hc, h⟩
      · exact .inl h
    · exact .inr ⟨u, by simp [h1], h2, h3⟩

theorem testBit_mask {pre : List Nat} {tk : Taken} {j : Nat} (h : (maskOf pre tk).testBit j = true) : j ∈ pre ∨ ∃ t ∈ tk, t.1 ∈ pre ∧ t.2.2.testBit j = true := by
  unfold maskOf at h
  rcases testBit_fold _ _ _ h with h | h
  · rcases testBit_tk _ _ _ _ h with h | h
    · simp at h
    · exact .inr h
  · exact .inl h

def Closed (ops : List Dop) (L : Nat → Bool) : Prop := ∀ i o, L i = true → ops[i]? = some o → ∀ p ∈ o.pre, L p = true

def Yv (G : Globals) (x : Ins) (D : List AV) (H : List Blk) : Prop := ∃ r, sameAt D x.dst r ∧ ∀ K, K r → qI G D H x K

structure Inv (G : Globals) (ops : List Dop) (N : Nat) (tk : Taken) (L : Nat → Bool) (Da Dv : List AV) (H : List Blk) : Prop where
  a : ∀ i, L i = true → hasT tk i = true
  b : Closed ops L
  c : ∀ t ∈ tk, ∃ o, ops[t.1]? = some o ∧ o.ins = t.2.1 ∧ ∀ L', Closed ops L' → (∀ p ∈ o.pre, L' p = true) → ∀ j, t.2.2.testBit j = true → L' j = true
  d : ∀ t ∈ tk, L t.1 = false → quiet t.2.1.i = true ∧ readsAny t.2.1.dst t.2.1.looks = false ∧ Yv G t.2.1 Dv H
  e : ∀ t ∈ tk, ∀ u ∈ tk, L t.1 = false → L u.1 = false → t.1 ≠ u.1 → dstEq t.2.1.dst u.2.1.dst = false ∧ (readsAny u.2.1.dst t.2.1.looks = true → t.2.2.testBit u.1 = true)
  la : Da.length = N
  lv : Dv.length = N
  f : ∀ s, (∀ t ∈ tk, L t.1 = false → t.2.1.dst ≠ some s) → Da.getD s .any = Dv.getD s .any

theorem hasT_iff {tk : Taken} {i : Nat} : hasT tk i = true ↔ ∃ t ∈ tk, t.1 = i := by
  simp [hasT]

theorem putD_length (D : List AV) (d : Option Nat) (r : AV) : (putD D d r).length = D.length := by
  cases d <;> simp [putD]

theorem putD_getD {D : List AV} {d : Option Nat} {r : AV} {s : Nat} (h : d ≠ some s) : (putD D d r).getD s .any = D.getD s .any := by
  cases d with
  | none => rfl
  | some k =>
    have hne : k ≠ s := fun e => h (by rw [e])
    simp [putD, List.getD_eq_getElem?_getD, List.getElem?_set_ne hne]

theorem putD_same {D : List AV} {k : Nat} {r : AV} (h : k < D.length) : (putD D (some k) r).getD k .any = r := by
  simp [putD, List.getD_eq_getElem?_getD, List.getElem?_set_self h]

theorem readsAny_mem {d : Option Nat} {l : List Nat} (h : readsAny d l = false) {s : Nat} (hs : s ∈ l) : d ≠ some s := by
  rintro rfl
  simp [readsAny] at h
  exact h hs

theorem readsAny_of {k : Nat} {l : List Nat} (h : k ∈ l) : readsAny (some k) l = true := by simp [readsAny, h]

theorem dstEq_false {d e : Option Nat} (h : dstEq d e = false) {k : Nat} (hd : d = some k) : e ≠ some k := by
  rintro rfl
  subst hd
  simp [dstEq] at h

theorem dstEq_symm (d e : Option Nat) : dstEq d e = dstEq e d := by
  cases d <;> cases e <;> first | rfl | exact BEq.comm

section
variable {G : Globals} {C : CallR} {ops : List Dop} {N : Nat}

theorem unT {tk : Taken} {L : Nat → Bool} {Da Dv : List AV} {H : List Blk} (I : Inv G ops N tk L Da Dv H) {t u : Nat × Ins × Nat} (ht : t ∈ tk) (hu : u ∈ tk) (h : t.1 = u.1) : t.2.1 = u.2.1 := by
  obtain ⟨o, h1, h2, _⟩ := I.c t ht
  obtain ⟨o', h3, h4, _⟩ := I.c u hu
  rw [h, h3] at h1
  cases h1
  rw [← h2, ← h4]

theorem agree {tk : Taken} {L : Nat → Bool} {Da Dv : List AV} {H : List Blk} (I : Inv G ops N tk L Da Dv H) {x : Ins} {m : Nat} (hm : ∀ j, m.testBit j = true → L j = true)
    (h : ∀ u ∈ tk, L u.1 = false → readsAny u.2.1.dst x.looks = true → m.testBit u.1 = true) (s : Nat) (hs : s ∈ x.looks) : Da.getD s .any = Dv.getD s .any := by
  refine I.f s (fun u hu hl hd => ?_)
  have := hm _ (h u hu hl (by rw [hd]; exact readsAny_of hs))
  rw [hl] at this
  cases this

theorem Yv.congr {x : Ins} {D D' : List AV} {H : List Blk} (h : ∀ s ∈ x.looks, D.getD s .any = D'.getD s .any) (hd : ∀ k, x.dst = some k → D.getD k .any = D'.getD k .any) (hy : Yv G x D H) : Yv G x D' H := by
  obtain ⟨r, h1, h2⟩ := hy
  refine ⟨r, ?_, fun K hk => ?_⟩
  · unfold sameAt at *
    split at h1
    · rename_i k hk
      rw [← hd k hk]; exact h1
    · trivial
  · have := h2 K hk
    unfold qI at *
    rw [← evI_congr h]
    exact this

theorem Inv.float {tk : Taken} {L : Nat → Bool} {Da Dv : List AV} {H : List Blk} (I : Inv G ops N tk L Da Dv H) {t : Nat × Ins × Nat} (ht : t ∈ tk) (hl : L t.1 = false) (hr : rdy ops L t.1) (hN : ∀ k, t.2.1.dst = some k → k < N) {K' : AV → List Blk → Prop}
    (h : ∀ r, Inv G ops N tk (upL L t.1) (putD Da t.2.1.dst r) Dv H → K' r H) : evI G C t.2.1 Da H K' := by
  obtain ⟨o, ho, _, hp⟩ := hr
  obtain ⟨o', ho', hoi, hm⟩ := I.c t ht
  rw [ho] at ho'
  cases ho'
  obtain ⟨hq, hself, r, hs, hy⟩ := I.d t ht hl
  have hag : ∀ s ∈ t.2.1.looks, Da.getD s .any = Dv.getD s .any := agree I (m := t.2.2) (hm L I.b hp) (fun u hu hul hr => by
    by_cases he : t.1 = u.1
    · rw [← unT I ht hu he, hself] at hr; cases hr
    · exact (I.e t ht u hu hl hul he).2 hr)
  rw [evI_congr hag, quiet_qI hq]
  refine hy _ (h r ?_)
  have hsub : ∀ u, upL L t.1 u = false → L u = false ∧ u ≠ t.1 := by
    intro u hu
    simp only [upL, Bool.or_eq_false_iff, beq_eq_false_iff_ne] at hu
    exact ⟨hu.2, hu.1⟩
  refine { a := ?_, b := ?_, c := I.c, d := fun u hu hul => I.d u hu (hsub _ hul).1, e := fun u hu v hv hul hvl => I.e u hu v hv (hsub _ hul).1 (hsub _ hvl).1, la := by rw [putD_length]; exact I.la, lv := I.lv, f := ?_ }
  · intro i hi
    simp only [upL, Bool.or_eq_true, beq_iff_eq] at hi
    rcases hi with rfl | hi
    · exact hasT_iff.2 ⟨t, ht, rfl⟩
    · exact I.a i hi
  · intro i o' hi ho' p hp'
    simp only [upL, Bool.or_eq_true, beq_iff_eq] at hi ⊢
    rcases hi with rfl | hi
    · rw [ho] at ho'
      cases ho'
      exact .inr (hp p hp')
    · exact .inr (I.b i o' hi ho' p hp')
  · intro s hsn
    by_cases hds : t.2.1.dst = some s
    · rw [hds, putD_same (by rw [I.la]; exact hN s hds)]
      unfold sameAt at hs
      rw [hds] at hs
      exact hs
    · rw [putD_getD hds]
      refine I.f s (fun u hu hul => ?_)
      by_cases he : u.1 = t.1
      · rw [unT I hu ht he]; exact hds
      · exact hsn u hu (by simp only [upL, Bool.or_eq_false_iff, beq_eq_false_iff_ne]; exact ⟨he, hul⟩)

theorem mask_ok {tk : Taken} {L : Nat → Bool} {Da Dv : List AV} {H : List Blk} (I : Inv G ops N tk L Da Dv H) {o : Dop} {L' : Nat → Bool} (hc : Closed ops L') (hp : ∀ p ∈ o.pre, L' p = true) (j : Nat) (hj : (maskOf o.pre tk).testBit j = true) : L' j = true := by
  rcases testBit_mask hj with h | ⟨t, h1, h2, h3⟩
  · exact hp j h
  · obtain ⟨o', ho', _, hm⟩ := I.c t h1
    exact hm L' hc (hc t.1 o' (hp _ h2) ho') j h3

theorem Inv.take {tk : Taken} {L : Nat → Bool} {Da Dv : List AV} {H : List Blk} (I : Inv G ops N tk L Da Dv H) {k : Nat} {o : Dop} {r : AV} (ho : ops[k]? = some o) (hk : hasT tk k = false) (hq : quiet o.ins.i = true)
    (h1 : ∀ t ∈ tk, readsAny t.2.1.dst o.ins.looks = true → (maskOf o.pre tk).testBit t.1 = true) (hself : readsAny o.ins.dst o.ins.looks = false)
    (h2 : ∀ t ∈ tk, readsAny o.ins.dst t.2.1.looks = false ∧ dstEq o.ins.dst t.2.1.dst = false) (hN : ∀ k, o.ins.dst = some k → k < N) (hy : ∀ K, K r → qI G Dv H o.ins K) :
    Inv G ops N ((k, o.ins, maskOf o.pre tk) :: tk) L Da (putD Dv o.ins.dst r) H := by
  have hlk : L k = false := by
    cases hlk : L k with
    | false => rfl
    | true => rw [I.a k hlk] at hk; cases hk
  have hne : ∀ t ∈ tk, t.1 ≠ k := by
    intro t ht e
    rw [hasT_iff.2 ⟨t, ht, e⟩] at hk
    cases hk
  refine { a := ?_, b := I.b, c := ?_, d := ?_, e := ?_, la := I.la, lv := by rw [putD_length]; exact I.lv, f := ?_ }
  · intro i hi
    obtain ⟨t, ht, e⟩ := hasT_iff.1 (I.a i hi)
    exact hasT_iff.2 ⟨t, by simp [ht], e⟩
  · intro t ht
    rcases List.mem_cons.1 ht with rfl | ht
    · exact ⟨o, ho, rfl, fun L' hc hp j hj => mask_ok I hc hp j hj⟩
    · exact I.c t ht
  · intro t ht hl
    rcases List.mem_cons.1 ht with rfl | ht
    · refine ⟨hq, hself, r, ?_, fun K hK => ?_⟩
      · unfold sameAt
        simp only
        cases hd : o.ins.dst with
        | none => trivial
        | some k' => exact (putD_same (by rw [I.lv]; exact hN k' hd)).symm
      · have := hy K hK
        unfold qI at *
        rw [← evI_congr (D := Dv)]
        · exact this
        · intro s hs
          exact (putD_getD (readsAny_mem hself hs)).symm
    · obtain ⟨h3, h4, h5⟩ := I.d t ht hl
      refine ⟨h3, h4, h5.congr (fun s hs => (putD_getD (readsAny_mem (h2 t ht).1 hs)).symm) (fun k' hk' => (putD_getD (fun e => ?_)).symm)⟩
      exact dstEq_false (h2 t ht).2 e hk'
  · intro t ht u hu hlt hlu hne'
    rcases List.mem_cons.1 ht with rfl | ht
    · rcases List.mem_cons.1 hu with rfl | hu
      · exact absurd rfl hne'
      · exact ⟨(h2 u hu).2, fun hr => h1 u hu hr⟩
    · rcases List.mem_cons.1 hu with rfl | hu
      · refine ⟨by rw [dstEq_symm]; exact (h2 t ht).2, fun hr => ?_⟩
        · have := (h2 t ht).1
          simp only at hr
          rw [hr] at this
          cases this
      · exact I.e t ht u hu hlt hlu hne'
  · intro s hs
    have hd : o.ins.dst ≠ some s := hs (k, o.ins, maskOf o.pre tk) List.mem_cons_self hlk
    rw [putD_getD hd]
    exact I.f s (fun t ht hl => hs t (by simp [ht]) hl)

theorem Inv.loud {tk : Taken} {L : Nat → Bool} {Da Dv : List AV} {H H' : List Blk} (I : Inv G ops N tk L Da Dv H) {k : Nat} {o : Dop} {r : AV} (ho : ops[k]? = some o) (hk : hasT tk k = false) (hp : ∀ p ∈ o.pre, L p = true)
    (h1 : ∀ t ∈ tk, (readsAny o.ins.dst t.2.1.looks = false ∧ dstEq o.ins.dst t.2.1.dst = false) ∨ (maskOf o.pre tk).testBit t.1 = true) (hN : ∀ k, o.ins.dst = some k → k < N)
    (h2 : ∀ t ∈ tk, L t.1 = false → hdep t.2.1.i = true → qI G (putD Dv o.ins.dst r) H' t.2.1 (sameAt (putD Dv o.ins.dst r) t.2.1.dst)) :
    Inv G ops N ((k, o.ins, maskOf o.pre tk) :: tk) (upL L k) (putD Da o.ins.dst r) (putD Dv o.ins.dst r) H' := by
  have hm : ∀ j, (maskOf o.pre tk).testBit j = true → L j = true := fun j hj => mask_ok I I.b hp j hj
  have hsub : ∀ u, upL L k u = false → L u = false ∧ u ≠ k := by
    intro u hu
    simp only [upL, Bool.or_eq_false_iff, beq_eq_false_iff_ne] at hu
    exact ⟨hu.2, hu.1⟩
  have hap : ∀ t ∈ tk, L t.1 = false → readsAny o.ins.dst t.2.1.looks = false ∧ dstEq o.ins.dst t.2.1.dst = false := by
    intro t ht hl
    rcases h1 t ht with h | h
    · exact h
    · rw [hm _ h] at hl; cases hl
  refine { a := ?_, b := ?_, c := ?_, d := ?_, e := ?_, la := by rw [putD_length]; exact I.la, lv := by rw [putD_length]; exact I.lv, f := ?_ }
  · intro i hi
    simp only [upL, Bool.or_eq_true, beq_iff_eq] at hi
    rcases hi with rfl | hi
    · exact hasT_iff.2 ⟨_, List.mem_cons_self, rfl⟩
    · obtain ⟨t, ht, e⟩ := hasT_iff.1 (I.a i hi)
      exact hasT_iff.2 ⟨t, by simp [ht], e⟩
  · intro i o' hi ho' p hp'
    simp only [upL, Bool.or_eq_true, beq_iff_eq] at hi ⊢
    rcases hi with rfl | hi
    · rw [ho] at ho'
      cases ho'
      exact .inr (hp p hp')
    · exact .inr (I.b i o' hi ho' p hp')
  · intro t ht
    rcases List.mem_cons.1 ht with rfl | ht
    · exact ⟨o, ho, rfl, fun L' hc hp j hj => mask_ok I hc hp j hj⟩
    · exact I.c t ht
  · intro t ht hl
    rcases List.mem_cons.1 ht with rfl | ht
    · exact absurd rfl (hsub _ hl).2
    · have hl' := (hsub _ hl).1
      obtain ⟨h3, h4, h5⟩ := I.d t ht hl'
      obtain ⟨h6, h7⟩ := hap t ht hl'
      refine ⟨h3, h4, ?_⟩
      cases hd : hdep t.2.1.i with
      | true =>
        obtain ⟨r', h8, h9⟩ := qI_det h3 _ _ _ (h2 t ht hl' hd)
        exact ⟨r', h8, h9⟩
      | false =>
        have h5 : Yv G t.2.1 (putD Dv o.ins.dst r) H := h5.congr (fun s hs => (putD_getD (readsAny_mem h6 hs)).symm) (fun k' hk' => (putD_getD (fun e => dstEq_false h7 e hk')).symm)
        obtain ⟨r', h8, h9⟩ := h5
        exact ⟨r', h8, fun K hK => (qI_hindep h3 hd _ _ _ K).1 (h9 K hK)⟩
  · intro t ht u hu hlt hlu hne'
    rcases List.mem_cons.1 ht with rfl | ht
    · exact absurd rfl (hsub _ hlt).2
    · rcases List.mem_cons.1 hu with rfl | hu
      · exact absurd rfl (hsub _ hlu).2
      · exact I.e t ht u hu (hsub _ hlt).1 (hsub _ hlu).1 hne'
  · intro s hs
    by_cases hd : o.ins.dst = some s
    · rw [hd, putD_same (by rw [I.la]; exact hN s hd), putD_same (by rw [I.lv]; exact hN s hd)]
    · rw [putD_getD hd, putD_getD hd]
      refine I.f s (fun t ht hl => hs t (by simp [ht]) ?_)
      simp only [upL, Bool.or_eq_false_iff, beq_eq_false_iff_ne]
      exact ⟨fun e => (by rw [hasT_iff.2 ⟨t, ht, e⟩] at hk; exact Bool.noConfusion hk), hl⟩

theorem qI_of_rchk : ∀ (qs : List Ins) (D : List AV) (H : List Blk), rchk G qs D H → ∀ q ∈ qs, qI G D H q (sameAt D q.dst)
  | [], _, _, _, q, hq => by cases hq
  | x :: qs, D, H, h, q, hq => by
    rcases List.mem_cons.1 hq with rfl | hq
    · exact h.1
    · exact qI_of_rchk qs D H h.2 q hq

theorem count_up {L : Nat → Bool} {i : Nat} (hl : L i = false) : ∀ n, i < n → ((List.range n).filter fun j => !(upL L i j)).length + 1 = ((List.range n).filter fun j => !(L j)).length
  | 0, h => by omega
  | n + 1, h => by
    rw [List.range_succ, List.filter_append, List.filter_append, List.length_append, List.length_append]
    rcases Nat.lt_or_ge i n with hi | hi
    · have := count_up hl n hi
      have hne : (n == i) = false := by simp; omega
      have : upL L i n = L n := by simp [upL, hne]
      simp only [List.filter_cons, List.filter_nil, this]
      omega
    · have he : i = n := by omega
      subst he
      have h1 : (List.range i).filter (fun j => !(upL L i j)) = (List.range i).filter fun j => !(L j) := by
        apply List.filter_congr
        intro j hj
        rw [List.mem_range] at hj
        have : (j == i) = false := by simp; omega
        simp [upL, this]
      rw [h1]
      simp [upL, hl]

def preOk (ops : List Dop) : Bool := (List.range ops.length).all fun i => match ops[i]? with
  | some o => o.pre.all fun p => decide (p < i)
  | none => true

def dstOk (ops : List Dop) (N : Nat) : Bool := ops.all fun o => match o.ins.dst with
  | some d => decide (d < N)
  | none => true

theorem some_rdy (hp : preOk ops = true) {L : Nat → Bool} : ∀ (n i : Nat), i ≤ n → i < ops.length → L i = false → ∃ j, rdy ops L j := by
  intro n
  induction n with
  | zero =>
    intro i hi hlt hl
    have : i = 0 := by omega
    subst this
    have hat := List.getElem?_eq_getElem hlt
    refine ⟨0, ops[0], hat, hl, fun p hpp => ?_⟩
    unfold preOk at hp
    rw [List.all_eq_true] at hp
    have := hp 0 (by simpa using hlt)
    rw [hat] at this
    simp only [List.all_eq_true, decide_eq_true_eq] at this
    have := this p hpp
    omega
  | succ n ih =>
    intro i hi hlt hl
    have hat := List.getElem?_eq_getElem hlt
    by_cases h : ∃ p ∈ ops[i].pre, L p = false
    · obtain ⟨p, h1, h2⟩ := h
      have hpi : p < i := by
        unfold preOk at hp
        rw [List.all_eq_true] at hp
        have := hp i (by simpa using hlt)
        rw [hat] at this
        simp only [List.all_eq_true, decide_eq_true_eq] at this
        exact this p h1
      exact ih p (by omega) (by omega) h2
    · refine ⟨i, ops[i], hat, hl, fun p hpp => ?_⟩
      cases hlp : L p with
      | true => rfl
      | false => exact absurd ⟨p, hpp, hlp⟩ h

theorem getD_ext {a b : List AV} (hl : a.length = b.length) (h : ∀ s, a.getD s .any = b.getD s .any) : a = b := by
  apply List.ext_getElem hl
  intro i h1 h2
  have := h i
  simpa [List.getD_eq_getElem?_getD, h1, h2] using this

theorem dstOk_at (hN : dstOk ops N = true) {i : Nat} {o : Dop} (ho : ops[i]? = some o) {k : Nat} (hk : o.ins.dst = some k) : k < N := by
  unfold dstOk at hN
  rw [List.all_eq_true] at hN
  have := hN o (List.mem_of_getElem? ho)
  rw [hk] at this
  simpa using this

theorem onlyRdy_at {tk : Taken} {k i : Nat} {o : Dop} (h : onlyRdy ops tk k = true) (ho : ops[i]? = some o) (hi : hasT tk i = false) (hp : ∀ p ∈ o.pre, hasT tk p = true) : i = k := by
  unfold onlyRdy at h
  rw [List.all_eq_true] at h
  have := h i (by rw [List.mem_range]; exact (List.getElem?_eq_some_iff.1 ho).1)
  rw [ho] at this
  simp only [hi, Bool.or_false, Bool.or_eq_true, beq_iff_eq, Bool.not_eq_true'] at this
  rcases this with h | h
  · exact h
  · have ht : (o.pre.all fun p => hasT tk p) = true := List.all_eq_true.2 hp
    rw [ht] at h; cases h

theorem order_ok (hC : MonoR C) (hpre : preOk ops = true) (hN : dstOk ops N = true) {K : List AV → List Blk → Prop} : ∀ (fuel : Nat) (rest : List (Nat × List Nat)) (tk : Taken) (L : Nat → Bool) (Da Dv : List AV) (H : List Blk),
    okOrd ops tk rest = true → Inv G ops N tk L Da Dv H → ((List.range ops.length).filter fun j => !(L j)).length = fuel → evR G C (resolveV ops rest) Dv H K → evAny G C ops K fuel L Da H := by
  intro fuel
  induction fuel with
  | zero =>
    intro rest tk L Da Dv H hok I hcount h
    have hall : ∀ i, i < ops.length → L i = true := by
      intro i hi
      cases hl : L i with
      | true => rfl
      | false =>
        have : i ∈ (List.range ops.length).filter fun j => !(L j) := by simp [hi, hl]
        rw [List.eq_nil_of_length_eq_zero hcount] at this
        cases this
    have hnone : ∀ t ∈ tk, L t.1 = false → False := by
      intro t ht hl
      obtain ⟨o, ho, _⟩ := I.c t ht
      rw [hall t.1 (List.getElem?_eq_some_iff.1 ho).1] at hl
      cases hl
    have heq : Da = Dv := getD_ext (I.la.trans I.lv.symm) (fun s => I.f s (fun t ht hl => (hnone t ht hl).elim))
    refine ⟨fun i ⟨o, ho, hl, _⟩ => ?_, ?_⟩
    · rw [hall i (List.getElem?_eq_some_iff.1 ho).1] at hl; cases hl
    · cases rest with
      | nil => rw [heq]; exact h
      | cons kq rest =>
        obtain ⟨k, qs⟩ := kq
        exfalso
        unfold okOrd at hok
        split at hok
        · cases hok
        · rename_i o ho
          simp only [Bool.and_eq_true, Bool.not_eq_true'] at hok
          have h1 := I.a k (hall k (List.getElem?_eq_some_iff.1 ho).1)
          rw [hok.1.1.1.1] at h1
          cases h1
  | succ fuel ih =>
    intro rest tk L Da Dv H hok I hcount h
    refine ⟨fun hno => ?_, ?_⟩
    · exfalso
      have hex : ∃ i, i < ops.length ∧ L i = false := by
        cases hf : (List.range ops.length).filter fun j => !(L j) with
        | nil => rw [hf] at hcount; cases hcount
        | cons i r =>
          have : i ∈ (List.range ops.length).filter fun j => !(L j) := by rw [hf]; simp
          simp only [List.mem_filter, List.mem_range, Bool.not_eq_true'] at this
          exact ⟨i, this⟩
      obtain ⟨i, h1, h2⟩ := hex
      obtain ⟨j, hj⟩ := some_rdy hpre (L := L) i i (Nat.le_refl _) h1 h2
      exact hno j hj
    · intro i oi hoi hri
      have hli : L i = false := by obtain ⟨_, _, h, _⟩ := hri; exact h
      have hin : i < ops.length := (List.getElem?_eq_some_iff.1 hoi).1
      have hcount' : ((List.range ops.length).filter fun j => !(upL L i j)).length = fuel := by
        have := count_up hli ops.length hin
        omega
      rw [ev1_evI]
      induction rest generalizing tk Dv with
      | nil =>
        unfold okOrd at hok
        rw [List.all_eq_true] at hok
        obtain ⟨t, ht, e⟩ := hasT_iff.1 (hok i (by simpa using hin))
        subst e
        obtain ⟨o', ho', hoi', _⟩ := I.c t ht
        rw [hoi] at ho'
        cases ho'
        rw [hoi']
        refine I.float ht hli hri (fun k hk => dstOk_at hN hoi (by rw [hoi']; exact hk)) (fun r I' => ih [] tk _ _ _ _ ?_ I' hcount' h)
        unfold okOrd
        rw [List.all_eq_true]
        exact hok
      | cons kq rest ihr =>
        obtain ⟨k, qs⟩ := kq
        have hok0 := hok
        unfold okOrd at hok
        split at hok
        · cases hok
        rename_i o ho
        by_cases hit : hasT tk i = true
        · obtain ⟨t, ht, e⟩ := hasT_iff.1 hit
          subst e
          obtain ⟨o', ho', hoi', _⟩ := I.c t ht
          rw [hoi] at ho'
          cases ho'
          rw [hoi']
          exact I.float ht hli hri (fun k hk => dstOk_at hN hoi (by rw [hoi']; exact hk)) (fun r I' => ih _ tk _ _ _ _ hok0 I' hcount' h)
        · simp only [Bool.and_eq_true, Bool.or_eq_true, Bool.not_eq_true', List.all_eq_true, List.isEmpty_iff] at hok
          obtain ⟨⟨⟨⟨hk, hp⟩, hc⟩, hq⟩, hok⟩ := hok
          simp only [resolveV, ho, evR] at h
          rw [ev1_evI] at h
          have hc' : ∀ t ∈ tk, readsAny t.2.1.dst o.ins.looks = true → (maskOf o.pre tk).testBit t.1 = true := by
            intro t ht hr
            rcases hc t ht with h | h
            · rw [hr] at h; cases h
            · exact h
          rcases hq with ⟨⟨⟨hq, rfl⟩, hself⟩, hap⟩ | ⟨⟨hon, hap⟩, hfl⟩
          · rw [quiet_qI hq] at h
            obtain ⟨r, h1, h2⟩ := qI_det hq _ _ _ h
            exact ihr _ _ hok (I.take ho hk hq hc' hself hap (fun k hk => dstOk_at hN ho hk) h2) h1.2
          · have hik : i = k := onlyRdy_at hon hoi (by simpa using hit) (fun p hpp => by
              obtain ⟨o', ho', _, hp'⟩ := hri
              rw [hoi] at ho'
              cases ho'
              exact I.a p (hp' p hpp))
            subst hik
            obtain rfl : oi = o := Option.some.inj (hoi.symm.trans ho)
            have hpl : ∀ p ∈ oi.pre, L p = true := by
              obtain ⟨o', ho', _, hp'⟩ := hri
              rw [ho] at ho'
              cases ho'
              exact hp'
            have hag : ∀ s ∈ oi.ins.looks, Da.getD s .any = Dv.getD s .any := agree I (m := maskOf oi.pre tk) (fun j hj => mask_ok I I.b hpl j hj) (fun u hu _ hr => hc' u hu hr)
            rw [evI_congr hag]
            refine evI_mono hC (fun r H' hrr => ?_) h
            refine ih _ _ _ _ _ _ hok (I.loud ho hk hpl hap (fun k hk => dstOk_at hN ho hk) (fun t ht hl hd => ?_)) hcount' hrr.2
            refine qI_of_rchk _ _ _ hrr.1 _ ?_
            rcases hfl t ht with (h | h) | h
            · rw [(I.d t ht hl).1, hd] at h; cases h
            · have := mask_ok I I.b hpl _ h
              rw [hl] at this; cases this
            · obtain ⟨o', ho', hoi', _⟩ := I.c t ht
              rw [List.mem_filterMap]
              exact ⟨t.1, by simpa using h, by rw [ho', ← hoi']; rfl⟩

end
end Go.Ae
end

section
set_option linter.unusedSectionVars false
set_option linter.unusedSimpArgs false
set_option linter.unusedVariables false
namespace Go.Ae

inductive Res where
  | tmp (t : Nat)
  | cell (a : Nat) (n : Option Nat)
  deriving Inhabited

inductive C where
  | skip
  | reg (l : List Ins)
  | drw (l : List (Ins × List Ins))
  | seq (a b : C)
  | cond (c : Opd) (a b : C)
  | blk (id : Nat) (b : C)
  | loop (b : C)
  | exit (id : Nat)
  | scope (b : C)
  | label (l : Nat)
  | goto (l : Nat)
  | ret
  | rfn (f : Opd) (params : List Nat) (asg body : C)
  deriving Inhabited

structure Fun where
  ntmps : Nat
  res : List Res
  body : C
  deriving Inhabited

def quietFree (o : Dop) (tk : Taken) : Bool :=
  quiet o.ins.i && !(readsAny o.ins.dst o.ins.looks) && tk.all (fun t => !(readsAny o.ins.dst t.2.1.looks) && !(dstEq o.ins.dst t.2.1.dst))

def rdyT (ops : List Dop) (tk : Taken) : List Nat :=
  (List.range ops.length).filter fun i => !(hasT tk i) && (match ops[i]? with
    | some o => o.pre.all (hasT tk)
    | none => false)

def mkOrd (ops : List Dop) : Nat → Taken → List (Nat × List Nat)
  | 0, _ => []
  | f + 1, tk =>
    let rs := rdyT ops tk
    match rs.find? (fun i => match ops[i]? with
      | some o => quietFree o tk
      | none => false) with
    | some k =>
      match ops[k]? with
      | some o => (k, []) :: mkOrd ops f ((k, o.ins, maskOf o.pre tk) :: tk)
      | none => []
    | none =>
      match rs with
      | [] => []
      | k :: _ =>
        match ops[k]? with
        | some o =>
          let m := maskOf o.pre tk
          (k, (tk.filter fun t => quiet t.2.1.i && hdep t.2.1.i && !(m.testBit t.1)).map (·.1)) :: mkOrd ops f ((k, o.ins, m) :: tk)
        | none => []

def preOf (o : Oper) : List Nat := (o.after.toList.filter (Region.binds .any)).map (·.on)

def dops : List Ins → List Oper → List Dop
  | x :: l, o :: r => ⟨x, preOf o⟩ :: dops l r
  | _, _ => []

section
variable (P : Program)

def trC : Code → Option C
  | .skip => some .skip
  | .region _ ops false => (trL P ops.toList ops.toList).map .reg
  | .region _ ops true =>
    match trL P ops.toList ops.toList with
    | some l =>
      let ds := dops l ops.toList
      let v := mkOrd ds ds.length []
      if okOrd ds [] v && preOk ds then some (.drw (resolveV ds v)) else none
    | none => none
  | .seq a b => match trC a, trC b with
    | some x, some y => some (.seq x y)
    | _, _ => none
  | .cond c a b => match trO c, trC a, trC b with
    | some c, some x, some y => some (.cond c x y)
    | _, _, _ => none
  | .block id b => (trC b).map (.blk id)
  | .loop b => (trC b).map .loop
  | .rangeFunc f ps asg b => match trO f, trC asg, trC b with
    | some f, some x, some y => some (.rfn f ps.toList x y)
    | _, _, _ => none
  | .exit id => some (.exit id)
  | .scope b => (trC b).map .scope
  | .label l => some (.label l)
  | .goto l => some (.goto l)
  | .ret => some .ret
  | .refuse _ => none

def trRes : List ResultVar → Option (List Res)
  | [] => some []
  | .tmp t :: r => (trRes r).map (.tmp t :: ·)
  | .cell a t :: r => match layT P t, trRes r with
    | some n, some l => some (.cell a n :: l)
    | _, _ => none

def trF (fn : Func) : Option Fun :=
  if fn.name == "runtime.NumGoroutine" then none else
  match fn.body with
  | some c => match trC P c, trRes P fn.results.toList with
    | some b, some r => some ⟨fn.ntmps, r, b⟩
    | _, _ => none
  | none => none

end

def AQ (G : Globals) (E0 : Env) (X : List AV → List Blk → Prop) (a : Act) (w : World) : Prop :=
  ∃ E D, E.w = w ∧ Le E0 E ∧ Sim G E ∧ Slots E D a.tmps ∧ a.defers = [] ∧ X D E.H

section
variable {P : Program} {G : Globals} {E0 E : Env} {D : List AV} {a : Act}

theorem Sim.drew (hS : Sim G E) : Sim G ⟨{ E.w with drawn := E.w.drawn + 1 }, E.ι, E.H, E.X⟩ ∧ Le E ⟨{ E.w with drawn := E.w.drawn + 1 }, E.ι, E.H, E.X⟩ := by
  have le : Le E ⟨{ E.w with drawn := E.w.drawn + 1 }, E.ι, E.H, E.X⟩ := {
    keep := ⟨rfl, rfl⟩
    size := Nat.le_refl _
    imm := fun b hb ho => ⟨rfl, fun ⟨i, hi⟩ => ho ⟨i, hi⟩⟩
    ext := rfl
    len := Nat.le_refl _
    box := fun loc cs hl h => ⟨cs, h, rfl, rfl⟩
    row := fun loc sz es hl h => ⟨es, h, Nat.le_refl _, fun _ _ => ⟨rfl, fun c T fr hc => ⟨c, fr, hc, rfl⟩⟩⟩ }
  refine ⟨⟨fun i j b hi hj => hS.inj i j b hi hj, fun loc cs h => ?_, fun loc sz es h hne => ?_, fun g x hg => (hS.glob g x hg).mono le, fun b hb => ?_⟩, le⟩
  · obtain ⟨c, T, hw, hc⟩ := hS.box loc cs h
    exact ⟨c, T, hw, fun j x hx => let ⟨v, h1, h2, h3⟩ := hc j x hx; ⟨v, h1, h2, h3.mono le⟩⟩
  · obtain ⟨c, T, hw, hc⟩ := hS.row loc sz es h hne
    exact ⟨c, T, hw, fun k e he => ⟨(hc k e he).1, fun j x hx => let ⟨v, h1, h2, h3⟩ := (hc k e he).2 j x hx; ⟨v, h1, h2, h3.mono le⟩⟩⟩
  · obtain ⟨h1, h2⟩ := hS.ext b hb
    exact ⟨h1, fun ⟨i, hi⟩ => h2 ⟨i, hi⟩⟩

theorem slots_put {E' : Env} (hle : Le E E') (hT : Slots E D a.tmps) {dst : Option Nat} {r : AV} {v : Value} (hc : Conc E' r v) : Slots E' (putD D dst r) (a.put dst v).tmps := by
  cases dst with
  | none => exact hT.mono hle
  | some d => exact (hT.mono hle).set hc

theorem put_defers {dst : Option Nat} {v : Value} : (a.put dst v).defers = a.defers := by
  cases dst <;> rfl

theorem op_step {ops : Array Oper} {o : Oper} {x : Ins} (hS : Sim G E) (hT : Slots E D a.tmps) (ht : trIns P ops.toList o = some x) {X : List AV → List Blk → Prop} (h : ev1 G (FCall P G) x D E.H X)
    {next : Act → World → Prop} {Q : Exit → Act → World → Prop} (hn : ∀ E' D' a', Le E E' → Sim G E' → Slots E' D' a'.tmps → a'.defers = a.defers → X D' E'.H → next a' E'.w) :
    if Region.wanted o (yielded ops a.tmps) then o.wp P a E.w next Q else next (a.put o.dst undef) E.w := by
  have run : ∀ {i : I} {dst : Option Nat}, trI P o.op = some i → o.dst = dst → ev0 G (FCall P G) i D E.H (fun r H => X (putD D dst r) H) → o.wp P a E.w next Q := by
    intro i dst hi hd h
    subst hd
    exact upon_of_runs (tr_ok hS hT hi h) (fun E' x v h1 h2 h3 h4 => hn E' _ _ h1 h2 (slots_put h1 hT h3) put_defers h4)
  unfold trIns at ht
  split at ht
  · cases ht
  · rename_i i hi
    split at ht
    · rename_i d hg hd
      cases ht
      rw [if_pos (by simp [Region.wanted, hg])]
      exact run hi hd h
    · rename_i hg hd
      cases ht
      rw [if_pos (by simp [Region.wanted, hg])]
      exact run hi hd h
    · rename_i j b hg
      split at ht
      · cases ht
      · rename_i s hs
        have key : ∀ {K : Bool → Prop}, asG (D.getD s .any) b K → ∃ v, Region.wanted o (yielded ops a.tmps) = (v == b) ∧ K v := by
          intro K hk
          unfold asG at hk
          split at hk
          · rename_i v hv
            have hlt : s < D.length := by
              rcases Nat.lt_or_ge s D.length with h | h
              · exact h
              · rw [List.getD_eq_getElem?_getD, List.getElem?_eq_none h] at hv; cases hv
            have hDs : D[s]? = some (.p (.bool v)) := by
              rw [List.getD_eq_getElem?_getD, List.getElem?_eq_getElem hlt] at hv
              rw [List.getElem?_eq_getElem hlt]
              simpa using hv
            obtain ⟨u, hu, hc⟩ := hT s _ hDs
            rw [hc.bool_inv] at hu
            have : yielded ops a.tmps j = some v := by
              unfold yielded
              rw [Array.getElem?_toList] at hs
              rw [hs]
              simp [hu]
            exact ⟨v, by simp [Region.wanted, hg, this], hk⟩
          · rename_i hv
            have hlt : s < D.length := by
              rcases Nat.lt_or_ge s D.length with h | h
              · exact h
              · rw [List.getD_eq_getElem?_getD, List.getElem?_eq_none h] at hv; cases hv
            have hDs : D[s]? = some (.tup []) := by
              rw [List.getD_eq_getElem?_getD, List.getElem?_eq_getElem hlt] at hv
              rw [List.getElem?_eq_getElem hlt]
              simpa using hv
            obtain ⟨u, hu, hc⟩ := hT s _ hDs
            have : yielded ops a.tmps j = none := by
              unfold yielded
              rw [Array.getElem?_toList] at hs
              rw [hs]
              cases hc with
              | tup hl hh => simp [hu]
            exact ⟨!b, by cases b <;> simp [Region.wanted, hg, this], hk⟩
          · exact hk.elim
        cases hd : o.dst with
        | some d =>
          rw [hd] at ht
          cases ht
          obtain ⟨v, hw, h1, h2⟩ := key h
          rw [hw]
          by_cases hv : v = b
          · subst hv
            simp only [BEq.rfl, if_true]
            exact run hi hd (h1 rfl)
          · rw [if_neg (by simp [hv])]
            exact hn E (D.set d (.tup [])) _ (Le.refl E) hS (slots_put (dst := some d) (r := .tup []) (Le.refl E) hT (.tup rfl (fun i x v hx => by simp at hx))) put_defers (h2 hv)
        | none =>
          rw [hd] at ht
          cases ht
          obtain ⟨v, hw, h1, h2⟩ := key h
          rw [hw]
          by_cases hv : v = b
          · subst hv
            simp only [BEq.rfl, if_true]
            exact run hi hd (h1 rfl)
          · rw [if_neg (by simp [hv])]
            exact hn E D _ (Le.refl E) hS hT rfl (h2 hv)

theorem wpList_of_ev {ops : Array Oper} {Q : Exit → Act → World → Prop} {X : List AV → List Blk → Prop} (hQ : ∀ a w, AQ G E0 X a w → Q .normal a w) : ∀ (os : List Oper) (l : List Ins) (E : Env) (D : List AV) (a : Act),
    trL P ops.toList os = some l → Le E0 E → Sim G E → Slots E D a.tmps → a.defers = [] → ev G (FCall P G) l D E.H X → wpList P ops Q os a E.w
  | [], l, E, D, a, ht, hle, hS, hT, hd, h => by
    cases ht
    exact hQ _ _ ⟨E, D, rfl, hle, hS, hT, hd, h⟩
  | o :: os, l, E, D, a, ht, hle, hS, hT, hd, h => by
    simp only [trL] at ht
    split at ht
    · rename_i x r hx hr
      cases ht
      refine wpList_step (fun K hK => op_step hS hT hx h (fun E' D' a' h1 h2 h3 h4 h5 => hK _ _ ?_))
      exact wpList_of_ev hQ os r E' D' a' hr (hle.trans h1) h2 h3 (h4.trans hd) h5
    · cases ht

theorem dops_get : ∀ (l : List Ins) (os : List Oper) (i : Nat), (dops l os)[i]? = (match l[i]?, os[i]? with
    | some x, some o => some ⟨x, preOf o⟩
    | _, _ => none)
  | [], os, i => by simp [dops]
  | x :: l, [], i => by cases i <;> simp [dops]
  | x :: l, o :: os, 0 => by simp [dops]
  | x :: l, o :: os, i + 1 => by simp [dops, dops_get l os i]

theorem trL_get {ops : List Oper} : ∀ (os : List Oper) (l : List Ins), trL P ops os = some l → l.length = os.length ∧ ∀ (i : Nat) (o : Oper), os[i]? = some o → ∃ x, l[i]? = some x ∧ trIns P ops o = some x
  | [], l, h => by cases h; exact ⟨rfl, fun i o ho => by simp at ho⟩
  | o :: os, l, h => by
    simp only [trL] at h
    split at h
    · rename_i x r hx hr
      cases h
      obtain ⟨h1, h2⟩ := trL_get os r hr
      refine ⟨by simp [h1], fun i o' ho => ?_⟩
      cases i with
      | zero => simp at ho; subst ho; exact ⟨x, by simp, hx⟩
      | succ i => simpa using h2 i o' (by simpa using ho)
    · cases h

theorem wpAny_of_evAny {ops : Array Oper} {l : List Ins} {Q : Exit → Act → World → Prop} {X : List AV → List Blk → Prop} (ht : trL P ops.toList ops.toList = some l) (hQ : ∀ a w, AQ G E0 X a w → Q .normal a w) : ∀ (fuel : Nat) (L : Nat → Bool) (listed : Array Bool) (E : Env) (D : List AV) (a : Act),
    listed.size = ops.size → (∀ i, i < ops.size → listed[i]? = some (L i)) → (∀ i, ops.size ≤ i → L i = false) → Le E0 E → Sim G E → Slots E D a.tmps → a.defers = [] → evAny G (FCall P G) (dops l ops.toList) X fuel L D E.H → wpAny P .any ops Q fuel listed a E.w := by
  obtain ⟨hlen, hget⟩ := trL_get _ _ ht
  have hd : ∀ i : Nat, (dops l ops.toList)[i]? = (match l[i]?, ops[i]? with
    | some x, some o => some ⟨x, preOf o⟩
    | _, _ => none) := by intro i; rw [dops_get, Array.getElem?_toList (xs := ops)]
  have hrdy : ∀ {L : Nat → Bool} {listed : Array Bool} {i : Nat}, listed.size = ops.size → (∀ i, i < ops.size → listed[i]? = some (L i)) → (∀ i, ops.size ≤ i → L i = false) → (i ∈ Region.ready .any ops listed ↔ rdy (dops l ops.toList) L i) := by
    intro L listed i hsz hL hL'
    rw [mem_ready]
    have hlk : ∀ j, listed.getD j false = L j := by
      intro j
      rcases Nat.lt_or_ge j ops.size with hj | hj
      · rw [Array.getD_eq_getD_getElem?, hL j hj]; rfl
      · rw [Array.getD_eq_getD_getElem?, Array.getElem?_eq_none (by omega), hL' j hj]; rfl
    constructor
    · rintro ⟨h0, o, ho, h⟩
      have hi : i < ops.size := (Array.getElem?_eq_some_iff.1 ho).1
      obtain ⟨x, hx, _⟩ := hget i o (by rw [Array.getElem?_toList]; exact ho)
      refine ⟨⟨x, preOf o⟩, by rw [hd, hx, ho], ?_, fun p hp => ?_⟩
      · rw [Array.getD_eq_getD_getElem?, hL i hi] at h0; exact h0
      · simp only [preOf, List.mem_map, List.mem_filter] at hp
        obtain ⟨e, ⟨he, hb⟩, rfl⟩ := hp
        rw [← hlk]
        exact h e (by simpa using he) hb
    · rintro ⟨d, hd', h0, h⟩
      rw [hd] at hd'
      split at hd'
      · rename_i x o hx ho
        cases hd'
        have hi : i < ops.size := (Array.getElem?_eq_some_iff.1 ho).1
        refine ⟨by rw [Array.getD_eq_getD_getElem?, hL i hi]; exact h0, o, ho, fun e he hb => ?_⟩
        rw [hlk]
        refine h e.on ?_
        simp only [preOf, List.mem_map, List.mem_filter]
        exact ⟨e, ⟨by simpa using he, hb⟩, rfl⟩
      · cases hd'
  intro fuel
  induction fuel with
  | zero =>
    intro L listed E D a hsz hL hL' hle hS hT hdf ⟨h1, h2⟩
    refine ⟨?_, hQ _ _ ⟨E, D, rfl, hle, hS, hT, hdf, h2⟩⟩
    apply List.eq_nil_iff_forall_not_mem.2
    intro i hi
    exact h1 i ((hrdy hsz hL hL').1 hi)
  | succ fuel ih =>
    intro L listed E D a hsz hL hL' hle hS hT hdf ⟨h1, h2⟩
    refine ⟨fun hno => hQ _ _ ⟨E, D, rfl, hle, hS, hT, hdf, h1 (fun i hi => ?_)⟩, fun i hi => ?_⟩
    · have := (hrdy hsz hL hL').2 hi
      rw [hno] at this
      cases this
    · have hr := (hrdy hsz hL hL').1 hi
      obtain ⟨d, hd', hr2⟩ := hr
      have hd0 := hd'
      rw [hd] at hd'
      split at hd'
      · rename_i x o hx ho
        cases hd'
        obtain ⟨x', hx', htr⟩ := hget i o (by rw [Array.getElem?_toList]; exact ho)
        rw [hx] at hx'
        cases hx'
        have hin : i < ops.size := (Array.getElem?_eq_some_iff.1 ho).1
        have h3 := h2 i _ hd0 ⟨_, hd0, hr2⟩
        have h4 := op_step (ops := ops) (Q := Q) (next := wpAny P .any ops Q fuel (listed.setIfInBounds i true)) hS hT htr h3 (fun E' D' a' g1 g2 g3 g4 g5 =>
          ih (upL L i) (listed.setIfInBounds i true) E' D' a' (by simpa using hsz) (fun j hj => by
            rw [Array.getElem?_setIfInBounds]
            by_cases hij : i = j
            · subst hij; simp [upL, hsz, hin]
            · rw [if_neg hij, hL j hj]
              have : (j == i) = false := by simp; exact fun e => hij e.symm
              simp [upL, this]) (fun j hj => by
            have : (j == i) = false := by simp; omega
            simp [upL, this, hL' j hj]) (hle.trans g1) g2 g3 (g4.trans hdf) g5)
        unfold wpOp
        rw [ho]
        simp only
        split
        · rename_i hw; rw [if_pos hw] at h4; exact .inl h4
        · rename_i hw; rw [if_neg hw] at h4; exact h4
      · cases hd'

end
end Go.Ae
end

section
set_option linter.unusedSectionVars false
set_option linter.unusedSimpArgs false
set_option linter.unusedVariables false
namespace Go.Ae

inductive X where
  | normal
  | exit (id : Nat)
  | goto (l : Nat)
  | ret

def AEQ (G : Globals) (E0 : Env) (Q : X → List AV → List Blk → Prop) : Exit → Act → World → Prop
  | .normal => AQ G E0 (Q .normal)
  | .exit id => AQ G E0 (Q (.exit id))
  | .goto l => AQ G E0 (Q (.goto l))
  | .ret => AQ G E0 (Q .ret)
  | _ => fun _ _ => False

def T (P : Program) (G : Globals) (E0 : Env) (c : C) (Q : X → List AV → List Blk → Prop) (D : List AV) (H : List Blk) : Prop :=
  ∀ c', trC P c' = some c → ∀ a w, AQ G E0 (fun D' H' => D' = D ∧ H' = H) a w → c'.wp P (AEQ G E0 Q) a w

def thn (N : List AV → List Blk → Prop) (Q : X → List AV → List Blk → Prop) : X → List AV → List Blk → Prop
  | .normal => N
  | .exit id => Q (.exit id)
  | .goto l => Q (.goto l)
  | .ret => Q .ret

def inB (id : Nat) (Q : X → List AV → List Blk → Prop) : X → List AV → List Blk → Prop
  | .normal => Q .normal
  | .exit id' => if id' = id then Q .normal else Q (.exit id')
  | .goto l => Q (.goto l)
  | .ret => Q .ret

section
variable {P : Program} {G : Globals} {E0 : Env} {Q : X → List AV → List Blk → Prop} {D : List AV} {H : List Blk}

theorem AQ.mono {X X' : List AV → List Blk → Prop} (h : ∀ D H, X D H → X' D H) {a : Act} {w : World} (hh : AQ G E0 X a w) : AQ G E0 X' a w := by
  obtain ⟨E, D, h1, h2, h3, h4, h5, h6⟩ := hh
  exact ⟨E, D, h1, h2, h3, h4, h5, h _ _ h6⟩

theorem AQ.at {X : List AV → List Blk → Prop} {a : Act} {w : World} (hh : AQ G E0 X a w) : ∃ D H, X D H ∧ AQ G E0 (fun D' H' => D' = D ∧ H' = H) a w := by
  obtain ⟨E, D, h1, h2, h3, h4, h5, h6⟩ := hh
  exact ⟨D, E.H, h6, E, D, h1, h2, h3, h4, h5, rfl, rfl⟩

theorem AEQ.mono {Q' : X → List AV → List Blk → Prop} (h : ∀ x D H, Q x D H → Q' x D H) {e : Exit} {a : Act} {w : World} (hh : AEQ G E0 Q e a w) : AEQ G E0 Q' e a w := by
  cases e <;> first | exact AQ.mono (h _) hh | exact hh

theorem T.mono {c : C} {Q' : X → List AV → List Blk → Prop} (h : T P G E0 c Q D H) (hq : ∀ x D H, Q x D H → Q' x D H) : T P G E0 c Q' D H :=
  fun c' hc a w ha => wp_mono (h c' hc a w ha) (fun _ _ _ => AEQ.mono hq)

theorem T_of_AQ {c : C} {c' : Code} (hc : trC P c' = some c) {N : List AV → List Blk → Prop} (hN : ∀ D H, N D H → T P G E0 c Q D H) {a : Act} {w : World} (ha : AQ G E0 N a w) : c'.wp P (AEQ G E0 Q) a w := by
  obtain ⟨D, H, h1, h2⟩ := ha.at
  exact hN D H h1 c' hc a w h2

def Inv' (P : Program) (c' : Code) : C → Prop
  | .skip => c' = .skip
  | .reg l => ∃ id ops, c' = .region id ops false ∧ trL P ops.toList ops.toList = some l
  | .drw l => ∃ id ops l0, c' = .region id ops true ∧ trL P ops.toList ops.toList = some l0 ∧ okOrd (dops l0 ops.toList) [] (mkOrd (dops l0 ops.toList) (dops l0 ops.toList).length []) = true ∧ preOk (dops l0 ops.toList) = true ∧
      l = resolveV (dops l0 ops.toList) (mkOrd (dops l0 ops.toList) (dops l0 ops.toList).length [])
  | .seq x y => ∃ a b, c' = .seq a b ∧ trC P a = some x ∧ trC P b = some y
  | .cond o x y => ∃ c a b, c' = .cond c a b ∧ trO c = some o ∧ trC P a = some x ∧ trC P b = some y
  | .blk id x => ∃ b, c' = .block id b ∧ trC P b = some x
  | .loop x => ∃ b, c' = .loop b ∧ trC P b = some x
  | .rfn o ps x y => ∃ f qs a b, c' = .rangeFunc f qs a b ∧ trO f = some o ∧ ps = qs.toList ∧ trC P a = some x ∧ trC P b = some y
  | .exit id => c' = .exit id
  | .scope x => ∃ b, c' = .scope b ∧ trC P b = some x
  | .label l => c' = .label l
  | .goto l => c' = .goto l
  | .ret => c' = .ret

theorem trC_inv {c' : Code} {c : C} (h : trC P c' = some c) : Inv' P c' c := by
  cases c' with
  | region id ops draw =>
    cases draw with
    | false =>
      simp only [trC, Option.map_eq_some_iff] at h
      obtain ⟨l, h1, rfl⟩ := h
      exact ⟨_, _, rfl, h1⟩
    | true =>
      simp only [trC] at h
      split at h
      · rename_i l hl
        split at h
        · rename_i hk
          cases h
          rw [Bool.and_eq_true] at hk
          exact ⟨_, _, l, rfl, hl, hk.1, hk.2, rfl⟩
        · cases h
      · cases h
  | skip => cases h; rfl
  | exit id => cases h; rfl
  | label l => cases h; rfl
  | goto l => cases h; rfl
  | ret => cases h; rfl
  | refuse w => cases h
  | seq a b =>
    simp only [trC] at h
    split at h
    · rename_i h1 h2; cases h; exact ⟨_, _, rfl, h1, h2⟩
    · cases h
  | cond c a b =>
    simp only [trC] at h
    split at h
    · rename_i h0 h1 h2; cases h; exact ⟨_, _, _, rfl, h0, h1, h2⟩
    · cases h
  | rangeFunc f ps a b =>
    simp only [trC] at h
    split at h
    · rename_i h0 h1 h2; cases h; exact ⟨_, _, _, _, rfl, h0, rfl, h1, h2⟩
    · cases h
  | block id b =>
    simp only [trC, Option.map_eq_some_iff] at h
    obtain ⟨x, h1, rfl⟩ := h
    exact ⟨_, rfl, h1⟩
  | loop b =>
    simp only [trC, Option.map_eq_some_iff] at h
    obtain ⟨x, h1, rfl⟩ := h
    exact ⟨_, rfl, h1⟩
  | scope b =>
    simp only [trC, Option.map_eq_some_iff] at h
    obtain ⟨x, h1, rfl⟩ := h
    exact ⟨_, rfl, h1⟩

theorem T_skip (h : Q .normal D H) : T P G E0 .skip Q D H := by
  intro c' hc a w ha
  rw [show c' = .skip from trC_inv hc]
  exact wp_skip (ha.mono (fun D' H' ⟨h1, h2⟩ => by subst h1; subst h2; exact h))

theorem T_label {l : Nat} (h : Q .normal D H) : T P G E0 (.label l) Q D H := by
  intro c' hc a w ha
  rw [show c' = .label l from trC_inv hc]
  exact wp_label (ha.mono (fun D' H' ⟨h1, h2⟩ => by subst h1; subst h2; exact h))

theorem T_exit {id : Nat} (h : Q (.exit id) D H) : T P G E0 (.exit id) Q D H := by
  intro c' hc a w ha
  rw [show c' = .exit id from trC_inv hc]
  exact wp_exit (ha.mono (fun D' H' ⟨h1, h2⟩ => by subst h1; subst h2; exact h))

theorem T_goto {l : Nat} (h : Q (.goto l) D H) : T P G E0 (.goto l) Q D H := by
  intro c' hc a w ha
  rw [show c' = .goto l from trC_inv hc]
  exact wp_goto (ha.mono (fun D' H' ⟨h1, h2⟩ => by subst h1; subst h2; exact h))

theorem T_ret (h : Q .ret D H) : T P G E0 .ret Q D H := by
  intro c' hc a w ha
  rw [show c' = .ret from trC_inv hc]
  exact wp_ret (ha.mono (fun D' H' ⟨h1, h2⟩ => by subst h1; subst h2; exact h))

theorem T_seq {x y : C} (h : ∀ N : List AV → List Blk → Prop, (∀ D H, T P G E0 y Q D H → N D H) → T P G E0 x (thn N Q) D H) : T P G E0 (.seq x y) Q D H := by
  intro c' hc a w ha
  obtain ⟨p, q, rfl, h1, h2⟩ := trC_inv hc
  refine wp_seq (wp_mono (h (fun D H => T P G E0 y Q D H) (fun _ _ h => h) p h1 a w ha) ?_)
  intro e a' w' he
  cases e with
  | normal => exact T_of_AQ h2 (fun _ _ h => h) he
  | _ => exact he

theorem T_cond {o : Opd} {x y : C} (h : asB (get G D o) fun b => (b = true → T P G E0 x Q D H) ∧ (b = false → T P G E0 y Q D H)) : T P G E0 (.cond o x y) Q D H := by
  intro c' hc a w ha
  obtain ⟨c, p, q, rfl, h0, h1, h2⟩ := trC_inv hc
  have ha0 := ha
  obtain ⟨E, D', e1, e2, e3, e4, e5, rfl, rfl⟩ := ha
  obtain ⟨b, _, hv, hb⟩ := asB_inv (get_conc e3 e4 h0) h
  cases b with
  | true => exact wp_cond_true hv (hb.1 rfl p h1 a w ha0)
  | false => exact wp_cond_false hv (hb.2 rfl q h2 a w ha0)

theorem T_blk {id : Nat} {x : C} (h : T P G E0 x (inB id Q) D H) : T P G E0 (.blk id x) Q D H := by
  intro c' hc a w ha
  obtain ⟨p, rfl, h1⟩ := trC_inv hc
  refine wp_block (wp_mono (h p h1 a w ha) ?_)
  intro e a' w' he
  cases e with
  | exit id' =>
    simp only [AEQ, inB] at he
    simp only [Exit.inBlock]
    split
    · rename_i hi
      rw [if_pos hi] at he
      exact he
    · rename_i hi
      rw [if_neg hi] at he
      exact he
  | _ => exact he

theorem T_scope {x : C} (h : T P G E0 x (fun e => match e with
    | .goto _ => fun _ _ => False
    | e => Q e) D H) : T P G E0 (.scope x) Q D H := by
  intro c' hc a w ha
  obtain ⟨p, rfl, h1⟩ := trC_inv hc
  refine wp_scope_straight (wp_mono (h p h1 a w ha) ?_)
  intro e a' w' he
  cases e with
  | goto l =>
    obtain ⟨_, _, _, _, _, _, _, h⟩ := he
    exact h
  | _ => exact he

theorem least (p : Nat → Prop) : ∀ n, p n → ∃ m, p m ∧ ∀ k, p k → m ≤ k := by
  intro n
  induction n using Nat.strongRecOn with
  | _ n ih =>
    intro h
    by_cases hh : ∃ k, k < n ∧ p k
    · obtain ⟨k, h1, h2⟩ := hh
      exact ih k h1 h2
    · refine ⟨n, h, fun k hk => ?_⟩
      rcases Nat.lt_or_ge k n with h1 | h1
      · exact absurd ⟨k, h1, hk⟩ hh
      · exact h1

theorem wp_loop_param {c : Code} {R : Exit → Act → World → Prop} {α : Type} (I : α → Act → World → Prop) (μ : α → Nat) (x0 : α) {a : Act} {w : World} (h0 : I x0 a w)
    (round : ∀ x a w, I x a w → c.wp P (Exit.then (fun a' w' => ∃ y, I y a' w' ∧ μ y < μ x) R) a w) : (Code.loop c).wp P R a w := by
  have hex : ∀ (s : Act × World), ∃ m : Nat, (∃ x, I x s.1 s.2) → (∃ x, I x s.1 s.2 ∧ μ x = m) ∧ ∀ x, I x s.1 s.2 → m ≤ μ x := by
    intro s
    by_cases h : ∃ x, I x s.1 s.2
    · obtain ⟨x, hx⟩ := h
      obtain ⟨m, ⟨y, h1, h2⟩, h3⟩ := least (fun n => ∃ x, I x s.1 s.2 ∧ μ x = n) (μ x) ⟨x, hx, rfl⟩
      exact ⟨m, fun _ => ⟨⟨y, h1, h2⟩, fun z hz => h3 _ ⟨z, hz, rfl⟩⟩⟩
    · exact ⟨0, fun h' => absurd h' h⟩
  obtain ⟨M, hM⟩ := Classical.skolem.1 hex
  refine wp_loop (fun a w => ∃ x, I x a w) (fun a w => M (a, w)) ⟨x0, h0⟩ ?_
  rintro a w hI
  obtain ⟨⟨x, hx, hm⟩, _⟩ := hM (a, w) hI
  refine wp_mono (round x a w hx) ?_
  intro e a' w' he
  cases e with
  | normal =>
    obtain ⟨y, h1, h2⟩ := he
    refine ⟨⟨y, h1⟩, ?_⟩
    have h3 : M (a', w') ≤ μ y := (hM (a', w') ⟨y, h1⟩).2 y h1
    have h4 : μ x = M (a, w) := hm
    show M (a', w') < M (a, w)
    omega
  | _ => exact he

def Sub (G : Globals) (E0 : Env) (D : List AV) (H : List Blk) (D2 : List AV) (H2 : List Blk) : Prop :=
  ∀ a w, AQ G E0 (fun D' H' => D' = D ∧ H' = H) a w → AQ G E0 (fun D' H' => D' = D2 ∧ H' = H2) a w

theorem Sub.refl : Sub G E0 D H D H := fun _ _ h => h
theorem Sub.trans {D2 D3 : List AV} {H2 H3 : List Blk} (h : Sub G E0 D H D2 H2) (h' : Sub G E0 D2 H2 D3 H3) : Sub G E0 D H D3 H3 := fun a w hh => h' a w (h a w hh)

theorem T_sub {c : C} {D2 : List AV} {H2 : List Blk} (hs : Sub G E0 D H D2 H2) (h : T P G E0 c Q D2 H2) : T P G E0 c Q D H := fun c' hc a w ha => h c' hc a w (hs a w ha)

theorem T_loop {α : Type} {x : C} (Df : α → List AV) (Hf : α → List Blk) (I : α → Prop) (μ : α → Nat) (x0 : α) (h0 : I x0) (hs : Sub G E0 D H (Df x0) (Hf x0))
    (round : ∀ y, I y → ∀ N : List AV → List Blk → Prop, (∀ D' H' z, I z → μ z < μ y → Sub G E0 D' H' (Df z) (Hf z) → N D' H') → T P G E0 x (thn N Q) (Df y) (Hf y)) : T P G E0 (.loop x) Q D H := by
  intro c' hc a w ha
  obtain ⟨p, rfl, h1⟩ := trC_inv hc
  refine wp_loop_param (fun y a w => I y ∧ AQ G E0 (fun D' H' => D' = Df y ∧ H' = Hf y) a w) μ x0 ⟨h0, hs a w ha⟩ ?_
  rintro y a w ⟨hI, hy⟩
  refine wp_mono (round y hI (fun D' H' => ∃ z, I z ∧ μ z < μ y ∧ Sub G E0 D' H' (Df z) (Hf z)) (fun D' H' z a b c => ⟨z, a, b, c⟩) p h1 a w hy) ?_
  intro e a' w' he
  cases e with
  | normal =>
    obtain ⟨D', H', ⟨z, hz1, hz2, hz3⟩, hAQ⟩ := AQ.at he
    exact ⟨z, ⟨hz1, hz3 a' w' hAQ⟩, hz2⟩
  | _ => exact he

end
end Go.Ae
end

section
set_option linter.unusedSectionVars false
set_option linter.unusedSimpArgs false
set_option linter.unusedVariables false
namespace Go.Ae

section
variable {P : Program} {G : Globals} {E0 : Env} {Q : X → List AV → List Blk → Prop} {D : List AV} {H : List Blk}

theorem T_reg {l : List Ins} (h : ev G (FCall P G) l D H (Q .normal)) : T P G E0 (.reg l) Q D H := by
  intro c' hc a w ha
  obtain ⟨id, ops, rfl, h1⟩ := trC_inv hc
  obtain ⟨E, D', rfl, e2, e3, e4, e5, rfl, rfl⟩ := ha
  exact wp_region_list (wpList_of_ev (fun a w h => h) _ _ E D' a h1 e2 e3 e4 e5 h)

theorem resolveV_dst (N : Nat) (ds : List Dop) : ∀ (v : List (Nat × List Nat)) (tk : Taken), okOrd ds tk v = true → (∀ i, hasT tk i = true → ∀ o, ds[i]? = some o → ∀ d, o.ins.dst = some d → d < N) →
    ((resolveV ds v).all fun p => match p.1.dst with
      | some d => decide (d < N)
      | none => true) = true → dstOk ds N = true := by
  intro v
  induction v with
  | nil =>
    intro tk hok htk _
    unfold okOrd at hok
    rw [List.all_eq_true] at hok
    unfold dstOk
    rw [List.all_eq_true]
    intro o ho
    obtain ⟨i, hi, rfl⟩ := List.mem_iff_getElem.1 ho
    split
    · rename_i d hd
      exact decide_eq_true (htk i (hok i (by simpa using hi)) _ (List.getElem?_eq_getElem hi) d hd)
    · rfl
  | cons kq v ih =>
    obtain ⟨k, qs⟩ := kq
    intro tk hok htk hall
    unfold okOrd at hok
    split at hok
    · cases hok
    · rename_i o ho
      simp only [Bool.and_eq_true] at hok
      simp only [resolveV, ho, List.all_cons, Bool.and_eq_true] at hall
      refine ih _ hok.2 ?_ hall.2
      · intro i hi o' ho' d hd
        simp only [hasT, List.any_cons, Bool.or_eq_true, beq_iff_eq] at hi
        rcases hi with rfl | hi
        · rw [ho] at ho'
          cases ho'
          have := hall.1
          rw [hd] at this
          simpa using this
        · exact htk i hi o' ho' d hd

theorem T_drw {l : List (Ins × List Ins)} (hm : P.follows .mixedOrders = true) (hd : (l.all fun p => match p.1.dst with
      | some d => decide (d < D.length)
      | none => true) = true) (h : evR G (FCall P G) l D H (Q .normal)) : T P G E0 (.drw l) Q D H := by
  intro c' hc a w ha
  obtain ⟨id, ops, l0, rfl, h1, h2, h3, rfl⟩ := trC_inv hc
  obtain ⟨E, D', rfl, e2, e3, e4, e5, rfl, rfl⟩ := ha
  refine wp_region_any hm ?_
  obtain ⟨hlen, _⟩ := trL_get _ _ h1
  have hN : dstOk (dops l0 ops.toList) D'.length = true := resolveV_dst _ _ _ [] h2 (fun i hi => by simp [hasT] at hi) hd
  have hsz : (dops l0 ops.toList).length = ops.size := by
    have : ∀ (l : List Ins) (os : List Oper), l.length = os.length → (dops l os).length = os.length := by
      intro l
      induction l with
      | nil => intro os h; cases os with
        | nil => rfl
        | cons _ _ => cases h
      | cons x l ih => intro os h; cases os with
        | nil => cases h
        | cons o os => simp [dops, ih os (by simpa using h)]
    rw [this l0 ops.toList hlen, Array.length_toList]
  have hinv : Inv G (dops l0 ops.toList) D'.length [] (fun _ => false) D' D' E.H := {
    a := fun i hi => by cases hi
    b := fun i o hi => by cases hi
    c := fun t ht => by cases ht
    d := fun t ht => by cases ht
    e := fun t ht => by cases ht
    la := rfl
    lv := rfl
    f := fun _ _ => rfl }
  have hany := order_ok (FCall.monoR P G) h3 hN ops.size _ [] (fun _ => false) D' D' E.H h2 hinv (by rw [hsz]; exact (congrArg List.length (List.filter_eq_self.2 (fun _ _ => rfl))).trans List.length_range) h
  obtain ⟨hS', hle'⟩ := e3.drew
  have := wpAny_of_evAny (E0 := E0) (Q := AEQ G E0 Q) (X := Q .normal) h1 (fun a w h => h) ops.size (fun _ => false) (Array.replicate ops.size false) ⟨{ E.w with drawn := E.w.drawn + 1 }, E.ι, E.H, E.X⟩ D' a (by simp)
    (fun i hi => by simp [hi]) (fun _ _ => rfl) (e2.trans hle') hS' (e4.mono hle') e5 hany
  exact this

def wk : List AV → List AV → Prop
  | [], [] => True
  | x :: r, y :: s => (y = .any ∨ y = x) ∧ wk r s
  | _, _ => False

theorem wk_slots : ∀ {D D2 : List AV}, wk D D2 → ∀ k x, D2[k]? = some x → x = .any ∧ k < D.length ∨ D[k]? = some x
  | [], [], _, k, x, h => by simp at h
  | x :: r, y :: s, ⟨h1, h2⟩, 0, z, h => by
    simp only [List.getElem?_cons_zero, Option.some.injEq] at h ⊢
    subst h
    rcases h1 with h1 | h1
    · exact .inl ⟨h1, by simp⟩
    · exact .inr h1.symm
  | x :: r, y :: s, ⟨h1, h2⟩, k + 1, z, h => by
    rcases wk_slots h2 k z (by simpa using h) with ⟨h3, h4⟩ | h3
    · exact .inl ⟨h3, by simpa using h4⟩
    · exact .inr (by simpa using h3)
  | [], _ :: _, h, _, _, _ => h.elim
  | _ :: _, [], h, _, _, _ => h.elim

theorem Sub.slots {D2 : List AV} (h : wk D D2) : Sub G E0 D H D2 H := by
  rintro a w ⟨E, D', e1, e2, e3, e4, e5, rfl, rfl⟩
  refine ⟨E, D2, e1, e2, e3, fun k x hx => ?_, e5, rfl, rfl⟩
  rcases wk_slots h k x hx with ⟨rfl, hk⟩ | hx
  · obtain ⟨v, hv, _⟩ := e4 k _ (List.getElem?_eq_getElem hk)
    exact ⟨v, hv, .any⟩
  · exact e4 k x hx

def resL (H : List Blk) (D : List AV) : List Res → (List AV → Prop) → Prop
  | [], K => K []
  | .tmp t :: r, K => resL H D r fun l => K (D.getD t .any :: l)
  | .cell a n :: r, K => (match D.getD a .any with
    | .ptr loc off => (match H[loc]? with
      | some (.box cs) => partA cs off n fun v => resL H D r fun l => K (v :: l)
      | _ => False)
    | _ => False)

def resR (rs : List Res) (D : List AV) (H : List Blk) (K : AV → Prop) : Prop :=
  resL H D rs fun l => match l with
    | [x] => K x
    | l => K (.tup l)

theorem getD_conc {E : Env} {a : Act} (hT : Slots E D a.tmps) (t : Nat) : Conc E (D.getD t .any) (a.tmps.getD t undef) := by
  rcases Nat.lt_or_ge t D.length with h | h
  · obtain ⟨v, hv, hc⟩ := hT t _ (List.getElem?_eq_getElem h)
    rw [List.getD_eq_getElem?_getD, List.getElem?_eq_getElem h, Array.getD_eq_getD_getElem?, hv]
    exact hc
  · rw [List.getD_eq_getElem?_getD, List.getElem?_eq_none h]
    exact .any

def resF (tmps : Array Value) : ResultVar → Sem Value
  | .tmp t => pure (tmps.getD t undef)
  | .cell x t => do loadVar t (← asAddr (tmps.getD x undef))

theorem results_eq (fn : Func) (tmps : Array Value) : results fn tmps = (do
    let vs ← fn.results.mapM (resF tmps)
    pure (if h : vs.size = 1 then vs[0] else .tuple vs)) := by
  have : (fun r => resF tmps r) = (fun
    | .tmp t => pure (tmps.getD t undef)
    | .cell x t => do loadVar t (← asAddr (tmps.getD x undef)) : ResultVar → Sem Value) := by
    funext r
    cases r <;> rfl
  rfl

theorem resL_ok {E : Env} {a : Act} (hS : Sim G E) (hT : Slots E D a.tmps) : ∀ (rvs : List ResultVar) (rs : List Res) (K : List AV → Prop), trRes P rvs = some rs → resL E.H D rs K →
    ∃ vs : List Value, (rvs.mapM (resF a.tmps)).run P E.w = .ok vs E.w ∧
      ∃ xs, K xs ∧ xs.length = vs.length ∧ ∀ (i : Nat) (x : AV) (v : Value), xs[i]? = some x → vs[i]? = some v → Conc E x v
  | [], rs, K, h1, h2 => by
    cases h1
    exact ⟨[], by simp, [], h2, rfl, fun i x v hx => by simp at hx⟩
  | .tmp t :: rvs, rs, K, h1, h2 => by
    simp only [trRes, Option.map_eq_some_iff] at h1
    obtain ⟨rs, h1, rfl⟩ := h1
    obtain ⟨vs, h3, xs, h4, h5, h6⟩ := resL_ok hS hT rvs rs _ h1 h2
    refine ⟨a.tmps.getD t undef :: vs, ?_, D.getD t .any :: xs, h4, by simp [h5], fun i x v hx hv => ?_⟩
    · simp only [List.mapM_cons, resF, Sem.run_bind, pure_bind, h3, Result.andThen_ok, Sem.run_pure]
    · cases i with
      | zero =>
        simp only [List.getElem?_cons_zero, Option.some.injEq] at hx hv
        subst hx; subst hv
        exact getD_conc hT t
      | succ i => exact h6 i x v (by simpa using hx) (by simpa using hv)
  | .cell y t :: rvs, rs, K, h1, h2 => by
    simp only [trRes] at h1
    split at h1
    · rename_i n l hn hl
      cases h1
      simp only [resL] at h2
      have hc := getD_conc hT y
      split at h2
      · rename_i loc off hq
        rw [hq] at hc
        split at h2
        · rename_i cs hH
          obtain ⟨x, v, e1, e2, e3⟩ := load_partA (P := P) (box_reads hS hH) hn h2
          rw [Nat.zero_add] at e1
          obtain ⟨vs, h3, xs, h4, h5, h6⟩ := resL_ok hS hT rvs l _ hl e3
          refine ⟨v :: vs, ?_, x :: xs, h4, by simp [h5], fun i x' v' hx hv => ?_⟩
          · have h0 : (resF a.tmps (.cell y t)).run P E.w = .ok v E.w := by
              simp only [resF, hc.ptr_inv hH, asAddr, pure_bind, e1]
            simp only [List.mapM_cons, Sem.run_bind, h0, h3, Result.andThen_ok, Sem.run_pure]
          · cases i with
            | zero =>
              simp only [List.getElem?_cons_zero, Option.some.injEq] at hx hv
              subst hx; subst hv
              exact e2
            | succ i => exact h6 i x' v' (by simpa using hx) (by simpa using hv)
        · exact h2.elim
      · exact h2.elim
    · cases h1

theorem resR_ok {E : Env} {a : Act} {fn : Func} {rs : List Res} {K : AV → Prop} (hS : Sim G E) (hT : Slots E D a.tmps) (h1 : trRes P fn.results.toList = some rs) (h2 : resR rs D E.H K) :
    ∃ v x, (results fn a.tmps).run P E.w = .ok v E.w ∧ Conc E x v ∧ K x := by
  obtain ⟨vs, h3, xs, h4, h5, h6⟩ := resL_ok hS hT _ _ _ h1 h2
  have h3' : (fn.results.mapM (resF a.tmps)).run P E.w = .ok vs.toArray E.w := by
    rw [Array.mapM_eq_mapM_toList, Sem.run_map, h3]
    rfl
  have hres : (results fn a.tmps).run P E.w = .ok (if h : vs.toArray.size = 1 then vs.toArray[0] else .tuple vs.toArray) E.w := by
    rw [results_eq, Sem.run_bind, h3']
    rfl
  have hout : ∀ (x : AV), (∃ v, (if h : vs.toArray.size = 1 then vs.toArray[0] else .tuple vs.toArray) = v ∧ Conc E x v) → K x → ∃ v x, (results fn a.tmps).run P E.w = .ok v E.w ∧ Conc E x v ∧ K x := by
    rintro x ⟨v, hv, hc⟩ hk
    exact ⟨v, x, by rw [hres, hv], hc, hk⟩
  cases xs with
  | nil =>
    have : vs = [] := List.eq_nil_of_length_eq_zero h5.symm
    subst this
    exact hout (.tup []) ⟨.tuple #[], rfl, .tup rfl (fun i x v hx => by simp at hx)⟩ h4
  | cons x xs =>
    cases xs with
    | nil =>
      cases vs with
      | nil => simp at h5
      | cons v vs =>
        cases vs with
        | nil => exact hout x ⟨v, rfl, h6 0 x v rfl rfl⟩ h4
        | cons _ _ => simp at h5
    | cons y xs =>
      refine hout (.tup (x :: y :: xs)) ⟨.tuple vs.toArray, ?_, .tup (by simpa using h5) (fun i x v hx hv => h6 i x v hx (by simpa using hv))⟩ h4
      rw [dif_neg]
      simp only [List.length_cons] at h5
      simp only [List.size_toArray]
      omega

def fin (F : Fun) (K : AV → List Blk → Prop) : X → List AV → List Blk → Prop
  | .normal => fun D H => resR F.res D H (fun r => K r H)
  | .ret => fun D H => resR F.res D H (fun r => K r H)
  | _ => fun _ _ => False

theorem FCall_of_T {f : Nat} {fn : Func} {F : Fun} {args : List AV} {K : AV → List Blk → Prop} (hf : P.funcs[f]? = some fn) (ht : trF P fn = some F)
    (h : ∀ E0 : Env, E0.H = H → T P G E0 F.body (fin F K) (args ++ List.replicate (F.ntmps - args.length) .any) H) : FCall P G f args H K := by
  unfold trF at ht
  split at ht
  · cases ht
  · rename_i hname
    split at ht
    · rename_i c hb
      split at ht
      · rename_i b r h1 h2
        cases ht
        refine ⟨⟨fn, hf, by rw [hb]; rfl, by simpa using hname⟩, fun E vs hE hS hargs => calls_of_wp hf hb ?_⟩
        subst hE
        refine wp_mono (h E rfl c h1 _ E.w ⟨E, _, rfl, Le.refl E, hS, ?_, rfl, rfl, rfl⟩) ?_
        · intro k x hx
          simp only
          rcases Nat.lt_or_ge k args.length with hk | hk
          · rw [List.getElem?_append_left hk] at hx
            have hkv : k < vs.size := by rw [← hargs.1]; exact hk
            have hv : vs[k]? = some vs[k] := Array.getElem?_eq_getElem hkv
            exact ⟨vs[k], by rw [Array.getElem?_append_left (by rw [← hargs.1]; exact hk)]; exact hv, hargs.2 k x _ hx hv⟩
          · rw [List.getElem?_append_right hk, List.getElem?_replicate] at hx
            split at hx
            · rename_i hlt
              cases hx
              exact ⟨undef, by rw [Array.getElem?_append_right (by rw [← hargs.1]; exact hk), Array.getElem?_replicate, if_pos (by rw [← hargs.1]; exact hlt)], .any⟩
            · cases hx
        · have fin' : ∀ a w, AQ G E (fun D H => resR r D H (fun r => K r H)) a w → a.defers = [] ∧ ∃ v, (results fn a.tmps).run P w = .ok v w ∧ Ret G E K (.returned v) w := by
            rintro a w ⟨E', D', rfl, e2, e3, e4, e5, e6⟩
            obtain ⟨v, x, h3, h4, h5⟩ := resR_ok e3 e4 h2 e6
            exact ⟨e5, v, h3, E', x, v, rfl, rfl, e2, e3, h4, h5⟩
          intro e a w he
          cases e with
          | normal => exact fin' a w he
          | ret => exact fin' a w he
          | exit id => obtain ⟨_, _, _, _, _, _, _, h⟩ := he; exact h
          | goto l => obtain ⟨_, _, _, _, _, _, _, h⟩ := he; exact h
          | panic c => exact he.elim
          | outgrown => exact he.elim
      · cases ht
    · cases ht

end
end Go.Ae
end

section
set_option linter.unusedSectionVars false
set_option linter.unusedSimpArgs false
set_option linter.unusedVariables false
namespace Go.Ae

def partPX (e : PV) (fo : Nat) (n : Option Nat) : Option AV :=
  match n with
  | none => if fo < e.cells.length then some (.p (e.cells.getD fo .nilp)) else none
  | some n => if fo = 0 ∧ n = e.cells.length then (if e.isAgg = true then some (.p e) else none) else (if fo + n ≤ e.cells.length then some (.p (.agg ((e.cells.drop fo).take n))) else none)

def partAX (cs : List AV) (fo : Nat) (n : Option Nat) : Option AV :=
  match n with
  | none => if fo < cs.length then some (cs.getD fo .any) else none
  | some n => if fo + n ≤ cs.length then some (mkAgg ((cs.drop fo).take n)) else none

def ldX (H : List Blk) (n : Option Nat) (x : AV) : Option AV :=
  match x with
  | .ptr loc off =>
    match H[loc]? with
    | some (.box cs) => partAX cs off n
    | _ => none
  | .pe (.p (.sl sz' es)) sz i fo => if sz' = sz ∧ i < es.length then partPX (es.getD i .nilp) fo n else none
  | .pe (.ow loc off len) sz i fo =>
    match H[loc]? with
    | some (.row sz' es) => if off + len = es.length ∧ sz' = sz ∧ i < len then partAX (es.getD (off + i) .any).cells fo n else none
    | _ => none
  | _ => none

def stX (H : List Blk) (n : Nat) (x v : AV) : Option (List Blk) :=
  match x with
  | .ptr loc off =>
    match H[loc]? with
    | some (.box cs) => if v.fits n = true ∧ off + n ≤ cs.length then some (H.set loc (.box (setMany cs off v.cells))) else none
    | _ => none
  | .pe (.ow loc off len) sz i fo =>
    match H[loc]? with
    | some (.row sz' es) => if off + len = es.length ∧ sz' = sz ∧ i < len ∧ v.fits n = true ∧ fo + n ≤ sz then
        some (H.set loc (.row sz' (es.set (off + i) (reCells (es.getD (off + i) .any) fo v.cells)))) else none
    | _ => none
  | _ => none

def binIX (o : BinOp) (k : IntKind) (a b : Int) : Option AV :=
  match o with
  | .add => some (.p (.int k (k.wrap (a + b))))
  | .sub => some (.p (.int k (k.wrap (a - b))))
  | .mul => some (.p (.int k (k.wrap (a * b))))
  | .quo => if b = 0 then none else some (.p (.int k (k.wrap (a.tdiv b))))
  | .rem => if b = 0 then none else some (.p (.int k (a.tmod b)))
  | .shl => if 0 ≤ b then some (.p (.int k (k.wrap (a * 2 ^ (min b.toNat k.bits))))) else none
  | .shr => if 0 ≤ b then some (.p (.int k (a.fdiv (2 ^ (min b.toNat k.bits))))) else none
  | .eql => some (.p (.bool (a == b)))
  | .neq => some (.p (.bool (a != b)))
  | .lss => some (.p (.bool (decide (a < b))))
  | .leq => some (.p (.bool (decide (a ≤ b))))
  | .gtr => some (.p (.bool (decide (a > b))))
  | .geq => some (.p (.bool (decide (a ≥ b))))
  | .and => some (.p (.int k (bitsR .and k a b)))
  | .or => some (.p (.int k (bitsR .or k a b)))
  | .xor => some (.p (.int k (bitsR .xor k a b)))
  | .andNot => some (.p (.int k (bitsR .andNot k a b)))

def binX (o : BinOp) (x y : AV) : Option AV :=
  match x, y with
  | .p (.int k a), .p (.int k' b) => if k = k' ∨ o = .shl ∨ o = .shr then binIX o k a b else none
  | .p (.str a), .p (.str b) => match o with
    | .eql => some (.p (.bool (a == b)))
    | .neq => some (.p (.bool (!(a == b))))
    | .add => if a.length + b.length ≤ 4611686018427387904 then some (.p (.str (a ++ b))) else none
    | _ => none
  | _, _ => none

def lenX (H : List Blk) (x : AV) : Option Nat :=
  match x with
  | .p (.sl _ es) => some es.length
  | .p .e0 => some 0
  | .ow loc off len =>
    match H[loc]? with
    | some (.row _ es) => if off + len = es.length then some len else none
    | _ => none
  | _ => none

theorem partPX_ok {e : PV} {fo : Nat} {n : Option Nat} {r : AV} (h : partPX e fo n = some r) {K : AV → Prop} (hk : K r) : partP e fo n K := by
  unfold partPX at h
  unfold partP
  split at h
  · split at h
    · rename_i h1; cases h; exact ⟨h1, hk⟩
    · cases h
  · split at h
    · rename_i h1
      split at h
      · rename_i h2; cases h; simp only [h1, and_self, if_true]; exact ⟨h2, hk⟩
      · cases h
    · rename_i h1
      split at h
      · rename_i h2; cases h; simp only [h1, if_false]; exact ⟨h2, hk⟩
      · cases h

theorem partAX_ok {cs : List AV} {fo : Nat} {n : Option Nat} {r : AV} (h : partAX cs fo n = some r) {K : AV → Prop} (hk : K r) : partA cs fo n K := by
  unfold partAX at h
  unfold partA
  split at h
  · split at h
    · rename_i h1; cases h; exact ⟨h1, hk⟩
    · cases h
  · split at h
    · rename_i h1; cases h; exact ⟨h1, hk⟩
    · cases h

theorem ldX_ok {H : List Blk} {n : Option Nat} {x r : AV} (h : ldX H n x = some r) {K : AV → Prop} (hk : K r) : ldR H n x K := by
  unfold ldX at h
  unfold ldR
  split at h
  · split at h
    · rename_i hH; simp only [hH]; exact partAX_ok h hk
    · cases h
  · split at h
    · rename_i h1; exact ⟨h1.1, h1.2, partPX_ok h hk⟩
    · cases h
  · split at h
    · rename_i hH
      split at h
      · rename_i h1; simp only [hH]; exact ⟨h1, partAX_ok h hk⟩
      · cases h
    · cases h
  · cases h

theorem stX_ok {H H' : List Blk} {n : Nat} {x v : AV} (h : stX H n x v = some H') {K : List Blk → Prop} (hk : K H') : stR H n x v K := by
  unfold stX at h
  unfold stR
  split at h
  · split at h
    · rename_i hH
      split at h
      · rename_i h1; cases h; simp only [hH]; exact ⟨h1, hk⟩
      · cases h
    · cases h
  · split at h
    · rename_i hH
      split at h
      · rename_i h1; cases h; simp only [hH]; exact ⟨h1, hk⟩
      · cases h
    · cases h
  · cases h

theorem binX_ok {o : BinOp} {x y r : AV} (h : binX o x y = some r) {K : AV → Prop} (hk : K r) : binR o x y K := by
  unfold binX at h
  unfold binR
  split at h
  · split at h
    · rename_i h1
      refine ⟨h1, ?_⟩
      cases o <;> simp only [binIX] at h <;> simp only [binI] <;> first
        | (cases h; exact hk)
        | (split at h <;> first | (cases h; done) | (rename_i h2; cases h; exact ⟨h2, hk⟩))
    · cases h
  · simp only [binS]
    split at h
    · cases h; exact hk
    · cases h; exact hk
    · split at h
      · rename_i h2; cases h; exact ⟨h2, hk⟩
      · cases h
    · cases h
  · cases h

theorem lenX_ok {H : List Blk} {x : AV} {r : Nat} (h : lenX H x = some r) {K : Nat → Prop} (hk : K r) : lenR H x K := by
  unfold lenX at h
  unfold lenR
  split at h
  · cases h; exact hk
  · cases h; exact hk
  · split at h
    · rename_i hH
      split at h
      · rename_i h1; cases h; simp only [hH]; exact ⟨h1, hk⟩
      · cases h
    · cases h
  · cases h

def intX : AV → Option Int
  | .p (.int _ n) => some n
  | _ => none

theorem intX_ok {x : AV} {n : Int} (h : intX x = some n) {K : Int → Prop} (hk : K n) : asI x K := by
  unfold intX at h
  unfold asI
  split at h
  · cases h; exact hk
  · cases h

abbrev CallX := Nat → List AV → List Blk → Option (AV × List Blk)

def ex0 (G : Globals) (C : CallX) (i : I) (D : List AV) (H : List Blk) : Option (AV × List Blk) :=
  match i with
  | .mv x => some (get G D x, H)
  | .pick c a b => match get G D c with
    | .p (.bool v) => some ((match v with | true => get G D a | false => get G D b), H)
    | _ => none
  | .alloc z => some (.ptr H.length 0, H ++ [.box (z.cells.map .p)])
  | .box x => if (get G D x).fits (get G D x).cells.length = true then some (.ptr H.length 0, H ++ [.box (get G D x).cells]) else none
  | .bd z ps => if (ps.all fun p => (get G D p.2.2).fits p.2.1 && decide (p.1 + p.2.1 ≤ z.length)) = true then
      some (mkAgg (ps.foldl (fun cs p => setMany cs p.1 (get G D p.2.2).cells) (z.map .p)), H) else none
  | .bsl sz z n ps => if (ps.all fun p => (get G D p.2).fits sz && decide (p.1 < n)) = true then
      some (.ow H.length 0 n, H ++ [.row sz (ps.foldl (fun es p => es.set p.1 (get G D p.2)) (List.replicate n (.p z)))]) else none
  | .ld n x => (ldX H n (get G D x)).map (·, H)
  | .st n x v => (stX H n (get G D x) (get G D v)).map (AV.any, ·)
  | .bin o x y => (binX o (get G D x) (get G D y)).map (·, H)
  | .eqb neg x y => match get G D x, get G D y with
    | .p (.bool a), .p (.bool b) => some (.p (.bool (if neg then !(a == b) else a == b)), H)
    | _, _ => none
  | .eqa neg ks x y => match get G D x, get G D y with
    | .p (.agg a), .p (.agg b) => if kinds ks a = true ∧ kinds ks b = true then some (.p (.bool (if neg then !(eqC a b) else eqC a b)), H) else none
    | _, _ => none
  | .un o x => match o, get G D x with
    | .neg, .p (.int k n) => some (.p (.int k (k.wrap (0 - n))), H)
    | .not, .p (.bool b) => some (.p (.bool (!b)), H)
    | _, _ => none
  | .conv k x => (intX (get G D x)).map fun n => (.p (.int k (k.wrap n)), H)
  | .fa off x => match get G D x with
    | .ptr l o => match H[l]? with
      | some (.box _) => some (.ptr l (o + off), H)
      | _ => none
    | .pe a s i o => some (.pe a s i (o + off), H)
    | _ => none
  | .fld off n x => match get G D x with
    | .p (.agg cs) => match n with
      | none => if off < cs.length then some (.p (cs.getD off .nilp), H) else none
      | some n => if off + n ≤ cs.length then some (.p (.agg ((cs.drop off).take n)), H) else none
    | .agg cs => (partAX cs off n).map (·, H)
    | _ => none
  | .ia sz x i => match intX (get G D i), lenX H (get G D x) with
    | some n, some l => if 0 ≤ n ∧ n < l then some (.pe (get G D x) sz n.toNat 0, H) else none
    | _, _ => none
  | .iaa len sz x i => match intX (get G D i), get G D x with
    | some n, .ptr l o => match H[l]? with
      | some (.box _) => if 0 ≤ n ∧ n < len then some (.ptr l (o + n.toNat * sz), H) else none
      | _ => none
    | some n, .pe a s j o => if 0 ≤ n ∧ n < len then some (.pe a s j (o + n.toNat * sz), H) else none
    | _, _ => none
  | .idx len sz n x i => match intX (get G D i), get G D x with
    | some j, .p (.agg cs) => if 0 ≤ j ∧ j < len then (match n with
      | none => if j.toNat * sz < cs.length then some (.p (cs.getD (j.toNat * sz) .nilp), H) else none
      | some m => if j.toNat * sz + m ≤ cs.length then some (.p (.agg ((cs.drop (j.toNat * sz)).take m)), H) else none) else none
    | _, _ => none
  | .ext j x => match get G D x with
    | .tup vs => if j < vs.length then some (vs.getD j .any, H) else none
    | _ => none
  | .len x => (lenX H (get G D x)).map fun (n : Nat) => (AV.p (.int .i64 (n : Int)), H)
  | .nc x => match get G D x with
    | .ptr l o => match H[l]? with
      | some (.box _) => some (.ptr l o, H)
      | _ => none
    | .pe a s i o => some (.pe a s i o, H)
    | .fn f a c => some (.fn f a c, H)
    | _ => none
  | .call f as => C f (as.map (get G D)) H
  | .callv f as => match get G D f with
    | .fn g first cap => C g (first ++ as.map (get G D) ++ cap) H
    | _ => none
  | .mkf f first cap => some (.fn f (first.map (get G D)) (cap.map (get G D)), H)
  | .ids x i => match intX (get G D i), get G D x with
    | some j, .p (.str s) => if 0 ≤ j ∧ j < s.length then some (.p (.int .u8 (s.getD j.toNat 0).toNat), H) else none
    | _, _ => none
  | .lns x => match get G D x with
    | .p (.str s) => some (.p (.int .i64 s.length), H)
    | _ => none
  | .mx mn x y => match get G D x, intX (get G D y) with
    | .p (.int k a), some b => some (.p (.int k (if mn then (if b < a then b else a) else (if b > a then b else a))), H)
    | _, _ => none
  | .app sz bytes x y => match rdS H (get G D y), get G D x with
    | some (sy, ys), .ow loc off len => match H[loc]? with
      | some (.row sr es) => if (sy = sz ∨ ys.isEmpty = true) ∧ off = 0 ∧ len = es.length ∧ sr = sz ∧ len + ys.length ≤ 1099511627776 ∧ (len + ys.length) * bytes ≤ 1099511627776 then
          some (.ow loc 0 (len + ys.length), H.set loc (.row sr (es ++ ys))) else none
      | _ => none
    | some (sy, ys), .p .e0 => if (sy = sz ∨ ys.isEmpty = true) ∧ ys.length ≤ 1099511627776 ∧ ys.length * bytes ≤ 1099511627776 then some (.ow H.length 0 ys.length, H ++ [.row sz ys]) else none
    | _, _ => none
  | .mks sz z bytes len cap => match intX (get G D len), intX (get G D cap) with
    | some n, some c => if c = n ∧ 0 ≤ n ∧ n * bytes ≤ 1099511627776 ∧ n ≤ 1099511627776 then some (.ow H.length 0 n.toNat, H ++ [.row sz (List.replicate n.toNat (.p z))]) else none
    | _, _ => none
  | _ => none

theorem ex0_ok {G : Globals} {C : CallX} {R : CallR} (hC : ∀ f as H r H', C f as H = some (r, H') → ∀ K : AV → List Blk → Prop, K r H' → R f as H K) {i : I} {D : List AV} {H H' : List Blk} {r : AV} (h : ex0 G C i D H = some (r, H'))
    {K : AV → List Blk → Prop} (hk : K r H') : ev0 G R i D H K := by
  cases i with
  | mv x => cases h; exact hk
  | pick c a b =>
    simp only [ex0] at h
    split at h
    · rename_i v hv
      cases h
      simp only [ev0, hv, asB]
      exact hk
    · cases h
  | alloc z => cases h; exact hk
  | box x =>
    simp only [ex0] at h
    split at h
    · rename_i h1; cases h; exact ⟨h1, hk⟩
    · cases h
  | bd z ps =>
    simp only [ex0] at h
    split at h
    · rename_i h1; cases h; exact ⟨h1, hk⟩
    · cases h
  | bsl sz z n ps =>
    simp only [ex0] at h
    split at h
    · rename_i h1; cases h; exact ⟨h1, hk⟩
    · cases h
  | ld n x =>
    simp only [ex0, Option.map_eq_some_iff, Prod.mk.injEq] at h
    obtain ⟨v, h1, rfl, rfl⟩ := h
    exact ldX_ok h1 hk
  | st n x v =>
    simp only [ex0, Option.map_eq_some_iff, Prod.mk.injEq] at h
    obtain ⟨v, h1, rfl, rfl⟩ := h
    exact stX_ok h1 hk
  | bin o x y =>
    simp only [ex0, Option.map_eq_some_iff, Prod.mk.injEq] at h
    obtain ⟨v, h1, rfl, rfl⟩ := h
    exact binX_ok h1 hk
  | eqb neg x y =>
    simp only [ex0] at h
    split at h
    · rename_i a b h1 h2; cases h; simp only [ev0, h1, h2, asB]; exact hk
    · cases h
  | eqa neg ks x y =>
    simp only [ex0] at h
    split at h
    · rename_i a b h1 h2
      split at h
      · rename_i h3; cases h; simp only [ev0, h1, h2]; exact ⟨h3, hk⟩
      · cases h
    · cases h
  | un o x =>
    simp only [ex0] at h
    split at h
    · rename_i h1; cases h; simp only [ev0, h1]; exact hk
    · rename_i h1; cases h; simp only [ev0, h1]; exact hk
    · cases h
  | conv k x =>
    simp only [ex0, Option.map_eq_some_iff, Prod.mk.injEq] at h
    obtain ⟨v, h1, rfl, rfl⟩ := h
    exact intX_ok h1 hk
  | fa off x =>
    simp only [ex0] at h
    split at h
    · rename_i h1
      split at h
      · rename_i h2; cases h; simp only [ev0, h1, h2]; exact hk
      · cases h
    · rename_i h1; cases h; simp only [ev0, h1]; exact hk
    · cases h
  | fld off n x =>
    simp only [ex0] at h
    split at h
    · rename_i h1
      split at h
      · split at h
        · rename_i h2; cases h; simp only [ev0, h1]; exact ⟨h2, hk⟩
        · cases h
      · split at h
        · rename_i h2; cases h; simp only [ev0, h1]; exact ⟨h2, hk⟩
        · cases h
    · rename_i h1
      simp only [Option.map_eq_some_iff, Prod.mk.injEq] at h
      obtain ⟨v, h2, rfl, rfl⟩ := h
      simp only [ev0, h1]
      exact partAX_ok h2 hk
    · cases h
  | ia sz x i =>
    simp only [ex0] at h
    split at h
    · rename_i n l h1 h2
      split at h
      · rename_i h3; cases h; exact intX_ok h1 (lenX_ok h2 ⟨h3, hk⟩)
      · cases h
    · cases h
  | iaa len sz x i =>
    simp only [ex0] at h
    split at h
    · rename_i n l o h1 h2
      split at h
      · rename_i h3
        split at h
        · rename_i h4; cases h; refine intX_ok h1 ?_; simp only [h2, h3]; exact ⟨h4, hk⟩
        · cases h
      · cases h
    · rename_i n a s j o h1 h2
      split at h
      · rename_i h4; cases h; refine intX_ok h1 ?_; simp only [h2]; exact ⟨h4, hk⟩
      · cases h
    · cases h
  | idx len sz n x i =>
    simp only [ex0] at h
    split at h
    · rename_i j cs h1 h2
      split at h
      · rename_i h3
        refine intX_ok h1 ?_
        simp only [h2]
        refine ⟨h3, ?_⟩
        split at h
        · split at h
          · rename_i h4; cases h; exact ⟨h4, hk⟩
          · cases h
        · split at h
          · rename_i h4; cases h; exact ⟨h4, hk⟩
          · cases h
      · cases h
    · cases h
  | ext j x =>
    simp only [ex0] at h
    split at h
    · rename_i h1
      split at h
      · rename_i h2; cases h; simp only [ev0, h1]; exact ⟨h2, hk⟩
      · cases h
    · cases h
  | len x =>
    simp only [ex0, Option.map_eq_some_iff, Prod.mk.injEq] at h
    obtain ⟨v, h1, rfl, rfl⟩ := h
    exact lenX_ok (K := fun n => K (.p (.int .i64 (n : Int))) H) h1 hk
  | nc x =>
    simp only [ex0] at h
    split at h
    · rename_i h1
      split at h
      · rename_i h2; cases h; simp only [ev0, h1, h2]; exact hk
      · cases h
    · rename_i h1; cases h; simp only [ev0, h1]; exact hk
    · rename_i h1; cases h; simp only [ev0, h1]; exact hk
    · cases h
  | call f as => exact hC _ _ _ _ _ h K hk
  | callv f as =>
    simp only [ex0] at h
    split at h
    · rename_i h1; simp only [ev0, h1]; exact hC _ _ _ _ _ h K hk
    · cases h
  | mkf f first cap => cases h; exact hk
  | ids x i =>
    simp only [ex0] at h
    split at h
    · rename_i h1 h2
      split at h
      · rename_i h3; cases h; refine intX_ok h1 ?_; simp only [h2]; exact ⟨h3, hk⟩
      · cases h
    · cases h
  | lns x =>
    simp only [ex0] at h
    split at h
    · rename_i h1; cases h; simp only [ev0, h1]; exact hk
    · cases h
  | mx mn x y =>
    simp only [ex0] at h
    split at h
    · rename_i h1 h2; cases h; simp only [ev0, h1]; exact intX_ok h2 hk
    · cases h
  | app sz bytes x y =>
    simp only [ex0] at h
    split at h
    · rename_i sy ys loc off len h1 h2
      split at h
      · rename_i sr es h3
        split at h
        · rename_i h4
          cases h
          simp only [ev0, h1, h2, h3]
          exact ⟨h4.1.imp id List.isEmpty_iff.1, h4.2, hk⟩
        · cases h
      · cases h
    · rename_i sy ys h1 h2
      split at h
      · rename_i h4
        cases h
        simp only [ev0, h1, h2]
        exact ⟨h4.1.imp id List.isEmpty_iff.1, h4.2, hk⟩
      · cases h
    · cases h
  | mks sz z bytes len cap =>
    simp only [ex0] at h
    split at h
    · rename_i n c h1 h2
      split at h
      · rename_i h3
        cases h
        exact intX_ok h1 (intX_ok h2 ⟨h3, hk⟩)
      · cases h
    · cases h
  | _ => cases h

end Go.Ae
end

section
set_option linter.unusedSectionVars false
set_option linter.unusedSimpArgs false
set_option linter.unusedVariables false
namespace Go.Ae

def ex1 (G : Globals) (C : CallX) (x : Ins) (D : List AV) (H : List Blk) : Option (List AV × List Blk) :=
  match x with
  | .d d i => match ex0 G C i D H with
    | some (r, H) => some (D.set d r, H)
    | none => none
  | .n i => match ex0 G C i D H with
    | some (_, H) => some (D, H)
    | none => none
  | .gd s b d i => match D.getD s .any with
    | .p (.bool v) => if v = b then (match ex0 G C i D H with
      | some (r, H) => some (D.set d r, H)
      | none => none) else some (D.set d (.tup []), H)
    | .tup [] => some (D.set d (.tup []), H)
    | _ => none
  | .gn s b i => match D.getD s .any with
    | .p (.bool v) => if v = b then (match ex0 G C i D H with
      | some (_, H) => some (D, H)
      | none => none) else some (D, H)
    | .tup [] => some (D, H)
    | _ => none

def exL (G : Globals) (C : CallX) : List Ins → List AV → List Blk → Option (List AV × List Blk)
  | [], D, H => some (D, H)
  | x :: l, D, H => match ex1 G C x D H with
    | some (D, H) => exL G C l D H
    | none => none

def same1 : PV → PV → Bool
  | .int k a, .int k' b => decide (k = k') && a == b
  | .bool a, .bool b => a == b
  | .e0, .e0 => true
  | .nilp, .nilp => true
  | .nilf, .nilf => true
  | _, _ => false

def sameL : List PV → List PV → Bool
  | [], [] => true
  | a :: r, b :: s => same1 a b && sameL r s
  | _, _ => false

def sameP : PV → PV → Bool
  | .agg a, .agg b => sameL a b
  | a, b => same1 a b

theorem same1_ok (x y : PV) (h : same1 x y = true) : x = y := by
  unfold same1 at h
  split at h
  · simp only [Bool.and_eq_true, decide_eq_true_eq, beq_iff_eq] at h
    obtain ⟨rfl, rfl⟩ := h; rfl
  · simp only [beq_iff_eq] at h
    subst h; rfl
  · rfl
  · rfl
  · rfl
  · cases h

theorem sameL_ok : ∀ (x y : List PV), sameL x y = true → x = y
  | [], [], _ => rfl
  | a :: r, b :: s, h => by
    simp only [sameL, Bool.and_eq_true] at h
    rw [same1_ok a b h.1, sameL_ok r s h.2]
  | [], _ :: _, h => by cases h
  | _ :: _, [], h => by cases h

theorem sameP_ok (x y : PV) (h : sameP x y = true) : x = y := by
  unfold sameP at h
  split at h
  · rw [sameL_ok _ _ h]
  · exact same1_ok _ _ h

def sameA : AV → AV → Bool
  | .p x, .p y => sameP x y
  | .ptr l o, .ptr l' o' => l == l' && o == o'
  | .ow l o n, .ow l' o' n' => l == l' && o == o' && n == n'
  | .pe x s i f, .pe y s' i' f' => sameA x y && s == s' && i == i' && f == f'
  | _, _ => false

theorem sameA_ok : ∀ (x y : AV), sameA x y = true → x = y
  | .p x, y, h => by
    cases y <;> simp only [sameA, Bool.false_eq_true] at h
    rw [sameP_ok _ _ h]
  | .ptr l o, y, h => by
    cases y <;> simp only [sameA, Bool.and_eq_true, beq_iff_eq, Bool.false_eq_true] at h
    obtain ⟨rfl, rfl⟩ := h; rfl
  | .ow l o n, y, h => by
    cases y <;> simp only [sameA, Bool.and_eq_true, beq_iff_eq, Bool.false_eq_true] at h
    obtain ⟨⟨rfl, rfl⟩, rfl⟩ := h; rfl
  | .pe x s i f, y, h => by
    cases y with
    | pe y s' i' f' =>
      simp only [sameA, Bool.and_eq_true, beq_iff_eq] at h
      obtain ⟨⟨⟨h1, rfl⟩, rfl⟩, rfl⟩ := h
      rw [sameA_ok x y h1]
    | _ => cases h
  | .agg _, y, h => by cases h
  | .bs _ _ _, y, h => by cases h
  | .fn _ _ _, y, h => by cases h
  | .tup _, y, h => by cases h
  | .any, y, h => by cases h

def rchX (G : Globals) : List Ins → List AV → List Blk → Bool
  | [], _, _ => true
  | q :: qs, D, H => (match q.grd with
    | some _ => false
    | none => match ex0 G (fun _ _ _ => none) q.i D H with
      | some (r, _) => match q.dst with
        | some d => sameA r (D.getD d .any)
        | none => true
      | none => false) && rchX G qs D H

theorem rchX_ok {G : Globals} : ∀ {qs : List Ins} {D : List AV} {H : List Blk}, rchX G qs D H = true → rchk G qs D H
  | [], D, H, _ => trivial
  | q :: qs, D, H, h => by
    simp only [rchX, Bool.and_eq_true] at h
    refine ⟨?_, rchX_ok h.2⟩
    have h := h.1
    split at h
    · cases h
    · rename_i hg
      split at h
      · rename_i r H1 h1
        unfold qI evI
        rw [hg]
        refine ex0_ok (C := fun _ _ _ => none) (fun f as H r H' h => by cases h) h1 ?_
        unfold sameAt
        cases hd : q.dst with
        | none => trivial
        | some d =>
          rw [hd] at h
          exact sameA_ok _ _ h
      · cases h

def exR (G : Globals) (C : CallX) : List (Ins × List Ins) → List AV → List Blk → Option (List AV × List Blk)
  | [], D, H => some (D, H)
  | (x, qs) :: l, D, H => match ex1 G C x D H with
    | some (D, H) => match rchX G qs D H with
      | true => exR G C l D H
      | false => none
    | none => none

def dstFit (N : Nat) (l : List (Ins × List Ins)) : Bool := l.all fun p => match p.1.dst with
      | some d => decide (d < N)
      | none => true

def exC (G : Globals) (C' : CallX) : Nat → C → List AV → List Blk → Option (X × List AV × List Blk)
  | 0, _, _, _ => none
  | f + 1, c, D, H =>
    match c with
    | .skip => some (.normal, D, H)
    | .reg l => match exL G C' l D H with
      | some (D, H) => some (.normal, D, H)
      | none => none
    | .drw l => if dstFit D.length l = true then (match exR G C' l D H with
      | some (D, H) => some (.normal, D, H)
      | none => none) else none
    | .seq a b => match exC G C' f a D H with
      | some (.normal, D, H) => exC G C' f b D H
      | r => r
    | .cond c a b => match get G D c with
      | .p (.bool true) => exC G C' f a D H
      | .p (.bool false) => exC G C' f b D H
      | _ => none
    | .blk id b => match exC G C' f b D H with
      | some (.exit id', D, H) => if id' = id then some (.normal, D, H) else some (.exit id', D, H)
      | r => r
    | .loop b => match exC G C' f b D H with
      | some (.normal, D, H) => exC G C' f (.loop b) D H
      | r => r
    | .exit id => some (.exit id, D, H)
    | .label _ => some (.normal, D, H)
    | .ret => some (.ret, D, H)
    | _ => none

section
variable {P : Program} {G : Globals} {E0 : Env} {C' : CallX} (hC : ∀ f as H r H', C' f as H = some (r, H') → ∀ K : AV → List Blk → Prop, K r H' → FCall P G f as H K)
include hC

theorem ex1_ok {x : Ins} {D D' : List AV} {H H' : List Blk} (h : ex1 G C' x D H = some (D', H')) {K : List AV → List Blk → Prop} (hk : K D' H') : ev1 G (FCall P G) x D H K := by
  cases x with
  | d d i =>
    simp only [ex1] at h
    split at h
    · rename_i r H1 h1; cases h; exact ex0_ok hC h1 hk
    · cases h
  | n i =>
    simp only [ex1] at h
    split at h
    · rename_i r H1 h1; cases h; exact ex0_ok hC h1 hk
    · cases h
  | gd s b d i =>
    simp only [ex1] at h
    split at h
    · rename_i v hv
      simp only [ev1, hv, asG]
      split at h
      · rename_i hb
        split at h
        · rename_i r H1 h1; cases h; exact ⟨fun _ => ex0_ok hC h1 hk, fun hn => absurd hb hn⟩
        · cases h
      · rename_i hb
        cases h
        exact ⟨fun e => absurd e hb, fun _ => hk⟩
    · rename_i hv
      cases h
      simp only [ev1, hv, asG]
      exact ⟨fun e => (by cases b <;> cases e), fun _ => hk⟩
    · cases h
  | gn s b i =>
    simp only [ex1] at h
    split at h
    · rename_i v hv
      simp only [ev1, hv, asG]
      split at h
      · rename_i hb
        split at h
        · rename_i r H1 h1; cases h; exact ⟨fun _ => ex0_ok hC h1 hk, fun hn => absurd hb hn⟩
        · cases h
      · rename_i hb
        cases h
        exact ⟨fun e => absurd e hb, fun _ => hk⟩
    · rename_i hv
      cases h
      simp only [ev1, hv, asG]
      exact ⟨fun e => (by cases b <;> cases e), fun _ => hk⟩
    · cases h

theorem exL_ok : ∀ {l : List Ins} {D D' : List AV} {H H' : List Blk}, exL G C' l D H = some (D', H') → ∀ {K : List AV → List Blk → Prop}, K D' H' → ev G (FCall P G) l D H K
  | [], D, D', H, H', h, K, hk => by cases h; exact hk
  | x :: l, D, D', H, H', h, K, hk => by
    simp only [exL] at h
    split at h
    · rename_i D1 H1 h1
      exact ex1_ok hC h1 (exL_ok h hk)
    · cases h

theorem exR_ok : ∀ {l : List (Ins × List Ins)} {D D' : List AV} {H H' : List Blk}, exR G C' l D H = some (D', H') → ∀ {K : List AV → List Blk → Prop}, K D' H' → evR G (FCall P G) l D H K
  | [], D, D', H, H', h, K, hk => by cases h; exact hk
  | (x, qs) :: l, D, D', H, H', h, K, hk => by
    simp only [exR] at h
    split at h
    · rename_i D1 H1 h1
      split at h
      · rename_i hq
        exact ex1_ok hC h1 ⟨rchX_ok hq, exR_ok h hk⟩
      · cases h
    · cases h

theorem exC_ok (hm : P.follows .mixedOrders = true) : ∀ (n : Nat) (f : Nat), f ≤ n → ∀ (c : C) (D D' : List AV) (H H' : List Blk) (x : X), exC G C' f c D H = some (x, D', H') → ∀ Q : X → List AV → List Blk → Prop, Q x D' H' → T P G E0 c Q D H := by
  intro n
  induction n with
  | zero =>
    intro f hf c D D' H H' x h
    have : f = 0 := by omega
    subst this
    cases h
  | succ n ih =>
    intro f hf c D D' H H' x h Q hq
    cases f with
    | zero => cases h
    | succ f =>
      have ih0 := ih
      have ih := ih f (by omega)
      cases c with
      | skip => cases h; exact T_skip hq
      | reg l =>
        simp only [exC] at h
        split at h
        · rename_i D1 H1 h1; cases h; exact T_reg (exL_ok hC h1 hq)
        · cases h
      | drw l =>
        simp only [exC] at h
        split at h
        · rename_i hd
          split at h
          · rename_i D1 H1 h1; cases h; exact T_drw hm hd (exR_ok hC h1 hq)
          · cases h
        · cases h
      | seq a b =>
        simp only [exC] at h
        refine T_seq (fun N hN => ?_)
        split at h
        · rename_i D1 H1 h1
          exact ih a D D1 H H1 .normal h1 _ (hN D1 H1 (ih b D1 D' H1 H' x h Q hq))
        · rename_i hn
          refine ih a D D' H H' x h _ ?_
          cases x with
          | normal => exact absurd h (hn D' H')
          | _ => exact hq
      | cond c a b =>
        simp only [exC] at h
        refine T_cond ?_
        split at h
        · rename_i hc; simp only [hc, asB]; exact ⟨fun _ => ih a D D' H H' x h Q hq, fun e => by cases e⟩
        · rename_i hc; simp only [hc, asB]; exact ⟨fun e => (by cases e), fun _ => ih b D D' H H' x h Q hq⟩
        · cases h
      | blk id b =>
        simp only [exC] at h
        refine T_blk ?_
        split at h
        · rename_i id' D1 H1 h1
          refine ih b D D1 H H1 _ h1 _ ?_
          split at h
          · rename_i hi; cases h; simp only [inB, hi, if_true]; exact hq
          · rename_i hi; cases h; simp only [inB, hi, if_false]; exact hq
        · rename_i hn
          refine ih b D D' H H' x h _ ?_
          cases x with
          | exit id' => exact absurd h (hn id' D' H')
          | _ => exact hq
      | loop b =>
        refine T_loop (α := Nat × List AV × List Blk) (fun y => y.2.1) (fun y => y.2.2) (fun y => y.1 ≤ f + 1 ∧ exC G C' y.1 (.loop b) y.2.1 y.2.2 = some (x, D', H')) (fun y => y.1) (f + 1, D, H) ⟨Nat.le_refl _, h⟩ Sub.refl ?_
        rintro ⟨g, D1, H1⟩ ⟨hg, h1⟩ N hN
        cases g with
        | zero => cases h1
        | succ g =>
          simp only [exC] at h1
          simp only at hg hN
          split at h1
          · rename_i D2 H2 h2
            exact ih0 g (by omega) b D1 D2 H1 H2 .normal h2 _ (hN D2 H2 (g, D2, H2) ⟨by simp only; omega, h1⟩ (by simp only; omega) Sub.refl)
          · rename_i hn
            refine ih0 g (by omega) b D1 D' H1 H' x h1 _ ?_
            cases x with
            | normal => exact absurd h1 (hn D' H')
            | _ => exact hq
      | exit id => cases h; exact T_exit hq
      | label l => cases h; exact T_label hq
      | ret => cases h; exact T_ret hq
      | scope b => cases h
      | goto l => cases h
      | rfn _ _ _ _ => cases h

end
end Go.Ae
end

section
set_option linter.unusedSectionVars false
set_option linter.unusedSimpArgs false
set_option linter.unusedVariables false
namespace Go.Ae

mutual
def cloB : AV → Bool
  | .p _ => true
  | .agg cs => cloL cs
  | .pe x _ _ _ => cloB x
  | .fn _ a c => cloL a && cloL c
  | .tup cs => cloL cs
  | .any => true
  | _ => false
def cloL : List AV → Bool
  | [] => true
  | x :: r => cloB x && cloL r
end

mutual
theorem ren_clo (f : Nat → Nat) : ∀ (x : AV), cloB x = true → ren f x = x
  | .p _, _ => rfl
  | .agg cs, h => by
    simp only [cloB] at h
    simp only [ren, renL_clo f cs h]
  | .pe x _ _ _, h => by
    simp only [cloB] at h
    simp only [ren, ren_clo f x h]
  | .fn _ a c, h => by
    simp only [cloB, Bool.and_eq_true] at h
    simp only [ren, renL_clo f a h.1, renL_clo f c h.2]
  | .tup cs, h => by
    simp only [cloB] at h
    simp only [ren, renL_clo f cs h]
  | .any, _ => rfl
  | .ow _ _ _, h => by cases h
  | .bs _ _ _, h => by cases h
  | .ptr _ _, h => by cases h
theorem renL_clo (f : Nat → Nat) : ∀ (l : List AV), cloL l = true → renL f l = l
  | [], _ => rfl
  | x :: r, h => by
    simp only [cloL, Bool.and_eq_true] at h
    simp only [renL, ren_clo f x h.1, renL_clo f r h.2]
end

theorem sees_none (E : Env) : Sees E ⟨E.w, E.ι, [], E.X⟩ (fun i => E.H.length + i) where
  w := rfl
  ι := fun i hi => by cases hi
  inj := fun i j hi => by cases hi
  lt := fun i hi => by omega
  H := fun i b h => by cases h
  X := fun b h => .inl h

section
variable {P : Program} {G : Globals}

theorem FCall.mono {f : Nat} {args : List AV} {H : List Blk} {K K' : AV → List Blk → Prop} (h : FCall P G f args H K) (hk : ∀ r H, K r H → K' r H) : FCall P G f args H K' := FCall.monoR P G _ _ _ _ _ hk h

theorem FCall.drop (hG : GOK G) {f : Nat} {args : List AV} {R : AV → Prop} (h : FCall P G f args [] (fun r _ => cloB r = true ∧ R r)) : FCall P G f args [] (fun r H => H = [] ∧ cloB r = true ∧ R r) := by
  refine ⟨h.1, fun E vs hE hS hargs => Calls.mono (h.2 E vs hE hS hargs) ?_⟩
  rintro e w ⟨E', x, v, rfl, rfl, hle, hS', hc, hclo, hr⟩
  have s := sees_none E'
  refine ⟨⟨E'.w, E'.ι, [], E'.X⟩, x, v, rfl, rfl, ?_, s.sim hG hS', s.conc hc x (ren_clo _ x hclo).symm, rfl, hclo, hr⟩
  exact {
    keep := hle.keep
    size := hle.size
    imm := fun b hb ho => ⟨(hle.imm b hb ho).1, fun ⟨i, hi⟩ => by
      obtain ⟨_, h⟩ := hi
      rcases h with ⟨cs, h⟩ | ⟨sz, es, h, _⟩ <;> cases h⟩
    ext := hle.ext
    len := by rw [hE]; exact Nat.le_refl _
    box := fun loc cs hl => by rw [hE] at hl; cases hl
    row := fun loc sz es hl => by rw [hE] at hl; cases hl }

def Pure (P : Program) (G : Globals) (f : Nat) (args : List AV) (R : AV → Prop) : Prop := FCall P G f args [] (fun r _ => cloB r = true ∧ R r)

theorem Pure.call (hG : GOK G) {f : Nat} {args : List AV} {R : AV → Prop} (h : Pure P G f args R) {H : List Blk} {K : AV → List Blk → Prop} (ha : cloL args = true) (hk : ∀ r, R r → K r H) : FCall P G f args H K := by
  refine FCall.frame hG [] (FCall.drop hG h) List.nodup_nil rfl ?_ ?_
  · rw [← renL_map, renL_clo _ _ ha]
  · rintro r H' _ ⟨rfl, h2, h3⟩
    rw [ren_clo _ r h2]
    have : merge H [] [] = H := by simp [merge, setAll]
    rw [this]
    exact hk r h3

def resXL (H : List Blk) (D : List AV) : List Res → Option (List AV)
  | [] => some []
  | .tmp t :: r => match resXL H D r with
    | some l => some (D.getD t .any :: l)
    | none => none
  | .cell a n :: r => match D.getD a .any with
    | .ptr loc off => match H[loc]? with
      | some (.box cs) => match partAX cs off n, resXL H D r with
        | some v, some l => some (v :: l)
        | _, _ => none
      | _ => none
    | _ => none

theorem resXL_ok {H : List Blk} {D : List AV} : ∀ {rs : List Res} {l : List AV}, resXL H D rs = some l → ∀ {K : List AV → Prop}, K l → resL H D rs K
  | [], l, h, K, hk => by cases h; exact hk
  | .tmp t :: r, l, h, K, hk => by
    simp only [resXL] at h
    split at h
    · rename_i l' hl; cases h; exact resXL_ok hl hk
    · cases h
  | .cell a n :: r, l, h, K, hk => by
    simp only [resXL] at h
    split at h
    · rename_i h1
      split at h
      · rename_i h2
        split at h
        · rename_i v l' h3 h4
          cases h
          simp only [resL, h1, h2]
          exact partAX_ok h3 (resXL_ok h4 hk)
        · cases h
      · cases h
    · cases h

def runF (G : Globals) (C' : CallX) (fuel : Nat) (F : Fun) (args : List AV) : Option AV :=
  match exC G C' fuel F.body (args ++ List.replicate (F.ntmps - args.length) .any) [] with
  | some (.ret, D, H) => match resXL H D F.res with
    | some [x] => some x
    | some l => some (.tup l)
    | none => none
  | some (.normal, D, H) => match resXL H D F.res with
    | some [x] => some x
    | some l => some (.tup l)
    | none => none
  | _ => none

theorem run_pure {C' : CallX} (hC : ∀ f as H r H', C' f as H = some (r, H') → ∀ K : AV → List Blk → Prop, K r H' → FCall P G f as H K) (hm : P.follows .mixedOrders = true) {f : Nat} {fn : Func} {F : Fun} (hf : P.funcs[f]? = some fn) (ht : trF P fn = some F)
    {args : List AV} {fuel : Nat} {r : AV} (h : runF G C' fuel F args = some r) (hr : cloB r = true) : Pure P G f args (fun x => x = r) := by
  refine FCall_of_T hf ht (fun E0 _ => ?_)
  unfold runF at h
  have fin' : ∀ {D H}, (match resXL H D F.res with
      | some [x] => some x
      | some l => some (.tup l)
      | none => none) = some r → resR F.res D H (fun r' => cloB r' = true ∧ r' = r) := by
    intro D H h
    split at h
    · rename_i x hx; cases h; exact resXL_ok hx ⟨hr, rfl⟩
    · rename_i l hn hl
      cases h
      refine resXL_ok hl ?_
      split
      · rename_i x; exact absurd rfl (hn x)
      · exact ⟨hr, rfl⟩
    · cases h
  split at h
  · rename_i D H he
    exact exC_ok hC hm _ _ (Nat.le_refl _) _ _ _ _ _ _ he _ (fin' h)
  · rename_i D H he
    exact exC_ok hC hm _ _ (Nat.le_refl _) _ _ _ _ _ _ he _ (fin' h)
  · cases h

theorem noCall {f : Nat} {as : List AV} {H : List Blk} {r : AV} {H' : List Blk} (h : (fun _ _ _ => none : CallX) f as H = some (r, H')) (K : AV → List Blk → Prop) (_ : K r H') : FCall P G f as H K := by cases h

end
end Go.Ae
end

section
set_option linter.unusedSectionVars false
set_option linter.unusedSimpArgs false
set_option linter.unusedVariables false
namespace Go.Ae

mutual
def belowB (n : Nat) : AV → Bool
  | .p _ => true
  | .agg cs => belowL n cs
  | .ow l _ _ => decide (l < n)
  | .bs l _ _ => decide (l < n)
  | .ptr l _ => decide (l < n)
  | .pe x _ _ _ => belowB n x
  | .fn _ a c => belowL n a && belowL n c
  | .tup cs => belowL n cs
  | .any => true
def belowL (n : Nat) : List AV → Bool
  | [] => true
  | x :: r => belowB n x && belowL n r
end

def belowK (n : Nat) : Blk → Bool
  | .box cs => belowL n cs
  | .row _ es => belowL n es
  | .dead => true

mutual
theorem ren_below {f : Nat → Nat} {n : Nat} (hf : ∀ l, l < n → f l = l) : ∀ (x : AV), belowB n x = true → ren f x = x
  | .p _, _ => rfl
  | .agg cs, h => by
    simp only [belowB] at h
    simp only [ren, renL_below hf cs h]
  | .pe x _ _ _, h => by
    simp only [belowB] at h
    simp only [ren, ren_below hf x h]
  | .fn _ a c, h => by
    simp only [belowB, Bool.and_eq_true] at h
    simp only [ren, renL_below hf a h.1, renL_below hf c h.2]
  | .tup cs, h => by
    simp only [belowB] at h
    simp only [ren, renL_below hf cs h]
  | .any, _ => rfl
  | .ow l _ _, h => by
    simp only [belowB, decide_eq_true_eq] at h
    simp only [ren, hf l h]
  | .bs l _ _, h => by
    simp only [belowB, decide_eq_true_eq] at h
    simp only [ren, hf l h]
  | .ptr l _, h => by
    simp only [belowB, decide_eq_true_eq] at h
    simp only [ren, hf l h]
theorem renL_below {f : Nat → Nat} {n : Nat} (hf : ∀ l, l < n → f l = l) : ∀ (l : List AV), belowL n l = true → renL f l = l
  | [], _ => rfl
  | x :: r, h => by
    simp only [belowL, Bool.and_eq_true] at h
    simp only [renL, ren_below hf x h.1, renL_below hf r h.2]
end

theorem belowL_mem {n : Nat} : ∀ {l : List AV}, belowL n l = true → ∀ x ∈ l, belowB n x = true
  | x :: r, h, y, hy => by
    simp only [belowL, Bool.and_eq_true] at h
    rcases List.mem_cons.1 hy with rfl | hy
    · exact h.1
    · exact belowL_mem h.2 y hy

theorem renB_below {f : Nat → Nat} {n : Nat} (hf : ∀ l, l < n → f l = l) (b : Blk) (h : belowK n b = true) : renB f b = b := by
  cases b with
  | box cs => simp only [renB, ← renL_map, renL_below hf cs h]
  | row sz es => simp only [renB, ← renL_map, renL_below hf es h]
  | dead => rfl

section
variable {P : Program} {G : Globals} {E0 : Env} {Q : X → List AV → List Blk → Prop} {D : List AV} {H : List Blk}

def keepF (n m : Nat) (i : Nat) : Nat := if i < n then i else m + i

theorem sees_keep {E : Env} {n : Nat} (hn : n ≤ E.H.length) (hb : (E.H.take n).all (belowK n) = true) : Sees E ⟨E.w, E.ι, E.H.take n, E.X⟩ (keepF n E.H.length) where
  w := rfl
  ι := fun i hi => by
    have : i < n := by simp only [List.length_take] at hi; omega
    simp [keepF, this]
  inj := fun i j hi hj he => by
    have h1 : i < n := by simp only [List.length_take] at hi; omega
    have h2 : j < n := by simp only [List.length_take] at hj; omega
    simpa [keepF, h1, h2] using he
  lt := fun i hi => by
    simp only [List.length_take]
    unfold keepF at hi
    split at hi
    · omega
    · omega
  H := fun i b h => by
    rw [List.getElem?_take] at h
    split at h
    · rename_i hi
      have hf : keepF n E.H.length i = i := by simp [keepF, hi]
      rw [hf, renB_below (n := n) (fun l hl => by simp [keepF, hl]) b, h]
      rw [List.all_eq_true] at hb
      exact hb b (List.mem_of_getElem? (i := i) (by rw [List.getElem?_take, if_pos hi]; exact h))
    · cases h
  X := fun b h => .inl h

theorem Sub.drop (hG : GOK G) {D2 : List AV} {n : Nat} (h0 : E0.H.length ≤ n) (hn : n ≤ H.length) (hb : (H.take n).all (belowK n) = true) (hw : wk D D2) (hd : belowL n D2 = true) : Sub G E0 D H D2 (H.take n) := by
  intro a w ha
  obtain ⟨E, D', rfl, e2, e3, e4, e5, rfl, rfl⟩ := Sub.slots (H := H) hw a w ha
  have s := sees_keep hn hb
  refine ⟨⟨E.w, E.ι, E.H.take n, E.X⟩, D', rfl, ?_, s.sim hG e3, fun k x hx => ?_, e5, rfl, rfl⟩
  · exact {
      keep := e2.keep
      size := e2.size
      imm := fun b hb' ho => ⟨(e2.imm b hb' ho).1, fun ⟨i, hi⟩ => (e2.imm b hb' ho).2 ⟨_, (s.owns hi).1⟩⟩
      ext := e2.ext
      len := by simp only [List.length_take]; omega
      box := fun loc cs hl h => by
        rw [List.getElem?_take, if_pos (by omega)] at h
        exact e2.box loc cs hl h
      row := fun loc sz es hl h => by
        rw [List.getElem?_take, if_pos (by omega)] at h
        exact e2.row loc sz es hl h }
  · obtain ⟨v, hv, hc⟩ := e4 k x hx
    exact ⟨v, hv, s.conc hc x (ren_below (n := n) (fun l hl => by simp [keepF, hl]) x (belowL_mem hd x (List.mem_of_getElem? hx))).symm⟩

theorem Sub.own {k sz : Nat} (hk : D[k]? = some (.p .e0)) : Sub G E0 D H (D.set k (.ow H.length 0 0)) (H ++ [.row sz []]) := by
  rintro a w ⟨E, D', rfl, e2, e3, e4, e5, rfl, rfl⟩
  obtain ⟨E', g1, g2, g3, g4⟩ := new_empty e3 sz
  refine ⟨E', _, g1, e2.trans g3, g4, fun j x hx => ?_, e5, rfl, g2⟩
  rw [List.getElem?_set] at hx
  split at hx
  · rename_i hj
    subst hj
    split at hx
    · cases hx
      obtain ⟨v, hv, hc⟩ := e4 k _ hk
      refine ⟨v, hv, ?_⟩
      cases hc with
      | p hc =>
        cases hc with
        | e0 => exact .owE (sz := sz) (by rw [g2]; simp)
    · cases hx
  · exact e4.mono g3 j x hx

end
end Go.Ae
end

section
set_option linter.unusedSectionVars false
set_option linter.unusedSimpArgs false
set_option linter.unusedVariables false
namespace Go.Ae

mutual
def frz (loc sz : Nat) (ps : List PV) : AV → AV
  | .ow l o n => if l = loc then (if o + n = ps.length then .p (.sl sz (ps.drop o)) else .any) else .ow l o n
  | .agg cs => mkAgg (frzL loc sz ps cs)
  | .pe x s i f => .pe (frz loc sz ps x) s i f
  | .fn f a c => .fn f (frzL loc sz ps a) (frzL loc sz ps c)
  | .tup cs => .tup (frzL loc sz ps cs)
  | x => x
def frzL (loc sz : Nat) (ps : List PV) : List AV → List AV
  | [] => []
  | x :: r => frz loc sz ps x :: frzL loc sz ps r
end

theorem frzL_map (loc sz : Nat) (ps : List PV) (l : List AV) : frzL loc sz ps l = l.map (frz loc sz ps) := by
  induction l with
  | nil => rfl
  | cons x r ih => simp [frzL, ih]

theorem frz_cells (loc sz : Nat) (ps : List PV) (x : AV) : (frz loc sz ps x).cells = x.cells.map (frz loc sz ps) := by
  cases x with
  | p x => cases x <;> simp [frz, AV.cells]
  | agg cs =>
    simp only [frz, mkAgg_cells, frzL_map]
    rfl
  | ow l o n =>
    by_cases h1 : l = loc
    · by_cases h2 : o + n = ps.length
      · simp [frz, AV.cells, h1, h2]
      · simp [frz, AV.cells, h1, h2]
    · simp [frz, AV.cells, h1]
  | _ => simp [frz, AV.cells]

def frzB (loc sz : Nat) (ps : List PV) : Blk → Blk
  | .box cs => .box (cs.map (frz loc sz ps))
  | .row s es => .row s (es.map (frz loc sz ps))
  | .dead => .dead

section
variable {P : Program} {G : Globals} {E0 E : Env} {Q : X → List AV → List Blk → Prop} {D : List AV} {H : List Blk} {loc sz : Nat} {ps : List PV}

def frzE (E : Env) (loc sz : Nat) (ps : List PV) : Env := ⟨E.w, E.ι, (E.H.map (frzB loc sz ps)).set loc .dead, E.X⟩

theorem frzE_at {j : Nat} (hj : j ≠ loc) : (frzE E loc sz ps).H[j]? = (E.H[j]?).map (frzB loc sz ps) := by
  simp only [frzE]
  rw [List.getElem?_set_ne (fun e => hj e.symm), List.getElem?_map]

theorem frzE_loc : ∀ b, (frzE E loc sz ps).H[loc]? = some b → b = .dead := by
  intro b h
  simp only [frzE, List.getElem?_set] at h
  simp only [if_true] at h
  split at h
  · cases h; rfl
  · cases h

theorem frzE_owns {j b : Nat} (h : (frzE E loc sz ps).Owns j b) : j ≠ loc ∧ E.Owns j b := by
  obtain ⟨h1, h2⟩ := h
  have hj : j ≠ loc := by
    rintro rfl
    rcases h2 with ⟨cs, h2⟩ | ⟨s, es, h2, _⟩ <;> exact absurd (frzE_loc _ h2) (by simp)
  refine ⟨hj, h1, ?_⟩
  rw [frzE_at hj] at h2
  rcases h2 with ⟨cs, h2⟩ | ⟨s, es, h2, hne⟩
  · rw [Option.map_eq_some_iff] at h2
    obtain ⟨b', h2, e⟩ := h2
    cases b' <;> simp only [frzB, reduceCtorEq] at e
    exact .inl ⟨_, h2⟩
  · rw [Option.map_eq_some_iff] at h2
    obtain ⟨b', h2, e⟩ := h2
    cases b' <;> simp only [frzB, reduceCtorEq, Blk.row.injEq] at e
    exact .inr ⟨_, _, h2, by rintro rfl; exact hne (by simpa using e.2.symm)⟩

theorem frzE_le (hH : E.H[loc]? = some (.row sz (ps.map .p))) : Le E (frzE E loc sz ps) where
  keep := ⟨rfl, rfl⟩
  size := Nat.le_refl _
  imm := fun b hb ho => ⟨rfl, fun ⟨j, hj⟩ => ho ⟨j, (frzE_owns hj).2⟩⟩
  ext := rfl
  len := by simp [frzE]
  box := fun j cs hj h => by
    have hl : j ≠ loc := by rintro rfl; exact absurd (frzE_loc _ h) (by simp)
    rw [frzE_at hl, Option.map_eq_some_iff] at h
    obtain ⟨b', h2, e⟩ := h
    cases b' <;> simp only [frzB, reduceCtorEq, Blk.box.injEq] at e
    exact ⟨_, h2, by rw [← e]; simp, rfl⟩
  row := fun j s es hj h => by
    have hl : j ≠ loc := by rintro rfl; exact absurd (frzE_loc _ h) (by simp)
    rw [frzE_at hl, Option.map_eq_some_iff] at h
    obtain ⟨b', h2, e⟩ := h
    cases b' <;> simp only [frzB, reduceCtorEq, Blk.row.injEq] at e
    obtain ⟨rfl, e⟩ := e
    exact ⟨_, h2, by rw [← e]; simp, fun _ _ => ⟨rfl, fun c T fr hc => ⟨c, fr, hc, rfl⟩⟩⟩

theorem frz_conc (hS : Sim G E) (hH : E.H[loc]? = some (.row sz (ps.map .p))) {x : AV} {v : Value} (h : Conc E x v) : Conc (frzE E loc sz ps) (frz loc sz ps x) v := by
  have le := frzE_le hH
  have hno : ps ≠ [] → ¬ (frzE E loc sz ps).Own (E.ι loc) := by
    intro hne
    have hown : E.Owns loc (E.ι loc) := ⟨rfl, .inr ⟨_, _, hH, by simpa using hne⟩⟩
    rintro (⟨j, hj⟩ | hx)
    · obtain ⟨h1, h2⟩ := frzE_owns hj
      exact h1 (hS.inj _ _ _ h2 hown)
    · exact (hS.ext _ hx).2 ⟨loc, hown⟩
  have key : ∀ {o n : Nat} {v : Value}, Conc E (.ow loc o n) v → o + n = ps.length → Conc (frzE E loc sz ps) (.p (.sl sz (ps.drop o))) v := by
    intro o n v h hl
    cases h with
    | owE hH' =>
      rw [hH] at hH'
      cases ps with
      | nil => exact .p .sl0
      | cons _ _ => cases hH'
    | ow0 hH' hne ho =>
      rw [hH] at hH'
      cases hH'
      have : ps.drop o = [] := by rw [List.drop_eq_nil_iff]; simp at ho; omega
      rw [this]
      exact .p .sl0
    | @ow _ _ _ cap s es c T fr hH' hl' h0 hcap hw hc =>
      have hcc : Conc E (.ow loc o n) (.slice (some ⟨E.ι loc, o * s, none⟩) n cap) := .ow hH' hl' h0 hcap hw hc
      rw [hH] at hH'
      cases hH'
      have hne : ps ≠ [] := by rintro rfl; simp at hl; omega
      have hne' : ps.drop o ≠ [] := by intro e; rw [List.drop_eq_nil_iff] at e; omega
      have hr := rd_cells hS (x := .ow loc o n) (sz := sz) (es := (ps.map AV.p).drop o) (by simp [rdS, hH, hl]) hcc (by rw [← List.map_drop]; simpa using hne')
      have hex : ∀ (q : Nat × Nat), ∃ u, ∀ e, (ps.drop o)[q.1]? = some e → q.2 < sz → E.w.cell? ⟨E.ι loc, o * sz + q.1 * sz + q.2, none⟩ = some u ∧ IsCell u ∧ ∀ y, e.cells[q.2]? = some y → Conc E (.p y) u := by
        intro q
        cases he : (ps.drop o)[q.1]? with
        | none => exact ⟨.nilIface, fun e h => by cases h⟩
        | some e =>
          obtain ⟨h1, h2⟩ := hr q.1 (.p e) (by rw [← List.map_drop, List.getElem?_map, he]; rfl)
          by_cases hq : q.2 < sz
          · rw [AV.cells_p, List.length_map] at h1
            have hy : e.cells[q.2]? = some e.cells[q.2] := List.getElem?_eq_getElem (by omega)
            obtain ⟨u, h3, h4, h5⟩ := h2 q.2 (.p e.cells[q.2]) (by rw [AV.cells_p, List.getElem?_map, hy]; rfl)
            exact ⟨u, fun e' he' _ => by cases he'; exact ⟨h3, h4, fun y hy' => by rw [hy] at hy'; cases hy'; exact h5⟩⟩
          · exact ⟨.nilIface, fun e' _ h => absurd h hq⟩
      obtain ⟨vf, hvf⟩ := Classical.skolem.1 hex
      have hlen : n = (ps.drop o).length := by simp; omega
      rw [hlen]
      refine .p (.sl (fun i j => vf (i, j)) hne' rfl ?_ (hno hne) (by rw [← hlen]; exact hcap) (fun i e he => ?_) (fun i e j he hj => (hvf (i, j) e he hj).1) (fun i e j he hj => (hvf (i, j) e he hj).2.1) (fun i e j y he hy => ?_))
      · exact (Array.getElem?_eq_some_iff.1 hw).1
      · have := (hr i (.p e) (by rw [← List.map_drop, List.getElem?_map, he]; rfl)).1
        rw [AV.cells_p, List.length_map] at this
        exact this
      · have hj : j < sz := by
          have := (hr i (.p e) (by rw [← List.map_drop, List.getElem?_map, he]; rfl)).1
          rw [AV.cells_p, List.length_map] at this
          have := (List.getElem?_eq_some_iff.1 hy).1
          omega
        have := (hvf (i, j) e he hj).2.2 y hy
        cases this with
        | p h => exact h.mono le.size le.own
    | owS hlt hn hv =>
      have := hn _ _ hH
      simp at this
      omega
  induction h with
  | p h => exact (Conc.p h).mono le
  | agg hl hc _ ih =>
    simp only [frz, frzL_map]
    refine Conc.mkAgg_cells (by simpa using hl) hc (fun i x v hx hv => ?_)
    simp only [List.getElem?_map, Option.map_eq_some_iff] at hx
    obtain ⟨x0, hx, rfl⟩ := hx
    exact ih i x0 v hx hv
  | pe _ hs ih => exact .pe ih hs
  | fn hl1 hl2 _ _ ih1 ih2 =>
    simp only [frz, frzL_map]
    refine .fn (by simpa using hl1) (by simpa using hl2) (fun i x v hx hv => ?_) (fun i x v hx hv => ?_)
    · simp only [List.getElem?_map, Option.map_eq_some_iff] at hx
      obtain ⟨x0, hx, rfl⟩ := hx
      exact ih1 i x0 v hx hv
    · simp only [List.getElem?_map, Option.map_eq_some_iff] at hx
      obtain ⟨x0, hx, rfl⟩ := hx
      exact ih2 i x0 v hx hv
  | tup hl _ ih =>
    simp only [frz, frzL_map]
    refine .tup (by simpa using hl) (fun i x v hx hv => ?_)
    simp only [List.getElem?_map, Option.map_eq_some_iff] at hx
    obtain ⟨x0, hx, rfl⟩ := hx
    exact ih i x0 v hx hv
  | any => exact .any
  | bs hH' hl h0 hcap => exact (Conc.bs hH' hl h0 hcap).mono le
  | bs0 hH' hl => exact (Conc.bs0 hH' hl).mono le
  | bsS hl hH' hv => exact (Conc.bsS hl hH' hv).mono le
  | ptr hH' => exact (Conc.ptr hH').mono le
  | ptrS hl hH' hv => exact (Conc.ptrS hl hH' hv).mono le
  | @owE l s a hH' =>
    simp only [frz]
    split
    · rename_i e; subst e
      split
      · rename_i hl; exact key (.owE hH') hl
      · exact .any
    · exact (Conc.owE hH').mono le
  | @ow0 l s es cap a off hH' hne ho =>
    simp only [frz]
    split
    · rename_i e; subst e
      split
      · rename_i hl; exact key (.ow0 hH' hne ho) hl
      · exact .any
    · exact (Conc.ow0 hH' hne ho).mono le
  | @ow l off len cap s es c T fr hH' hl' h0 hcap hw hc =>
    simp only [frz]
    split
    · rename_i e; subst e
      split
      · rename_i hl; exact key (.ow hH' hl' h0 hcap hw hc) hl
      · exact .any
    · exact (Conc.ow hH' hl' h0 hcap hw hc).mono le
  | @owS l off len v hl' hH' hv =>
    simp only [frz]
    split
    · rename_i e; subst e
      split
      · rename_i hl; exact key (.owS hl' hH' hv) hl
      · exact .any
    · exact (Conc.owS hl' hH' hv).mono le

theorem frz_sim (hS : Sim G E) (hH : E.H[loc]? = some (.row sz (ps.map .p))) : Sim G (frzE E loc sz ps) := by
  have le := frzE_le hH
  refine ⟨fun i j b hi hj => hS.inj i j b (frzE_owns hi).2 (frzE_owns hj).2, fun j cs h => ?_, fun j s es h hne => ?_, fun g x hg => (hS.glob g x hg).mono le, fun b hb => ?_⟩
  · have hl : j ≠ loc := by rintro rfl; exact absurd (frzE_loc _ h) (by simp)
    rw [frzE_at hl, Option.map_eq_some_iff] at h
    obtain ⟨b', h2, e⟩ := h
    cases b' <;> simp only [frzB, reduceCtorEq, Blk.box.injEq] at e
    subst e
    obtain ⟨c, T, hw, hc⟩ := hS.box j _ h2
    refine ⟨c, T, hw, fun k x hx => ?_⟩
    simp only [List.getElem?_map, Option.map_eq_some_iff] at hx
    obtain ⟨x0, hx, rfl⟩ := hx
    obtain ⟨v, e1, e2, e3⟩ := hc k x0 hx
    exact ⟨v, e1, e2, frz_conc hS hH e3⟩
  · have hl : j ≠ loc := by rintro rfl; exact absurd (frzE_loc _ h) (by simp)
    rw [frzE_at hl, Option.map_eq_some_iff] at h
    obtain ⟨b', h2, e⟩ := h
    cases b' <;> simp only [frzB, reduceCtorEq, Blk.row.injEq] at e
    obtain ⟨rfl, rfl⟩ := e
    obtain ⟨c, T, hw, hc⟩ := hS.row j _ _ h2 (by simpa using hne)
    refine ⟨c, T, hw, fun k x hx => ?_⟩
    simp only [List.getElem?_map, Option.map_eq_some_iff] at hx
    obtain ⟨x0, hx, rfl⟩ := hx
    obtain ⟨h3, h4⟩ := hc k x0 hx
    refine ⟨by rw [frz_cells, List.length_map]; exact h3, fun q y hy => ?_⟩
    rw [frz_cells] at hy
    simp only [List.getElem?_map, Option.map_eq_some_iff] at hy
    obtain ⟨y0, hy, rfl⟩ := hy
    obtain ⟨v, e1, e2, e3⟩ := h4 q y0 hy
    exact ⟨v, e1, e2, frz_conc hS hH e3⟩
  · obtain ⟨h1, h2⟩ := hS.ext b hb
    exact ⟨h1, fun ⟨j, hj⟩ => h2 ⟨j, (frzE_owns hj).2⟩⟩

theorem Sub.freeze (loc : Nat) (sz : Nat) (ps : List PV) (hH : H[loc]? = some (.row sz (ps.map .p))) : Sub G E0 D H (D.map (frz loc sz ps)) ((H.map (frzB loc sz ps)).set loc .dead) := by
  rintro a w ⟨E, D', rfl, e2, e3, e4, e5, rfl, rfl⟩
  refine ⟨frzE E loc sz ps, _, rfl, e2.trans (frzE_le hH), frz_sim e3 hH, fun k x hx => ?_, e5, rfl, rfl⟩
  simp only [List.getElem?_map, Option.map_eq_some_iff] at hx
  obtain ⟨x0, hx, rfl⟩ := hx
  obtain ⟨v, hv, hc⟩ := e4 k x0 hx
  exact ⟨v, hv, frz_conc e3 hH hc⟩

end
end Go.Ae
end

section
set_option linter.unusedSectionVars false
set_option linter.unusedSimpArgs false
set_option linter.unusedVariables false
namespace Go.Ae

def cutB (n : Nat) (r : AV) (H : List Blk) : Bool := decide (n ≤ H.length) && belowB n r && (H.take n).all (belowK n)

def cut (n : Nat) (r : AV) (H : List Blk) : List Blk :=
  match cutB n r H with
  | true => H.take n
  | false => H

def TabOk (P : Program) (tab : Nat → Option Fun) : Prop := ∀ f F, tab f = some F → ∃ fn, P.funcs[f]? = some fn ∧ trF P fn = some F

def resX (rs : List Res) (D : List AV) (H : List Blk) : Option AV :=
  match resXL H D rs with
  | some [x] => some x
  | some l => some (.tup l)
  | none => none

def runH (G : Globals) (C' : CallX) (fuel : Nat) (F : Fun) (args : List AV) (H : List Blk) : Option (AV × List Blk) :=
  match exC G C' fuel F.body (args ++ List.replicate (F.ntmps - args.length) .any) H with
  | some (.ret, D, H') => match resX F.res D H' with
    | some r => some (r, cut H.length r H')
    | none => none
  | some (.normal, D, H') => match resX F.res D H' with
    | some r => some (r, cut H.length r H')
    | none => none
  | _ => none

def tabX (G : Globals) (tab : Nat → Option Fun) (fuel : Nat) : Nat → CallX
  | 0 => fun _ _ _ => none
  | n + 1 => fun f as H => match tab f with
    | some F => runH G (tabX G tab fuel n) fuel F as H
    | none => none

section
variable {P : Program} {G : Globals} {tab : Nat → Option Fun}

theorem FCall.cut (hG : GOK G) {f : Nat} {args : List AV} {H : List Blk} {K : AV → List Blk → Prop} (h : FCall P G f args H (fun r H' => K r (cut H.length r H'))) : FCall P G f args H K := by
  refine ⟨h.1, fun E vs hE hS hargs => Calls.mono (h.2 E vs hE hS hargs) ?_⟩
  rintro e w ⟨E', x, v, rfl, rfl, hle, hS', hc, hk⟩
  unfold Ae.cut at hk
  split at hk
  · rename_i hcut
    simp only [cutB, Bool.and_eq_true, decide_eq_true_eq] at hcut
    obtain ⟨⟨hn, hr⟩, hb⟩ := hcut
    have s := sees_keep (E := E') hn hb
    refine ⟨⟨E'.w, E'.ι, E'.H.take H.length, E'.X⟩, x, v, rfl, rfl, ?_, s.sim hG hS', s.conc hc x (ren_below (n := H.length) (fun l hl => by simp [keepF, hl]) x hr).symm, hk⟩
    exact {
      keep := hle.keep
      size := hle.size
      imm := fun b hb' ho => ⟨(hle.imm b hb' ho).1, fun ⟨i, hi⟩ => (hle.imm b hb' ho).2 ⟨_, (s.owns hi).1⟩⟩
      ext := hle.ext
      len := by simp only [List.length_take]; rw [hE]; omega
      box := fun loc cs hl h => by
        rw [hE] at hl
        rw [List.getElem?_take, if_pos hl] at h
        exact hle.box loc cs (by rw [hE]; exact hl) h
      row := fun loc sz es hl h => by
        rw [hE] at hl
        rw [List.getElem?_take, if_pos hl] at h
        exact hle.row loc sz es (by rw [hE]; exact hl) h }
  · exact ⟨E', x, v, rfl, rfl, hle, hS', hc, hk⟩

theorem resX_ok {rs : List Res} {D : List AV} {H : List Blk} {r : AV} (h : resX rs D H = some r) {K : AV → Prop} (hk : K r) : resR rs D H K := by
  unfold resX at h
  split at h
  · rename_i x hx; cases h; exact resXL_ok hx hk
  · rename_i l hn hl
    cases h
    refine resXL_ok hl ?_
    split
    · rename_i x; exact absurd rfl (hn x)
    · exact hk
  · cases h

theorem runH_ok (hG : GOK G) {C' : CallX} (hC : ∀ f as H r H', C' f as H = some (r, H') → ∀ K : AV → List Blk → Prop, K r H' → FCall P G f as H K) (hm : P.follows .mixedOrders = true) {f : Nat} {fn : Func} {F : Fun} (hf : P.funcs[f]? = some fn) (ht : trF P fn = some F)
    {args : List AV} {fuel : Nat} {H H' : List Blk} {r : AV} (h : runH G C' fuel F args H = some (r, H')) {K : AV → List Blk → Prop} (hk : K r H') : FCall P G f args H K := by
  refine FCall.cut hG (FCall_of_T hf ht (fun E0 _ => ?_))
  unfold runH at h
  split at h
  · rename_i D H1 he
    split at h
    · rename_i r' hr
      cases h
      exact exC_ok hC hm _ _ (Nat.le_refl _) _ _ _ _ _ _ he _ (resX_ok hr hk)
    · cases h
  · rename_i D H1 he
    split at h
    · rename_i r' hr
      cases h
      exact exC_ok hC hm _ _ (Nat.le_refl _) _ _ _ _ _ _ he _ (resX_ok hr hk)
    · cases h
  · cases h

theorem tabX_ok (hG : GOK G) (hm : P.follows .mixedOrders = true) (ht : TabOk P tab) (fuel : Nat) : ∀ n f as H r H', tabX G tab fuel n f as H = some (r, H') → ∀ K : AV → List Blk → Prop, K r H' → FCall P G f as H K := by
  intro n
  induction n with
  | zero => intro f as H r H' h; cases h
  | succ n ih =>
    intro f as H r H' h K hk
    simp only [tabX] at h
    split at h
    · rename_i F hF
      obtain ⟨fn, h1, h2⟩ := ht f F hF
      exact runH_ok hG ih hm h1 h2 h hk
    · cases h

theorem run_tab (hG : GOK G) (hm : P.follows .mixedOrders = true) (ht : TabOk P tab) {fuel n f : Nat} {args : List AV} {r : AV} (h : tabX G tab fuel n f args [] = some (r, [])) (hr : cloB r = true) : Pure P G f args (fun x => x = r) :=
  tabX_ok hG hm ht fuel n f args [] r [] h _ ⟨hr, rfl⟩

theorem walk {f : Nat} {fn : Func} {F : Fun} {args : List AV} {H : List Blk} {K : AV → List Blk → Prop} (hf : P.funcs[f]? = some fn) (ht : trF P fn = some F)
    (h : ∀ (E0 : Env) (Q : X → List AV → List Blk → Prop), E0.H.length = H.length → (∀ D H', resR F.res D H' (fun r => K r H') → Q .ret D H') → (∀ D H', resR F.res D H' (fun r => K r H') → Q .normal D H') →
      T P G E0 F.body Q (args ++ List.replicate (F.ntmps - args.length) .any) H) : FCall P G f args H K :=
  FCall_of_T hf ht (fun E0 h0 => h E0 (fin F K) (by rw [h0]) (fun _ _ h => h) (fun _ _ h => h))

end
end Go.Ae
end

section
set_option linter.unusedSectionVars false
set_option linter.unusedSimpArgs false
set_option linter.unusedVariables false
namespace Go.Ae

theorem thn_nrm {N : List AV → List Blk → Prop} {Q : X → List AV → List Blk → Prop} {D H} (h : N D H) : thn N Q .normal D H := h
theorem thn_ex {N : List AV → List Blk → Prop} {Q : X → List AV → List Blk → Prop} {D H i} (h : Q (.exit i) D H) : thn N Q (.exit i) D H := h
theorem thn_ret {N : List AV → List Blk → Prop} {Q : X → List AV → List Blk → Prop} {D H} (h : Q .ret D H) : thn N Q .ret D H := h
theorem thn_goto {N : List AV → List Blk → Prop} {Q : X → List AV → List Blk → Prop} {D H i} (h : Q (.goto i) D H) : thn N Q (.goto i) D H := h
theorem inB_nrm {Q : X → List AV → List Blk → Prop} {D H i} (h : Q .normal D H) : inB i Q .normal D H := h
theorem inB_eq {Q : X → List AV → List Blk → Prop} {D H i} (h : Q .normal D H) : inB i Q (.exit i) D H := by simp [inB, h]
theorem inB_ne {Q : X → List AV → List Blk → Prop} {D H i j} (hn : j ≠ i) (h : Q (.exit j) D H) : inB i Q (.exit j) D H := by simp [inB, hn, h]
theorem inB_ret {Q : X → List AV → List Blk → Prop} {D H i} (h : Q .ret D H) : inB i Q .ret D H := h
theorem inB_goto {Q : X → List AV → List Blk → Prop} {D H i j} (h : Q (.goto j) D H) : inB i Q (.goto j) D H := h
theorem fin_ret {F : Fun} {K : AV → List Blk → Prop} {D H} (h : resR F.res D H (fun r => K r H)) : fin F K .ret D H := h
theorem fin_nrm {F : Fun} {K : AV → List Blk → Prop} {D H} (h : resR F.res D H (fun r => K r H)) : fin F K .normal D H := h

section
variable {P : Program} {G : Globals} {E0 : Env} {Q : X → List AV → List Blk → Prop} {D : List AV} {H : List Blk} {R : CallR} {K : List AV → List Blk → Prop}

theorem T_seq' {x y : C} (h : T P G E0 x (thn (fun D H => T P G E0 y Q D H) Q) D H) : T P G E0 (.seq x y) Q D H := by
  refine T_seq (fun N hN => ?_)
  refine h.mono (fun e D H he => ?_)
  cases e with
  | normal => exact hN _ _ he
  | _ => exact he

theorem T_cond_t {o : Opd} {x y : C} (ho : get G D o = .p (.bool true)) (h : T P G E0 x Q D H) : T P G E0 (.cond o x y) Q D H :=
  T_cond (by rw [ho]; exact ⟨fun _ => h, fun h => (by cases h)⟩)

theorem T_cond_f {o : Opd} {x y : C} (ho : get G D o = .p (.bool false)) (h : T P G E0 y Q D H) : T P G E0 (.cond o x y) Q D H :=
  T_cond (by rw [ho]; exact ⟨fun h => (by cases h), fun _ => h⟩)

theorem T_cond_b {o : Opd} {x y : C} {b : Bool} (ho : get G D o = .p (.bool b)) (h1 : b = true → T P G E0 x Q D H) (h2 : b = false → T P G E0 y Q D H) : T P G E0 (.cond o x y) Q D H :=
  T_cond (by rw [ho]; exact ⟨h1, h2⟩)

def cmp2 (o : BinOp) (a b : Int) (A B : Prop) : Prop :=
  match o with
  | .lss => (a < b → A) ∧ (¬ a < b → B)
  | .leq => (a ≤ b → A) ∧ (¬ a ≤ b → B)
  | .gtr => (b < a → A) ∧ (¬ b < a → B)
  | .geq => (b ≤ a → A) ∧ (¬ b ≤ a → B)
  | .eql => (a = b → A) ∧ (¬ a = b → B)
  | .neq => (¬ a = b → A) ∧ (a = b → B)
  | _ => False

def cmpR (o : BinOp) (x y : AV) (A B : Prop) : Prop :=
  match x, y with
  | .p (.int k a), .p (.int k' b) => k = k' ∧ cmp2 o a b A B
  | _, _ => False

theorem cmpR_ok {o : BinOp} {x y : AV} {K : AV → Prop} (h : cmpR o x y (K (.p (.bool true))) (K (.p (.bool false)))) : binR o x y K := by
  unfold cmpR at h
  split at h
  · rename_i k a k' b
    obtain ⟨rfl, h⟩ := h
    refine ⟨.inl rfl, ?_⟩
    unfold cmp2 at h
    split at h <;> simp only [binI]
    · by_cases hh : a < b <;> simp only [hh, not_true_eq_false, not_false_eq_true, forall_const, decide_true, decide_false, false_imp_iff, true_and, and_true] at h ⊢ <;> exact h
    · by_cases hh : a ≤ b <;> simp only [hh, not_true_eq_false, not_false_eq_true, forall_const, decide_true, decide_false, false_imp_iff, true_and, and_true] at h ⊢ <;> exact h
    · by_cases hh : b < a <;> simp only [hh, gt_iff_lt, not_true_eq_false, not_false_eq_true, forall_const, decide_true, decide_false, false_imp_iff, true_and, and_true] at h ⊢ <;> exact h
    · by_cases hh : b ≤ a <;> simp only [hh, ge_iff_le, not_true_eq_false, not_false_eq_true, forall_const, decide_true, decide_false, false_imp_iff, true_and, and_true] at h ⊢ <;> exact h
    · by_cases hh : a = b
      · rw [show (a == b) = true from by simp [hh]]; exact h.1 hh
      · rw [show (a == b) = false from beq_false_of_ne hh]; exact h.2 hh
    · by_cases hh : a = b
      · rw [show (a != b) = false from by simp [hh]]; exact h.2 hh
      · rw [show (a != b) = true from bne_iff_ne.2 hh]; exact h.1 hh
    · exact h.elim
  · exact h.elim

def isCmp : BinOp → Bool
  | .lss | .leq | .gtr | .geq | .eql | .neq => true
  | _ => false

theorem ev_cmp {d : Nat} {o : BinOp} {x y : Opd} {l : List Ins} (ho : isCmp o = true)
    (h : ∀ K' : List AV → List Blk → Prop, (∀ D H, ev G R l D H K → K' D H) → cmpR o (get G D x) (get G D y) (K' (D.set d (.p (.bool true))) H) (K' (D.set d (.p (.bool false))) H)) : ev G R (.d d (.bin o x y) :: l) D H K :=
  ev_cons (fun K' hK => cmpR_ok (h K' hK))

theorem ev_cmpg {s : Nat} {b : Bool} {d : Nat} {o : BinOp} {x y : Opd} {l : List Ins} (ho : isCmp o = true)
    (h : ∀ K' : List AV → List Blk → Prop, (∀ D H, ev G R l D H K → K' D H) → asG (D.getD s .any) b fun v => (v = b → cmpR o (get G D x) (get G D y) (K' (D.set d (.p (.bool true))) H) (K' (D.set d (.p (.bool false))) H)) ∧ (v ≠ b → K' (D.set d (.tup [])) H)) : ev G R (.gd s b d (.bin o x y) :: l) D H K := by
  refine ev_cons (fun K' hK => ?_)
  have := h K' hK
  simp only [ev1]
  exact asG_mono (fun v hv => ⟨fun e => cmpR_ok (hv.1 e), hv.2⟩) this

theorem wrap_i64 {n : Int} (h : -9223372036854775808 ≤ n ∧ n ≤ 9223372036854775807) : IntKind.wrap .i64 n = n := by
  simp only [IntKind.wrap, IntKind.signed, IntKind.bits]
  simp
  omega
theorem wrap_u8 {n : Int} (h : 0 ≤ n ∧ n ≤ 255) : IntKind.wrap .u8 n = n := by
  simp only [IntKind.wrap, IntKind.signed, IntKind.bits]
  simp
  omega
theorem wrap_u64 {n : Int} (h : 0 ≤ n ∧ n ≤ 18446744073709551615) : IntKind.wrap .u64 n = n := by
  simp only [IntKind.wrap, IntKind.signed, IntKind.bits]
  simp
  omega


def ari2 (o : BinOp) (k : IntKind) (a b : Int) (K : Int → Prop) : Prop :=
  match o with
  | .add => ∃ c, c = k.wrap (a + b) ∧ K c
  | .sub => ∃ c, c = k.wrap (a - b) ∧ K c
  | .mul => ∃ c, c = k.wrap (a * b) ∧ K c
  | .quo => b ≠ 0 ∧ ∃ c, c = k.wrap (a.tdiv b) ∧ K c
  | .rem => b ≠ 0 ∧ ∃ c, c = a.tmod b ∧ K c
  | .shl => 0 ≤ b ∧ ∃ c, c = k.wrap (a * 2 ^ (min b.toNat k.bits)) ∧ K c
  | .shr => 0 ≤ b ∧ ∃ c, c = a.fdiv (2 ^ (min b.toNat k.bits)) ∧ K c
  | .and => ∃ c, c = bitsR .and k a b ∧ K c
  | .or => ∃ c, c = bitsR .or k a b ∧ K c
  | .xor => ∃ c, c = bitsR .xor k a b ∧ K c
  | .andNot => ∃ c, c = bitsR .andNot k a b ∧ K c
  | _ => False

def isShift : BinOp → Bool
  | .shl | .shr => true
  | _ => false

def ariR (o : BinOp) (x y : AV) (K : AV → Prop) : Prop :=
  match x, y with
  | .p (.int k a), .p (.int k' b) => (k = k' ∨ isShift o = true) ∧ ari2 o k a b (fun c => K (.p (.int k c)))
  | _, _ => False

theorem ariR_ok {o : BinOp} {x y : AV} {K : AV → Prop} (h : ariR o x y K) : binR o x y K := by
  unfold ariR at h
  split at h
  · rename_i k a k' b
    obtain ⟨h0, h⟩ := h
    refine ⟨by rcases h0 with rfl | h0
               · exact .inl rfl
               · cases o <;> simp_all [isShift], ?_⟩
    unfold ari2 at h
    split at h <;> simp only [binI] <;> first
      | (obtain ⟨c, rfl, h⟩ := h; exact h)
      | (obtain ⟨h1, c, rfl, h⟩ := h; exact ⟨h1, h⟩)
      | exact h.elim
  · exact h.elim

theorem ev_ari {d : Nat} {o : BinOp} {x y : Opd} {l : List Ins} (ho : isCmp o = false)
    (h : ∀ K' : List AV → List Blk → Prop, (∀ D H, ev G R l D H K → K' D H) → ariR o (get G D x) (get G D y) (fun r => K' (D.set d r) H)) : ev G R (.d d (.bin o x y) :: l) D H K :=
  ev_cons (fun K' hK => ariR_ok (h K' hK))

theorem ev_arig {s : Nat} {b : Bool} {d : Nat} {o : BinOp} {x y : Opd} {l : List Ins} (ho : isCmp o = false)
    (h : ∀ K' : List AV → List Blk → Prop, (∀ D H, ev G R l D H K → K' D H) → asG (D.getD s .any) b fun v => (v = b → ariR o (get G D x) (get G D y) (fun r => K' (D.set d r) H)) ∧ (v ≠ b → K' (D.set d (.tup [])) H)) : ev G R (.gd s b d (.bin o x y) :: l) D H K := by
  refine ev_cons (fun K' hK => ?_)
  have := h K' hK
  simp only [ev1]
  exact asG_mono (fun v hv => ⟨fun e => ariR_ok (hv.1 e), hv.2⟩) this

theorem ev_conv {d : Nat} {k : IntKind} {x : Opd} {l : List Ins}
    (h : ∀ K' : List AV → List Blk → Prop, (∀ D H, ev G R l D H K → K' D H) → asI (get G D x) fun n => ∃ c, c = k.wrap n ∧ K' (D.set d (.p (.int k c))) H) : ev G R (.d d (.conv k x) :: l) D H K := by
  refine ev_cons (fun K' hK => ?_)
  have := h K' hK
  simp only [ev1, ev0]
  unfold asI at this ⊢
  split
  · rename_i n hn
    rw [hn] at this
    obtain ⟨c, rfl, h⟩ := this
    exact h
  · rename_i hn
    split at this
    · rename_i v hv; exact absurd hv (hn _ v)
    · exact this

theorem quo_i64 {a b : Int} (h : 0 ≤ a ∧ 0 < b ∧ a ≤ 9223372036854775807) : IntKind.wrap .i64 (a.tdiv b) = a / b := by
  rw [Int.tdiv_eq_ediv_of_nonneg h.1]
  apply wrap_i64
  have h1 := Int.ediv_nonneg h.1 (Int.le_of_lt h.2.1)
  have h2 := Int.ediv_le_self b h.1
  omega
theorem quo_u8 {a b : Int} (h : 0 ≤ a ∧ 0 < b ∧ a ≤ 255) : IntKind.wrap .u8 (a.tdiv b) = a / b := by
  rw [Int.tdiv_eq_ediv_of_nonneg h.1]
  apply wrap_u8
  have h1 := Int.ediv_nonneg h.1 (Int.le_of_lt h.2.1)
  have h2 := Int.ediv_le_self b h.1
  omega
theorem rem_nn {a b : Int} (h : 0 ≤ a) : a.tmod b = a % b := Int.tmod_eq_emod_of_nonneg h

theorem ev_mv {d : Nat} {x : Opd} {l : List Ins} (h : ∀ K' : List AV → List Blk → Prop, (∀ D H, ev G R l D H K → K' D H) → K' (D.set d (get G D x)) H) : ev G R (.d d (.mv x) :: l) D H K :=
  ev_cons (fun K' hK => h K' hK)
theorem ev_pick {d : Nat} {c x y : Opd} {b : Bool} {l : List Ins} (hc : get G D c = .p (.bool b)) (h : ev G R (.d d (.mv (match b with | true => x | false => y)) :: l) D H K) : ev G R (.d d (.pick c x y) :: l) D H K := by
  simp only [ev, ev1, ev0, hc, asB] at h ⊢
  cases b <;> exact h
theorem ev_gtake {s : Nat} {b : Bool} {d : Nat} {i : I} {l : List Ins} (hs : D.getD s .any = .p (.bool b)) (h : ev G R (.d d i :: l) D H K) : ev G R (.gd s b d i :: l) D H K := by
  simp only [ev, ev1, hs, asG, ne_eq, not_true_eq_false, false_imp_iff, forall_const, and_true] at h ⊢
  exact h
theorem ev_gskip {s : Nat} {b v : Bool} {d : Nat} {i : I} {l : List Ins} {D' : List AV} (hs : D.getD s .any = .p (.bool v)) (hv : v ≠ b) (hD : D.set d (.tup []) = D') (h : ev G R l D' H K) : ev G R (.gd s b d i :: l) D H K := by
  subst hD
  simp only [ev, ev1, hs, asG]
  exact ⟨fun e => absurd e hv, fun _ => h⟩
theorem ev_gskipU {s : Nat} {b : Bool} {d : Nat} {i : I} {l : List Ins} {D' : List AV} (hs : D.getD s .any = .tup []) (hD : D.set d (.tup []) = D') (h : ev G R l D' H K) : ev G R (.gd s b d i :: l) D H K := by
  subst hD
  simp only [ev, ev1, hs, asG]
  exact ⟨fun e => (by cases b <;> cases e), fun _ => h⟩
theorem ev_gnskipU {s : Nat} {b : Bool} {i : I} {l : List Ins} (hs : D.getD s .any = .tup []) (h : ev G R l D H K) : ev G R (.gn s b i :: l) D H K := by
  simp only [ev, ev1, hs, asG]
  exact ⟨fun e => (by cases b <;> cases e), fun _ => h⟩
theorem ev_gntake {s : Nat} {b : Bool} {i : I} {l : List Ins} (hs : D.getD s .any = .p (.bool b)) (h : ev G R (.n i :: l) D H K) : ev G R (.gn s b i :: l) D H K := by
  simp only [ev, ev1, hs, asG, ne_eq, not_true_eq_false, false_imp_iff, forall_const, and_true] at h ⊢
  exact h
theorem ev_gnskip {s : Nat} {b v : Bool} {i : I} {l : List Ins} (hs : D.getD s .any = .p (.bool v)) (hv : v ≠ b) (h : ev G R l D H K) : ev G R (.gn s b i :: l) D H K := by
  simp only [ev, ev1, hs, asG]
  exact ⟨fun e => absurd e hv, fun _ => h⟩

theorem evR_nil {D : List AV} {H : List Blk} (h : K D H) : evR G R [] D H K := h
theorem evR_one {x : Ins} {qs : List Ins} {l : List (Ins × List Ins)} (h : ev G R [x] D H (fun D H => rchk G qs D H ∧ evR G R l D H K)) : evR G R ((x, qs) :: l) D H K := h
theorem evR_chk {qs : List Ins} {l : List (Ins × List Ins)} (h1 : rchk G qs D H) (h2 : evR G R l D H K) : rchk G qs D H ∧ evR G R l D H K := ⟨h1, h2⟩

def ov (D : List AV) : List Nat → List AV
  | [] => D
  | i :: r => ov (D.set i .any) r
def ups (D : List AV) : List (Nat × AV) → List AV
  | [] => D
  | (i, v) :: r => ups (D.set i v) r

theorem T_norm {c : C} {D' : List AV} (hD : D = D') (h : T P G E0 c Q D' H) : T P G E0 c Q D H := by rw [hD]; exact h

theorem T_loopS {α : Type} {x : C} (ws : List Nat) (v : α → List (Nat × AV)) (Hf : α → List Blk) (I : α → Prop) (μ : α → Nat) (x0 : α) (h0 : I x0) (hs : wk D (ups (ov D ws) (v x0))) (hH : H = Hf x0)
    (round : ∀ y, I y → ∀ N : List AV → List Blk → Prop, (∀ D' H' z, I z → μ z < μ y → wk D' (ups (ov D ws) (v z)) → H' = Hf z → N D' H') → T P G E0 x (thn N Q) (ups (ov D ws) (v y)) (Hf y)) : T P G E0 (.loop x) Q D H := by
  subst hH
  refine T_loop (fun y => ups (ov D ws) (v y)) Hf I μ x0 h0 (Sub.slots hs) (fun y hy N hN => round y hy N (fun D' H' z h1 h2 h3 h4 => ?_))
  subst h4
  exact hN D' (Hf z) z h1 h2 (Sub.slots h3)

theorem T_loopB {α : Type} {x : C} (ws : List Nat) (v : α → List (Nat × AV)) (Hf : α → List Blk) (I : α → Prop) (μ : α → Nat) (x0 : α) (h0 : I x0) (hs : Sub G E0 D H (ups (ov D ws) (v x0)) (Hf x0))
    (round : ∀ y, I y → ∀ N : List AV → List Blk → Prop, (∀ D' H' z, I z → μ z < μ y → Sub G E0 D' H' (ups (ov D ws) (v z)) (Hf z) → N D' H') → T P G E0 x (thn N Q) (ups (ov D ws) (v y)) (Hf y)) : T P G E0 (.loop x) Q D H :=
  T_loop (fun y => ups (ov D ws) (v y)) Hf I μ x0 h0 hs round

end
end Go.Ae
end

section
set_option linter.unusedSectionVars false
set_option linter.unusedSimpArgs false
set_option linter.unusedVariables false
namespace Go.Ae

def mapO {α β : Type} (f : α → Option β) : List α → Option (List β)
  | [] => some []
  | x :: r => match f x, mapO f r with
    | some y, some l => some (y :: l)
    | _, _ => none

theorem mapO_some {α β : Type} {f : α → Option β} : ∀ {l : List α} {m : List β}, mapO f l = some m → m.length = l.length ∧ ∀ (i : Nat) (y : β), m[i]? = some y → ∃ x, l[i]? = some x ∧ f x = some y
  | [], m, h => by cases h; exact ⟨rfl, fun i y hy => by simp at hy⟩
  | x :: r, m, h => by
    simp only [mapO] at h
    split at h
    · rename_i y l h1 h2
      cases h
      obtain ⟨h3, h4⟩ := mapO_some h2
      refine ⟨by simp [h3], fun i z hz => ?_⟩
      cases i with
      | zero => simp at hz; subst hz; exact ⟨x, by simp, h1⟩
      | succ i => simpa using h4 i z (by simpa using hz)
    · cases h

theorem mapO_map {α β : Type} {f : α → Option β} {g : β → α} (h : ∀ x, f (g x) = some x) : ∀ l : List β, mapO f (l.map g) = some l
  | [] => rfl
  | x :: r => by simp only [List.map_cons, mapO, h x, mapO_map h r]

def frozP : Nat → List Blk → AV → Option PV
  | 0, _, _ => none
  | n + 1, H, x => match x with
    | .p x => some x
    | .agg cs => (mapO (frozP n H) cs).map .agg
    | .ow loc off len => match H[loc]? with
      | some (.row sz es) => if off + len = es.length then (mapO (frozP n H) (es.drop off)).map (.sl sz ·) else none
      | _ => none
    | .bs loc off len => match H[loc]? with
      | some (.box cs) => if off + len ≤ cs.length then (mapO (frozP n H) ((cs.drop off).take len)).map (.sl 1 ·) else none
      | _ => none
    | _ => none

theorem frozP_ow {n : Nat} {H : List Blk} {loc len sz : Nat} {ps : List PV} (hH : H[loc]? = some (.row sz (ps.map .p))) (hl : len = ps.length) : frozP (n + 2) H (.ow loc 0 len) = some (.sl sz ps) := by
  subst hl
  have : ∀ l : List PV, mapO (frozP (n + 1) H) (l.map .p) = some l := mapO_map (fun x => rfl)
  unfold frozP
  simp only [hH, List.length_map, Nat.zero_add, if_true, List.drop_zero, this, Option.map_some]

def frozR (n : Nat) (H : List Blk) (x : AV) : Option AV :=
  match x with
  | .tup vs => (mapO (frozP n H) vs).map fun ps => .tup (ps.map .p)
  | x => (frozP n H x).map .p

theorem frozP_len {n : Nat} {H : List Blk} {x : AV} {p : PV} (h : frozP n H x = some p) : p.cells.length = x.cells.length := by
  cases n with
  | zero => cases h
  | succ n =>
    unfold frozP at h
    split at h
    · cases h
      rename_i x
      cases p <;> simp [PV.cells, AV.cells]
    · rename_i cs
      rw [Option.map_eq_some_iff] at h
      obtain ⟨l, h1, rfl⟩ := h
      simp [PV.cells, AV.cells, (mapO_some h1).1]
    · split at h
      · split at h
        · rw [Option.map_eq_some_iff] at h
          obtain ⟨l, h1, rfl⟩ := h
          simp [PV.cells, AV.cells]
        · cases h
      · cases h
    · split at h
      · split at h
        · rw [Option.map_eq_some_iff] at h
          obtain ⟨l, h1, rfl⟩ := h
          simp [PV.cells, AV.cells]
        · cases h
      · cases h
    · cases h

section
variable {P : Program} {G : Globals} {E : Env}

theorem PConc.loose {x : PV} {v : Value} (h : PConc E.w E.Own x v) : PConc E.w E.X x v :=
  h.mono (Nat.le_refl _) (fun b hb ho => ⟨rfl, fun hx => ho (.inr hx)⟩)

theorem froz_cell {n : Nat} (ih1 : ∀ x p v, frozP n E.H x = some p → Conc E x v → PConc E.w E.X p v) (ih0 : ∀ m, n = m + 1 → ∀ x p v, frozP m E.H x = some p → Conc E x v → PConc E.w E.X p v)
    {e : AV} {p : PV} (h : frozP n E.H e = some p) (j : Nat) (y : PV) (hy : p.cells[j]? = some y) (v : Value) (hc : ∀ x, e.cells[j]? = some x → Conc E x v) : PConc E.w E.X y v := by
  have h0 := h
  cases n with
  | zero => cases h
  | succ n =>
    unfold frozP at h
    split at h
    · rename_i x
      cases h
      have hx : (AV.p p).cells[j]? = some (.p y) := by
        cases p with
        | agg cs => simp only [PV.cells] at hy; simp [AV.cells, hy]
        | _ =>
          simp only [PV.cells] at hy
          cases j with
          | zero => simp at hy; subst hy; simp [AV.cells]
          | succ j => simp at hy
      have := hc _ hx
      cases this with
      | p h => exact h.loose
    · rename_i cs
      rw [Option.map_eq_some_iff] at h
      obtain ⟨l, h1, rfl⟩ := h
      simp only [PV.cells] at hy
      obtain ⟨x, hx, hf⟩ := (mapO_some h1).2 j y hy
      exact ih0 n rfl x y v hf (hc x (by simpa [AV.cells] using hx))
    · rename_i loc off len
      have hp : p.cells = [p] := by
        split at h
        · split at h
          · rw [Option.map_eq_some_iff] at h
            obtain ⟨l, h1, rfl⟩ := h
            rfl
          · cases h
        · cases h
      rw [hp] at hy
      cases j with
      | zero => simp at hy; subst hy; exact ih1 _ _ v h0 (hc _ (by simp [AV.cells]))
      | succ j => simp at hy
    · rename_i loc off len
      have hp : p.cells = [p] := by
        split at h
        · split at h
          · rw [Option.map_eq_some_iff] at h
            obtain ⟨l, h1, rfl⟩ := h
            rfl
          · cases h
        · cases h
      rw [hp] at hy
      cases j with
      | zero => simp at hy; subst hy; exact ih1 _ _ v h0 (hc _ (by simp [AV.cells]))
      | succ j => simp at hy
    · cases h

theorem froz_conc (hS : Sim G E) : ∀ (n : Nat) (x : AV) (p : PV) (v : Value), frozP n E.H x = some p → Conc E x v → PConc E.w E.X p v := by
  intro n
  induction n using Nat.strongRecOn with
  | _ n ih =>
  intro x p v h hc
  cases n with
  | zero => cases h
  | succ n =>
    have ihn := ih n (by omega)
    have ihm : ∀ m, n = m + 1 → ∀ x p v, frozP m E.H x = some p → Conc E x v → PConc E.w E.X p v := fun m hm => ih m (by omega)
    unfold frozP at h
    split at h
    · cases h
      cases hc with
      | p h => exact h.loose
    · rename_i cs
      rw [Option.map_eq_some_iff] at h
      obtain ⟨l, h1, rfl⟩ := h
      cases hc with
      | agg hl hcell hh =>
        obtain ⟨h2, h3⟩ := mapO_some h1
        refine .agg (by omega) hcell (fun i y v hy hv => ?_)
        obtain ⟨x, hx, hf⟩ := h3 i y hy
        exact ihn x y v hf (hh i x v hx hv)
    · rename_i loc off len
      split at h
      · rename_i sz es hH
        split at h
        · rename_i hlen
          rw [Option.map_eq_some_iff] at h
          obtain ⟨l, h1, rfl⟩ := h
          obtain ⟨h2, h3⟩ := mapO_some h1
          rw [List.length_drop] at h2
          cases hc with
          | owE hH' =>
            rw [hH] at hH'
            cases hH'
            have : l = [] := List.eq_nil_of_length_eq_zero (by simpa using h2)
            subst this
            exact .sl0
          | ow0 hH' hne ho =>
            have : l = [] := List.eq_nil_of_length_eq_zero (by omega)
            subst this
            exact .sl0
          | @ow _ _ _ cap sz' es' c T fr hH' hl h0 hcap hw hcs =>
            rw [hH] at hH'
            cases hH'
            have hne : es ≠ [] := by intro e; subst e; simp at hl; omega
            obtain ⟨c', T', hw', hrow⟩ := hS.row loc sz es hH hne
            rw [hw] at hw'
            cases hw'
            have hown : E.OwnL (E.ι loc) := ⟨loc, rfl, .inr ⟨sz, es, hH, hne⟩⟩
            have hlt : E.ι loc < E.w.heap.size := (Array.getElem?_eq_some_iff.1 hw).1
            have hel : ∀ i, i < l.length → ∃ e y, es[off + i]? = some e ∧ l[i]? = some y ∧ frozP n E.H e = some y := by
              intro i hi
              obtain ⟨x, hx, hf⟩ := h3 i _ (List.getElem?_eq_getElem hi)
              rw [List.getElem?_drop] at hx
              exact ⟨x, _, hx, List.getElem?_eq_getElem hi, hf⟩
            have hll : l.length = len := by omega
            have key := PConc.sl (w := E.w) (O := E.X) (sz := sz) (es := l) (a := ⟨E.ι loc, off * sz, none⟩) (cap := cap) (fun i j => (c[(off + i) * sz + j]?).getD undef)
              (by intro e; subst e; simp at hll; omega) rfl hlt (fun hx => (hS.ext _ hx).2 hown) (by omega)
              (fun i y hy => by
                have hi : i < l.length := (List.getElem?_eq_some_iff.1 hy).1
                obtain ⟨e, y', he, hy', hf⟩ := hel i hi
                rw [hy] at hy'
                cases hy'
                rw [frozP_len hf]
                exact (hrow _ _ he).1)
              (fun i y j hy hj => by
                have hi : i < l.length := (List.getElem?_eq_some_iff.1 hy).1
                obtain ⟨e, y', he, hy', hf⟩ := hel i hi
                obtain ⟨g1, g2⟩ := hrow _ _ he
                obtain ⟨u, hu, _⟩ := g2 j _ (List.getElem?_eq_getElem (by omega : j < e.cells.length))
                have e1 : off * sz + i * sz + j = (off + i) * sz + j := by rw [Nat.add_mul]
                simp only [World.cell?, hw, e1, hu, Option.getD_some]; rfl)
              (fun i y j hy hj => by
                have hi : i < l.length := (List.getElem?_eq_some_iff.1 hy).1
                obtain ⟨e, y', he, hy', hf⟩ := hel i hi
                obtain ⟨g1, g2⟩ := hrow _ _ he
                obtain ⟨u, hu, hcell, _⟩ := g2 j _ (List.getElem?_eq_getElem (by omega : j < e.cells.length))
                rw [hu]
                exact hcell)
              (fun i y j z hy hz => by
                have hi : i < l.length := (List.getElem?_eq_some_iff.1 hy).1
                obtain ⟨e, y', he, hy', hf⟩ := hel i hi
                rw [hy] at hy'
                cases hy'
                obtain ⟨g1, g2⟩ := hrow _ _ he
                refine froz_cell ihn ihm hf j z hz _ (fun x hx => ?_)
                obtain ⟨u, hu, _, hcc⟩ := g2 j _ hx
                rw [hu]
                exact hcc)
            rw [hll] at key
            exact key
          | owS hl' hH' hv =>
            have := hH' sz es hH
            omega
        · cases h
      · cases h
    · rename_i loc off len
      split at h
      · rename_i cs hH
        split at h
        · rename_i hlen
          rw [Option.map_eq_some_iff] at h
          obtain ⟨l, h1, rfl⟩ := h
          obtain ⟨h2, h3⟩ := mapO_some h1
          rw [List.length_take, List.length_drop] at h2
          cases hc with
          | bs0 hH' hl =>
            have : l = [] := List.eq_nil_of_length_eq_zero (by omega)
            subst this
            exact .sl0
          | @bs _ _ _ cap cs' hH' hl h0 hcap =>
            rw [hH] at hH'
            cases hH'
            obtain ⟨c, T, hw, hrow⟩ := hS.box loc cs hH
            have hown : E.OwnL (E.ι loc) := ⟨loc, rfl, .inl ⟨cs, hH⟩⟩
            have hlt : E.ι loc < E.w.heap.size := (Array.getElem?_eq_some_iff.1 hw).1
            have hll : l.length = len := by omega
            have hel : ∀ i, i < l.length → ∃ e y, cs[off + i]? = some e ∧ l[i]? = some y ∧ frozP n E.H e = some y := by
              intro i hi
              obtain ⟨x, hx, hf⟩ := h3 i _ (List.getElem?_eq_getElem hi)
              rw [List.getElem?_take_of_lt (by omega), List.getElem?_drop] at hx
              exact ⟨x, _, hx, List.getElem?_eq_getElem hi, hf⟩
            have hone : ∀ i y, l[i]? = some y → ∃ e u, cs[off + i]? = some e ∧ c[off + i]? = some u ∧ IsCell u ∧ Conc E e u ∧ frozP n E.H e = some y ∧ y.cells = [y] := by
              intro i y hy
              have hi : i < l.length := (List.getElem?_eq_some_iff.1 hy).1
              obtain ⟨e, y', he, hy', hf⟩ := hel i hi
              rw [hy] at hy'
              cases hy'
              obtain ⟨u, hu, hcell, hcc⟩ := hrow _ _ he
              refine ⟨e, u, he, hu, hcell, hcc, hf, ?_⟩
              have := ihn e y u hf hcc
              cases this <;> first | rfl | exact hcell.elim
            have key := PConc.sl (w := E.w) (O := E.X) (sz := 1) (es := l) (a := ⟨E.ι loc, off, none⟩) (cap := cap) (fun i j => (c[off + i]?).getD undef)
              (by intro e; subst e; simp at hll; omega) rfl hlt (fun hx => (hS.ext _ hx).2 hown) (by omega)
              (fun i y hy => by obtain ⟨e, u, _, _, _, _, _, hy1⟩ := hone i y hy; rw [hy1]; rfl)
              (fun i y j hy hj => by
                obtain ⟨e, u, _, hu, _, _, _, hy1⟩ := hone i y hy
                have : j = 0 := by omega
                subst this
                have e1 : off + i * 1 + 0 = off + i := by omega
                simp only [World.cell?, hw, e1, hu, Option.getD_some]; rfl)
              (fun i y j hy hj => by
                obtain ⟨e, u, _, hu, hcell, _, _, hy1⟩ := hone i y hy
                rw [hu]
                exact hcell)
              (fun i y j z hy hz => by
                obtain ⟨e, u, _, hu, hcell, hcc, hf, hy1⟩ := hone i y hy
                rw [hy1] at hz
                cases j with
                | zero => simp at hz; subst hz; rw [hu]; exact ihn _ _ _ hf hcc
                | succ j => simp at hz)
            rw [hll] at key
            exact key
          | bsS hl' hH' hv => exact absurd hH (hH' cs)
        · cases h
      · cases h
    · cases h

def e0Sl : List AV → List AV → Prop
  | [], [] => True
  | x :: r, y :: s => (y = x ∨ x = .p .e0 ∧ ∃ sz, y = .p (.sl sz [])) ∧ e0Sl r s
  | _, _ => False

def e0R (x y : AV) : Prop :=
  match x, y with
  | .tup vs, .tup us => e0Sl vs us
  | x, y => y = x ∨ x = .p .e0 ∧ ∃ sz, y = .p (.sl sz [])

theorem Conc.e0 {E : Env} {x y : AV} {v : Value} (hc : Conc E x v) (h : y = x ∨ x = .p .e0 ∧ ∃ sz, y = .p (.sl sz [])) : Conc E y v := by
  rcases h with rfl | ⟨rfl, sz, rfl⟩
  · exact hc
  · cases hc with
    | p h => cases h; exact .p .sl0

theorem e0Sl_ok {E : Env} : ∀ {xs ys : List AV}, e0Sl xs ys → ys.length = xs.length ∧ ((cloL xs = true) → cloL ys = true) ∧ ∀ (i : Nat) (y : AV), ys[i]? = some y → ∃ x, xs[i]? = some x ∧ ∀ v, Conc E x v → Conc E y v
  | [], [], _ => ⟨rfl, fun h => h, fun i y h => by simp at h⟩
  | x :: r, y :: s, ⟨h1, h2⟩ => by
    obtain ⟨g1, g2, g3⟩ := e0Sl_ok (E := E) h2
    refine ⟨by simp [g1], fun h => ?_, fun i z hz => ?_⟩
    · simp only [cloL, Bool.and_eq_true] at h ⊢
      refine ⟨?_, g2 h.2⟩
      rcases h1 with rfl | ⟨rfl, sz, rfl⟩
      · exact h.1
      · rfl
    · cases i with
      | zero => simp at hz; subst hz; exact ⟨x, by simp, fun v hc => hc.e0 h1⟩
      | succ i => simpa using g3 i z (by simpa using hz)
  | [], _ :: _, h => h.elim
  | _ :: _, [], h => h.elim

theorem e0R_ok {E : Env} {x y : AV} {v : Value} (h : e0R x y) (hc : Conc E x v) (hb : cloB x = true) : Conc E y v ∧ cloB y = true := by
  unfold e0R at h
  split at h
  · rename_i vs us
    obtain ⟨g1, g2, g3⟩ := e0Sl_ok (E := E) h
    refine ⟨?_, g2 hb⟩
    cases hc with
    | tup hl hh =>
      refine .tup (by omega) (fun i y v hy hv => ?_)
      obtain ⟨x, hx, hk⟩ := g3 i y hy
      exact hk v (hh i x v hx hv)
  · refine ⟨hc.e0 h, ?_⟩
    rcases h with rfl | ⟨rfl, sz, rfl⟩
    · exact hb
    · rfl

theorem e0R_refl (x : AV) : e0R x x := by
  have : ∀ l : List AV, e0Sl l l := by
    intro l
    induction l with
    | nil => trivial
    | cons a r ih => exact ⟨.inl rfl, ih⟩
  cases x with
  | tup vs => exact this vs
  | _ => exact .inl rfl

theorem FCall.frozen (hG : GOK G) (n : Nat) {f : Nat} {args : List AV} {R : AV → Prop} (h : FCall P G f args [] (fun r H => ∃ p q, frozR n H r = some p ∧ e0R p q ∧ R q)) : Pure P G f args R := by
  refine ⟨h.1, fun E vs hE hS hargs => Calls.mono (h.2 E vs hE hS hargs) ?_⟩
  rintro e w ⟨E', x, v, rfl, rfl, hle, hS', hc, p, q, hf, hpq, hr⟩
  have s := sees_none E'
  have up : ∀ {q : PV} {u : Value}, PConc E'.w E'.X q u → Conc ⟨E'.w, E'.ι, [], E'.X⟩ (.p q) u := fun h =>
    .p (h.mono (Nat.le_refl _) (fun b hb ho => ⟨rfl, fun hx => by
      rcases hx with ⟨i, _, hx⟩ | hx
      · rcases hx with ⟨cs, h⟩ | ⟨sz, es, h, _⟩ <;> cases h
      · exact ho hx⟩))
  have main : Conc ⟨E'.w, E'.ι, [], E'.X⟩ p v ∧ cloB p = true := by
    unfold frozR at hf
    split at hf
    · rename_i vs'
      rw [Option.map_eq_some_iff] at hf
      obtain ⟨ps, h1, rfl⟩ := hf
      obtain ⟨h2, h3⟩ := mapO_some h1
      cases hc with
      | tup hl hh =>
        refine ⟨.tup (by simp; omega) (fun i y v hy hv => ?_), ?_⟩
        · rw [List.getElem?_map] at hy
          cases hpi : ps[i]? with
          | none => rw [hpi] at hy; cases hy
          | some q =>
            rw [hpi] at hy
            cases hy
            obtain ⟨x, hx, hf⟩ := h3 i q hpi
            exact up (froz_conc hS' n x q v hf (hh i x v hx hv))
        · have : ∀ l : List PV, cloL (l.map .p) = true := by intro l; induction l with
            | nil => rfl
            | cons a r ih => simp only [List.map_cons, cloL, cloB, ih, Bool.and_self]
          exact this ps
    · rw [Option.map_eq_some_iff] at hf
      obtain ⟨q, h1, rfl⟩ := hf
      exact ⟨up (froz_conc hS' n x q v h1 hc), rfl⟩
  have main' := e0R_ok hpq main.1 main.2
  refine ⟨⟨E'.w, E'.ι, [], E'.X⟩, q, v, rfl, rfl, ?_, s.sim hG hS', main'.1, main'.2, hr⟩
  exact {
    keep := hle.keep
    size := hle.size
    imm := fun b hb ho => ⟨(hle.imm b hb ho).1, fun ⟨i, hi⟩ => by
      obtain ⟨_, h⟩ := hi
      rcases h with ⟨cs, h⟩ | ⟨sz, es, h, _⟩ <;> cases h⟩
    ext := hle.ext
    len := by rw [hE]; exact Nat.le_refl _
    box := fun loc cs hl => by rw [hE] at hl; cases hl
    row := fun loc sz es hl => by rw [hE] at hl; cases hl }

end

theorem Sub.drop' {G : Globals} (hG : GOK G) {E0 : Env} {D D2 : List AV} {H H2 : List Blk} (n : Nat) (h0 : E0.H.length ≤ n) (hn : n ≤ H.length) (hH : H.take n = H2) (hb : H2.all (belowK n) = true) (hw : wk D D2) (hd : belowL n D2 = true) : Sub G E0 D H D2 H2 := by
  subst hH
  exact Sub.drop hG h0 hn hb hw hd

theorem belowL_p (n : Nat) (l : List PV) : belowL n (l.map .p) = true := by
  induction l with
  | nil => rfl
  | cons a r ih => simp [belowL, belowB, ih]

theorem below_rowp (n sz : Nat) (l : List PV) : belowK n (.row sz (l.map .p)) = true := by
  simp only [belowK]
  induction l with
  | nil => rfl
  | cons a r ih => simp [belowL, belowB, ih]

def finR (res : List Res) (K : AV → List Blk → Prop) : X → List AV → List Blk → Prop
  | .normal => fun D H => resR res D H (fun r => K r H)
  | .ret => fun D H => resR res D H (fun r => K r H)
  | _ => fun _ _ => False

theorem finR_ret {res : List Res} {K : AV → List Blk → Prop} {D H} (h : resR res D H (fun r => K r H)) : finR res K .ret D H := h
theorem finR_nrm {res : List Res} {K : AV → List Blk → Prop} {D H} (h : resR res D H (fun r => K r H)) : finR res K .normal D H := h

theorem walkS {P : Program} {G : Globals} {f : Nat} {fn : Func} {n : Nat} {res : List Res} {body : C} {args : List AV} {H : List Blk} {K : AV → List Blk → Prop} (hf : P.funcs[f]? = some fn) (ht : trF P fn = some ⟨n, res, body⟩)
    (h : ∀ E0 : Env, E0.H.length = H.length → T P G E0 body (finR res K) (args ++ List.replicate (n - args.length) .any) H) : FCall P G f args H K :=
  FCall_of_T hf ht (fun E0 h0 => (h E0 (by rw [h0])).mono (fun x D H hx => by cases x <;> exact hx))

end Go.Ae
end

section
set_option linter.unusedSectionVars false
set_option linter.unusedSimpArgs false
set_option linter.unusedVariables false
namespace Go.Ae

def one0 (l n : Nat) (i : Nat) : Nat := if i = 0 then l else n + i

section
variable {P : Program} {G : Globals}

theorem renL_p (f : Nat → Nat) (l : List PV) : (l.map AV.p).map (ren f) = l.map AV.p := by
  rw [List.map_map]
  apply List.map_congr_left
  intro a _
  rfl

theorem sees_one {E : Env} {l sz : Nat} {es : List PV} (hl : E.H[l]? = some (.row sz (es.map .p))) : Sees E ⟨E.w, fun i => E.ι (one0 l E.H.length i), [.row sz (es.map .p)], E.X⟩ (one0 l E.H.length) where
  w := rfl
  ι := fun i hi => rfl
  inj := fun i j hi hj h => by simp at hi hj; omega
  lt := fun i hi => by
    unfold one0 at hi
    split at hi
    · simp; omega
    · omega
  H := fun i b h => by
    cases i with
    | zero =>
      simp only [List.getElem?_cons_zero, Option.some.injEq] at h
      subst h
      simp only [one0, if_true, renB, renL_p, hl]
    | succ i => simp at h
  X := fun b h => .inl h

theorem FCall.own1 (hG : GOK G) {f : Nat} {args : List AV} {sz : Nat} {es : List PV} {r2 : AV}
    (h : FCall P G f args [] (fun r H => ∃ l, H[l]? = some (.row sz (es.map .p)) ∧ r = ren (one0 l H.length) r2)) : FCall P G f args [] (fun r H => H = [.row sz (es.map .p)] ∧ r = r2) := by
  refine ⟨h.1, fun E vs hE hS hargs => Calls.mono (h.2 E vs hE hS hargs) ?_⟩
  rintro e w ⟨E', x, v, rfl, rfl, hle, hS', hc, l, hl, hr⟩
  have s := sees_one hl
  refine ⟨_, r2, v, rfl, ?_, ?_, s.sim hG hS', s.conc hc r2 hr, rfl, rfl⟩
  · rfl
  · exact {
      keep := hle.keep
      size := hle.size
      imm := fun b hb ho => ⟨(hle.imm b hb ho).1, fun ⟨i, hi⟩ => (hle.imm b hb ho).2 ⟨_, (s.owns hi).1⟩⟩
      ext := hle.ext
      len := by rw [hE]; exact Nat.zero_le _
      box := fun loc cs hl => by rw [hE] at hl; cases hl
      row := fun loc sz es hl => by rw [hE] at hl; cases hl }

def tabL : List (Nat × Fun) → Nat → Option Fun
  | [], _ => none
  | (g, F) :: r, f => if f = g then some F else tabL r f

theorem tabL_nil : TabOk P (tabL []) := fun f F h => by cases h

theorem tabL_cons {g : Nat} {F : Fun} {r : List (Nat × Fun)} {fn : Func} (h1 : P.funcs[g]? = some fn) (h2 : trF P fn = some F) (h : TabOk P (tabL r)) : TabOk P (tabL ((g, F) :: r)) := by
  intro f F' hF
  simp only [tabL] at hF
  split at hF
  · rename_i e; subst e; cases hF; exact ⟨fn, h1, h2⟩
  · exact h f F' hF

def orX (A B : CallX) : CallX := fun f as H => match A f as H with
  | some r => some r
  | none => B f as H

theorem orX_ok {A B : CallX} (hA : ∀ f as H r H', A f as H = some (r, H') → ∀ K : AV → List Blk → Prop, K r H' → FCall P G f as H K) (hB : ∀ f as H r H', B f as H = some (r, H') → ∀ K : AV → List Blk → Prop, K r H' → FCall P G f as H K) :
    ∀ f as H r H', orX A B f as H = some (r, H') → ∀ K : AV → List Blk → Prop, K r H' → FCall P G f as H K := by
  intro f as H r H' h
  unfold orX at h
  split at h
  · rename_i r' hr; cases h; exact hA _ _ _ _ _ hr
  · exact hB _ _ _ _ _ h

def tabK (G : Globals) (A : CallX) (tab : Nat → Option Fun) (fuel : Nat) : Nat → CallX
  | 0 => A
  | n + 1 => orX A fun f as H => match tab f with
    | some F => runH G (tabK G A tab fuel n) fuel F as H
    | none => none

theorem tabK_ok (hG : GOK G) (hm : P.follows .mixedOrders = true) {A : CallX} {tab : Nat → Option Fun} (hA : ∀ f as H r H', A f as H = some (r, H') → ∀ K : AV → List Blk → Prop, K r H' → FCall P G f as H K) (ht : TabOk P tab) (fuel : Nat) :
    ∀ n f as H r H', tabK G A tab fuel n f as H = some (r, H') → ∀ K : AV → List Blk → Prop, K r H' → FCall P G f as H K := by
  intro n
  induction n with
  | zero => exact hA
  | succ n ih =>
    refine orX_ok hA (fun f as H r H' h => ?_)
    split at h
    · rename_i F hF
      obtain ⟨fn, h1, h2⟩ := ht f F hF
      intro K hk
      exact runH_ok hG ih hm h1 h2 h hk
    · cases h

end

def intsA : List AV → Option (List Int)
  | [] => some []
  | .p (.int .i64 n) :: r => (intsA r).map (n :: ·)
  | _ => none

theorem intsA_ok : ∀ {l : List AV} {m : List Int}, intsA l = some m → l = (m.map (PV.int .i64)).map .p
  | [], m, h => by cases h; rfl
  | .p (.int .i64 n) :: r, m, h => by
    simp only [intsA, Option.map_eq_some_iff] at h
    obtain ⟨k, h1, rfl⟩ := h
    rw [intsA_ok h1]
    rfl

end Go.Ae
end

section
set_option linter.unusedSectionVars false
set_option linter.unusedSimpArgs false
set_option linter.unusedVariables false
namespace Go.Ae

mutual
def looseP : PV → PV → Prop
  | .e0, .sl _ es => es = []
  | .agg cs, .agg ds => looseL cs ds
  | .sl s es, .sl t fs => s = t ∧ looseL es fs
  | x, y => x = y
def looseL : List PV → List PV → Prop
  | [], [] => True
  | x :: r, y :: s => looseP x y ∧ looseL r s
  | _, _ => False
end

mutual
theorem looseP_refl : ∀ x : PV, looseP x x
  | .e0 => by simp only [looseP]
  | .agg cs => by simp only [looseP]; exact looseL_refl cs
  | .sl s es => by simp only [looseP]; exact ⟨trivial, looseL_refl es⟩
  | .int _ _ => by simp only [looseP]
  | .bool _ => by simp only [looseP]
  | .str _ => by simp only [looseP]
  | .nilp => by simp only [looseP]
  | .nilf => by simp only [looseP]
theorem looseL_refl : ∀ l : List PV, looseL l l
  | [] => by simp only [looseL]
  | x :: r => by simp only [looseL]; exact ⟨looseP_refl x, looseL_refl r⟩
end

theorem looseP_self (x : PV) : looseP x x = True := eq_true (looseP_refl x)
theorem looseL_self (l : List PV) : looseL l l = True := eq_true (looseL_refl l)

theorem looseL_get : ∀ {xs ys : List PV}, looseL xs ys → ys.length = xs.length ∧ ∀ (i : Nat) (y : PV), ys[i]? = some y → ∃ x, xs[i]? = some x ∧ looseP x y
  | [], [], _ => ⟨rfl, fun i y h => by simp at h⟩
  | x :: r, y :: s, h => by
    simp only [looseL] at h
    obtain ⟨h1, h2⟩ := h
    obtain ⟨g1, g3⟩ := looseL_get h2
    refine ⟨by simp [g1], fun i z hz => ?_⟩
    cases i with
    | zero => simp at hz; subst hz; exact ⟨x, by simp, h1⟩
    | succ i => simpa using g3 i z (by simpa using hz)
  | [], _ :: _, h => by simp only [looseL] at h
  | _ :: _, [], h => by simp only [looseL] at h

theorem looseP_cells {x y : PV} (h : looseP x y) : looseL x.cells y.cells := by
  unfold looseP at h
  split at h
  · subst h; simp only [PV.cells, looseL, looseP]; trivial
  · exact h
  · obtain ⟨rfl, h⟩ := h
    simp only [PV.cells, looseL, looseP]
    exact ⟨⟨trivial, h⟩, trivial⟩
  · subst h; exact looseL_refl _

theorem PConc.looser {w : World} {O : Nat → Prop} {x : PV} {v : Value} (h : PConc w O x v) : ∀ y, looseP x y → PConc w O y v := by
  induction h with
  | int => intro y h; unfold looseP at h; subst h; exact .int
  | bool => intro y h; unfold looseP at h; subst h; exact .bool
  | str => intro y h; unfold looseP at h; subst h; exact .str
  | nilp => intro y h; unfold looseP at h; subst h; exact .nilp
  | nilf => intro y h; unfold looseP at h; subst h; exact .nilf
  | e0 =>
    intro y h
    cases y <;> simp only [looseP] at h <;> first
      | exact .e0
      | (subst h; exact .sl0)
      | (cases h; done)
  | @agg cs vs hl hc hh ih =>
    intro y h
    cases y <;> simp only [looseP] at h <;> first | (cases h; done) | skip
    rename_i ds
    obtain ⟨h1, h2⟩ := looseL_get h
    refine .agg (by omega) hc (fun i y v hy hv => ?_)
    obtain ⟨x, hx, hxy⟩ := h2 i y hy
    exact ih i x v hx hv y hxy
  | sl0 =>
    intro y h
    cases y <;> simp only [looseP] at h <;> first | (cases h; done) | skip
    rename_i fs
    obtain ⟨rfl, h⟩ := h
    have := (looseL_get h).1
    have : fs = [] := List.eq_nil_of_length_eq_zero (by simpa using this)
    subst this
    exact .sl0
  | @sl sz es a cap vf hne hs hb ho hcap hu hm hc hv ih =>
    intro y h
    cases y <;> simp only [looseP] at h <;> first | (cases h; done) | skip
    rename_i fs
    obtain ⟨rfl, h⟩ := h
    obtain ⟨h1, h2⟩ := looseL_get h
    rw [← h1]
    refine .sl vf (by intro e; subst e; exact hne (List.eq_nil_of_length_eq_zero (by simpa using h1.symm))) hs hb ho (by omega) (fun i f hf => ?_) (fun i f j hf hj => ?_) (fun i f j hf hj => ?_) (fun i f j z hf hz => ?_)
    · obtain ⟨e, he, hef⟩ := h2 i f hf
      rw [(looseL_get (looseP_cells hef)).1, hu i e he]
    · obtain ⟨e, he, hef⟩ := h2 i f hf
      exact hm i e j he hj
    · obtain ⟨e, he, hef⟩ := h2 i f hf
      exact hc i e j he hj
    · obtain ⟨e, he, hef⟩ := h2 i f hf
      obtain ⟨x, hx, hxz⟩ := (looseL_get (looseP_cells hef)).2 j z hz
      exact ih i e j x he hx z hxz

def looseA : AV → AV → Prop
  | .p x, .p y => looseP x y
  | x, y => x = y
def looseAs : List AV → List AV → Prop
  | [], [] => True
  | x :: r, y :: s => looseA x y ∧ looseAs r s
  | _, _ => False

theorem looseA_refl (x : AV) : looseA x x := by
  cases x <;> simp only [looseA]
  exact looseP_refl _

theorem Conc.looser {E : Env} {x y : AV} {v : Value} (h : looseA x y) (hc : Conc E x v) : Conc E y v := by
  unfold looseA at h
  split at h
  · cases hc with
    | p hp => exact .p (hp.looser _ h)
  · subst h; exact hc

theorem looseAs_get : ∀ {xs ys : List AV}, looseAs xs ys → ys.length = xs.length ∧ (cloL xs = true → cloL ys = true) ∧ ∀ (i : Nat) (y : AV), ys[i]? = some y → ∃ x, xs[i]? = some x ∧ looseA x y
  | [], [], _ => ⟨rfl, fun h => h, fun i y h => by simp at h⟩
  | x :: r, y :: s, h => by
    simp only [looseAs] at h
    obtain ⟨h1, h2⟩ := h
    obtain ⟨g1, g2, g3⟩ := looseAs_get h2
    refine ⟨by simp [g1], fun hh => ?_, fun i z hz => ?_⟩
    · simp only [cloL, Bool.and_eq_true] at hh ⊢
      refine ⟨?_, g2 hh.2⟩
      unfold looseA at h1
      split at h1
      · rfl
      · subst h1; exact hh.1
    · cases i with
      | zero => simp at hz; subst hz; exact ⟨x, by simp, h1⟩
      | succ i => simpa using g3 i z (by simpa using hz)
  | [], _ :: _, h => by simp only [looseAs] at h
  | _ :: _, [], h => by simp only [looseAs] at h

def looseR : AV → AV → Prop
  | .tup xs, .tup ys => looseAs xs ys
  | x, y => looseA x y

theorem looseAs_refl : ∀ l, looseAs l l
  | [] => trivial
  | x :: r => ⟨looseA_refl x, looseAs_refl r⟩

theorem looseR_refl (x : AV) : looseR x x := by
  cases x <;> simp only [looseR] <;> first | exact looseA_refl _ | exact looseAs_refl _

theorem Conc.looserR {E : Env} {x y : AV} {v : Value} (h : looseR x y) (hc : Conc E x v) (hb : cloB x = true) : Conc E y v ∧ cloB y = true := by
  unfold looseR at h
  split at h
  · rename_i xs ys
    obtain ⟨g1, g2, g3⟩ := looseAs_get h
    refine ⟨?_, g2 hb⟩
    cases hc with
    | tup hl hh =>
      refine .tup (by omega) (fun i y v hy hv => ?_)
      obtain ⟨x, hx, hk⟩ := g3 i y hy
      exact (hh i x v hx hv).looser hk
  · refine ⟨hc.looser h, ?_⟩
    unfold looseA at h
    split at h
    · rfl
    · subst h; exact hb

section
variable {P : Program} {G : Globals}

theorem FCall.looseArgs {f : Nat} {args args' : List AV} {H : List Blk} {K : AV → List Blk → Prop} (hl : looseAs args args') (h : FCall P G f args' H K) : FCall P G f args H K := by
  refine ⟨h.1, fun E vs hE hS hargs => h.2 E vs hE hS ?_⟩
  obtain ⟨g1, _, g3⟩ := looseAs_get hl
  refine ⟨by rw [g1]; exact hargs.1, fun i y v hy hv => ?_⟩
  obtain ⟨x, hx, hk⟩ := g3 i y hy
  exact (hargs.2 i x v hx hv).looser hk

theorem Pure.loose {f : Nat} {args : List AV} {R : AV → Prop} (h : Pure P G f args (fun r => ∃ q, looseR r q ∧ R q)) : Pure P G f args R := by
  refine ⟨h.1, fun E vs hE hS hargs => Calls.mono (h.2 E vs hE hS hargs) ?_⟩
  rintro e w ⟨E', x, v, rfl, rfl, hle, hS', hc, hb, q, hl, hr⟩
  obtain ⟨h1, h2⟩ := hc.looserR hl hb
  exact ⟨E', q, v, rfl, rfl, hle, hS', h1, h2, hr⟩

theorem FCall.fz (hG : GOK G) (n : Nat) {f : Nat} {args : List AV} {R : AV → Prop} (h : FCall P G f args [] (fun r H => ∃ p q, frozR n H r = some p ∧ looseR p q ∧ R q)) : Pure P G f args R :=
  Pure.loose (FCall.frozen hG n (h.mono (fun r H ⟨p, q, h1, h2, h3⟩ => ⟨p, p, h1, e0R_refl _, q, h2, h3⟩)))

theorem Pure.callL (hG : GOK G) {f : Nat} {args args' : List AV} {R : AV → Prop} (h : Pure P G f args' R) {H : List Blk} {K : AV → List Blk → Prop} (hl : looseAs args args') (ha : cloL args' = true) (hk : ∀ r, R r → K r H) : FCall P G f args H K :=
  FCall.looseArgs hl (Pure.call hG h ha hk)

end
end Go.Ae
end

section
set_option linter.unusedSectionVars false
set_option linter.unusedSimpArgs false
set_option linter.unusedVariables false
namespace Go.Ae

theorem SB : (∀ (α : Type) (x d : α) (l : List α) (n : Nat), (x :: l).getD (n + 1) d = l.getD n d) ∧ (∀ (α : Type) (x d : α) (l : List α), (x :: l).getD 0 d = x) ∧
    (∀ (α : Type) (x y : α) (l : List α) (n : Nat), (x :: l).set (n + 1) y = x :: l.set n y) ∧ (∀ (α : Type) (x y : α) (l : List α), (x :: l).set 0 y = y :: l) ∧
    (∀ (α β : Type) (f : α → β) (x : α) (l : List α), (x :: l).map f = f x :: l.map f) ∧ (∀ (α β : Type) (f : α → β), ([] : List α).map f = []) ∧
    (∀ (α : Type) (x : α) (l : List α), (x :: l).length = l.length + 1) ∧ (∀ (α : Type), ([] : List α).length = 0) ∧
    (∀ (α : Type) (x : α) (l : List α) (n : Nat), (x :: l)[n + 1]? = l[n]?) ∧ (∀ (α : Type) (x : α) (l : List α), (x :: l)[0]? = some x) ∧
    (∀ (α β : Type) (f : β → α → β) (b : β) (x : α) (l : List α), (x :: l).foldl f b = l.foldl f (f b x)) ∧ (∀ (α β : Type) (f : β → α → β) (b : β), ([] : List α).foldl f b = b) ∧
    (∀ (α : Type) (x : α) (n : Nat), List.replicate (n + 1) x = x :: List.replicate n x) ∧ (∀ (α : Type) (x : α), List.replicate 0 x = []) ∧
    (∀ (α : Type) (x : α) (l m : List α), (x :: l) ++ m = x :: (l ++ m)) ∧ (∀ (α : Type) (m : List α), [] ++ m = m) ∧
    (∀ (α : Type) (f : α → Bool) (x : α) (l : List α), (x :: l).all f = (f x && l.all f)) ∧ (∀ (α : Type) (f : α → Bool), ([] : List α).all f = true) ∧
    (∀ (α : Type) (x : α) (l : List α) (n : Nat), (x :: l).drop (n + 1) = l.drop n) ∧ (∀ (α : Type) (l : List α), l.drop 0 = l) ∧
    (∀ (α : Type) (x : α) (l : List α) (n : Nat), (x :: l).take (n + 1) = x :: l.take n) ∧ (∀ (α : Type) (l : List α), l.take 0 = []) ∧
    (∀ (α β : Type) (f : α → β) (x : α), (some x).map f = some (f x)) ∧ (∀ (α β : Type) (f : α → β), (none : Option α).map f = none) ∧ (∀ (α : Type) (x d : α), (some x).getD d = x) :=
  ⟨fun _ _ _ _ _ => rfl, fun _ _ _ _ => rfl, fun _ _ _ _ _ => rfl, fun _ _ _ _ => rfl, fun _ _ _ _ _ => rfl, fun _ _ _ => rfl, fun _ _ _ => rfl, fun _ => rfl, fun _ _ _ _ => rfl, fun _ _ _ => rfl,
    fun _ _ _ _ _ _ => rfl, fun _ _ _ _ => rfl, fun _ _ _ => rfl, fun _ _ => rfl, fun _ _ _ _ => rfl, fun _ _ => rfl, fun _ _ _ _ => rfl, fun _ _ => rfl, fun _ _ _ _ => rfl, fun _ _ => rfl, fun _ _ _ _ => rfl, fun _ _ => rfl,
    fun _ _ _ _ => rfl, fun _ _ _ => rfl, fun _ _ _ => rfl⟩

theorem SC : (∀ b : Bool, (b && true) = b) ∧ (∀ b : Bool, (true && b) = b) ∧ (!true) = false ∧ (!false) = true ∧ (decide True = true) ∧ (decide False = false) ∧ (∀ p : Prop, (True ∧ p) = p) ∧ (∀ p : Prop, (p ∧ True) = p) ∧ (∀ p : Prop, (True ∨ p) = True) ∧ (∀ p : Prop, (p ∨ True) = True) ∧
    (∀ p : Prop, (False ∨ p) = p) ∧ (∀ p : Prop, (p ∨ False) = p) ∧ (¬ True) = False ∧ (¬ False) = True ∧ (∀ p : Prop, (True → p) = p) ∧ (∀ p : Prop, (False → p) = True) ∧ (∀ p : Prop, (False ∧ p) = False) ∧ (∀ p : Prop, (p ∧ False) = False) :=
  ⟨by simp, by simp, rfl, rfl, by simp, by simp, by simp, by simp, by simp, by simp, by simp, by simp, by simp, by simp, by simp, by simp, by simp, by simp⟩

section
variable {P : Program} {G : Globals} {E0 : Env} {Q : X → List AV → List Blk → Prop} {D : List AV} {H : List Blk} {R : CallR} {K : List AV → List Blk → Prop}

def eqaR (neg : Bool) (ks : List Nat) (x y : AV) (A B : Prop) : Prop :=
  match x, y with
  | .p (.agg a), .p (.agg b) => (Go.Ae.kinds ks a = true ∧ Go.Ae.kinds ks b = true) ∧ (match neg with
    | false => (eqC a b = true → A) ∧ (eqC a b = false → B)
    | true => (eqC a b = true → B) ∧ (eqC a b = false → A))
  | _, _ => False

theorem ev_eqa {d : Nat} {neg : Bool} {ks : List Nat} {x y : Opd} {l : List Ins}
    (h : ∀ K' : List AV → List Blk → Prop, (∀ D H, ev G R l D H K → K' D H) → eqaR neg ks (get G D x) (get G D y) (K' (D.set d (.p (.bool true))) H) (K' (D.set d (.p (.bool false))) H)) : ev G R (.d d (.eqa neg ks x y) :: l) D H K := by
  refine ev_cons (fun K' hK => ?_)
  have := h K' hK
  simp only [ev1, ev0]
  unfold eqaR at this
  split at this
  · rename_i a b ha hb
    rw [ha, hb]
    obtain ⟨h1, h2⟩ := this
    refine ⟨h1, ?_⟩
    cases neg with
    | false =>
      cases he : eqC a b with
      | true => exact h2.1 he
      | false => exact h2.2 he
    | true =>
      cases he : eqC a b with
      | true => exact h2.1 he
      | false => exact h2.2 he
  · exact this.elim

theorem set_self {D : List AV} {s : Nat} {v : AV} (h : D.getD s .any = v) : D.set s v = D := by
  subst h
  rcases Nat.lt_or_ge s D.length with hs | hs
  · rw [List.getD_eq_getElem?_getD, List.getElem?_eq_getElem hs]
    exact List.set_getElem_self hs
  · rw [List.set_eq_of_length_le hs]

theorem ev_gsplit {s : Nat} {b v : Bool} {d : Nat} {i : I} {l : List Ins} (hs : D.getD s .any = .p (.bool v)) (h1 : v = true → ev G R (.gd s b d i :: l) (D.set s (.p (.bool true))) H K) (h2 : v = false → ev G R (.gd s b d i :: l) (D.set s (.p (.bool false))) H K) : ev G R (.gd s b d i :: l) D H K := by
  cases v with
  | true => have := h1 rfl; rwa [set_self hs] at this
  | false => have := h2 rfl; rwa [set_self hs] at this

theorem ev_gnsplit {s : Nat} {b v : Bool} {i : I} {l : List Ins} (hs : D.getD s .any = .p (.bool v)) (h1 : v = true → ev G R (.gn s b i :: l) (D.set s (.p (.bool true))) H K) (h2 : v = false → ev G R (.gn s b i :: l) (D.set s (.p (.bool false))) H K) : ev G R (.gn s b i :: l) D H K := by
  cases v with
  | true => have := h1 rfl; rwa [set_self hs] at this
  | false => have := h2 rfl; rwa [set_self hs] at this

theorem ev_psplit {s : Nat} {v : Bool} {d : Nat} {x y : Opd} {l : List Ins} (hs : D.getD s .any = .p (.bool v)) (h1 : v = true → ev G R (.d d (.pick (.t s) x y) :: l) (D.set s (.p (.bool true))) H K) (h2 : v = false → ev G R (.d d (.pick (.t s) x y) :: l) (D.set s (.p (.bool false))) H K) : ev G R (.d d (.pick (.t s) x y) :: l) D H K := by
  cases v with
  | true => have := h1 rfl; rwa [set_self hs] at this
  | false => have := h2 rfl; rwa [set_self hs] at this

theorem fc {f : Nat} {args : List AV} {K : AV → List Blk → Prop} (h : FCall P G f args H K) : FCall P G f args H K := h

theorem bimp {v b : Bool} {X : Prop} (h : v = b → X) : v = b → X := h

theorem ev_norm {l : List Ins} {D' : List AV} (hD : D = D') (h : ev G R l D' H K) : ev G R l D H K := by rw [hD]; exact h

theorem quo_any {k : IntKind} {a b : Int} {c : Int} (h : c = k.wrap (a.tdiv b)) : c = k.wrap (a.tdiv b) := h

end
end Go.Ae
end

section
set_option linter.unusedSectionVars false
set_option linter.unusedSimpArgs false
set_option linter.unusedVariables false
namespace Go.Ae

def R2 (w : World) (cs : List PV) (vs : List Value) : Prop := cs.length = vs.length ∧ ∀ (i : Nat) (c : PV) (v : Value), cs[i]? = some c → vs[i]? = some v → IsCell v ∧ PConc w (fun _ => False) c v

theorem R2.nil {w : World} : R2 w [] [] := ⟨rfl, fun i c v h => by simp at h⟩
theorem R2.one {w : World} {c : PV} {v : Value} (h1 : IsCell v) (h2 : PConc w (fun _ => False) c v) : R2 w [c] [v] := ⟨rfl, fun i c' v' hc hv => by
  cases i with
  | zero => simp at hc hv; subst hc; subst hv; exact ⟨h1, h2⟩
  | succ i => simp at hc⟩
theorem R2.append {w : World} {a b : List PV} {u v : List Value} (h1 : R2 w a u) (h2 : R2 w b v) : R2 w (a ++ b) (u ++ v) := by
  refine ⟨by simp [h1.1, h2.1], fun i c x hc hx => ?_⟩
  rcases Nat.lt_or_ge i a.length with hi | hi
  · rw [List.getElem?_append_left hi] at hc
    rw [List.getElem?_append_left (by rw [← h1.1]; exact hi)] at hx
    exact h1.2 i c x hc hx
  · rw [List.getElem?_append_right hi] at hc
    rw [List.getElem?_append_right (by rw [← h1.1]; exact hi)] at hx
    rw [← h1.1] at hx
    exact h2.2 _ c x hc hx

section
variable {H : Type} {enc : TypeId × Value → H} {P : Program} {w : World} {spare : Nat → Bool} {held : Bool} {T : TypeId → Prop}

inductive TT where
  | bool
  | int (k : IntKind)
  | str
  | sl (sz : Nat) (e : TT)
  | arr (n : Nat) (e : TT)
  | st (fs : List TT)

def treeL (f : TypeId → Option TT) : List TypeId → Option (List TT)
  | [] => some []
  | t :: r => match f t, treeL f r with
    | some x, some l => some (x :: l)
    | _, _ => none

theorem treeL_get {f : TypeId → Option TT} : ∀ {ts : List TypeId} {l : List TT}, treeL f ts = some l → l.length = ts.length ∧ ∀ (i : Nat) (t : TypeId), ts[i]? = some t → ∃ x, l[i]? = some x ∧ f t = some x
  | [], l, h => by cases h; exact ⟨rfl, fun i t h => by simp at h⟩
  | t :: r, l, h => by
    simp only [treeL] at h
    split at h
    · rename_i x l' h1 h2
      cases h
      obtain ⟨g1, g2⟩ := treeL_get h2
      refine ⟨by simp [g1], fun i u hu => ?_⟩
      cases i with
      | zero => simp at hu; subst hu; exact ⟨x, by simp, h1⟩
      | succ i => simpa using g2 i u (by simpa using hu)
    · cases h

def treeT (P : Program) : Nat → TypeId → Option TT
  | 0, _ => none
  | m + 1, t => match P.underlying t with
    | some .bool => some .bool
    | some (.int k) => some (.int k)
    | some .string => some .str
    | some (.slice e) => if 0 < P.cellsOf e then (treeT P m e).map (.sl (P.cellsOf e)) else none
    | some (.array n e) => (treeT P m e).map (.arr n)
    | some (.struct fs) => (treeL (treeT P m) (fs.toList.map (·.type))).map .st
    | _ => none

mutual
def dV {H : Type} : TT → DataW H → PV
  | .bool, .lit (.bool b) => .bool b
  | .int _, .lit (.int k n) => .int k n
  | .str, .lit (.string s) => .str s
  | .sl _ _, .nil => .e0
  | .sl sz e, .slice es _ => .sl sz (es.map (dV e))
  | .arr _ e, .agg es => .agg (es.flatMap fun d => (dV e d).cells)
  | .st fs, .agg es => .agg (dVs fs es)
  | _, _ => .nilp
def dVs {H : Type} : List TT → List (DataW H) → List PV
  | τ :: r, d :: s => (dV τ d).cells ++ dVs r s
  | _, _ => []
end

mutual
def tyV : TT → PV → Prop
  | .bool, p => ∃ b, p = .bool b
  | .int k, p => ∃ n, p = .int k n ∧ k.min ≤ n ∧ n ≤ k.max
  | .str, p => ∃ s, p = .str s ∧ s.length ≤ maxLen
  | .sl sz e, p => p = .e0 ∨ ∃ es, p = .sl sz es ∧ es.length ≤ maxLen ∧ ∀ x ∈ es, tyV e x
  | .arr n e, p => ∃ ps : List PV, p = .agg (ps.flatMap PV.cells) ∧ ps.length = n ∧ ∀ x ∈ ps, tyV e x
  | .st fs, p => ∃ ps : List PV, p = .agg (ps.flatMap PV.cells) ∧ tyVs fs ps
def tyVs : List TT → List PV → Prop
  | [], [] => True
  | τ :: r, p :: s => tyV τ p ∧ tyVs r s
  | _, _ => False
end

theorem dVs_flat {H : Type} : ∀ (fs : List TT) (ds : List (DataW H)), fs.length = ds.length → dVs fs ds = ((fs.zip ds).map fun q => dV q.1 q.2).flatMap PV.cells
  | [], [], _ => rfl
  | τ :: r, d :: s, h => by
    simp only [dVs, List.zip_cons_cons, List.map_cons, List.flatMap_cons, dVs_flat r s (by simpa using h)]
  | [], _ :: _, h => by simp at h
  | _ :: _, [], h => by simp at h

theorem tyVs_of : ∀ {fs : List TT} {ps : List PV}, fs.length = ps.length → (∀ (i : Nat) (τ : TT) (p : PV), fs[i]? = some τ → ps[i]? = some p → tyV τ p) → tyVs fs ps
  | [], [], _, _ => by simp only [tyVs]
  | τ :: r, p :: s, hl, h => by
    simp only [tyVs]
    exact ⟨h 0 τ p rfl rfl, tyVs_of (by simpa using hl) (fun i τ p h1 h2 => h (i + 1) τ p (by simpa using h1) (by simpa using h2))⟩
  | [], _ :: _, h, _ => by simp at h
  | _ :: _, [], h, _ => by simp at h

theorem cells?_get {a : Addr} {n : Nat} {cs : List Value} {base : Nat} (h : w.cells? base a n = some cs) : cs.length = n ∧ ∀ i, i < n → w.cell? (a.add i) = cs[i]? := by
  unfold World.cells? at h
  split at h
  · refine ⟨by simpa using mapM_some_length h, fun i hi => ?_⟩
    exact mapM_some_get h i i (by simp [hi])
  · cases h

theorem R2_pieces {w : World} {α : Type} (f : α → List PV) (sz : α → Nat) : ∀ (l : List α) (cs : List Value), cs.length = (l.map sz).sum →
    (∀ (j : Nat) (x : α), l[j]? = some x → R2 w (f x) ((cs.drop ((l.take j).map sz).sum).take (sz x))) → R2 w (l.flatMap f) cs
  | [], cs, hl, h => by
    have : cs = [] := List.eq_nil_of_length_eq_zero (by simpa using hl)
    subst this
    exact .nil
  | x :: r, cs, hl, h => by
    have h0 := h 0 x rfl
    simp only [List.take_zero, List.map_nil, List.sum_nil, List.drop_zero] at h0
    have hr := R2_pieces f sz r (cs.drop (sz x)) (by simp at hl ⊢; omega) (fun j y hy => by
      have := h (j + 1) y (by simpa using hy)
      simp only [List.take_succ_cons, List.map_cons, List.sum_cons] at this
      rwa [List.drop_drop])
    have := h0.append hr
    rwa [List.take_append_drop] at this

theorem sum_const {α : Type} (l : List α) (k : Nat) : (l.map fun _ => k).sum = l.length * k := by
  induction l with
  | nil => simp
  | cons a r ih => simp [ih, Nat.add_mul, Nat.add_comm]

theorem cells_of_slice (sz : Nat) (es : List PV) : (PV.sl sz es).cells = [.sl sz es] := rfl

theorem trod_tv (K : Kids P T) : ∀ (m n : Nat) (t : TypeId) (cs : List Value) (x : DataW H × List MemPlace) (τ : TT), T t → DataW.trod enc P w 0 spare held n t cs = some x → treeT P m t = some τ → tyV τ (dV τ x.1) ∧ R2 w (dV τ x.1).cells cs := by
  intro m
  induction m with
  | zero => intro n t cs x τ _ _ h; cases h
  | succ m ih =>
    intro n t cs x τ hT h hp
    simp only [treeT] at hp
    split at hp
    · rename_i hu
      obtain ⟨b, rfl, rfl⟩ := DataW.trod_bool hu h
      cases hp
      exact ⟨by simp only [tyV, dV]; exact ⟨b, rfl⟩, by simp only [dV]; exact .one trivial .bool⟩
    · rename_i k hu
      obtain ⟨n, rfl, rfl, hwf⟩ := DataW.trod_int hu h
      cases hp
      simp only [Lit.wf, Bool.and_eq_true, decide_eq_true_eq] at hwf
      exact ⟨by simp only [tyV, dV]; exact ⟨n, rfl, hwf⟩, by simp only [dV]; exact .one trivial .int⟩
    · rename_i hu
      obtain ⟨s, rfl, rfl, hsl⟩ := DataW.trod_string hu h
      cases hp
      refine ⟨by simp only [tyV, dV]; exact ⟨_, rfl, by simpa using hsl⟩, ?_⟩
      simp only [dV]
      have : (Value.string s) = .string ⟨s.data.toList.toArray⟩ := by cases s; simp
      refine .one trivial ?_
      rw [this]
      exact .str
    · rename_i e hu
      split at hp
      rotate_left
      · cases hp
      rename_i hp0
      rw [Option.map_eq_some_iff] at hp
      obtain ⟨σ, hp1, rfl⟩ := hp
      have hTe := K.slice hT hu
      rcases DataW.trod_slice hu h with ⟨rfl, rfl⟩ | ⟨a, len, cap, elems, rest, n, rfl, rfl, rfl, _, hcap, hcm, hlen, hel, _, _⟩
      · exact ⟨by simp [tyV, dV], by simp only [dV]; exact .one trivial .e0⟩
      · have hty : ∀ q ∈ (elems.map (·.1)).map (dV σ), tyV σ q := by
          intro q hq
          obtain ⟨i, hi, rfl⟩ := List.mem_iff_getElem.1 hq
          simp only [List.length_map] at hi
          have h1 := hel i (by omega)
          rw [List.getElem?_eq_getElem hi, Option.bind_eq_some_iff] at h1
          obtain ⟨csi, h2, h3⟩ := h1
          simpa using (ih _ _ _ _ σ hTe h3 hp1).1
        refine ⟨by simp only [tyV, dV]; exact .inr ⟨_, rfl, by simp; omega, hty⟩, ?_⟩
        simp only [dV, cells_of_slice]
        refine .one trivial ?_
        by_cases h0 : len = 0
        · have : elems = [] := List.eq_nil_of_length_eq_zero (by omega)
          subst this
          subst h0
          exact .sl0
        · have key : ∀ i, i < len → ∃ el csi, elems[i]? = some el ∧ csi.length = P.cellsOf e ∧ (∀ j, j < P.cellsOf e → w.cell? ((a.add (i * P.cellsOf e)).add j) = csi[j]?) ∧ R2 w (dV σ el.1).cells csi := by
            intro i hi
            have h1 := hel i hi
            rw [List.getElem?_eq_getElem (by omega : i < elems.length), Option.bind_eq_some_iff] at h1
            obtain ⟨csi, h2, h3⟩ := h1
            obtain ⟨g1, g2⟩ := cells?_get h2
            exact ⟨_, csi, List.getElem?_eq_getElem (by omega), g1, g2, (ih _ _ _ _ σ hTe h3 hp1).2⟩
          have hspot : a.spot = none ∧ a.block < w.heap.size := by
            obtain ⟨el, csi, _, g1, g2, _⟩ := key 0 (by omega)
            have := g2 0 hp0
            rw [List.getElem?_eq_getElem (by omega : 0 < csi.length)] at this
            have e0 : (a.add (0 * P.cellsOf e)).add 0 = a := by simp [Addr.add]
            rw [e0] at this
            unfold World.cell? at this
            split at this
            · rename_i hb
              split at this
              · cases this
              · rename_i hs
                exact ⟨by simpa using hs, (Array.getElem?_eq_some_iff.1 hb).1⟩
            · cases this
          have hadd : ∀ i j, (a.add (i * P.cellsOf e)).add j = ⟨a.block, a.off + i * P.cellsOf e + j, none⟩ := by
            intro i j
            obtain ⟨ab, ao, as⟩ := a
            have : as = none := hspot.1
            subst this
            unfold Addr.add
            by_cases h1 : i * P.cellsOf e = 0 <;> by_cases h2 : j = 0 <;> simp [h1, h2]
          have hget : ∀ i y, ((elems.map (·.1)).map (dV σ))[i]? = some y → i < len ∧ ∃ csi, csi.length = P.cellsOf e ∧ (∀ j, j < P.cellsOf e → w.cell? ⟨a.block, a.off + i * P.cellsOf e + j, none⟩ = csi[j]?) ∧ R2 w y.cells csi := by
            intro i y hy
            have hi : i < len := by
              have := (List.getElem?_eq_some_iff.1 hy).1
              simp at this
              omega
            obtain ⟨el, csi, g0, g1, g2, g3⟩ := key i hi
            rw [List.getElem?_map, List.getElem?_map, g0] at hy
            cases hy
            exact ⟨hi, csi, g1, fun j hj => by rw [← hadd]; exact g2 j hj, g3⟩
          have hpc := PConc.sl (w := w) (O := fun _ => False) (sz := P.cellsOf e) (es := (elems.map (·.1)).map (dV σ)) (a := a) (cap := cap) (fun i j => (w.cell? ⟨a.block, a.off + i * P.cellsOf e + j, none⟩).getD undef)
            (by intro hh; simp at hh; subst hh; simp at hlen; omega) hspot.1 hspot.2 (fun h => h) (by simp; omega)
            (fun i y hy => by
              obtain ⟨_, csi, g1, _, g3⟩ := hget i y hy
              rw [g3.1, g1])
            (fun i y j hy hj => by
              obtain ⟨_, csi, g1, g2, g3⟩ := hget i y hy
              rw [g2 j hj, List.getElem?_eq_getElem (by omega : j < csi.length)]
              rfl)
            (fun i y j hy hj => by
              obtain ⟨_, csi, g1, g2, g3⟩ := hget i y hy
              have hjc : j < csi.length := by omega
              have hjy : j < y.cells.length := by rw [g3.1]; exact hjc
              rw [g2 j hj, List.getElem?_eq_getElem hjc]
              exact (g3.2 j _ _ (List.getElem?_eq_getElem hjy) (List.getElem?_eq_getElem hjc)).1)
            (fun i y j z hy hz => by
              obtain ⟨_, csi, g1, g2, g3⟩ := hget i y hy
              have hjy : j < y.cells.length := (List.getElem?_eq_some_iff.1 hz).1
              have hjc : j < csi.length := by rw [← g3.1]; exact hjy
              rw [g2 j (by omega), List.getElem?_eq_getElem hjc]
              exact (g3.2 j _ _ hz (List.getElem?_eq_getElem hjc)).2)
          simp only [List.length_map, hlen] at hpc
          exact hpc
    · rename_i n' e hu
      rw [Option.map_eq_some_iff] at hp
      obtain ⟨σ, hp1, rfl⟩ := hp
      obtain ⟨xs, n, rfl, rfl, hl, hxl, hx⟩ := DataW.trod_array hu h
      obtain ⟨hTe, hct⟩ := K.array hT hu
      have hone : ∀ (j : Nat) (x : DataW H × List MemPlace), xs[j]? = some x → tyV σ (dV σ x.1) ∧ R2 w (dV σ x.1).cells ((cs.drop (j * P.cellsOf e)).take (P.cellsOf e)) := fun j x hj => by
        have hjn : j < n' := by rw [← hxl]; exact (List.getElem?_eq_some_iff.1 hj).1
        exact ih _ _ _ _ σ hTe ((hx j hjn).trans hj) hp1
      constructor
      · simp only [tyV, dV]
        refine ⟨(xs.map (·.1)).map (dV σ), by simp only [List.flatMap_map], by simp [hxl], fun q hq => ?_⟩
        simp only [List.map_map, List.mem_map] at hq
        obtain ⟨x, hx', rfl⟩ := hq
        obtain ⟨j, hj⟩ := List.getElem?_of_mem hx'
        exact (hone j x hj).1
      · simp only [dV]
        show R2 w ((xs.map (·.1)).flatMap fun d => (dV σ d).cells) cs
        rw [List.flatMap_map]
        refine R2_pieces _ (fun _ => P.cellsOf e) xs cs (by rw [hl, hct, sum_const, hxl]) (fun j x hj => ?_)
        have hjn : j < n' := by rw [← hxl]; exact (List.getElem?_eq_some_iff.1 hj).1
        rw [sum_const, List.length_take, Nat.min_eq_left (by omega)]
        exact (hone j x hj).2
    · rename_i fs hu
      rw [Option.map_eq_some_iff] at hp
      obtain ⟨σs, hp1, rfl⟩ := hp
      obtain ⟨hσl, hσ⟩ := treeL_get hp1
      obtain ⟨xs, n, rfl, rfl, hl, hxl, hx⟩ := DataW.trod_struct hu h
      obtain ⟨hTf, hct, hoff⟩ := K.struct hT hu
      have hlen : xs.length = fs.toList.length := by simpa using hxl
      have hσx : σs.length = xs.length := by rw [hσl, List.length_map, hlen]
      have hone : ∀ (j : Nat) (x : DataW H × List MemPlace) (τ : TT), xs[j]? = some x → σs[j]? = some τ → ∃ f : Field, fs.toList[j]? = some f ∧ tyV τ (dV τ x.1) ∧ R2 w (dV τ x.1).cells ((cs.drop f.offset).take (P.cellsOf f.type)) := fun j x τ hj hτ => by
        have hjf : j < fs.toList.length := by rw [← hlen]; exact (List.getElem?_eq_some_iff.1 hj).1
        have hf : fs.toList[j]? = some fs.toList[j] := List.getElem?_eq_getElem hjf
        obtain ⟨τ', h1, h2⟩ := hσ j fs.toList[j].type (by rw [List.getElem?_map, hf]; rfl)
        rw [hτ] at h1
        cases h1
        exact ⟨_, hf, ih _ _ _ _ τ (hTf _ (List.getElem_mem hjf)) ((hx j _ (by simp [hjf])).trans hj) h2⟩
      constructor
      · simp only [tyV, dV]
        refine ⟨(σs.zip (xs.map (·.1))).map fun q => dV q.1 q.2, by rw [dVs_flat _ _ (by simp [hσx])], tyVs_of (by simp [hσx]) (fun i τ p hτ hp => ?_)⟩
        rw [List.getElem?_map, Option.map_eq_some_iff] at hp
        obtain ⟨q, hq, rfl⟩ := hp
        rw [List.getElem?_zip_eq_some] at hq
        obtain ⟨q1, q2⟩ := hq
        rw [List.getElem?_map, Option.map_eq_some_iff] at q2
        obtain ⟨x, hx1, hx2⟩ := q2
        rw [hτ] at q1
        cases q1
        obtain ⟨f, _, h1, _⟩ := hone i x _ hx1 hτ
        rw [← hx2]
        exact h1
      · simp only [dV]
        show R2 w (dVs σs (xs.map (·.1))) cs
        rw [dVs_flat _ _ (by simp [hσx])]
        rw [List.flatMap_map]
        have hzl : (σs.zip (xs.map (·.1))).length = fs.toList.length := by simp [hσx, hlen]
        have hsz : ∀ k, k ≤ fs.toList.length → (((σs.zip (xs.map (·.1))).zip fs.toList).take k).map (fun q => P.cellsOf q.2.type) = (fs.toList.take k).map fun f => P.cellsOf f.type := by
          intro k hk
          have : (fun q : (TT × DataW H) × Field => P.cellsOf q.2.type) = (fun f : Field => P.cellsOf f.type) ∘ Prod.snd := rfl
          rw [this, ← List.map_map, List.map_take, List.map_snd_zip (by omega)]
        have hfm : ((σs.zip (xs.map (·.1))).flatMap fun q => (dV q.1 q.2).cells) = (((σs.zip (xs.map (·.1))).zip fs.toList).flatMap fun q => (dV q.1.1 q.1.2).cells) := by
          have : (fun q : (TT × DataW H) × Field => (dV q.1.1 q.1.2).cells) = (fun q : TT × DataW H => (dV q.1 q.2).cells) ∘ Prod.fst := rfl
          rw [this]
          conv => lhs; rw [← List.map_fst_zip (l₁ := σs.zip (xs.map (·.1))) (l₂ := fs.toList) (by omega)]
          rw [List.flatMap_map]
          rfl
        rw [hfm]
        refine R2_pieces _ (fun q => P.cellsOf q.2.type) _ cs ?_ (fun j q hj => ?_)
        · rw [hl, hct]
          have := hsz fs.toList.length (Nat.le_refl _)
          rw [List.take_of_length_le (by simp; omega), List.take_of_length_le (Nat.le_refl _)] at this
          rw [this]
        · rw [List.getElem?_zip_eq_some] at hj
          obtain ⟨j1, j2⟩ := hj
          rw [List.getElem?_zip_eq_some] at j1
          obtain ⟨j3, j4⟩ := j1
          rw [List.getElem?_map, Option.map_eq_some_iff] at j4
          obtain ⟨x, hx1, hx2⟩ := j4
          have hjf := (List.getElem?_eq_some_iff.1 j2).1
          obtain ⟨f, hf, _, h2⟩ := hone j x _ hx1 j3
          rw [j2] at hf
          cases hf
          rw [hsz j (by omega), ← hoff j _ j2, ← hx2]
          exact h2
    · cases hp

end
end Go.Ae
end

section
set_option linter.unusedSectionVars false
set_option linter.unusedSimpArgs false
set_option linter.unusedVariables false
namespace Go.Ae
open Go.ChangeShapes Go.WideShapes Go.RowKit

def startE (W : World) : Env := ⟨W, fun _ => 0, [], fun _ => False⟩

theorem startE_own (W : World) (b : Nat) : ¬ (startE W).Own b := by
  rintro (⟨i, hi⟩ | h)
  · obtain ⟨_, h⟩ := hi
    rcases h with ⟨cs, h⟩ | ⟨sz, es, h, _⟩ <;> simp [startE] at h
  · exact h

theorem tyVs_cons {τ : TT} {r : List TT} {ps : List PV} (h : tyVs (τ :: r) ps) : ∃ p s, ps = p :: s ∧ tyV τ p ∧ tyVs r s := by
  cases ps with
  | nil => simp only [tyVs] at h
  | cons p s => simp only [tyVs] at h; exact ⟨p, s, rfl, h⟩
theorem tyVs_nil {ps : List PV} (h : tyVs [] ps) : ps = [] := by
  cases ps with
  | nil => rfl
  | cons p s => simp only [tyVs] at h
theorem tyV_int {k : IntKind} {p : PV} (h : tyV (.int k) p) : ∃ n, p = .int k n ∧ k.min ≤ n ∧ n ≤ k.max := by simpa only [tyV] using h
theorem tyV_bool {p : PV} (h : tyV .bool p) : ∃ b, p = .bool b := by simpa only [tyV] using h
theorem tyV_arr {n : Nat} {e : TT} {p : PV} (h : tyV (.arr n e) p) : ∃ ps : List PV, p = .agg (ps.flatMap PV.cells) ∧ ps.length = n ∧ ∀ x ∈ ps, tyV e x := by simpa only [tyV] using h

section
variable {H : Type} {enc : TypeId × Value → H} {P : Program} {W : World} {spare : Nat → Bool} {held : Bool} {T : TypeId → Prop}

theorem pconc_start {p : PV} {v : Value} (h : PConc W (fun _ => False) p v) : Conc (startE W) (.p p) v :=
  .p (h.mono (Nat.le_refl _) (fun b _ _ => ⟨rfl, startE_own W b⟩))

theorem trod_conc (K : Kids P T) {r : Reach} {base : Nat} {m : Nat} {t : TypeId} {τ : TT} {v : Value} {d : DataW H} {ps : List MemPlace} (hT : T t) (hτ : treeT P m t = some τ) (hok : Value.okWide P W r base t v)
    (h : DataW.Trod enc P W 0 spare held t v d ps) : tyV τ (dV τ d) ∧ Conc (startE W) (.p (dV τ d)) v := by
  obtain ⟨n, hn⟩ := h
  obtain ⟨h1, h2⟩ := trod_tv K m n t _ _ τ hT hn hτ
  refine ⟨h1, pconc_start ?_⟩
  have hcell : ∀ {p : PV} {v : Value}, p.cells = [p] → v.cells = #[v] → R2 W p.cells v.cells.toList → PConc W (fun _ => False) p v := by
    intro p v e1 e2 h
    rw [e1, e2] at h
    exact (h.2 0 p v rfl rfl).2
  have hagg : ∀ {cs : List PV} {vs : Array Value}, R2 W cs vs.toList → PConc W (fun _ => False) (.agg cs) (.agg vs) := by
    intro cs vs h
    refine .agg (by have := h.1; simpa using this) (fun i v hv => ?_) (fun i x v hx hv => (h.2 i x v hx (by rw [Array.getElem?_toList]; exact hv)).2)
    have hi : i < vs.size := (Array.getElem?_eq_some_iff.1 hv).1
    have hc : i < cs.length := by have := h.1; simp at this; omega
    exact (h.2 i _ v (List.getElem?_eq_getElem hc) (by rw [Array.getElem?_toList]; exact hv)).1
  simp only at h1 h2
  generalize dV τ d = p at h1 h2
  cases m with
  | zero => cases hτ
  | succ m =>
    simp only [treeT] at hτ
    split at hτ
    · rename_i hu
      cases hτ
      obtain ⟨b, rfl⟩ := okWide_bool hu hok
      simp only [tyV] at h1
      obtain ⟨_, rfl⟩ := h1
      exact hcell rfl rfl h2
    · rename_i hu
      cases hτ
      obtain ⟨b, rfl⟩ := okWide_int hu hok
      simp only [tyV] at h1
      obtain ⟨_, rfl, _⟩ := h1
      exact hcell rfl rfl h2
    · rename_i hu
      cases hτ
      obtain ⟨b, rfl⟩ := okWide_string hu hok
      simp only [tyV] at h1
      obtain ⟨_, rfl, _⟩ := h1
      exact hcell rfl rfl h2
    · rename_i hu
      split at hτ
      · rw [Option.map_eq_some_iff] at hτ
        obtain ⟨σ, _, rfl⟩ := hτ
        obtain ⟨_, _, _, rfl⟩ := okWide_slice hu hok
        simp only [tyV] at h1
        rcases h1 with rfl | ⟨_, rfl, _⟩ <;> exact hcell rfl rfl h2
      · cases hτ
    · rename_i hu
      rw [Option.map_eq_some_iff] at hτ
      obtain ⟨σ, _, rfl⟩ := hτ
      simp only [Value.okWide, hu] at hok
      obtain ⟨vs, rfl, _⟩ := hok
      simp only [tyV] at h1
      obtain ⟨_, rfl, _⟩ := h1
      exact hagg h2
    · rename_i hu
      rw [Option.map_eq_some_iff] at hτ
      obtain ⟨σ, _, rfl⟩ := hτ
      obtain ⟨vs, rfl, _⟩ := okWide_struct hu hok
      simp only [tyV] at h1
      obtain ⟨_, rfl, _⟩ := h1
      exact hagg h2
    · cases hτ

theorem trodAll_conc (K : Kids P T) {r : Reach} {base : Nat} {m : Nat} : ∀ {ts : List TypeId} {τs : List TT} {vs : List Value} {ds : List (DataW H)} {ps : List MemPlace}, (∀ t ∈ ts, T t) → treeL (treeT P m) ts = some τs →
    (∀ (j : Nat) t v, ts[j]? = some t → vs[j]? = some v → Value.okWide P W r base t v) → DataW.TrodAll enc P W 0 spare held ts vs ds ps →
    ds.length = τs.length ∧ vs.length = τs.length ∧ tyVs τs ((τs.zip ds).map fun q => dV q.1 q.2) ∧ ∀ (i : Nat) (p : PV) (v : Value), ((τs.zip ds).map fun q => dV q.1 q.2)[i]? = some p → vs[i]? = some v → Conc (startE W) (.p p) v
  | [], τs, [], [], ps, _, hτ, _, _ => by cases hτ; exact ⟨rfl, rfl, by simp only [List.zip_nil_left, List.map_nil, tyVs], fun i p v h => by simp at h⟩
  | t :: ts, τs, v :: vs, d :: ds, ps, hT, hτ, hok, ⟨p, q, h1, h2, e⟩ => by
    simp only [treeL] at hτ
    split at hτ
    · rename_i τ l g1 g2
      cases hτ
      obtain ⟨a1, a2, a3, a4⟩ := trodAll_conc K (fun t ht => hT t (List.mem_cons_of_mem _ ht)) g2 (fun j t v ht hv => hok (j + 1) t v (by simpa using ht) (by simpa using hv)) h2
      obtain ⟨b1, b2⟩ := trod_conc K (hT t List.mem_cons_self) g1 (hok 0 t v rfl rfl) h1
      refine ⟨by simp [a1], by simp [a2], by simp only [List.zip_cons_cons, List.map_cons, tyVs]; exact ⟨b1, a3⟩, fun i p v' hp hv => ?_⟩
      cases i with
      | zero => simp at hp hv; subst hp; subst hv; exact b2
      | succ i => exact a4 i p v' (by simpa using hp) (by simpa using hv)
    · cases hτ
  | [], _, _ :: _, _, _, _, _, _, h => by simp only [DataW.TrodAll] at h
  | [], _, [], _ :: _, _, _, _, _, h => by simp only [DataW.TrodAll] at h
  | _ :: _, _, [], _, _, _, _, _, h => by simp only [DataW.TrodAll] at h
  | _ :: _, _, _ :: _, [], _, _, _, _, h => by simp only [DataW.TrodAll] at h

theorem trodAll_later {W' : World} (hh : ∀ b, b < W.heap.size → W'.heap[b]? = W.heap[b]?) : ∀ {ts : List TypeId} {vs : List Value} {ds : List (DataW H)} {ps : List MemPlace}, DataW.TrodAll enc P W 0 spare held ts vs ds ps → DataW.TrodAll enc P W' 0 spare held ts vs ds ps
  | [], [], [], _, h => h
  | t :: ts, v :: vs, d :: ds, ps, ⟨p, q, ⟨n, h1⟩, h2, e⟩ => by
    refine ⟨p, q, ⟨n, DataW.trod_carry n _ _ _ h1 (fun pl hpl => ?_)⟩, trodAll_later hh h2, e⟩
    have hlt := DataW.trod_lt n _ _ _ h1 pl hpl
    cases pl with
    | cell b off => simp only [World.sameAt, World.cell?]; rw [hh b hlt]
    | map b => exact hh b hlt
  | [], _ :: _, _, _, h => by simp only [DataW.TrodAll] at h
  | [], [], _ :: _, _, h => by simp only [DataW.TrodAll] at h
  | _ :: _, [], _, _, h => by simp only [DataW.TrodAll] at h
  | _ :: _, _ :: _, [], _, h => by simp only [DataW.TrodAll] at h

theorem law_post {G : Globals} (K : Kids P T) (hz : ∀ t e, T t → P.underlying t = some (.slice e) → 0 < P.cellsOf e) {fn : Func} {s : ChangeSpec} {f : Nat} {args : Array Value} {ds gs : List (DataW H)} {before : List MemPlace} {bt : TypeId} {τs : List TT} {m : Nat} {r : Reach} {base : Nat}
    (hT : ∀ t ∈ fn.params.toList, T t) (hτ : treeL (treeT P m) fn.params.toList = some τs) (hvars : s.vars = []) (hret : fn.resultTypes = #[bt]) (hbt : P.underlying bt = some .bool)
    (hspec : ∀ ds : List (DataW H), ds.length = fn.params.size → s.fn H ds = { results := [.lit (.bool true)], args := ds })
    (hval : ∀ (j : Nat) t v, fn.params[j]? = some t → args[j]? = some v → Value.okWide P W r base t v)
    (hW : DataW.Whole enc P fn.params.toList s.vars false W args.toList ds gs before) (hS : Sim G (startE W))
    (hcall : ∀ ps : List PV, tyVs τs ps → Pure P G f (ps.map .p) (fun x => x = .p (.bool true))) :
    Calls P f args W fun e W' => ∃ v, e = .returned v ∧ s.post enc P fn false true false false W args v W' := by
  have hW0 := hW
  obtain ⟨p, q, hA, hV, rfl, hfz, hnd⟩ := hW
  rw [hvars] at hV
  have hgs : gs = [] ∧ q = [] := by
    cases gs with
    | nil => exact ⟨rfl, hV⟩
    | cons g r => exact absurd hV (by intro h; cases h)
  obtain ⟨rfl, rfl⟩ := hgs
  obtain ⟨a1, a2, a3, a4⟩ := trodAll_conc K hT hτ (fun j t v ht hv => hval j t v (by simpa using ht) (by simpa using hv)) hA
  have hc := hcall _ a3
  have hτl := (treeL_get hτ).1
  refine Calls.mono (hc.2 (startE W) args rfl hS ⟨by simp only [List.length_map, List.length_zip]; simp at a2; omega, fun i x v hx hv => ?_⟩) ?_
  · rw [List.getElem?_map, Option.map_eq_some_iff] at hx
    obtain ⟨pv, hp, rfl⟩ := hx
    exact a4 i pv v hp (by rw [Array.getElem?_toList]; exact hv)
  · rintro e W' ⟨E', x, v, rfl, rfl, hle, hS', hcv, hb, rfl⟩
    have hv : v = .bool true := by
      cases hcv with
      | p h => cases h; rfl
    subst hv
    have hh : ∀ b, b < W.heap.size → E'.w.heap[b]? = W.heap[b]? := fun b hb => (hle.imm b hb (fun ho => startE_own W b (.inl ho))).1
    have hlt : ∀ pl ∈ p, pl.block < W.heap.size := DataW.TrodAll.lt hA
    have hsp := hspec ds (by simp at hτl; omega)
    refine ⟨_, rfl, ds, [], p ++ [], [], p, [], hW0, ?_, ?_, ?_, ?_, fun h => by cases h⟩
    · rw [List.append_nil, hsp, hret]
      exact trodAll_mk1 (shut_bool hbt true)
    · rw [List.append_nil, hsp]
      exact trodAll_later hh (DataW.TrodAll.respare K hz hT hA (fun pl hpl => by simpa using hlt pl hpl))
    · rw [List.append_nil, hsp, hvars]
      rfl
    · refine ⟨hle.keep.1, hle.keep.2, fun i hi => ?_⟩
      rw [hh i hi]
      cases hb' : W.heap[i]? with
      | none => rfl
      | some o => cases o <;> simp

end
end Go.Ae
end
