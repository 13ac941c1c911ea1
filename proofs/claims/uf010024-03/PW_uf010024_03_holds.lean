import PyProof.Rows.All
import Wide.All
import OpenK.KLine
import Wide.FinOn
import PySem.Value
import OpenK.KCell
import OpenK.KMore
import KE.KRevSl
import KE.KSliceW
import KE.KSortTup
import KE.KDictSum
import KE.KDictOf
import PyProof.AttrMissHeap
import PyProof.DictDisplay
import KE.KIsNot
import KE.KIsAll
import OpenK.KWalk
import Open.Tree
import Open.Boot
import PySem.Challenge.RW_uf010024_03
set_option Elab.async false
set_option linter.all false
section
open PySem PySem.W PyProof.Rows PySem.W.Fast
set_option maxRecDepth 100000
namespace Mine.Internal
noncomputable def lgT (p : Program) (w : World) (m : Nat) (a : Option Value) (n : Nat) : SharedT → Thread → Option SharedT :=
  @Nat.rec (fun _ => _) (fun _ _ => none)
    (fun _ ih s t => bif through t then some s else bif tw6613529449190102663 m a t then (tw10156331382660048174 (tw11892475500146522536 tw14364793385576792824) p w s t).bind fun r => ih r.1 r.2 else none) n
theorem lgO {p : Program} {w : World} {m : Nat} {a : Option Value} : ∀ {n : Nat} {s s' : SharedT} {t : Thread}, lgT p w m a n s t = some s' → topRun treeTable p w m a n s.abs t = some s'.abs
  | 0, _, _, _, h => nomatch (h : none = some _)
  | n + 1, s, s', t, h => by
    have h : (bif through t then some s else bif stepOk m a t then (stepT (denote treeTable) p w s t).bind fun r => lgT p w m a n r.1 r.2 else none) = some s' := by
      rw [te6613529449190102663, te10156331382660048174, te11892475500146522536, te14364793385576792824]
      exact h
    unfold topRun
    cases e : through t with
    | true => rw [e] at h; cases h; rfl
    | false =>
      rw [e] at h
      cases b : stepOk m a t with
      | false => rw [b] at h; cases h
      | true =>
        rw [b] at h
        obtain ⟨r, c, h⟩ := Option.bind_eq_some_iff.mp h
        rw [stepT_spec c]
        exact lgO h
noncomputable def lbT (P : Params) (os : OsState) : SharedT := ⟨(boot_heap P).objs.toList.zipIdx.foldl (fun t o => t.ins o.2 o.1) .nil, (boot_heap P).objs.size, (boot_heap P).life, Array.mk [], boot_drawn, boot_toks, os⟩
theorem lbA (P : Params) (os : OsState) : (lbT P os).abs = ⟨boot_heap P, Array.mk [], boot_drawn, boot_toks, os⟩ := by kernel_rfl
theorem lbN (P : Params) : (boot_heap P).isNs mainGlobals = true := by kernel_rfl
noncomputable def leT (p : Program) (w : World) (N : Nat) (os : OsState) : Option Shared :=
  (lgT p w (boot_heap w.params).objs.size ((boot_heap w.params).nsMap mainGlobals "__annotations__") N (lbT w.params os) (topStub p)).bind fun s =>
    match staticsOk (importedModules p.main.body) (boot_heap w.params) s.abs.heap && namesBound p s.abs.heap && gensDone s.abs && laidKept (boot_heap w.params) s.abs.heap with
    | true => some s.abs
    | false => none
theorem leO {N : Nat} {α : Type} {Y : Shared → α} {y : α} (h : ∀ w os, (leT PySem.Challenge.pw_uf010024_03 w N os).map Y = some y) (hN : Nat.ble 600 N = true := by decide) (w : World) : (openEnds treeTable PySem.Challenge.pw_uf010024_03 w N).map Y = some y := by
  obtain ⟨z, e1, e2⟩ := Option.map_eq_some_iff.mp (boot_open (p := PySem.Challenge.pw_uf010024_03) (by rfl) hN (fun _ => by rfl) w)
  obtain ⟨s, hs, hy⟩ := Option.map_eq_some_iff.mp (h w z.os)
  obtain ⟨s', hs', g⟩ := Option.bind_eq_some_iff.mp hs
  have r := lgO hs'
  rw [lbA] at r
  unfold openEnds
  rw [e1.trans (congrArg (fun x => some (⟨x.1, x.2.1, x.2.2.1, x.2.2.2, z.os⟩ : Shared)) e2), Option.bind_some]
  unfold topFrom
  dsimp only
  rw [lbN, r]
  refine (congrArg (Option.map _) g).trans ?_
  rw [Option.map_some, hy]
end Mine.Internal
end
section
open PySem PySem.W PyProof.Rows
set_option Elab.async false
set_option maxRecDepth 100000
set_option maxHeartbeats 8000000
namespace Mine.Internal
noncomputable def keep03 : List Nat := (List.range 41).filter fun i => i != 0 && i != 9 && i != 14 && i != 21 && i != 25
noncomputable def q03 : Program := view PySem.Challenge.pw_uf010024_03 keep03
theorem leftA03 : ∀ w, (openEnds treeTable PySem.Challenge.pw_uf010024_03 w 6478).map (fun s => openSeen q03 [] (importedModules PySem.Challenge.pw_uf010024_03.main.body) (fun s => xlAt q03 [] s && recOk (RowW.records PySem.Challenge.rw_uf010024_03.row.toRowW) s) true s) = some (openGood q03 []) := leO fun w os => by kernel_rfl
end Mine.Internal
end

section
namespace Mine.Internal
open PySem

/-- a goal put aside while facts are taken apart -/
theorem lift {G : Prop} (h : ∀ g : Prop, (G → g) → g) : G := h G id
theorem ob1 {G : Prop} {A1 : Sort _} {A2 : Sort _} {A3 : Sort _} {P1 : Prop} {P2 : A1 → A2 → A3 → Prop} {P3 : A1 → A2 → A3 → Prop} (h : P1 ∧ (∃ x1 : A1, ∃ x2 : A2, ∃ x3 : A3, P2 x1 x2 x3 ∧ P3 x1 x2 x3)) (g : P1 → ∀ x1, ∀ x2, ∀ x3, P2 x1 x2 x3 → P3 x1 x2 x3 → G) : G := by obtain ⟨h1, ⟨y1, ⟨y2, ⟨y3, ⟨h2, h3⟩⟩⟩⟩⟩ := h; exact g h1 y1 y2 y3 h2 h3
theorem ob2 {G : Prop} {A1 : Sort _} {P1 : A1 → Prop} {P2 : A1 → Prop} {P3 : A1 → Prop} {P4 : A1 → Prop} (h : ∃ x1 : A1, P1 x1 ∧ P2 x1 ∧ P3 x1 ∧ P4 x1) (g : ∀ x1, P1 x1 → P2 x1 → P3 x1 → P4 x1 → G) : G := by obtain ⟨y1, ⟨h1, ⟨h2, ⟨h3, h4⟩⟩⟩⟩ := h; exact g y1 h1 h2 h3 h4
theorem ob3 {G : Prop} {A1 : Sort _} {A2 : Sort _} {P1 : A1 → A2 → Prop} {P2 : A1 → A2 → Prop} {P3 : A1 → A2 → Prop} (h : ∃ x1 : A1, ∃ x2 : A2, P1 x1 x2 ∧ P2 x1 x2 ∧ P3 x1 x2) (g : ∀ x1, ∀ x2, P1 x1 x2 → P2 x1 x2 → P3 x1 x2 → G) : G := by obtain ⟨y1, ⟨y2, ⟨h1, ⟨h2, h3⟩⟩⟩⟩ := h; exact g y1 y2 h1 h2 h3
theorem ob4 {G : Prop} {A1 : Sort _} {P1 : A1 → Prop} {P2 : Prop} {P3 : Prop} (h : (∃ x1 : A1, P1 x1) ∧ P2 ∧ P3) (g : ∀ x1, P1 x1 → P2 → P3 → G) : G := by obtain ⟨⟨y1, h1⟩, ⟨h2, h3⟩⟩ := h; exact g y1 h1 h2 h3
theorem ob5 {G : Prop} {A1 : Sort _} {P1 : A1 → Prop} {P2 : A1 → Prop} (h : ∃ x1 : A1, P1 x1 ∧ P2 x1) (g : ∀ x1, P1 x1 → P2 x1 → G) : G := by obtain ⟨y1, ⟨h1, h2⟩⟩ := h; exact g y1 h1 h2
theorem ob6 {G : Prop} {A1 : Sort _} {P1 : A1 → Prop} (h : ∃ x1 : A1, P1 x1) (g : ∀ x1, P1 x1 → G) : G := by obtain ⟨y1, h1⟩ := h; exact g y1 h1
theorem ob7 {G : Prop} {A1 : Sort _} {P1 : A1 → Prop} {P2 : Prop} (h : (∃ x1 : A1, P1 x1) ∧ P2) (g : ∀ x1, P1 x1 → P2 → G) : G := by obtain ⟨⟨y1, h1⟩, h2⟩ := h; exact g y1 h1 h2
theorem ob8 {G : Prop} {P1 : Prop} {P2 : Prop} (h : P1 ∧ P2) (g : P1 → P2 → G) : G := by obtain ⟨h1, h2⟩ := h; exact g h1 h2
theorem ob9 {G : Prop} {A1 : Sort _} {A2 : Sort _} {P1 : A1 → A2 → Prop} {P2 : A1 → A2 → Prop} {P3 : A1 → A2 → Prop} {P4 : A1 → A2 → Prop} (h : ∃ x1 : A1, ∃ x2 : A2, P1 x1 x2 ∧ P2 x1 x2 ∧ P3 x1 x2 ∧ P4 x1 x2) (g : ∀ x1, ∀ x2, P1 x1 x2 → P2 x1 x2 → P3 x1 x2 → P4 x1 x2 → G) : G := by obtain ⟨y1, ⟨y2, ⟨h1, ⟨h2, ⟨h3, h4⟩⟩⟩⟩⟩ := h; exact g y1 y2 h1 h2 h3 h4
theorem ob10 {G : Prop} {A1 : Sort _} {P1 : A1 → Prop} {P2 : A1 → Prop} {P3 : A1 → Prop} (h : ∃ x1 : A1, P1 x1 ∧ P2 x1 ∧ P3 x1) (g : ∀ x1, P1 x1 → P2 x1 → P3 x1 → G) : G := by obtain ⟨y1, ⟨h1, ⟨h2, h3⟩⟩⟩ := h; exact g y1 h1 h2 h3
theorem ob11 {G : Prop} {P1 : Prop} {P2 : Prop} {P3 : Prop} (h : (P1 ∧ P2) ∧ P3) (g : P1 → P2 → P3 → G) : G := by obtain ⟨⟨h1, h2⟩, h3⟩ := h; exact g h1 h2 h3
theorem ob12 {G : Prop} {A1 : Sort _} {A2 : Sort _} {P1 : A1 → A2 → Prop} {P2 : A1 → A2 → Prop} (h : ∃ x1 : A1, ∃ x2 : A2, P1 x1 x2 ∧ P2 x1 x2) (g : ∀ x1, ∀ x2, P1 x1 x2 → P2 x1 x2 → G) : G := by obtain ⟨y1, ⟨y2, ⟨h1, h2⟩⟩⟩ := h; exact g y1 y2 h1 h2
theorem ob13 {G : Prop} {A1 : Sort _} {A2 : Sort _} {A3 : Sort _} {P1 : A1 → A2 → A3 → Prop} {P2 : A1 → A2 → A3 → Prop} {P3 : A1 → A2 → A3 → Prop} (h : ∃ x1 : A1, ∃ x2 : A2, ∃ x3 : A3, P1 x1 x2 x3 ∧ P2 x1 x2 x3 ∧ P3 x1 x2 x3) (g : ∀ x1, ∀ x2, ∀ x3, P1 x1 x2 x3 → P2 x1 x2 x3 → P3 x1 x2 x3 → G) : G := by obtain ⟨y1, ⟨y2, ⟨y3, ⟨h1, ⟨h2, h3⟩⟩⟩⟩⟩ := h; exact g y1 y2 y3 h1 h2 h3
theorem ob14 {G : Prop} {A1 : Sort _} {A2 : Sort _} {P1 : A1 → A2 → Prop} (h : ∃ x1 : A1, ∃ x2 : A2, P1 x1 x2) (g : ∀ x1, ∀ x2, P1 x1 x2 → G) : G := by obtain ⟨y1, ⟨y2, h1⟩⟩ := h; exact g y1 y2 h1
theorem ob15 {G : Prop} {A1 : Sort _} {A2 : Sort _} {A3 : Sort _} {A4 : Sort _} {P1 : A1 → A2 → A3 → A4 → Prop} {P2 : A1 → A2 → A3 → A4 → Prop} (h : ∃ x1 : A1, ∃ x2 : A2, ∃ x3 : A3, ∃ x4 : A4, P1 x1 x2 x3 x4 ∧ P2 x1 x2 x3 x4) (g : ∀ x1, ∀ x2, ∀ x3, ∀ x4, P1 x1 x2 x3 x4 → P2 x1 x2 x3 x4 → G) : G := by obtain ⟨y1, ⟨y2, ⟨y3, ⟨y4, ⟨h1, h2⟩⟩⟩⟩⟩ := h; exact g y1 y2 y3 y4 h1 h2
theorem ob16 {G : Prop} {P1 : Prop} {P2 : Prop} {P3 : Prop} {P4 : Prop} {P5 : Prop} {P6 : Prop} (h : P1 ∧ P2 ∧ P3 ∧ P4 ∧ P5 ∧ P6) (g : P1 → P2 → P3 → P4 → P5 → P6 → G) : G := by obtain ⟨h1, ⟨h2, ⟨h3, ⟨h4, ⟨h5, h6⟩⟩⟩⟩⟩ := h; exact g h1 h2 h3 h4 h5 h6
theorem ob17 {G : Prop} {A1 : Sort _} {A2 : Sort _} {A3 : Sort _} {P1 : A1 → A2 → A3 → Prop} {P2 : A1 → A2 → A3 → Prop} {P3 : A1 → A2 → A3 → Prop} {P4 : A1 → A2 → A3 → Prop} {P5 : A1 → A2 → A3 → Prop} (h : ∃ x1 : A1, ∃ x2 : A2, ∃ x3 : A3, P1 x1 x2 x3 ∧ P2 x1 x2 x3 ∧ P3 x1 x2 x3 ∧ P4 x1 x2 x3 ∧ P5 x1 x2 x3) (g : ∀ x1, ∀ x2, ∀ x3, P1 x1 x2 x3 → P2 x1 x2 x3 → P3 x1 x2 x3 → P4 x1 x2 x3 → P5 x1 x2 x3 → G) : G := by obtain ⟨y1, ⟨y2, ⟨y3, ⟨h1, ⟨h2, ⟨h3, ⟨h4, h5⟩⟩⟩⟩⟩⟩⟩ := h; exact g y1 y2 y3 h1 h2 h3 h4 h5
theorem ob18 {G : Prop} {A1 : Sort _} {A2 : Sort _} {P1 : A1 → A2 → Prop} {P2 : A1 → A2 → Prop} {P3 : A1 → A2 → Prop} {P4 : A1 → A2 → Prop} {P5 : A1 → A2 → Prop} (h : ∃ x1 : A1, ∃ x2 : A2, P1 x1 x2 ∧ P2 x1 x2 ∧ (P3 x1 x2 ∧ P4 x1 x2) ∧ P5 x1 x2) (g : ∀ x1, ∀ x2, P1 x1 x2 → P2 x1 x2 → P3 x1 x2 → P4 x1 x2 → P5 x1 x2 → G) : G := by obtain ⟨y1, ⟨y2, ⟨h1, ⟨h2, ⟨⟨h3, h4⟩, h5⟩⟩⟩⟩⟩ := h; exact g y1 y2 h1 h2 h3 h4 h5
theorem ob19 {G : Prop} {A1 : Sort _} {P1 : A1 → Prop} {P2 : A1 → Prop} {P3 : A1 → Prop} {P4 : A1 → Prop} {P5 : A1 → Prop} (h : ∃ x1 : A1, P1 x1 ∧ (P2 x1 ∧ P3 x1 ∧ P4 x1) ∧ P5 x1) (g : ∀ x1, P1 x1 → P2 x1 → P3 x1 → P4 x1 → P5 x1 → G) : G := by obtain ⟨y1, ⟨h1, ⟨⟨h2, ⟨h3, h4⟩⟩, h5⟩⟩⟩ := h; exact g y1 h1 h2 h3 h4 h5
theorem ob20 {G : Prop} {A1 : Sort _} {P1 : A1 → Prop} {P2 : A1 → Prop} {P3 : A1 → Prop} {P4 : A1 → Prop} (h : ∃ x1 : A1, P1 x1 ∧ (P2 x1 ∧ P3 x1) ∧ P4 x1) (g : ∀ x1, P1 x1 → P2 x1 → P3 x1 → P4 x1 → G) : G := by obtain ⟨y1, ⟨h1, ⟨⟨h2, h3⟩, h4⟩⟩⟩ := h; exact g y1 h1 h2 h3 h4
theorem ob21 {G : Prop} {P1 : Prop} {P2 : Prop} {P3 : Prop} {P4 : Prop} (h : (P1 ∧ P2 ∧ P3) ∧ P4) (g : P1 → P2 → P3 → P4 → G) : G := by obtain ⟨⟨h1, ⟨h2, h3⟩⟩, h4⟩ := h; exact g h1 h2 h3 h4
theorem ob22 {G : Prop} {P1 : Prop} {P2 : Prop} {P3 : Prop} (h : P1 ∧ P2 ∧ P3) (g : P1 → P2 → P3 → G) : G := by obtain ⟨h1, ⟨h2, h3⟩⟩ := h; exact g h1 h2 h3
theorem ob23 {G : Prop} {A1 : Sort _} {P1 : A1 → Prop} {P2 : A1 → Prop} {P3 : A1 → Prop} {P4 : Prop} {P5 : Prop} {P6 : Prop} (h : (((∃ x1 : A1, P1 x1 ∧ P2 x1 ∧ P3 x1) ∧ P4) ∧ P5) ∧ P6) (g : ∀ x1, P1 x1 → P2 x1 → P3 x1 → P4 → P5 → P6 → G) : G := by obtain ⟨⟨⟨⟨y1, ⟨h1, ⟨h2, h3⟩⟩⟩, h4⟩, h5⟩, h6⟩ := h; exact g y1 h1 h2 h3 h4 h5 h6
theorem ob24 {G : Prop} {A1 : Sort _} {P1 : A1 → Prop} {P2 : A1 → Prop} {P3 : A1 → Prop} {P4 : Prop} (h : (∃ x1 : A1, P1 x1 ∧ P2 x1 ∧ P3 x1) ∧ P4) (g : ∀ x1, P1 x1 → P2 x1 → P3 x1 → P4 → G) : G := by obtain ⟨⟨y1, ⟨h1, ⟨h2, h3⟩⟩⟩, h4⟩ := h; exact g y1 h1 h2 h3 h4
theorem ob25 {G : Prop} {A1 : Sort _} {P1 : A1 → Prop} {P2 : A1 → Prop} {P3 : A1 → Prop} {P4 : A1 → Prop} {P5 : A1 → Prop} (h : ∃ x1 : A1, P1 x1 ∧ P2 x1 ∧ P3 x1 ∧ P4 x1 ∧ P5 x1) (g : ∀ x1, P1 x1 → P2 x1 → P3 x1 → P4 x1 → P5 x1 → G) : G := by obtain ⟨y1, ⟨h1, ⟨h2, ⟨h3, ⟨h4, h5⟩⟩⟩⟩⟩ := h; exact g y1 h1 h2 h3 h4 h5
theorem ob26 {G : Prop} {P1 : Prop} {P2 : Prop} {P3 : Prop} {P4 : Prop} {P5 : Prop} (h : (((P1 ∧ P2) ∧ P3) ∧ P4) ∧ P5) (g : P1 → P2 → P3 → P4 → P5 → G) : G := by obtain ⟨⟨⟨⟨h1, h2⟩, h3⟩, h4⟩, h5⟩ := h; exact g h1 h2 h3 h4 h5
theorem ob27 {G : Prop} {A1 : Sort _} {A2 : Sort _} {P1 : Prop} {P2 : A1 → A2 → Prop} {P3 : A1 → A2 → Prop} (h : P1 ∧ (∃ x1 : A1, ∃ x2 : A2, P2 x1 x2 ∧ P3 x1 x2)) (g : P1 → ∀ x1, ∀ x2, P2 x1 x2 → P3 x1 x2 → G) : G := by obtain ⟨h1, ⟨y1, ⟨y2, ⟨h2, h3⟩⟩⟩⟩ := h; exact g h1 y1 y2 h2 h3
theorem ob28 {G : Prop} {P1 : Prop} {P2 : Prop} {P3 : Prop} {P4 : Prop} {P5 : Prop} {P6 : Prop} (h : ((((P1 ∧ P2) ∧ P3) ∧ P4) ∧ P5) ∧ P6) (g : P1 → P2 → P3 → P4 → P5 → P6 → G) : G := by obtain ⟨⟨⟨⟨⟨h1, h2⟩, h3⟩, h4⟩, h5⟩, h6⟩ := h; exact g h1 h2 h3 h4 h5 h6
theorem ob29 {G : Prop} {A1 : Sort _} {A2 : Sort _} {P1 : Prop} {P2 : Prop} {P3 : Prop} {P4 : A1 → A2 → Prop} {P5 : A1 → A2 → Prop} (h : P1 ∧ P2 ∧ P3 ∧ (∃ x1 : A1, ∃ x2 : A2, P4 x1 x2 ∧ P5 x1 x2)) (g : P1 → P2 → P3 → ∀ x1, ∀ x2, P4 x1 x2 → P5 x1 x2 → G) : G := by obtain ⟨h1, ⟨h2, ⟨h3, ⟨y1, ⟨y2, ⟨h4, h5⟩⟩⟩⟩⟩⟩ := h; exact g h1 h2 h3 y1 y2 h4 h5
theorem ob30 {G : Prop} {P1 : Prop} {P2 : Prop} {P3 : Prop} {P4 : Prop} (h : ((P1 ∧ P2) ∧ P3) ∧ P4) (g : P1 → P2 → P3 → P4 → G) : G := by obtain ⟨⟨⟨h1, h2⟩, h3⟩, h4⟩ := h; exact g h1 h2 h3 h4
theorem ob31 {G : Prop} {A1 : Sort _} {P1 : A1 → Prop} {P2 : A1 → Prop} {P3 : A1 → Prop} {P4 : A1 → Prop} {P5 : A1 → Prop} {P6 : A1 → Prop} (h : ∃ x1 : A1, P1 x1 ∧ (P2 x1 ∧ P3 x1 ∧ P4 x1 ∧ P5 x1) ∧ P6 x1) (g : ∀ x1, P1 x1 → P2 x1 → P3 x1 → P4 x1 → P5 x1 → P6 x1 → G) : G := by obtain ⟨y1, ⟨h1, ⟨⟨h2, ⟨h3, ⟨h4, h5⟩⟩⟩, h6⟩⟩⟩ := h; exact g y1 h1 h2 h3 h4 h5 h6
theorem ob32 {G : Prop} {A1 : Sort _} {P1 : A1 → Prop} {P2 : A1 → Prop} {P3 : A1 → Prop} {P4 : A1 → Prop} {P5 : A1 → Prop} {P6 : A1 → Prop} {P7 : A1 → Prop} {P8 : A1 → Prop} (h : ∃ x1 : A1, P1 x1 ∧ (P2 x1 ∧ P3 x1 ∧ P4 x1 ∧ P5 x1 ∧ P6 x1 ∧ P7 x1) ∧ P8 x1) (g : ∀ x1, P1 x1 → P2 x1 → P3 x1 → P4 x1 → P5 x1 → P6 x1 → P7 x1 → P8 x1 → G) : G := by obtain ⟨y1, ⟨h1, ⟨⟨h2, ⟨h3, ⟨h4, ⟨h5, ⟨h6, h7⟩⟩⟩⟩⟩, h8⟩⟩⟩ := h; exact g y1 h1 h2 h3 h4 h5 h6 h7 h8
theorem ob33 {G : Prop} {A1 : Sort _} {A2 : Sort _} {A3 : Sort _} {A4 : Sort _} {P1 : A1 → A2 → A3 → A4 → Prop} {P2 : A1 → A2 → A3 → A4 → Prop} {P3 : A1 → A2 → A3 → A4 → Prop} {P4 : A1 → A2 → A3 → A4 → Prop} {P5 : A1 → A2 → A3 → A4 → Prop} (h : ∃ x1 : A1, ∃ x2 : A2, ∃ x3 : A3, ∃ x4 : A4, P1 x1 x2 x3 x4 ∧ P2 x1 x2 x3 x4 ∧ P3 x1 x2 x3 x4 ∧ P4 x1 x2 x3 x4 ∧ P5 x1 x2 x3 x4) (g : ∀ x1, ∀ x2, ∀ x3, ∀ x4, P1 x1 x2 x3 x4 → P2 x1 x2 x3 x4 → P3 x1 x2 x3 x4 → P4 x1 x2 x3 x4 → P5 x1 x2 x3 x4 → G) : G := by obtain ⟨y1, ⟨y2, ⟨y3, ⟨y4, ⟨h1, ⟨h2, ⟨h3, ⟨h4, h5⟩⟩⟩⟩⟩⟩⟩⟩ := h; exact g y1 y2 y3 y4 h1 h2 h3 h4 h5
theorem ob34 {G : Prop} {P1 : Prop} {P2 : Prop} {P3 : Prop} {P4 : Prop} {P5 : Prop} {P6 : Prop} {P7 : Prop} (h : (((((P1 ∧ P2) ∧ P3) ∧ P4) ∧ P5) ∧ P6) ∧ P7) (g : P1 → P2 → P3 → P4 → P5 → P6 → P7 → G) : G := by obtain ⟨⟨⟨⟨⟨⟨h1, h2⟩, h3⟩, h4⟩, h5⟩, h6⟩, h7⟩ := h; exact g h1 h2 h3 h4 h5 h6 h7
theorem ob35 {G : Prop} {P1 : Prop} {P2 : Prop} {P3 : Prop} {P4 : Prop} {P5 : Prop} {P6 : Prop} {P7 : Prop} {P8 : Prop} (h : ((((((P1 ∧ P2) ∧ P3) ∧ P4) ∧ P5) ∧ P6) ∧ P7) ∧ P8) (g : P1 → P2 → P3 → P4 → P5 → P6 → P7 → P8 → G) : G := by obtain ⟨⟨⟨⟨⟨⟨⟨h1, h2⟩, h3⟩, h4⟩, h5⟩, h6⟩, h7⟩, h8⟩ := h; exact g h1 h2 h3 h4 h5 h6 h7 h8
theorem ob36 {G : Prop} {A1 : Sort _} {A2 : Sort _} {A3 : Sort _} {A4 : Sort _} {A5 : Sort _} {A6 : Sort _} {P1 : A1 → A2 → A3 → A4 → A5 → A6 → Prop} (h : ∃ x1 : A1, ∃ x2 : A2, ∃ x3 : A3, ∃ x4 : A4, ∃ x5 : A5, ∃ x6 : A6, P1 x1 x2 x3 x4 x5 x6) (g : ∀ x1, ∀ x2, ∀ x3, ∀ x4, ∀ x5, ∀ x6, P1 x1 x2 x3 x4 x5 x6 → G) : G := by obtain ⟨y1, ⟨y2, ⟨y3, ⟨y4, ⟨y5, ⟨y6, h1⟩⟩⟩⟩⟩⟩ := h; exact g y1 y2 y3 y4 y5 y6 h1
theorem ob37 {G : Prop} {A1 : Sort _} {A2 : Sort _} {A3 : Sort _} {P1 : A1 → A2 → A3 → Prop} {P2 : A1 → A2 → A3 → Prop} {P3 : A1 → A2 → A3 → Prop} {P4 : A1 → A2 → A3 → Prop} {P5 : A1 → A2 → A3 → Prop} {P6 : A1 → A2 → A3 → Prop} {P7 : A1 → A2 → A3 → Prop} (h : ∃ x1 : A1, ∃ x2 : A2, ∃ x3 : A3, P1 x1 x2 x3 ∧ P2 x1 x2 x3 ∧ P3 x1 x2 x3 ∧ P4 x1 x2 x3 ∧ P5 x1 x2 x3 ∧ P6 x1 x2 x3 ∧ P7 x1 x2 x3) (g : ∀ x1, ∀ x2, ∀ x3, P1 x1 x2 x3 → P2 x1 x2 x3 → P3 x1 x2 x3 → P4 x1 x2 x3 → P5 x1 x2 x3 → P6 x1 x2 x3 → P7 x1 x2 x3 → G) : G := by obtain ⟨y1, ⟨y2, ⟨y3, ⟨h1, ⟨h2, ⟨h3, ⟨h4, ⟨h5, ⟨h6, h7⟩⟩⟩⟩⟩⟩⟩⟩⟩ := h; exact g y1 y2 y3 h1 h2 h3 h4 h5 h6 h7
theorem ob38 {G : Prop} {A1 : Sort _} {A2 : Sort _} {A3 : Sort _} {A4 : Sort _} {A5 : Sort _} {P1 : A1 → A2 → A3 → A4 → A5 → Prop} {P2 : A1 → A2 → A3 → A4 → A5 → Prop} {P3 : A1 → A2 → A3 → A4 → A5 → Prop} (h : ∃ x1 : A1, ∃ x2 : A2, ∃ x3 : A3, ∃ x4 : A4, ∃ x5 : A5, P1 x1 x2 x3 x4 x5 ∧ P2 x1 x2 x3 x4 x5 ∧ P3 x1 x2 x3 x4 x5) (g : ∀ x1, ∀ x2, ∀ x3, ∀ x4, ∀ x5, P1 x1 x2 x3 x4 x5 → P2 x1 x2 x3 x4 x5 → P3 x1 x2 x3 x4 x5 → G) : G := by obtain ⟨y1, ⟨y2, ⟨y3, ⟨y4, ⟨y5, ⟨h1, ⟨h2, h3⟩⟩⟩⟩⟩⟩⟩ := h; exact g y1 y2 y3 y4 y5 h1 h2 h3
theorem ob39 {G : Prop} {A1 : Sort _} {A2 : Sort _} {A3 : Sort _} {A4 : Sort _} {A5 : Sort _} {A6 : Sort _} {A7 : Sort _} {A8 : Sort _} {A9 : Sort _} {A10 : Sort _} {A11 : Sort _} {A12 : Sort _} {A13 : Sort _} {A14 : Sort _} {A15 : Sort _} {A16 : Sort _} {A17 : Sort _} {P1 : A1 → A2 → A3 → A4 → A5 → A6 → A7 → A8 → A9 → A10 → A11 → A12 → A13 → A14 → A15 → A16 → A17 → Prop} {P2 : A1 → A2 → A3 → A4 → A5 → A6 → A7 → A8 → A9 → A10 → A11 → A12 → A13 → A14 → A15 → A16 → A17 → Prop} {P3 : A1 → A2 → A3 → A4 → A5 → A6 → A7 → A8 → A9 → A10 → A11 → A12 → A13 → A14 → A15 → A16 → A17 → Prop} {P4 : A1 → A2 → A3 → A4 → A5 → A6 → A7 → A8 → A9 → A10 → A11 → A12 → A13 → A14 → A15 → A16 → A17 → Prop} (h : ∃ x1 : A1, ∃ x2 : A2, ∃ x3 : A3, ∃ x4 : A4, ∃ x5 : A5, ∃ x6 : A6, ∃ x7 : A7, ∃ x8 : A8, ∃ x9 : A9, ∃ x10 : A10, ∃ x11 : A11, ∃ x12 : A12, ∃ x13 : A13, ∃ x14 : A14, ∃ x15 : A15, ∃ x16 : A16, ∃ x17 : A17, P1 x1 x2 x3 x4 x5 x6 x7 x8 x9 x10 x11 x12 x13 x14 x15 x16 x17 ∧ P2 x1 x2 x3 x4 x5 x6 x7 x8 x9 x10 x11 x12 x13 x14 x15 x16 x17 ∧ P3 x1 x2 x3 x4 x5 x6 x7 x8 x9 x10 x11 x12 x13 x14 x15 x16 x17 ∧ P4 x1 x2 x3 x4 x5 x6 x7 x8 x9 x10 x11 x12 x13 x14 x15 x16 x17) (g : ∀ x1, ∀ x2, ∀ x3, ∀ x4, ∀ x5, ∀ x6, ∀ x7, ∀ x8, ∀ x9, ∀ x10, ∀ x11, ∀ x12, ∀ x13, ∀ x14, ∀ x15, ∀ x16, ∀ x17, P1 x1 x2 x3 x4 x5 x6 x7 x8 x9 x10 x11 x12 x13 x14 x15 x16 x17 → P2 x1 x2 x3 x4 x5 x6 x7 x8 x9 x10 x11 x12 x13 x14 x15 x16 x17 → P3 x1 x2 x3 x4 x5 x6 x7 x8 x9 x10 x11 x12 x13 x14 x15 x16 x17 → P4 x1 x2 x3 x4 x5 x6 x7 x8 x9 x10 x11 x12 x13 x14 x15 x16 x17 → G) : G := by obtain ⟨y1, ⟨y2, ⟨y3, ⟨y4, ⟨y5, ⟨y6, ⟨y7, ⟨y8, ⟨y9, ⟨y10, ⟨y11, ⟨y12, ⟨y13, ⟨y14, ⟨y15, ⟨y16, ⟨y17, ⟨h1, ⟨h2, ⟨h3, h4⟩⟩⟩⟩⟩⟩⟩⟩⟩⟩⟩⟩⟩⟩⟩⟩⟩⟩⟩⟩ := h; exact g y1 y2 y3 y4 y5 y6 y7 y8 y9 y10 y11 y12 y13 y14 y15 y16 y17 h1 h2 h3 h4
theorem ob40 {G : Prop} {A1 : Sort _} {A2 : Sort _} {A3 : Sort _} {P1 : A1 → A2 → A3 → Prop} {P2 : A1 → A2 → A3 → Prop} {P3 : A1 → A2 → A3 → Prop} {P4 : A1 → A2 → A3 → Prop} {P5 : A1 → A2 → A3 → Prop} {P6 : A1 → A2 → A3 → Prop} {P7 : A1 → A2 → A3 → Prop} {P8 : A1 → A2 → A3 → Prop} {P9 : A1 → A2 → A3 → Prop} {P10 : A1 → A2 → A3 → Prop} {P11 : A1 → A2 → A3 → Prop} {P12 : A1 → A2 → A3 → Prop} {P13 : A1 → A2 → A3 → Prop} {P14 : A1 → A2 → A3 → Prop} (h : ∃ x1 : A1, ∃ x2 : A2, ∃ x3 : A3, P1 x1 x2 x3 ∧ P2 x1 x2 x3 ∧ P3 x1 x2 x3 ∧ P4 x1 x2 x3 ∧ P5 x1 x2 x3 ∧ P6 x1 x2 x3 ∧ P7 x1 x2 x3 ∧ P8 x1 x2 x3 ∧ P9 x1 x2 x3 ∧ P10 x1 x2 x3 ∧ P11 x1 x2 x3 ∧ P12 x1 x2 x3 ∧ P13 x1 x2 x3 ∧ P14 x1 x2 x3) (g : ∀ x1, ∀ x2, ∀ x3, P1 x1 x2 x3 → P2 x1 x2 x3 → P3 x1 x2 x3 → P4 x1 x2 x3 → P5 x1 x2 x3 → P6 x1 x2 x3 → P7 x1 x2 x3 → P8 x1 x2 x3 → P9 x1 x2 x3 → P10 x1 x2 x3 → P11 x1 x2 x3 → P12 x1 x2 x3 → P13 x1 x2 x3 → P14 x1 x2 x3 → G) : G := by obtain ⟨y1, ⟨y2, ⟨y3, ⟨h1, ⟨h2, ⟨h3, ⟨h4, ⟨h5, ⟨h6, ⟨h7, ⟨h8, ⟨h9, ⟨h10, ⟨h11, ⟨h12, ⟨h13, h14⟩⟩⟩⟩⟩⟩⟩⟩⟩⟩⟩⟩⟩⟩⟩⟩ := h; exact g y1 y2 y3 h1 h2 h3 h4 h5 h6 h7 h8 h9 h10 h11 h12 h13 h14
theorem ob41 {G : Prop} {A1 : Sort _} {P1 : A1 → Prop} {P2 : A1 → Prop} {P3 : A1 → Prop} {P4 : A1 → Prop} {P5 : A1 → Prop} {P6 : A1 → Prop} (h : ∃ x1 : A1, P1 x1 ∧ P2 x1 ∧ P3 x1 ∧ P4 x1 ∧ P5 x1 ∧ P6 x1) (g : ∀ x1, P1 x1 → P2 x1 → P3 x1 → P4 x1 → P5 x1 → P6 x1 → G) : G := by obtain ⟨y1, ⟨h1, ⟨h2, ⟨h3, ⟨h4, ⟨h5, h6⟩⟩⟩⟩⟩⟩ := h; exact g y1 h1 h2 h3 h4 h5 h6
theorem ob42 {G : Prop} {P1 : Prop} {P2 : Prop} {P3 : Prop} {P4 : Prop} {P5 : Prop} {P6 : Prop} {P7 : Prop} {P8 : Prop} {P9 : Prop} {P10 : Prop} {P11 : Prop} {P12 : Prop} {P13 : Prop} {P14 : Prop} (h : ((((((((((((P1 ∧ P2) ∧ P3) ∧ P4) ∧ P5) ∧ P6) ∧ P7) ∧ P8) ∧ P9) ∧ P10) ∧ P11) ∧ P12) ∧ P13) ∧ P14) (g : P1 → P2 → P3 → P4 → P5 → P6 → P7 → P8 → P9 → P10 → P11 → P12 → P13 → P14 → G) : G := by obtain ⟨⟨⟨⟨⟨⟨⟨⟨⟨⟨⟨⟨⟨h1, h2⟩, h3⟩, h4⟩, h5⟩, h6⟩, h7⟩, h8⟩, h9⟩, h10⟩, h11⟩, h12⟩, h13⟩, h14⟩ := h; exact g h1 h2 h3 h4 h5 h6 h7 h8 h9 h10 h11 h12 h13 h14
theorem ob43 {G : Prop} {A1 : Sort _} {A2 : Sort _} {A3 : Sort _} {A4 : Sort _} {A5 : Sort _} {P1 : A1 → Prop} {P2 : A1 → Prop} {P3 : A1 → Prop} {P4 : A1 → Prop} {P5 : A1 → A2 → A3 → A4 → A5 → Prop} (h : ∃ x1 : A1, P1 x1 ∧ P2 x1 ∧ P3 x1 ∧ P4 x1 ∧ (∃ x2 : A2, ∃ x3 : A3, ∃ x4 : A4, ∃ x5 : A5, P5 x1 x2 x3 x4 x5)) (g : ∀ x1, P1 x1 → P2 x1 → P3 x1 → P4 x1 → ∀ x2, ∀ x3, ∀ x4, ∀ x5, P5 x1 x2 x3 x4 x5 → G) : G := by obtain ⟨y1, ⟨h1, ⟨h2, ⟨h3, ⟨h4, ⟨y2, ⟨y3, ⟨y4, ⟨y5, h5⟩⟩⟩⟩⟩⟩⟩⟩⟩ := h; exact g y1 h1 h2 h3 h4 y2 y3 y4 y5 h5
theorem ob44 {G : Prop} {A1 : Sort _} {A2 : Sort _} {A3 : Sort _} {A4 : Sort _} {P1 : A1 → Prop} {P2 : A1 → Prop} {P3 : A1 → Prop} {P4 : A1 → Prop} {P5 : A1 → A2 → A3 → A4 → Prop} (h : ∃ x1 : A1, P1 x1 ∧ P2 x1 ∧ P3 x1 ∧ P4 x1 ∧ (∃ x2 : A2, ∃ x3 : A3, ∃ x4 : A4, P5 x1 x2 x3 x4)) (g : ∀ x1, P1 x1 → P2 x1 → P3 x1 → P4 x1 → ∀ x2, ∀ x3, ∀ x4, P5 x1 x2 x3 x4 → G) : G := by obtain ⟨y1, ⟨h1, ⟨h2, ⟨h3, ⟨h4, ⟨y2, ⟨y3, ⟨y4, h5⟩⟩⟩⟩⟩⟩⟩⟩ := h; exact g y1 h1 h2 h3 h4 y2 y3 y4 h5
theorem ob45 {G : Prop} {P1 : Prop} {P2 : Prop} {P3 : Prop} {P4 : Prop} {P5 : Prop} (h : P1 ∧ P2 ∧ P3 ∧ P4 ∧ P5) (g : P1 → P2 → P3 → P4 → P5 → G) : G := by obtain ⟨h1, ⟨h2, ⟨h3, ⟨h4, h5⟩⟩⟩⟩ := h; exact g h1 h2 h3 h4 h5
theorem ob46 {G : Prop} {A1 : Sort _} {A2 : Sort _} {A3 : Sort _} {P1 : Prop} {P2 : Prop} {P3 : Prop} {P4 : Prop} {P5 : A1 → A2 → A3 → Prop} (h : P1 ∧ P2 ∧ P3 ∧ P4 ∧ (∃ x1 : A1, ∃ x2 : A2, ∃ x3 : A3, P5 x1 x2 x3)) (g : P1 → P2 → P3 → P4 → ∀ x1, ∀ x2, ∀ x3, P5 x1 x2 x3 → G) : G := by obtain ⟨h1, ⟨h2, ⟨h3, ⟨h4, ⟨y1, ⟨y2, ⟨y3, h5⟩⟩⟩⟩⟩⟩⟩ := h; exact g h1 h2 h3 h4 y1 y2 y3 h5
theorem ob47 {G : Prop} {A1 : Sort _} {P1 : A1 → Prop} {P2 : A1 → Prop} {P3 : A1 → Prop} (h : ∃ x1 : A1, (P1 x1 ∧ P2 x1) ∧ P3 x1) (g : ∀ x1, P1 x1 → P2 x1 → P3 x1 → G) : G := by obtain ⟨y1, ⟨⟨h1, h2⟩, h3⟩⟩ := h; exact g y1 h1 h2 h3
theorem ob48 {G : Prop} {A1 : Sort _} {A2 : Sort _} {P1 : Prop} {P2 : Prop} {P3 : A1 → A2 → Prop} (h : P1 ∧ P2 ∧ (∃ x1 : A1, ∃ x2 : A2, P3 x1 x2)) (g : P1 → P2 → ∀ x1, ∀ x2, P3 x1 x2 → G) : G := by obtain ⟨h1, ⟨h2, ⟨y1, ⟨y2, h3⟩⟩⟩⟩ := h; exact g h1 h2 y1 y2 h3
theorem ob49 {G : Prop} {A1 : Sort _} {P1 : Prop} {P2 : A1 → Prop} (h : P1 ∧ (∃ x1 : A1, P2 x1)) (g : P1 → ∀ x1, P2 x1 → G) : G := by obtain ⟨h1, ⟨y1, h2⟩⟩ := h; exact g h1 y1 h2
theorem ob50 {G : Prop} {A1 : Sort _} {P1 : Prop} {P2 : Prop} {P3 : A1 → Prop} (h : P1 ∧ P2 ∧ (∃ x1 : A1, P3 x1)) (g : P1 → P2 → ∀ x1, P3 x1 → G) : G := by obtain ⟨h1, ⟨h2, ⟨y1, h3⟩⟩⟩ := h; exact g h1 h2 y1 h3
theorem ob51 {G : Prop} {A1 : Sort _} {A2 : Sort _} {A3 : Sort _} {A4 : Sort _} {P1 : A1 → A2 → A3 → A4 → Prop} {P2 : A1 → A2 → A3 → A4 → Prop} {P3 : A1 → A2 → A3 → A4 → Prop} {P4 : A1 → A2 → A3 → A4 → Prop} {P5 : A1 → A2 → A3 → A4 → Prop} {P6 : A1 → A2 → A3 → A4 → Prop} {P7 : A1 → A2 → A3 → A4 → Prop} {P8 : A1 → A2 → A3 → A4 → Prop} {P9 : A1 → A2 → A3 → A4 → Prop} (h : ∃ x1 : A1, ∃ x2 : A2, ∃ x3 : A3, ∃ x4 : A4, P1 x1 x2 x3 x4 ∧ P2 x1 x2 x3 x4 ∧ P3 x1 x2 x3 x4 ∧ P4 x1 x2 x3 x4 ∧ P5 x1 x2 x3 x4 ∧ P6 x1 x2 x3 x4 ∧ P7 x1 x2 x3 x4 ∧ P8 x1 x2 x3 x4 ∧ P9 x1 x2 x3 x4) (g : ∀ x1, ∀ x2, ∀ x3, ∀ x4, P1 x1 x2 x3 x4 → P2 x1 x2 x3 x4 → P3 x1 x2 x3 x4 → P4 x1 x2 x3 x4 → P5 x1 x2 x3 x4 → P6 x1 x2 x3 x4 → P7 x1 x2 x3 x4 → P8 x1 x2 x3 x4 → P9 x1 x2 x3 x4 → G) : G := by obtain ⟨y1, ⟨y2, ⟨y3, ⟨y4, ⟨h1, ⟨h2, ⟨h3, ⟨h4, ⟨h5, ⟨h6, ⟨h7, ⟨h8, h9⟩⟩⟩⟩⟩⟩⟩⟩⟩⟩⟩⟩ := h; exact g y1 y2 y3 y4 h1 h2 h3 h4 h5 h6 h7 h8 h9
theorem ob52 {G : Prop} {A1 : Sort _} {A2 : Sort _} {P1 : Prop} {P2 : A1 → Prop} {P3 : A2 → Prop} (h : P1 ∧ (∃ x1 : A1, P2 x1) ∧ (∃ x2 : A2, P3 x2)) (g : P1 → ∀ x1, P2 x1 → ∀ x2, P3 x2 → G) : G := by obtain ⟨h1, ⟨⟨y1, h2⟩, ⟨y2, h3⟩⟩⟩ := h; exact g h1 y1 h2 y2 h3
theorem ob53 {G : Prop} {A1 : Sort _} {A2 : Sort _} {P1 : A1 → A2 → Prop} {P2 : A1 → A2 → Prop} {P3 : A1 → A2 → Prop} {P4 : A1 → A2 → Prop} {P5 : A1 → A2 → Prop} {P6 : A1 → A2 → Prop} (h : ∃ x1 : A1, ∃ x2 : A2, P1 x1 x2 ∧ P2 x1 x2 ∧ P3 x1 x2 ∧ P4 x1 x2 ∧ P5 x1 x2 ∧ P6 x1 x2) (g : ∀ x1, ∀ x2, P1 x1 x2 → P2 x1 x2 → P3 x1 x2 → P4 x1 x2 → P5 x1 x2 → P6 x1 x2 → G) : G := by obtain ⟨y1, ⟨y2, ⟨h1, ⟨h2, ⟨h3, ⟨h4, ⟨h5, h6⟩⟩⟩⟩⟩⟩⟩ := h; exact g y1 y2 h1 h2 h3 h4 h5 h6

/-- abstract values -/
inductive V where
  | none | bool (b : Bool) | int (i : Int) | str (s : Str) | tup (vs : List V) | ref (a : Addr)
  deriving Inhabited

/-- abstract objects -/
inductive AO where
  | list (vs : List V)
  | fixed (vs : List V)
  | dict (ks : List V)
  | inst (c : String) (d : Addr)
  | ns (fs : List (String × V))
  | exc (c : String)
  deriving Inhabited

abbrev Store := Addr → Option AO
noncomputable def Store.upd (σ : Store) (a : Addr) (o : AO) : Store := fun b => if b = a then some o else σ b
abbrev Loc := List (Option V)
noncomputable def Loc.get (ρ : Loc) (i : Nat) : Option V := (ρ[i]?).join
abbrev XP := String → Addr → Store → Prop
structure Calls where
  has : String → String → Prop
  fld : String → String → Prop
  run : String → String → List V → Store → (V → Store → Prop) → XP → Prop

inductive Ty where
  | int | bool | tuple | list | str | cls (c : String)
  deriving DecidableEq

inductive B1 where
  | len | list | sorted | int | all | any | tuple | dict | set | max
  deriving DecidableEq
inductive M0 where
  | pop | clear | reverse
  deriving DecidableEq
inductive M1 where
  | append | extend | remove
  deriving DecidableEq

inductive Tg where
  | one (x : Nat)
  | many (xs : List Nat)
  deriving DecidableEq

set_option genSizeOf false
set_option genInjectivity false
mutual
inductive Ex where
  | none | tt | ff | int (i : Int) | str (s : String)
  | var (x : Nat)
  | glob (x : String)
  | bin (op : Operator) (a b : Ex)
  | neg (a : Ex)
  | not (a : Ex)
  | cmp (op : CmpOp) (a b : Ex)
  | cmp2 (o₁ o₂ : CmpOp) (a b c : Ex)
  | bool (isAnd : Bool) (es : Exs)
  | call (f : String) (es : Exs)
  | make (c : String) (es : Exs)
  | meth (o : Ex) (name : String) (es : Exs)
  | m0 (o : Ex) (m : M0)
  | m1 (o : Ex) (m : M1) (a : Ex)
  | insert (o a b : Ex)
  | attr (o : Ex) (name : String)
  | idx (o i : Ex)
  | slice (o : Ex) (lo hi : ExO)
  | rev (o : Ex)
  | list (es : Exs)
  | tuple (es : Exs)
  | dict0
  | dict1 (k v : Ex)
  | comp (bs : List (String × Nat)) (elt : Ex) (t : Tg) (it : Ex) (cond : ExO)
  | b1 (f : B1) (e : Ex)
  | min2 (a b : Ex)
  | max2 (a b : Ex)
  | isin (e : Ex) (t : Ty)
  | range1 (a : Ex) | range2 (a b : Ex) | range3 (a b c : Ex)
  | enum (e : Ex)
inductive Exs where
  | nil
  | cons (e : Ex) (es : Exs)
inductive ExO where
  | none
  | some (e : Ex)
end

mutual
inductive St where
  | expr (e : Ex)
  | assign (t : Tg) (e : Ex)
  | setattr (o : Ex) (name : String) (e : Ex)
  | setitem (o i e : Ex)
  | ret (e : Ex)
  | pass
  | raise (c msg : String)
  | iff (c : Ex) (th el : Sts)
  | whil (c : Ex) (body : Sts)
  | for (t : Tg) (it : Ex) (body : Sts)
  | tryx (body : Sts) (hs : Hs)
inductive Sts where
  | nil
  | cons (s : St) (r : Sts)
inductive Hs where
  | nil
  | cons (c : String) (x : Nat) (body : Sts) (r : Hs)
end

set_option genSizeOf true
set_option genInjectivity true
noncomputable def szLim : Nat := 1000000

/-- python's index -/
noncomputable def pyIdx (i : Int) (n : Nat) : Option Nat :=
  if 0 ≤ i then (if i.toNat < n then some i.toNat else none)
  else if -(n : Int) ≤ i then some (i + n).toNat else none

noncomputable def eqList (f : V → V → Option Bool) : List V → List V → Option Bool
  | [], [] => some true
  | u :: us, v :: vs =>
    match f u v, eqList f us vs with
    | some a, some b => some (a && b)
    | _, _ => none
  | _, _ => some false

/-- == of plain values of one kind -/
noncomputable def eqB : V → V → Option Bool
  | .none, v => (match v with | .none => some true | _ => none)
  | .bool a, v => (match v with | .bool b => some (a == b) | _ => none)
  | .int a, v => (match v with | .int b => some (a == b) | _ => none)
  | .str a, v => (match v with | .str b => some (a == b) | _ => none)
  | .tup _, _ => none
  | .ref _, _ => none
noncomputable def asL : Option AO → Option (List V)
  | some (.list us) => some us
  | _ => none
/-- python's == on what the store tells -/
noncomputable def eqv (σ : Store) : Nat → V → V → Option Bool
  | 0, u, v => eqB u v
  | n + 1, u, v => match u with
    | .tup us => (match v with | .tup vs => eqList (eqv σ n) us vs | _ => none)
    | .ref a => (match v with
      | .ref b => (asL (σ a)).bind fun us => (asL (σ b)).bind fun vs => if us.length = vs.length then eqList (eqv σ n) us vs else some false
      | _ => none)
    | _ => eqB u v

noncomputable def fuel : Nat := 6

noncomputable def truthy (_ : Store) : V → Option Bool
  | .none => some false
  | .bool b => some b
  | .int i => some (i != 0)
  | _ => none

noncomputable def excNames : List String := ["BadNet", "NoPlace", "BadPairs", "BadWay", "TieThere", "NoTie", "OddRing"]
noncomputable def excSub (c C : String) : Bool := c == C || C == "NetError" || C == "ValueError"

/-- a value whose kind is one of the built-in ones -/
inductive Kd where
  | none | bool | int | str | tuple | list | dict
  deriving DecidableEq
noncomputable def kindV (σ : Store) : V → Option Kd
  | .none => some .none
  | .bool _ => some .bool
  | .int _ => some .int
  | .str _ => some .str
  | .tup _ => some .tuple
  | .ref a => match σ a with
    | some (.list _) => some .list
    | some (.dict _) => some .dict
    | _ => none
noncomputable def isKd : Kd → Ty → Option Bool
  | k, .int => some (match k with | .int => true | .bool => true | _ => false)
  | k, .bool => some (match k with | .bool => true | _ => false)
  | k, .str => some (match k with | .str => true | _ => false)
  | k, .tuple => some (match k with | .tuple => true | _ => false)
  | k, .list => some (match k with | .list => true | _ => false)
  | _, .cls _ => none
noncomputable def isInst (σ : Store) (v : V) : Ty → Option Bool
  | .cls C => match v with
    | .ref a => match σ a with
      | some (.exc c) => if c ∈ excNames then some (excSub c C) else none
      | _ => none
    | _ => none
  | t => (kindV σ v).bind fun k => isKd k t

/-- dicts are used as sets of ints or of pairs of ints: every value is True -/
noncomputable def keyEq (u v : V) : Bool := match u, v with
  | .int a, .int b => a == b
  | .tup [.int a, .int b], .tup [.int c, .int d] => a == c && b == d
  | _, _ => false
noncomputable def isIntV : V → Bool
  | .int _ => true
  | _ => false
noncomputable def isPairV : V → Bool
  | .tup [.int _, .int _] => true
  | _ => false
/-- one kind of keys -/
noncomputable def keysOk (ks : List V) : Bool := ks.all isIntV || ks.all isPairV
noncomputable def hasKey (k : V) (ks : List V) : Bool := ks.any fun x => keyEq x k
noncomputable def putKey (k : V) (ks : List V) : List V := if hasKey k ks then ks else ks ++ [k]
/-- keys told by a list of pairs (k, True) -/
noncomputable def keysOf : List V → Option (List V)
  | [] => some []
  | .tup [k, .bool true] :: r => (keysOf r).map (k :: ·)
  | _ => none

/-- elements of a comparison or a membership -/
noncomputable def memV (σ : Store) (x : V) : List V → Option Bool
  | [] => some false
  | y :: ys => match eqv σ fuel y x, memV σ x ys with
    | some a, some b => some (a || b)
    | _, _ => none

noncomputable def inV (σ : Store) (x : V) : V → Option Bool
  | .tup vs => memV σ x vs
  | .ref a => match σ a with
    | some (.list vs) => memV σ x vs
    | some (.dict ks) => if keysOk (x :: ks) then some (hasKey x ks) else none
    | _ => none
  | _ => none

/-- lexicographic less on tuples of ints -/
noncomputable def ltInts : List V → List V → Option Bool
  | [], [] => some false
  | [], _ :: _ => some true
  | _ :: _, [] => some false
  | .int a :: us, .int b :: vs => if a = b then ltInts us vs else some (decide (a < b))
  | _, _ => none

noncomputable def cmpII (u v : V) (f : Int → Int → Bool) : Option Bool := match u, v with | .int a, .int b => some (f a b) | _, _ => none
noncomputable def cmpV (σ : Store) (op : CmpOp) (u v : V) : Option Bool :=
  match op with
  | .Eq => eqv σ fuel u v
  | .NotEq => (eqv σ fuel u v).map (!·)
  | .Lt => cmpII u v fun a b => decide (a < b)
  | .LtE => cmpII u v fun a b => decide (a ≤ b)
  | .Gt => cmpII u v fun a b => decide (b < a)
  | .GtE => cmpII u v fun a b => decide (b ≤ a)
  | .Is => none
  | .IsNot => none
  | .In => inV σ u v
  | .NotIn => (inV σ u v).map (!·)

/-- python's slice bounds -/
noncomputable def clampIdx (n : Nat) (d : Nat) : Option Int → Nat
  | none => d
  | some i => if i < 0 then (i + n).toNat else min i.toNat n
noncomputable def pySlice {α : Type} (lo hi : Option Int) (vs : List α) : List α :=
  (vs.take (clampIdx vs.length vs.length hi)).drop (clampIdx vs.length 0 lo)

noncomputable def ints? : List V → Option (List Int)
  | [] => some []
  | .int i :: r => (ints? r).map (i :: ·)
  | _ => none
/-- a pair of ints, as a tuple -/
noncomputable def pr (p : Int × Int) : V := .tup [.int p.1, .int p.2]
noncomputable def lexLt (p q : Int × Int) : Prop := p.1 < q.1 ∨ (p.1 = q.1 ∧ p.2 < q.2)
/-- what sorted gives -/
noncomputable def sortedV (vs : List V) : Option (List V) :=
  if vs.length < 64 then
    match ints? vs with
    | some ns => some ((ns.mergeSort (fun a b => decide (a ≤ b))).map V.int)
    | none => none
  else none

/-- pairs, none told twice, put in order -/
noncomputable def sortP (vs : List V) (K : List V → Prop) : Prop := ∃ ps : List (Int × Int), (vs = ps.map pr ∧ ps.Nodup ∧ ps.length < 64) ∧ ∀ qs : List (Int × Int), qs.Perm ps → qs.Pairwise lexLt → K (qs.map pr)

noncomputable def onSome {α : Type} (o : Option α) (K : α → Prop) : Prop := match o with | some a => K a | none => False
@[simp] theorem onSome_some {α : Type} {a : α} {K : α → Prop} : onSome (some a) K = K a := rfl
@[simp] theorem onSome_none {α : Type} {K : α → Prop} : onSome none K = False := rfl
noncomputable def onInt (v : V) (K : Int → Prop) : Prop := match v with | .int i => K i | _ => False
@[simp] theorem onInt_int {i : Int} {K : Int → Prop} : onInt (.int i) K = K i := rfl
/-- a list of the store -/
noncomputable def onList (σ : Store) (v : V) (K : Addr → List V → Prop) : Prop := match v with
  | .ref a => match σ a with | some (.list vs) => K a vs | _ => False
  | _ => False
theorem onList_of {σ : Store} {a : Addr} {vs : List V} {K : Addr → List V → Prop} (h : σ a = some (.list vs)) (k : K a vs) : onList σ (.ref a) K := by simp only [onList, h]; exact k

/-- a list, or the keys of a dict -/
noncomputable def onSrc (md : Bool) (σ : Store) (v : V) (K : List V → Prop) : Prop := match v with
  | .ref a => match σ a with
    | some (.list vs) => K vs
    | _ => False
  | _ => False
theorem onSrc_list {md : Bool} {σ : Store} {a : Addr} {vs : List V} {K : List V → Prop} (h : σ a = some (.list vs)) (k : K vs) : onSrc md σ (.ref a) K := by simp only [onSrc, h]; exact k
noncomputable def alloc (σ : Store) (o : AO) (Q : V → Store → Prop) : Prop := ∀ a, σ a = none → Q (.ref a) (σ.upd a o)

noncomputable def onII (u v : V) (K : Int → Int → Prop) : Prop := match u, v with | .int a, .int b => K a b | _, _ => False
noncomputable def binV (op : Operator) (u v : V) (σ : Store) (Q : V → Store → Prop) : Prop :=
  match op with
  | .Add => match u with
    | .ref a => onList σ (.ref a) fun _ us => onList σ v fun _ vs => us.length + vs.length ≤ szLim ∧ alloc σ (.list (us ++ vs)) Q
    | _ => onII u v fun a b => Q (.int (a + b)) σ
  | .Sub => onII u v fun a b => Q (.int (a - b)) σ
  | .Mult => onII u v fun a b => (a.natAbs < 2 ^ 32 ∧ b.natAbs < 2 ^ 32) ∧ Q (.int (a * b)) σ
  | .FloorDiv => onII u v fun a b => (0 < b ∧ b < 1000000000) ∧ Q (.int (a.fdiv b)) σ
  | .Mod => onII u v fun a b => 0 < b ∧ Q (.int (a.fmod b)) σ
  | .Pow => onII u v fun a b => (a = 10 ∧ b = 9) ∧ Q (.int 1000000000) σ
  | _ => False

/-- a sequence that may be read -/
noncomputable def onSeq (σ : Store) (v : V) (K : List V → Prop) : Prop := match v with
  | .tup vs => vs.length ≤ szLim ∧ K vs
  | .ref a => match σ a with | some (.list vs) => K vs | some (.fixed vs) => K vs | _ => False
  | _ => False

noncomputable def idxV (u v : V) (σ : Store) (Q : V → Prop) : Prop :=
  onSeq σ u fun vs => onInt v fun i => onSome (pyIdx i vs.length) fun k => onSome vs[k]? Q

noncomputable def optInt : V → Option (Option Int)
  | .none => some none
  | .int i => some (some i)
  | _ => none

noncomputable def sliceV (u lo hi : V) (σ : Store) (Q : V → Store → Prop) : Prop :=
  onList σ u fun _ vs => onSome (optInt lo) fun l => onSome (optInt hi) fun h => alloc σ (.list (pySlice l h vs)) Q

noncomputable def bools? : List V → Option (List Bool)
  | [] => some []
  | .bool b :: r => (bools? r).map (b :: ·)
  | _ => none

noncomputable def b1V (md : Bool) (f : B1) (v : V) (σ : Store) (Q : V → Store → Prop) : Prop :=
  match f with
  | .len => onSeq σ v fun vs => Q (.int vs.length) σ
  | .list => onList σ v fun _ vs => vs.length ≤ szLim ∧ alloc σ (.list vs) Q
  | .tuple => onList σ v fun _ vs => vs.length ≤ szLim ∧ Q (.tup vs) σ
  | .sorted => (onSrc md σ v fun vs => onSome (sortedV vs) fun ws => alloc σ (.list ws) Q) ∨ onList σ v fun _ vs => sortP vs fun ws => alloc σ (.list ws) Q
  | .int => match v with
    | .bool b => Q (.int (if b then 1 else 0)) σ
    | _ => False
  | .all => md = true ∧ onList σ v fun _ vs => onSome (bools? vs) fun bs => Q (.bool (bs.all id)) σ
  | .any => False
  | .dict => False
  | .set => False
  | .max => False

noncomputable def m0V (m : M0) (v : V) (σ : Store) (Q : V → Store → Prop) : Prop :=
  onList σ v fun a vs => match m with
  | .pop => match vs.reverse with | [] => False | x :: r => Q x (σ.upd a (.list r.reverse))
  | .clear => Q .none (σ.upd a (.list []))
  | .reverse => Q .none (σ.upd a (.list vs.reverse))

noncomputable def m1V (m : M1) (v x : V) (σ : Store) (Q : V → Store → Prop) : Prop :=
  onList σ v fun a vs => match m with
  | .append => vs.length < szLim ∧ Q .none (σ.upd a (.list (vs ++ [x])))
  | .extend => onList σ x fun b ws => (a ≠ b ∧ vs.length + ws.length ≤ szLim) ∧ Q .none (σ.upd a (.list (vs ++ ws)))
  | .remove => False

noncomputable def insertV (v i x : V) (σ : Store) (Q : V → Store → Prop) : Prop :=
  onList σ v fun a vs => onInt i fun k => (0 ≤ k ∧ k ≤ vs.length ∧ vs.length < szLim) ∧ Q .none (σ.upd a (.list (vs.take k.toNat ++ x :: vs.drop k.toNat)))

noncomputable def setitemV (u i x : V) (σ : Store) (Q : Store → Prop) : Prop :=
  match u with
  | .ref a => match σ a with
    | some (.list vs) => onInt i fun j => (0 ≤ j ∧ j < vs.length) ∧ Q (σ.upd a (.list (vs.set j.toNat x)))
    | some (.dict ks) => (keysOk (i :: ks) = true ∧ ks.length < szLim ∧ x = .bool true) ∧ Q (σ.upd a (.dict (putKey i ks)))
    | _ => False
  | _ => False

noncomputable def onInst (σ : Store) (u : V) (K : String → Addr → List (String × V) → Prop) : Prop := match u with
  | .ref a => match σ a with
    | some (.inst c d) => match σ d with | some (.ns fs) => K c d fs | _ => False
    | _ => False
  | _ => False
theorem onInst_of {σ : Store} {a d : Addr} {c : String} {fs : List (String × V)} {K} (h : σ a = some (.inst c d)) (h' : σ d = some (.ns fs)) (k : K c d fs) : onInst σ (.ref a) K := by
  simp only [onInst, h, h']; exact k

noncomputable def attrV (F : String → String → Prop) (u : V) (name : String) (σ : Store) (Q : V → Prop) : Prop := onInst σ u fun c _ fs => F c name ∧ onSome (fs.lookup name) Q

noncomputable def putF (name : String) (x : V) : List (String × V) → List (String × V)
  | [] => [(name, x)]
  | (n, v) :: r => if n = name then (n, x) :: r else (n, v) :: putF name x r

noncomputable def setattrV (F : String → String → Prop) (u : V) (name : String) (x : V) (σ : Store) (Q : Store → Prop) : Prop := onInst σ u fun c d fs => (F c name ∧ fs.length < 100) ∧ Q (σ.upd d (.ns (putF name x fs)))

/-- what a for or a comprehension goes over: the items, and what must stand at each turn -/
noncomputable def iterV (v : V) (σ : Store) (Q : List V → (Store → Prop) → Prop) : Prop :=
  match v with
  | .tup vs => Q vs fun _ => True
  | .ref a => onList σ (.ref a) fun a vs => Q vs fun σ' => σ' a = some (.list vs)
  | _ => False

noncomputable def upto (lo hi step : Int) : List Int :=
  if 0 < step then (List.range ((hi - lo + step - 1) / step).toNat).map fun k => lo + step * (k : Nat) else []

noncomputable def bindTg : Tg → V → Loc → Option Loc
  | .one i, v, ρ => some (ρ.set i (some v))
  | .many is, .tup vs, ρ => if is.length = vs.length then some ((is.zip vs).foldl (fun r p => r.set p.1 (some p.2)) ρ) else none
  | _, _, _ => none

/-- the turns of a comprehension: each gives an item, or none -/
noncomputable def compV (chk : Store → Prop) (B : V → Store → (Option V → Store → Prop) → Prop) (Q : V → Store → Prop) : List V → List V → Store → Prop
  | [], acc, σ => chk σ ∧ alloc σ (.list acc) Q
  | v :: r, acc, σ => chk σ ∧ acc.length < szLim ∧ B v σ fun x σ' => compV chk B Q r (match x with | some x => acc ++ [x] | none => acc) σ'

noncomputable def forV (chk : Store → Prop) (B : V → Loc → Store → (Loc → Store → Prop) → Prop) (Q : Loc → Store → Prop) : List V → Loc → Store → Prop
  | [], ρ, σ => chk σ ∧ Q ρ σ
  | v :: r, ρ, σ => chk σ ∧ B v ρ σ fun ρ' σ' => forV chk B Q r ρ' σ'

noncomputable def whileV (C : Loc → Store → (Bool → Store → Prop) → Prop) (B : Loc → Store → (Loc → Store → Prop) → Prop) (Q : Loc → Store → Prop) : Nat → Loc → Store → Prop
  | 0, _, _ => False
  | n + 1, ρ, σ => C ρ σ fun b σ' => if b then B ρ σ' (fun ρ' σ'' => whileV C B Q n ρ' σ'') else Q ρ σ'

noncomputable def noX : XP := fun _ _ _ => False
/-- taking a tuple apart ends an iteration -/
noncomputable def tgOk (md : Bool) : Tg → Prop
  | .one _ => True
  | .many _ => md = true

/-- int constants of the module -/
noncomputable def globs : String → Option Int
  | "MOST_PLACES" => some 40
  | _ => none

/-- what range and enumerate give -/
noncomputable def itR1 (u : V) (σ : Store) (K : List V → (Store → Prop) → Store → Prop) : Prop := onInt u fun n => (n < 2 ^ 31 ∧ -(2 ^ 31) < n) ∧ K ((upto 0 n 1).map V.int) (fun _ => True) σ
noncomputable def itR2 (u v : V) (σ : Store) (K : List V → (Store → Prop) → Store → Prop) : Prop := onInt u fun m => onInt v fun n => (n < 2 ^ 31 ∧ -(2 ^ 31) < n ∧ m < 2 ^ 31 ∧ -(2 ^ 31) < m) ∧ K ((upto m n 1).map V.int) (fun _ => True) σ
noncomputable def itR3 (u v x : V) (σ : Store) (K : List V → (Store → Prop) → Store → Prop) : Prop := onInt u fun m => onInt v fun n => onInt x fun k => (n < 2 ^ 31 ∧ -(2 ^ 31) < n ∧ m < 2 ^ 31 ∧ -(2 ^ 31) < m ∧ 0 < k ∧ k < 1000000000) ∧ K ((upto m n k).map V.int) (fun _ => True) σ
noncomputable def itEn (u : V) (σ : Store) (K : List V → (Store → Prop) → Store → Prop) : Prop := onList σ u fun a vs => K (vs.zipIdx.map fun p => V.tup [.int p.2, p.1]) (fun σ' => σ' a = some (.list vs)) σ

mutual
noncomputable def wpE (Φ : Calls) (md : Bool) : Ex → Loc → Store → (V → Store → Prop) → XP → Prop
  | .none, _, σ, Q, _ => Q .none σ
  | .tt, _, σ, Q, _ => Q (.bool true) σ
  | .ff, _, σ, Q, _ => Q (.bool false) σ
  | .int i, _, σ, Q, _ => Q (.int i) σ
  | .str s, _, σ, Q, _ => Q (.str (Str.ofString s)) σ
  | .var i, ρ, σ, Q, _ => onSome (ρ.get i) fun v => Q v σ
  | .glob x, _, σ, Q, _ => onSome (globs x) fun i => Q (.int i) σ
  | .bin op a b, ρ, σ, Q, X => wpE Φ md a ρ σ (fun u σ₁ => wpE Φ md b ρ σ₁ (fun v σ₂ => binV op u v σ₂ Q) X) X
  | .neg a, ρ, σ, Q, X => wpE Φ md a ρ σ (fun u σ₁ => onInt u fun i => Q (.int (-i)) σ₁) X
  | .not a, ρ, σ, Q, X => wpE Φ md a ρ σ (fun u σ₁ => onSome (truthy σ₁ u) fun b => Q (.bool (!b)) σ₁) X
  | .cmp op a b, ρ, σ, Q, X => wpE Φ md a ρ σ (fun u σ₁ => wpE Φ md b ρ σ₁ (fun v σ₂ => onSome (cmpV σ₂ op u v) fun r => Q (.bool r) σ₂) X) X
  | .cmp2 o₁ o₂ a b c, ρ, σ, Q, X => wpE Φ md a ρ σ (fun u σ₁ => wpE Φ md b ρ σ₁ (fun v σ₂ => onSome (cmpV σ₂ o₁ u v) fun r =>
      if r then wpE Φ md c ρ σ₂ (fun x σ₃ => onSome (cmpV σ₃ o₂ v x) fun r' => Q (.bool r') σ₃) X else Q (.bool false) σ₂) X) X
  | .bool isAnd es, ρ, σ, Q, X => wpBool Φ md isAnd es ρ σ Q X
  | .call f es, ρ, σ, Q, X => Φ.has "" f ∧ wpEs Φ md es ρ σ (fun vs σ₁ => Φ.run "" f vs σ₁ Q X) X
  | .make c es, ρ, σ, Q, X => Φ.has c "__init__" ∧ wpEs Φ md es ρ σ (fun vs σ₁ => ∀ x d, σ₁ x = none → σ₁ d = none → x ≠ d →
      Φ.run c "__init__" (.ref x :: vs) ((σ₁.upd d (.ns [])).upd x (.inst c d)) (fun r σ₂ => r = .none ∧ Q (.ref x) σ₂) X) X
  | .meth o name es, ρ, σ, Q, X => wpE Φ md o ρ σ (fun u σ₁ => onInst σ₁ u fun c _ fs => (fs.lookup name = none ∧ Φ.has c name) ∧ wpEs Φ md es ρ σ₁ (fun vs σ₂ => Φ.run c name (u :: vs) σ₂ Q X) X) X
  | .m0 o m, ρ, σ, Q, X => wpE Φ md o ρ σ (fun u σ₁ => m0V m u σ₁ Q) X
  | .m1 o m a, ρ, σ, Q, X => wpE Φ md o ρ σ (fun u σ₁ => onList σ₁ u fun _ _ => wpE Φ md a ρ σ₁ (fun x σ₂ => m1V m u x σ₂ Q) X) X
  | .insert o a b, ρ, σ, Q, X => wpE Φ md o ρ σ (fun u σ₁ => onList σ₁ u fun _ _ => wpE Φ md a ρ σ₁ (fun i σ₂ => wpE Φ md b ρ σ₂ (fun x σ₃ => insertV u i x σ₃ Q) X) X) X
  | .attr o name, ρ, σ, Q, X => wpE Φ md o ρ σ (fun u σ₁ => attrV Φ.fld u name σ₁ fun x => Q x σ₁) X
  | .idx o i, ρ, σ, Q, X => wpE Φ md o ρ σ (fun u σ₁ => wpE Φ md i ρ σ₁ (fun v σ₂ => idxV u v σ₂ fun x => Q x σ₂) X) X
  | .slice o lo hi, ρ, σ, Q, X => wpE Φ md o ρ σ (fun u σ₁ => wpO Φ md lo ρ σ₁ (fun l σ₂ => wpO Φ md hi ρ σ₂ (fun h σ₃ => sliceV u l h σ₃ Q) X) X) X
  | .rev o, ρ, σ, Q, X => wpE Φ md o ρ σ (fun u σ₁ => onList σ₁ u fun _ vs => alloc σ₁ (.list vs.reverse) Q) X
  | .list es, ρ, σ, Q, X => wpEs Φ md es ρ σ (fun vs σ₁ => vs.length ≤ szLim ∧ alloc σ₁ (.list vs) Q) X
  | .tuple es, ρ, σ, Q, X => wpEs Φ md es ρ σ (fun vs σ₁ => vs.length ≤ szLim ∧ Q (.tup vs) σ₁) X
  | .dict0, _, σ, Q, _ => alloc σ (.dict []) Q
  | .dict1 (.var i) .tt, ρ, σ, Q, _ => onSome (ρ.get i) fun u => isIntV u = true ∧ alloc σ (.dict [u]) Q
  | .dict1 _ _, _, _, _, _ => False
  | .comp _ elt t it cond, ρ, σ, Q, X => md = true ∧
      (let K := fun (items : List V) (chk : Store → Prop) (σ₁ : Store) => compV chk (fun v σ₂ K => onSome (bindTg t v ρ) fun ρ' => wpC Φ md cond ρ' σ₂ (fun b σ₃ => if b then wpE Φ md elt ρ' σ₃ (fun x σ₄ => K (some x) σ₄) noX else K none σ₃) noX) Q items [] σ₁
       match it with
       | .range1 a => wpE Φ md a ρ σ (fun u σ₁ => itR1 u σ₁ K) X
       | .range2 a b => wpE Φ md a ρ σ (fun u σ₁ => wpE Φ md b ρ σ₁ (fun v σ₂ => itR2 u v σ₂ K) X) X
       | .range3 a b c => wpE Φ md a ρ σ (fun u σ₁ => wpE Φ md b ρ σ₁ (fun v σ₂ => wpE Φ md c ρ σ₂ (fun x σ₃ => itR3 u v x σ₃ K) X) X) X
       | .enum e => wpE Φ md e ρ σ (fun u σ₁ => itEn u σ₁ K) X
       | e => wpE Φ md e ρ σ (fun u σ₁ => iterV u σ₁ fun items chk => K items chk σ₁) X)
  | .b1 f e, ρ, σ, Q, X => wpE Φ md e ρ σ (fun u σ₁ => b1V md f u σ₁ Q) X
  | .min2 a b, ρ, σ, Q, X => md = true ∧ wpE Φ md a ρ σ (fun u σ₁ => wpE Φ md b ρ σ₁ (fun v σ₂ => onInt u fun i => onInt v fun j => Q (.int (min i j)) σ₂) X) X
  | .max2 a b, ρ, σ, Q, X => md = true ∧ wpE Φ md a ρ σ (fun u σ₁ => wpE Φ md b ρ σ₁ (fun v σ₂ => onInt u fun i => onInt v fun j => Q (.int (max i j)) σ₂) X) X
  | .isin e t, ρ, σ, Q, X => wpE Φ md e ρ σ (fun u σ₁ => onSome (isInst σ₁ u t) fun b => Q (.bool b) σ₁) X
  | .range1 _, _, _, _, _ => False
  | .range2 _ _, _, _, _, _ => False
  | .range3 _ _ _, _, _, _, _ => False
  | .enum _, _, _, _, _ => False
noncomputable def wpEs (Φ : Calls) (md : Bool) : Exs → Loc → Store → (List V → Store → Prop) → XP → Prop
  | .nil, _, σ, Q, _ => Q [] σ
  | .cons e es, ρ, σ, Q, X => wpE Φ md e ρ σ (fun v σ₁ => wpEs Φ md es ρ σ₁ (fun vs σ₂ => Q (v :: vs) σ₂) X) X
noncomputable def wpBool (Φ : Calls) (md : Bool) (isAnd : Bool) : Exs → Loc → Store → (V → Store → Prop) → XP → Prop
  | .nil, _, _, _, _ => False
  | .cons e .nil, ρ, σ, Q, X => wpE Φ md e ρ σ Q X
  | .cons e es, ρ, σ, Q, X => wpE Φ md e ρ σ (fun v σ₁ => onSome (truthy σ₁ v) fun b => if b = isAnd then wpBool Φ md isAnd es ρ σ₁ Q X else Q v σ₁) X
noncomputable def wpO (Φ : Calls) (md : Bool) : ExO → Loc → Store → (V → Store → Prop) → XP → Prop
  | .none, _, σ, Q, _ => Q .none σ
  | .some e, ρ, σ, Q, X => wpE Φ md e ρ σ Q X
noncomputable def wpC (Φ : Calls) (md : Bool) : ExO → Loc → Store → (Bool → Store → Prop) → XP → Prop
  | .none, _, σ, Q, _ => Q true σ
  | .some e, ρ, σ, Q, X => wpE Φ md e ρ σ (fun v σ₁ => onSome (truthy σ₁ v) fun b => Q b σ₁) X
end

noncomputable def wpIt (Φ : Calls) (md : Bool) (it : Ex) (ρ : Loc) (σ : Store) (K : List V → (Store → Prop) → Store → Prop) (X : XP) : Prop :=
  match it with
  | .range1 a => wpE Φ md a ρ σ (fun u σ₁ => itR1 u σ₁ K) X
  | .range2 a b => wpE Φ md a ρ σ (fun u σ₁ => wpE Φ md b ρ σ₁ (fun v σ₂ => itR2 u v σ₂ K) X) X
  | .range3 a b c => wpE Φ md a ρ σ (fun u σ₁ => wpE Φ md b ρ σ₁ (fun v σ₂ => wpE Φ md c ρ σ₂ (fun x σ₃ => itR3 u v x σ₃ K) X) X) X
  | .enum e => wpE Φ md e ρ σ (fun u σ₁ => itEn u σ₁ K) X
  | e => wpE Φ md e ρ σ (fun u σ₁ => iterV u σ₁ fun items chk => K items chk σ₁) X

abbrev XL := String → Addr → Loc → Store → Prop

mutual
noncomputable def wpS (Φ : Bool → Calls) (md : Bool) : St → Loc → Store → (Loc → Store → Prop) → (V → Store → Prop) → XL → Prop
  | .expr e, ρ, σ, N, _, X => wpE (Φ md) md e ρ σ (fun v σ₁ => v = .none ∧ N ρ σ₁) fun c a σ₁ => X c a ρ σ₁
  | .assign t e, ρ, σ, N, _, X => tgOk md t ∧ wpE (Φ md) md e ρ σ (fun v σ₁ => onSome (bindTg t v ρ) fun ρ' => N ρ' σ₁) fun c a σ₁ => X c a ρ σ₁
  | .setattr o name e, ρ, σ, N, _, X => wpE (Φ md) md e ρ σ (fun v σ₁ => wpE (Φ md) md o ρ σ₁ (fun u σ₂ => setattrV (Φ md).fld u name v σ₂ fun σ₃ => N ρ σ₃) fun c a σ₁ => X c a ρ σ₁) fun c a σ₁ => X c a ρ σ₁
  | .setitem o i e, ρ, σ, N, _, X => wpE (Φ md) md e ρ σ (fun v σ₁ => wpE (Φ md) md o ρ σ₁ (fun u σ₂ => wpE (Φ md) md i ρ σ₂ (fun k σ₃ => setitemV u k v σ₃ fun σ₄ => N ρ σ₄)
      fun c a σ₁ => X c a ρ σ₁) fun c a σ₁ => X c a ρ σ₁) fun c a σ₁ => X c a ρ σ₁
  | .ret e, ρ, σ, _, R, X => wpE (Φ md) md e ρ σ R fun c a σ₁ => X c a ρ σ₁
  | .pass, ρ, σ, N, _, _ => N ρ σ
  | .raise c _, ρ, σ, _, _, X => (md = true ∧ c ∈ excNames) ∧ ∀ a, σ a = none → X c a ρ σ
  | .iff c th el, ρ, σ, N, R, X => wpE (Φ md) md c ρ σ (fun v σ₁ => onSome (truthy σ₁ v) fun b => if b then wpSs Φ md th ρ σ₁ N R X else wpSs Φ md el ρ σ₁ N R X) fun c a σ₁ => X c a ρ σ₁
  | .whil c body, ρ, σ, N, R, X => ∃ n, whileV (fun ρ σ K => wpE (Φ md) md c ρ σ (fun v σ₁ => onSome (truthy σ₁ v) fun b => K b σ₁) fun c a σ₁ => X c a ρ σ₁)
      (fun ρ σ K => wpSs Φ md body ρ σ K R X) N n ρ σ
  | .for t it body, ρ, σ, N, R, X => md = true ∧ wpIt (Φ md) md it ρ σ (fun items chk σ₁ => forV chk (fun v ρ σ K => onSome (bindTg t v ρ) fun ρ' => wpSs Φ md body ρ' σ K R X) N items ρ σ₁)
      fun c a σ₁ => X c a ρ σ₁
  | .tryx body hs, ρ, σ, N, R, X => md = true ∧ wpSs Φ md body ρ σ N R fun c a ρ' σ' => wpHs Φ hs c a ρ' σ' N R X
noncomputable def wpSs (Φ : Bool → Calls) (md : Bool) : Sts → Loc → Store → (Loc → Store → Prop) → (V → Store → Prop) → XL → Prop
  | .nil, ρ, σ, N, _, _ => N ρ σ
  | .cons s r, ρ, σ, N, R, X => wpS Φ md s ρ σ (fun ρ₁ σ₁ => wpSs Φ md r ρ₁ σ₁ N R X) R X
noncomputable def wpHs (Φ : Bool → Calls) : Hs → String → Addr → Loc → Store → (Loc → Store → Prop) → (V → Store → Prop) → XL → Prop
  | .nil, c, a, ρ, σ, _, _, X => X c a ρ σ
  | .cons C x body r, c, a, ρ, σ, N, R, X =>
    if c = C then wpSs Φ false body (ρ.set x (some (.ref a))) (σ.upd a (.exc c)) (fun ρ' σ' => N (ρ'.set x none) σ') R (fun _ _ _ _ => False)
    else wpHs Φ r c a ρ σ N R X
end

structure Fn where
  params : List String
  names : List String
  size : Nat
  body : Sts

noncomputable def wpFn (Φ : Bool → Calls) (md : Bool) (f : Fn) (args : List V) (σ : Store) (Q : V → Store → Prop) (X : XP) : Prop :=
  args.length = f.params.length ∧ wpSs Φ md f.body (args.map some ++ List.replicate (f.size - args.length) none) σ (fun _ σ' => Q .none σ') Q fun c a _ σ' => X c a σ'

/-- the meaning of a text's functions, k calls deep -/
noncomputable def sem (tab : String → String → Option Fn) (fld : String → String → Bool) : Nat → Bool → Calls
  | 0, _ => ⟨fun c f => (tab c f).isSome = true, fun c f => fld c f = true, fun _ _ _ _ _ _ => False⟩
  | k + 1, md => ⟨fun c f => (tab c f).isSome = true, fun c f => fld c f = true, fun c f vs σ Q X => onSome (tab c f) fun fn => wpFn (sem tab fld k) md fn vs σ Q X⟩

theorem wpE_comp {Φ : Calls} {md : Bool} {bs : List (String × Nat)} {elt it : Ex} {t : Tg} {cond : ExO} {ρ : Loc} {σ : Store} {Q : V → Store → Prop} {X : XP} : wpE Φ md (.comp bs elt t it cond) ρ σ Q X = (md = true ∧ wpIt Φ md it ρ σ (fun items chk σ₁ =>
      compV chk (fun v σ₂ K => onSome (bindTg t v ρ) fun ρ' => wpC Φ md cond ρ' σ₂ (fun b σ₃ => if b then wpE Φ md elt ρ' σ₃ (fun x σ₄ => K (some x) σ₄) noX else K none σ₃) noX) Q items [] σ₁) X) := by
  cases it <;> rfl
end Mine.Internal
end

section
set_option linter.unusedVariables false
namespace Mine.Internal
open PySem
theorem E_none {Φ : Calls} {md : Bool} {ρ : Loc} {σ : Store} {Q : V → Store → Prop} {X : XP}  : wpE Φ md (.none) ρ σ Q X = (Q .none σ) := rfl
theorem E_tt {Φ : Calls} {md : Bool} {ρ : Loc} {σ : Store} {Q : V → Store → Prop} {X : XP}  : wpE Φ md (.tt) ρ σ Q X = (Q (.bool true) σ) := rfl
theorem E_ff {Φ : Calls} {md : Bool} {ρ : Loc} {σ : Store} {Q : V → Store → Prop} {X : XP}  : wpE Φ md (.ff) ρ σ Q X = (Q (.bool false) σ) := rfl
theorem E_int {Φ : Calls} {md : Bool} {ρ : Loc} {σ : Store} {Q : V → Store → Prop} {X : XP} {i : Int} : wpE Φ md (.int i) ρ σ Q X = (Q (.int i) σ) := rfl
theorem E_str {Φ : Calls} {md : Bool} {ρ : Loc} {σ : Store} {Q : V → Store → Prop} {X : XP} {s : String} : wpE Φ md (.str s) ρ σ Q X = (Q (.str (Str.ofString s)) σ) := rfl
theorem E_var {Φ : Calls} {md : Bool} {ρ : Loc} {σ : Store} {Q : V → Store → Prop} {X : XP} {i : Nat} : wpE Φ md (.var i) ρ σ Q X = (onSome (ρ.get i) fun v => Q v σ) := rfl
theorem E_glob {Φ : Calls} {md : Bool} {ρ : Loc} {σ : Store} {Q : V → Store → Prop} {X : XP} {x : String} : wpE Φ md (.glob x) ρ σ Q X = (onSome (globs x) fun i => Q (.int i) σ) := rfl
theorem E_bin {Φ : Calls} {md : Bool} {ρ : Loc} {σ : Store} {Q : V → Store → Prop} {X : XP} {op : Operator} {a b : Ex} : wpE Φ md (.bin op a b) ρ σ Q X = (wpE Φ md a ρ σ (fun u σ₁ => wpE Φ md b ρ σ₁ (fun v σ₂ => binV op u v σ₂ Q) X) X) := rfl
theorem E_neg {Φ : Calls} {md : Bool} {ρ : Loc} {σ : Store} {Q : V → Store → Prop} {X : XP} {a : Ex} : wpE Φ md (.neg a) ρ σ Q X = (wpE Φ md a ρ σ (fun u σ₁ => onInt u fun i => Q (.int (-i)) σ₁) X) := rfl
theorem E_not {Φ : Calls} {md : Bool} {ρ : Loc} {σ : Store} {Q : V → Store → Prop} {X : XP} {a : Ex} : wpE Φ md (.not a) ρ σ Q X = (wpE Φ md a ρ σ (fun u σ₁ => onSome (truthy σ₁ u) fun b => Q (.bool (!b)) σ₁) X) := rfl
theorem E_cmp {Φ : Calls} {md : Bool} {ρ : Loc} {σ : Store} {Q : V → Store → Prop} {X : XP} {op : CmpOp} {a b : Ex} : wpE Φ md (.cmp op a b) ρ σ Q X = (wpE Φ md a ρ σ (fun u σ₁ => wpE Φ md b ρ σ₁ (fun v σ₂ => onSome (cmpV σ₂ op u v) fun r => Q (.bool r) σ₂) X) X) := rfl
theorem E_cmp2 {Φ : Calls} {md : Bool} {ρ : Loc} {σ : Store} {Q : V → Store → Prop} {X : XP} {o₁ o₂ : CmpOp} {a b c : Ex} : wpE Φ md (.cmp2 o₁ o₂ a b c) ρ σ Q X = (wpE Φ md a ρ σ (fun u σ₁ => wpE Φ md b ρ σ₁ (fun v σ₂ => onSome (cmpV σ₂ o₁ u v) fun r =>
      if r then wpE Φ md c ρ σ₂ (fun x σ₃ => onSome (cmpV σ₃ o₂ v x) fun r' => Q (.bool r') σ₃) X else Q (.bool false) σ₂) X) X) := rfl
theorem E_bool {Φ : Calls} {md : Bool} {ρ : Loc} {σ : Store} {Q : V → Store → Prop} {X : XP} {isAnd : Bool} {es : Exs} : wpE Φ md (.bool isAnd es) ρ σ Q X = (wpBool Φ md isAnd es ρ σ Q X) := rfl
theorem E_call {Φ : Calls} {md : Bool} {ρ : Loc} {σ : Store} {Q : V → Store → Prop} {X : XP} {f : String} {es : Exs} : wpE Φ md (.call f es) ρ σ Q X = (Φ.has "" f ∧ wpEs Φ md es ρ σ (fun vs σ₁ => Φ.run "" f vs σ₁ Q X) X) := rfl
theorem E_make {Φ : Calls} {md : Bool} {ρ : Loc} {σ : Store} {Q : V → Store → Prop} {X : XP} {c : String} {es : Exs} : wpE Φ md (.make c es) ρ σ Q X = (Φ.has c "__init__" ∧ wpEs Φ md es ρ σ (fun vs σ₁ => ∀ x d, σ₁ x = none → σ₁ d = none → x ≠ d →
      Φ.run c "__init__" (.ref x :: vs) ((σ₁.upd d (.ns [])).upd x (.inst c d)) (fun r σ₂ => r = .none ∧ Q (.ref x) σ₂) X) X) := rfl
theorem E_meth {Φ : Calls} {md : Bool} {ρ : Loc} {σ : Store} {Q : V → Store → Prop} {X : XP} {o : Ex} {name : String} {es : Exs} : wpE Φ md (.meth o name es) ρ σ Q X = (wpE Φ md o ρ σ (fun u σ₁ => onInst σ₁ u fun c _ fs => (fs.lookup name = none ∧ Φ.has c name) ∧ wpEs Φ md es ρ σ₁ (fun vs σ₂ => Φ.run c name (u :: vs) σ₂ Q X) X) X) := rfl
theorem E_m0 {Φ : Calls} {md : Bool} {ρ : Loc} {σ : Store} {Q : V → Store → Prop} {X : XP} {o : Ex} {m : M0} : wpE Φ md (.m0 o m) ρ σ Q X = (wpE Φ md o ρ σ (fun u σ₁ => m0V m u σ₁ Q) X) := rfl
theorem E_m1 {Φ : Calls} {md : Bool} {ρ : Loc} {σ : Store} {Q : V → Store → Prop} {X : XP} {o : Ex} {m : M1} {a : Ex} : wpE Φ md (.m1 o m a) ρ σ Q X = (wpE Φ md o ρ σ (fun u σ₁ => onList σ₁ u fun _ _ => wpE Φ md a ρ σ₁ (fun x σ₂ => m1V m u x σ₂ Q) X) X) := rfl
theorem E_insert {Φ : Calls} {md : Bool} {ρ : Loc} {σ : Store} {Q : V → Store → Prop} {X : XP} {o a b : Ex} : wpE Φ md (.insert o a b) ρ σ Q X = (wpE Φ md o ρ σ (fun u σ₁ => onList σ₁ u fun _ _ => wpE Φ md a ρ σ₁ (fun i σ₂ => wpE Φ md b ρ σ₂ (fun x σ₃ => insertV u i x σ₃ Q) X) X) X) := rfl
theorem E_attr {Φ : Calls} {md : Bool} {ρ : Loc} {σ : Store} {Q : V → Store → Prop} {X : XP} {o : Ex} {name : String} : wpE Φ md (.attr o name) ρ σ Q X = (wpE Φ md o ρ σ (fun u σ₁ => attrV Φ.fld u name σ₁ fun x => Q x σ₁) X) := rfl
theorem E_idx {Φ : Calls} {md : Bool} {ρ : Loc} {σ : Store} {Q : V → Store → Prop} {X : XP} {o i : Ex} : wpE Φ md (.idx o i) ρ σ Q X = (wpE Φ md o ρ σ (fun u σ₁ => wpE Φ md i ρ σ₁ (fun v σ₂ => idxV u v σ₂ fun x => Q x σ₂) X) X) := rfl
theorem E_slice {Φ : Calls} {md : Bool} {ρ : Loc} {σ : Store} {Q : V → Store → Prop} {X : XP} {o : Ex} {lo hi : ExO} : wpE Φ md (.slice o lo hi) ρ σ Q X = (wpE Φ md o ρ σ (fun u σ₁ => wpO Φ md lo ρ σ₁ (fun l σ₂ => wpO Φ md hi ρ σ₂ (fun h σ₃ => sliceV u l h σ₃ Q) X) X) X) := rfl
theorem E_rev {Φ : Calls} {md : Bool} {ρ : Loc} {σ : Store} {Q : V → Store → Prop} {X : XP} {o : Ex} : wpE Φ md (.rev o) ρ σ Q X = (wpE Φ md o ρ σ (fun u σ₁ => onList σ₁ u fun _ vs => alloc σ₁ (.list vs.reverse) Q) X) := rfl
theorem E_list {Φ : Calls} {md : Bool} {ρ : Loc} {σ : Store} {Q : V → Store → Prop} {X : XP} {es : Exs} : wpE Φ md (.list es) ρ σ Q X = (wpEs Φ md es ρ σ (fun vs σ₁ => vs.length ≤ szLim ∧ alloc σ₁ (.list vs) Q) X) := rfl
theorem E_tuple {Φ : Calls} {md : Bool} {ρ : Loc} {σ : Store} {Q : V → Store → Prop} {X : XP} {es : Exs} : wpE Φ md (.tuple es) ρ σ Q X = (wpEs Φ md es ρ σ (fun vs σ₁ => vs.length ≤ szLim ∧ Q (.tup vs) σ₁) X) := rfl
theorem E_dict0 {Φ : Calls} {md : Bool} {ρ : Loc} {σ : Store} {Q : V → Store → Prop} {X : XP}  : wpE Φ md (.dict0) ρ σ Q X = (alloc σ (.dict []) Q) := rfl
theorem E_b1 {Φ : Calls} {md : Bool} {ρ : Loc} {σ : Store} {Q : V → Store → Prop} {X : XP} {f : B1} {e : Ex} : wpE Φ md (.b1 f e) ρ σ Q X = (wpE Φ md e ρ σ (fun u σ₁ => b1V md f u σ₁ Q) X) := rfl
theorem E_min2 {Φ : Calls} {md : Bool} {ρ : Loc} {σ : Store} {Q : V → Store → Prop} {X : XP} {a b : Ex} : wpE Φ md (.min2 a b) ρ σ Q X = (md = true ∧ wpE Φ md a ρ σ (fun u σ₁ => wpE Φ md b ρ σ₁ (fun v σ₂ => onInt u fun i => onInt v fun j => Q (.int (min i j)) σ₂) X) X) := rfl
theorem E_max2 {Φ : Calls} {md : Bool} {ρ : Loc} {σ : Store} {Q : V → Store → Prop} {X : XP} {a b : Ex} : wpE Φ md (.max2 a b) ρ σ Q X = (md = true ∧ wpE Φ md a ρ σ (fun u σ₁ => wpE Φ md b ρ σ₁ (fun v σ₂ => onInt u fun i => onInt v fun j => Q (.int (max i j)) σ₂) X) X) := rfl
theorem E_isin {Φ : Calls} {md : Bool} {ρ : Loc} {σ : Store} {Q : V → Store → Prop} {X : XP} {e : Ex} {t : Ty} : wpE Φ md (.isin e t) ρ σ Q X = (wpE Φ md e ρ σ (fun u σ₁ => onSome (isInst σ₁ u t) fun b => Q (.bool b) σ₁) X) := rfl
theorem E_dict1 {Φ : Calls} {md : Bool} {ρ : Loc} {σ : Store} {Q : V → Store → Prop} {X : XP} {i : Nat} : wpE Φ md (.dict1 (.var i) .tt) ρ σ Q X = (onSome (ρ.get i) fun u => isIntV u = true ∧ alloc σ (.dict [u]) Q) := rfl
theorem Es_nil {Φ : Calls} {md : Bool} {ρ : Loc} {σ : Store} {Q : List V → Store → Prop} {X : XP} : wpEs Φ md .nil ρ σ Q X = Q [] σ := rfl
theorem Es_cons {Φ : Calls} {md : Bool} {ρ : Loc} {σ : Store} {Q : List V → Store → Prop} {X : XP} {e : Ex} {es : Exs} : wpEs Φ md (.cons e es) ρ σ Q X = wpE Φ md e ρ σ (fun v σ₁ => wpEs Φ md es ρ σ₁ (fun vs σ₂ => Q (v :: vs) σ₂) X) X := rfl
theorem B_one {Φ : Calls} {md : Bool} {ρ : Loc} {σ : Store} {Q : V → Store → Prop} {X : XP} {isAnd : Bool} {e : Ex} : wpBool Φ md isAnd (.cons e .nil) ρ σ Q X = wpE Φ md e ρ σ Q X := rfl
theorem B_cons {Φ : Calls} {md : Bool} {ρ : Loc} {σ : Store} {Q : V → Store → Prop} {X : XP} {isAnd : Bool} {e e2 : Ex} {es : Exs} : wpBool Φ md isAnd (.cons e (.cons e2 es)) ρ σ Q X = wpE Φ md e ρ σ (fun v σ₁ => onSome (truthy σ₁ v) fun b => if b = isAnd then wpBool Φ md isAnd (.cons e2 es) ρ σ₁ Q X else Q v σ₁) X := rfl
theorem O_none {Φ : Calls} {md : Bool} {ρ : Loc} {σ : Store} {Q : V → Store → Prop} {X : XP} : wpO Φ md .none ρ σ Q X = Q .none σ := rfl
theorem O_some {Φ : Calls} {md : Bool} {ρ : Loc} {σ : Store} {Q : V → Store → Prop} {X : XP} {e : Ex} : wpO Φ md (.some e) ρ σ Q X = wpE Φ md e ρ σ Q X := rfl
theorem C_none {Φ : Calls} {md : Bool} {ρ : Loc} {σ : Store} {Q : Bool → Store → Prop} {X : XP} : wpC Φ md .none ρ σ Q X = Q true σ := rfl
theorem C_some {Φ : Calls} {md : Bool} {ρ : Loc} {σ : Store} {Q : Bool → Store → Prop} {X : XP} {e : Ex} : wpC Φ md (.some e) ρ σ Q X = wpE Φ md e ρ σ (fun v σ₁ => onSome (truthy σ₁ v) fun b => Q b σ₁) X := rfl
theorem I_r1 {Φ : Calls} {md : Bool} {ρ : Loc} {σ : Store} {K : List V → (Store → Prop) → Store → Prop} {X : XP} {a : Ex} : wpIt Φ md (.range1 a) ρ σ K X = wpE Φ md a ρ σ (fun u σ₁ => itR1 u σ₁ K) X := rfl
theorem I_r2 {Φ : Calls} {md : Bool} {ρ : Loc} {σ : Store} {K : List V → (Store → Prop) → Store → Prop} {X : XP} {a b : Ex} : wpIt Φ md (.range2 a b) ρ σ K X = wpE Φ md a ρ σ (fun u σ₁ => wpE Φ md b ρ σ₁ (fun v σ₂ => itR2 u v σ₂ K) X) X := rfl
theorem I_r3 {Φ : Calls} {md : Bool} {ρ : Loc} {σ : Store} {K : List V → (Store → Prop) → Store → Prop} {X : XP} {a b c : Ex} : wpIt Φ md (.range3 a b c) ρ σ K X = wpE Φ md a ρ σ (fun u σ₁ => wpE Φ md b ρ σ₁ (fun v σ₂ => wpE Φ md c ρ σ₂ (fun x σ₃ => itR3 u v x σ₃ K) X) X) X := rfl
theorem I_en {Φ : Calls} {md : Bool} {ρ : Loc} {σ : Store} {K : List V → (Store → Prop) → Store → Prop} {X : XP} {e : Ex} : wpIt Φ md (.enum e) ρ σ K X = wpE Φ md e ρ σ (fun u σ₁ => itEn u σ₁ K) X := rfl
theorem I_var {Φ : Calls} {md : Bool} {ρ : Loc} {σ : Store} {K : List V → (Store → Prop) → Store → Prop} {X : XP} {i : Nat} : wpIt Φ md (.var i) ρ σ K X = wpE Φ md (.var i) ρ σ (fun u σ₁ => iterV u σ₁ fun items chk => K items chk σ₁) X := rfl
theorem I_idx {Φ : Calls} {md : Bool} {ρ : Loc} {σ : Store} {K : List V → (Store → Prop) → Store → Prop} {X : XP} {o i : Ex} : wpIt Φ md (.idx o i) ρ σ K X = wpE Φ md (.idx o i) ρ σ (fun u σ₁ => iterV u σ₁ fun items chk => K items chk σ₁) X := rfl
theorem I_attr {Φ : Calls} {md : Bool} {ρ : Loc} {σ : Store} {K : List V → (Store → Prop) → Store → Prop} {X : XP} {o : Ex} {name : String} : wpIt Φ md (.attr o name) ρ σ K X = wpE Φ md (.attr o name) ρ σ (fun u σ₁ => iterV u σ₁ fun items chk => K items chk σ₁) X := rfl
theorem I_list {Φ : Calls} {md : Bool} {ρ : Loc} {σ : Store} {K : List V → (Store → Prop) → Store → Prop} {X : XP} {es : Exs} : wpIt Φ md (.list es) ρ σ K X = wpE Φ md (.list es) ρ σ (fun u σ₁ => iterV u σ₁ fun items chk => K items chk σ₁) X := rfl
theorem I_call {Φ : Calls} {md : Bool} {ρ : Loc} {σ : Store} {K : List V → (Store → Prop) → Store → Prop} {X : XP} {f : String} {es : Exs} : wpIt Φ md (.call f es) ρ σ K X = wpE Φ md (.call f es) ρ σ (fun u σ₁ => iterV u σ₁ fun items chk => K items chk σ₁) X := rfl
theorem I_slice {Φ : Calls} {md : Bool} {ρ : Loc} {σ : Store} {K : List V → (Store → Prop) → Store → Prop} {X : XP} {o : Ex} {lo hi : ExO} : wpIt Φ md (.slice o lo hi) ρ σ K X = wpE Φ md (.slice o lo hi) ρ σ (fun u σ₁ => iterV u σ₁ fun items chk => K items chk σ₁) X := rfl
theorem itR1_int {n : Int} {σ : Store} {K : List V → (Store → Prop) → Store → Prop} : itR1 (.int n) σ K = ((n < 2 ^ 31 ∧ -(2 ^ 31) < n) ∧ K ((upto 0 n 1).map V.int) (fun _ => True) σ) := rfl
theorem itR2_int {m n : Int} {σ : Store} {K : List V → (Store → Prop) → Store → Prop} : itR2 (.int m) (.int n) σ K = ((n < 2 ^ 31 ∧ -(2 ^ 31) < n ∧ m < 2 ^ 31 ∧ -(2 ^ 31) < m) ∧ K ((upto m n 1).map V.int) (fun _ => True) σ) := rfl
theorem itR3_int {m n k : Int} {σ : Store} {K : List V → (Store → Prop) → Store → Prop} : itR3 (.int m) (.int n) (.int k) σ K = ((n < 2 ^ 31 ∧ -(2 ^ 31) < n ∧ m < 2 ^ 31 ∧ -(2 ^ 31) < m ∧ 0 < k ∧ k < 1000000000) ∧ K ((upto m n k).map V.int) (fun _ => True) σ) := rfl
theorem S_expr {Φ : Bool → Calls} {md : Bool} {ρ : Loc} {σ : Store} {N : Loc → Store → Prop} {R : V → Store → Prop} {X : XL} {e : Ex} : wpS Φ md (.expr e) ρ σ N R X = (wpE (Φ md) md e ρ σ (fun v σ₁ => v = .none ∧ N ρ σ₁) fun c a σ₁ => X c a ρ σ₁) := rfl
theorem S_assign {Φ : Bool → Calls} {md : Bool} {ρ : Loc} {σ : Store} {N : Loc → Store → Prop} {R : V → Store → Prop} {X : XL} {t : Tg} {e : Ex} : wpS Φ md (.assign t e) ρ σ N R X = (tgOk md t ∧ wpE (Φ md) md e ρ σ (fun v σ₁ => onSome (bindTg t v ρ) fun ρ' => N ρ' σ₁) fun c a σ₁ => X c a ρ σ₁) := rfl
theorem S_setattr {Φ : Bool → Calls} {md : Bool} {ρ : Loc} {σ : Store} {N : Loc → Store → Prop} {R : V → Store → Prop} {X : XL} {o : Ex} {name : String} {e : Ex} : wpS Φ md (.setattr o name e) ρ σ N R X = (wpE (Φ md) md e ρ σ (fun v σ₁ => wpE (Φ md) md o ρ σ₁ (fun u σ₂ => setattrV (Φ md).fld u name v σ₂ fun σ₃ => N ρ σ₃) fun c a σ₁ => X c a ρ σ₁) fun c a σ₁ => X c a ρ σ₁) := rfl
theorem S_setitem {Φ : Bool → Calls} {md : Bool} {ρ : Loc} {σ : Store} {N : Loc → Store → Prop} {R : V → Store → Prop} {X : XL} {o i e : Ex} : wpS Φ md (.setitem o i e) ρ σ N R X = (wpE (Φ md) md e ρ σ (fun v σ₁ => wpE (Φ md) md o ρ σ₁ (fun u σ₂ => wpE (Φ md) md i ρ σ₂ (fun k σ₃ => setitemV u k v σ₃ fun σ₄ => N ρ σ₄)
      fun c a σ₁ => X c a ρ σ₁) fun c a σ₁ => X c a ρ σ₁) fun c a σ₁ => X c a ρ σ₁) := rfl
theorem S_ret {Φ : Bool → Calls} {md : Bool} {ρ : Loc} {σ : Store} {N : Loc → Store → Prop} {R : V → Store → Prop} {X : XL} {e : Ex} : wpS Φ md (.ret e) ρ σ N R X = (wpE (Φ md) md e ρ σ R fun c a σ₁ => X c a ρ σ₁) := rfl
theorem S_pass {Φ : Bool → Calls} {md : Bool} {ρ : Loc} {σ : Store} {N : Loc → Store → Prop} {R : V → Store → Prop} {X : XL}  : wpS Φ md (.pass) ρ σ N R X = (N ρ σ) := rfl
theorem S_raise {Φ : Bool → Calls} {md : Bool} {ρ : Loc} {σ : Store} {N : Loc → Store → Prop} {R : V → Store → Prop} {X : XL} {c msg : String} : wpS Φ md (.raise c msg) ρ σ N R X = ((md = true ∧ c ∈ excNames) ∧ ∀ a, σ a = none → X c a ρ σ) := rfl
theorem S_iff {Φ : Bool → Calls} {md : Bool} {ρ : Loc} {σ : Store} {N : Loc → Store → Prop} {R : V → Store → Prop} {X : XL} {c : Ex} {th el : Sts} : wpS Φ md (.iff c th el) ρ σ N R X = (wpE (Φ md) md c ρ σ (fun v σ₁ => onSome (truthy σ₁ v) fun b => if b then wpSs Φ md th ρ σ₁ N R X else wpSs Φ md el ρ σ₁ N R X) fun c a σ₁ => X c a ρ σ₁) := rfl
theorem S_whil {Φ : Bool → Calls} {md : Bool} {ρ : Loc} {σ : Store} {N : Loc → Store → Prop} {R : V → Store → Prop} {X : XL} {c : Ex} {body : Sts} : wpS Φ md (.whil c body) ρ σ N R X = (∃ n, whileV (fun ρ σ K => wpE (Φ md) md c ρ σ (fun v σ₁ => onSome (truthy σ₁ v) fun b => K b σ₁) fun c a σ₁ => X c a ρ σ₁)
      (fun ρ σ K => wpSs Φ md body ρ σ K R X) N n ρ σ) := rfl
theorem S_for {Φ : Bool → Calls} {md : Bool} {ρ : Loc} {σ : Store} {N : Loc → Store → Prop} {R : V → Store → Prop} {X : XL} {t : Tg} {it : Ex} {body : Sts} : wpS Φ md (.for t it body) ρ σ N R X = (md = true ∧ wpIt (Φ md) md it ρ σ (fun items chk σ₁ => forV chk (fun v ρ σ K => onSome (bindTg t v ρ) fun ρ' => wpSs Φ md body ρ' σ K R X) N items ρ σ₁)
      fun c a σ₁ => X c a ρ σ₁) := rfl
theorem S_tryx {Φ : Bool → Calls} {md : Bool} {ρ : Loc} {σ : Store} {N : Loc → Store → Prop} {R : V → Store → Prop} {X : XL} {body : Sts} {hs : Hs} : wpS Φ md (.tryx body hs) ρ σ N R X = (md = true ∧ wpSs Φ md body ρ σ N R fun c a ρ' σ' => wpHs Φ hs c a ρ' σ' N R X) := rfl
theorem Ss_nil {Φ : Bool → Calls} {md : Bool} {ρ : Loc} {σ : Store} {N : Loc → Store → Prop} {R : V → Store → Prop} {X : XL} : wpSs Φ md .nil ρ σ N R X = N ρ σ := rfl
theorem Ss_cons {Φ : Bool → Calls} {md : Bool} {ρ : Loc} {σ : Store} {N : Loc → Store → Prop} {R : V → Store → Prop} {X : XL} {s : St} {r : Sts} : wpSs Φ md (.cons s r) ρ σ N R X = wpS Φ md s ρ σ (fun ρ₁ σ₁ => wpSs Φ md r ρ₁ σ₁ N R X) R X := rfl
theorem H_nil {Φ : Bool → Calls} {ρ : Loc} {σ : Store} {N : Loc → Store → Prop} {R : V → Store → Prop} {X : XL} {c : String} {a : Addr} : wpHs Φ .nil c a ρ σ N R X = X c a ρ σ := rfl
theorem H_cons {Φ : Bool → Calls} {ρ : Loc} {σ : Store} {N : Loc → Store → Prop} {R : V → Store → Prop} {X : XL} {C : String} {x : Nat} {body : Sts} {r : Hs} {c : String} {a : Addr} : wpHs Φ (.cons C x body r) c a ρ σ N R X = (if c = C then wpSs Φ false body (ρ.set x (some (.ref a))) (σ.upd a (.exc c)) (fun ρ' σ' => N (ρ'.set x none) σ') R (fun _ _ _ _ => False) else wpHs Φ r c a ρ σ N R X) := rfl
end Mine.Internal
end

section
namespace Mine.Internal
open PySem PySem.W PySem.Calls PyProof.Rows

mutual
/-- an abstract value and a value of the heap -/
inductive VR (h : Heap) : V → Value → Prop
  | none : VR h .none .none
  | bool {b : Bool} : VR h (.bool b) (.bool b)
  | int {i : Int} {t : Tok} : VR h (.int i) (.int i t)
  | str {s : Str} {t : Tok} : VR h (.str s) (.str s t)
  | ref {a : Addr} : VR h (.ref a) (.ref a)
  | tup {vs : List V} {xs : List Value} {a : Addr} {n : Nat} : h.get? a = some (seqObj "tuple" xs.toArray n) → VRs h vs xs → VR h (.tup vs) (.ref a)
inductive VRs (h : Heap) : List V → List Value → Prop
  | nil : VRs h [] []
  | cons {v : V} {vs : List V} {x : Value} {xs : List Value} : VR h v x → VRs h vs xs → VRs h (v :: vs) (x :: xs)
end

/-- tuples stay -/
noncomputable def IsT (o : Obj) : Prop := o.cls = .type "tuple" ∧ ∃ xs n, o.data = .seq xs n
noncomputable def TupKeep (h h' : Heap) : Prop := ∀ a o, h.get? a = some o → IsT o → h'.get? a = some o

mutual
theorem VR.keep {h h' : Heap} (k : TupKeep h h') : ∀ {v : V} {x : Value}, VR h v x → VR h' v x
  | _, _, .none => .none
  | _, _, .bool => .bool
  | _, _, .int => .int
  | _, _, .str => .str
  | _, _, .ref => .ref
  | _, _, .tup e r => .tup (k _ _ e ⟨rfl, _, _, rfl⟩) (r.keep k)
theorem VRs.keep {h h' : Heap} (k : TupKeep h h') : ∀ {v : List V} {x : List Value}, VRs h v x → VRs h' v x
  | _, _, .nil => .nil
  | _, _, .cons a r => .cons (a.keep k) (r.keep k)
end
theorem VRs.length {h : Heap} : ∀ {v : List V} {x : List Value}, VRs h v x → v.length = x.length
  | _, _, .nil => rfl
  | _, _, .cons _ r => by simp [r.length]
theorem VRs.append {h : Heap} : ∀ {u v : List V} {x y : List Value}, VRs h u x → VRs h v y → VRs h (u ++ v) (x ++ y)
  | _, _, _, _, .nil, r => r
  | _, _, _, _, .cons a r, q => .cons a (r.append q)
theorem VRs.get {h : Heap} : ∀ {v : List V} {x : List Value}, VRs h v x → ∀ {i : Nat} {a : V}, v[i]? = some a → ∃ b, x[i]? = some b ∧ VR h a b
  | _, _, .nil, i, a, e => by simp at e
  | _, _, .cons (x := x) q r, 0, a, e => by simp at e; subst e; exact ⟨x, rfl, q⟩
  | _, _, .cons q r, i + 1, a, e => by simp at e; simpa using r.get e

section
variable (cls : String → Option Addr) (prog : Program) (w : World)

/-- the keys of a dict of the heap, each value True -/
noncomputable def KR (h : Heap) (a : Addr) (ks : List V) : Prop :=
  (∃ ns : List Int, ks = ns.map V.int ∧ h.DictOf (intKind prog w) a (ns.map fun n => (n, Value.bool true))) ∨
  (∃ ps : List ((Int × Int) × Addr), ks = ps.map (fun p => V.tup [.int p.1.1, .int p.1.2]) ∧ h.DictOfH (tupleKind (intKind prog w)) a (ps.map fun p => ([p.1.1, p.1.2], p.2, Value.bool true)))

/-- the fields of an instance -/
noncomputable def NR (h : Heap) : List (String × V) → List DictEntry → Prop
  | [], [] => True
  | (n, v) :: r, e :: es => (∃ t, e.key = .str (Str.ofString n) t) ∧ VR h v e.val ∧ NR h r es
  | _, _ => False

/-- what the heap holds where the store has an object -/
noncomputable def OR (h : Heap) (a : Addr) : AO → Prop
  | .list vs => ∃ xs n, h.get? a = some (seqObj "list" xs.toArray n) ∧ VRs h vs xs ∧ vs.length ≤ szLim
  | .fixed vs => ∃ xs, h.IsList a xs.toArray ∧ VRs h vs xs ∧ vs.length ≤ szLim
  | .dict ks => KR prog w h a ks ∧ ks.length ≤ szLim
  | .inst c d => ∃ C, cls c = some C ∧ h.get? a = some (instObj C d)
  | .ns fs => ∃ es n, h.get? a = some (dictOf es n) ∧ NR h fs es ∧ (fs.map (·.1)).Nodup
  | .exc c => ∃ C o vs, cls c = some C ∧ h.get? a = some o ∧ (o.cls = .ref C ∧ o.dict = none) ∧ o.data = .fields vs

end

/-- as it was, but for a dict's slots (a frame's) -/
noncomputable def KeptAs (o : Obj) (r : Option Obj) : Prop := r = some o ∨ ∃ es n sl, o.data = .dict es n ∧ r = some { o with slots := sl }

structure HStep (D : Addr → Prop) (h h' : Heap) : Prop where
  size : h.objs.size ≤ h'.objs.size
  keep : ∀ a o, h.get? a = some o → ¬ D a → KeptAs o (h'.get? a)
  tup : TupKeep h h'

/-- what is fixed for the whole of a law's call -/
structure Cx where
  prog : Program
  w : World
  base : Heap
  cls : String → Option Addr
  fn : String → String → Option Addr
  fld : String → String → Bool
  K : Frag
  mg : Str → Option Value
  mb : Str → Option Value

abbrev Cx.M (C : Cx) : Model := model C.prog C.w

structure Rel (C : Cx) (σ : Store) (h : Heap) : Prop where
  stays : C.base.StaysIn h
  tr : ∀ a o, σ a = some o → OR C.cls C.prog C.w h a o
  new : ∀ a o, σ a = some o → C.base.objs.size ≤ a ∨ ∃ vs, o = .fixed vs
  size : C.base.objs.size ≤ h.objs.size

/-- from one state to another: what the store has not, and D does not name, is as it was -/
structure Step (C : Cx) (D : Addr → Prop) (σ : Store) (s : Shared) (σ' : Store) (s' : Shared) : Prop where
  h : HStep (fun a => σ a ≠ none ∨ D a) s.heap s'.heap
  rel : Rel C σ' s'.heap
  dom : ∀ a, σ a ≠ none → σ' a ≠ none
  fresh : ∀ a, σ' a ≠ none → σ a ≠ none ∨ s.heap.objs.size ≤ a
  gens : s'.gens = s.gens
  os : s'.os = s.os
  drawn : s'.drawn = s.drawn
noncomputable def No : Addr → Prop := fun _ => False

theorem KeptAs.trans {o : Obj} {r r' : Option Obj} (x : KeptAs o r) (y : ∀ o', r = some o' → KeptAs o' r') : KeptAs o r' := by
  rcases x with rfl | ⟨es, n, sl, hd, rfl⟩
  · exact y _ rfl
  · rcases y _ rfl with rfl | ⟨_, _, sl', _, rfl⟩
    · exact .inr ⟨es, n, sl, hd, rfl⟩
    · exact .inr ⟨es, n, sl', hd, rfl⟩
theorem KeptAs.some {o : Obj} {r : Option Obj} (x : KeptAs o r) : ∃ o', r = some o' ∧ o'.data = o.data ∧ o'.cls = o.cls ∧ o'.dict = o.dict := by
  rcases x with rfl | ⟨es, n, sl, hd, rfl⟩
  · exact ⟨_, rfl, rfl, rfl, rfl⟩
  · exact ⟨_, rfl, rfl, rfl, rfl⟩
theorem KeptAs.plain {o : Obj} {r : Option Obj} (x : KeptAs o r) (hd : ∀ es n, o.data ≠ .dict es n) : r = Option.some o := by
  rcases x with rfl | ⟨es, n, sl, hd', rfl⟩
  · rfl
  · exact absurd hd' (hd _ _)

theorem HStep.refl {D : Addr → Prop} {h : Heap} : HStep D h h := ⟨Nat.le_refl _, fun _ _ e _ => .inl e, fun _ _ e _ => e⟩
theorem HStep.trans {D D' : Addr → Prop} {h₁ h₂ h₃ : Heap} (x : HStep D h₁ h₂) (y : HStep D' h₂ h₃) (hD : ∀ a, D' a → D a ∨ h₁.objs.size ≤ a) : HStep D h₁ h₃ :=
  ⟨Nat.le_trans x.size y.size, fun a o e n => (x.keep a o e n).trans fun o' e' => y.keep a o' e' fun d => (hD a d).elim n fun l => absurd (Heap.lt_size e) (Nat.not_lt.mpr l),
    fun a o e t => y.tup a o (x.tup a o e t) t⟩
/-- a heap that only grew -/
theorem HStep.grow {D : Addr → Prop} {h h' : Heap} (k : ∀ b o, h.get? b = some o → h'.get? b = some o) (hs : h.objs.size ≤ h'.objs.size) : HStep D h h' :=
  ⟨hs, fun a o e _ => .inl (k a o e), fun a o e _ => k a o e⟩

theorem HStep.mono {D D' : Addr → Prop} {h h' : Heap} (x : HStep D h h') (m : ∀ a, D a → D' a) : HStep D' h h' := ⟨x.size, fun a o e n => x.keep a o e fun d => n (m a d), x.tup⟩

theorem Step.refl {C : Cx} {D : Addr → Prop} {σ : Store} {s : Shared} (r : Rel C σ s.heap) : Step C D σ s σ s :=
  ⟨.refl, r, fun _ x => x, fun _ x => .inl x, rfl, rfl, rfl⟩
theorem Step.trans {C : Cx} {D : Addr → Prop} {σ₁ σ₂ σ₃ : Store} {s₁ s₂ s₃ : Shared} (x : Step C D σ₁ s₁ σ₂ s₂) (y : Step C D σ₂ s₂ σ₃ s₃) : Step C D σ₁ s₁ σ₃ s₃ :=
  ⟨x.h.trans y.h fun a d => d.elim (fun n => (x.fresh a n).imp .inl id) fun d => .inl (.inr d), y.rel, fun a n => y.dom a (x.dom a n),
    fun a n => (y.fresh a n).elim (x.fresh a) fun l => .inr (Nat.le_trans x.h.size l), y.gens.trans x.gens, y.os.trans x.os, y.drawn.trans x.drawn⟩
theorem Step.mono {C : Cx} {D D' : Addr → Prop} {σ σ' : Store} {s s' : Shared} (x : Step C D σ s σ' s') (m : ∀ a, D a → D' a) : Step C D' σ s σ' s' :=
  ⟨x.h.mono fun a d => d.imp id (m a), x.rel, x.dom, x.fresh, x.gens, x.os, x.drawn⟩
theorem Step.no {C : Cx} {D : Addr → Prop} {σ σ' : Store} {s s' : Shared} (x : Step C No σ s σ' s') : Step C D σ s σ' s' := x.mono fun _ f => f.elim
/-- what D names is new -/
theorem Step.drop {C : Cx} {D : Addr → Prop} {σ σ' : Store} {s s' : Shared} (x : Step C D σ s σ' s') (m : ∀ a, D a → s.heap.objs.size ≤ a) : Step C No σ s σ' s' :=
  ⟨⟨x.h.size, fun a o e n => x.h.keep a o e fun d => d.elim (fun z => n (.inl z)) fun z => absurd (Heap.lt_size e) (Nat.not_lt.mpr (m a z)), x.h.tup⟩, x.rel, x.dom, x.fresh, x.gens, x.os, x.drawn⟩
theorem Step.vr {C : Cx} {D : Addr → Prop} {σ σ' : Store} {s s' : Shared} (x : Step C D σ s σ' s') {v : V} {u : Value} (r : VR s.heap v u) : VR s'.heap v u := r.keep x.h.tup
theorem Step.vrs {C : Cx} {D : Addr → Prop} {σ σ' : Store} {s s' : Shared} (x : Step C D σ s σ' s') {v : List V} {u : List Value} (r : VRs s.heap v u) : VRs s'.heap v u := r.keep x.h.tup
/-- more tokens alone -/
theorem Step.toks {C : Cx} {D : Addr → Prop} {σ : Store} {s : Shared} (r : Rel C σ s.heap) (t : Nat) : Step C D σ s σ { s with toks := t } :=
  ⟨.refl, r, fun _ x => x, fun _ x => .inl x, rfl, rfl, rfl⟩

/-- an exception under way -/
noncomputable def Fly (C : Cx) (h₀ h : Heap) (e : Addr) (c : String) : Prop :=
  ∃ Cl oe vs, (C.cls c = some Cl ∧ c ∈ excNames) ∧ h.get? e = some oe ∧ (oe.cls = .ref Cl ∧ oe.dict = none) ∧ oe.data = .fields vs ∧ 1 < vs.size ∧ h₀.objs.size ≤ e ∧
    (vs[1]? = some .none ∨ ∃ T oT ts, vs[1]? = some (.ref T) ∧ T ≠ e ∧ h₀.objs.size ≤ T ∧ h.get? T = some oT ∧ oT.cls = .type "traceback" ∧ oT.data = .fields ts ∧ 3 < ts.size)
theorem Fly.older {C : Cx} {h₀ h₁ h : Heap} {e : Addr} {c : String} (x : Fly C h₁ h e c) (l : h₀.objs.size ≤ h₁.objs.size) : Fly C h₀ h e c := by
  refine lift fun gg back => ?_
  obtain ⟨Cl, oe, vs, a1, a2, a3, a4, a5, a6, a7⟩ := x
  refine back ?_
  clear back gg
  exact ⟨Cl, oe, vs, a1, a2, a3, a4, a5, Nat.le_trans l a6, a7.imp id fun ⟨T, oT, ts, b1, b2, b3, b4⟩ => ⟨T, oT, ts, b1, b2, Nat.le_trans l b3, b4⟩⟩

noncomputable def PostV (C : Cx) (σ : Store) (s : Shared) (Q : V → Store → Prop) : Value → Shared → Prop := fun v s' => ∃ V σ', Q V σ' ∧ VR s'.heap V v ∧ Step C No σ s σ' s'
noncomputable def PostX (C : Cx) (σ : Store) (s : Shared) (X : XP) : Value → Shared → Prop := fun x s' => ∃ e c σ', x = .ref e ∧ X c e σ' ∧ Step C No σ s σ' s' ∧ Fly C s.heap s'.heap e c ∧ σ' e = none

theorem PostX.from {C : Cx} {σ σ₁ : Store} {s s₁ s' : Shared} {X : XP} {x : Value} (y : Step C No σ s σ₁ s₁) (h : PostX C σ₁ s₁ X x s') : PostX C σ s X x s' := by
  refine lift fun gg back => ?_
  obtain ⟨e, c, σ', rfl, hX, st, fl, n⟩ := h
  refine back ?_
  clear back gg
  exact ⟨e, c, σ', rfl, hX, y.trans st, fl.older y.h.size, n⟩
theorem PostV.from {C : Cx} {σ σ₁ : Store} {s s₁ s' : Shared} {Q : V → Store → Prop} {v : Value} (y : Step C No σ s σ₁ s₁) (h : PostV C σ₁ s₁ Q v s') : PostV C σ s Q v s' := by
  refine lift fun gg back => ?_
  obtain ⟨V, σ', hQ, hv, st⟩ := h
  refine back ?_
  clear back gg
  exact ⟨V, σ', hQ, hv, y.trans st⟩

/-- what is known of the frames -/
noncomputable def FramesOk (C : Cx) (A : Around) (σ : Store) (h : Heap) : Prop := ∃ l, A.frames = some l ∧ h.FunFrames C.base l ∧ ∀ L ∈ l.filterMap (·.frame), σ L = none ∧ ∃ o es n, h.get? L = some o ∧ o.data = .dict es n
/-- what is known of the surroundings -/
structure AOk (C : Cx) (k : Nat) (md : Bool) (A : Around) (σ : Store) (h : Heap) : Prop where
  frames : FramesOk C A σ h
  handled : md = true → A.handled = none
  depth : A.depth + 3 * k < 990
  units : A.units + 40 * k < 9000

theorem FramesOk.keep {C : Cx} {A : Around} {D : Addr → Prop} {σ σ' : Store} {s s' : Shared} (x : FramesOk C A σ s.heap) (y : Step C D σ s σ' s')
    (hD : ∀ l, A.frames = some l → ∀ L ∈ l.filterMap (·.frame), D L → ∃ o es n, s'.heap.get? L = some o ∧ o.data = .dict es n) : FramesOk C A σ' s'.heap := by
  refine lift fun gg back => ?_
  obtain ⟨l, hl, hf, hn⟩ := x
  refine back ?_
  clear back gg
  have hD := hD l hl
  have at_ : ∀ L ∈ l.filterMap (·.frame), ∃ o es n, s'.heap.get? L = some o ∧ o.data = .dict es n := fun L hL => by
    by_cases hd : D L
    · exact hD L hL hd
    · refine ob1 (hn L hL) ?_
      intro h1 o es n h2 h3
      refine ob2 ((y.h.keep L o h2 (fun d => d.elim (fun z => z h1) hd)).some) ?_
      intro o' ho' hd' _ _
      exact ⟨o', es, n, ho', hd'.trans h3⟩
  refine ⟨l, hl, ?_, fun L hL => ⟨?_, at_ L hL⟩⟩
  · clear hl hD
    induction l with
    | nil => trivial
    | cons env r ih =>
      refine lift fun gg back => ?_
      obtain ⟨hk, ⟨L, o, e1, e2, e3, e4⟩, hr⟩ := hf
      refine back ?_
      clear back gg
      have sub : ∀ L' ∈ r.filterMap (·.frame), L' ∈ (env :: r).filterMap (·.frame) := fun L' hL' => by rw [List.filterMap_cons, e1]; exact List.mem_cons_of_mem _ hL'
      obtain ⟨o', es, n, ho', hd'⟩ := at_ L (by rw [List.filterMap_cons, e1]; exact List.mem_cons_self)
      exact ⟨hk, ⟨L, o', e1, e2, ho', fun vs q => by rw [hd'] at q; cases q⟩, ih hr (fun L' hL' => hn L' (sub L' hL')) fun L' hL' => at_ L' (sub L' hL')⟩
  · cases q : σ' L with
    | none => rfl
    | some o =>
      rcases y.fresh L (by rw [q]; simp) with z | z
      · exact absurd (hn L hL).1 z
      · refine ob1 (hn L hL) ?_
        intro _ o _ _ ho _
        exact absurd (Heap.lt_size ho) (Nat.not_lt.mpr z)
theorem AOk.keep {C : Cx} {k : Nat} {md : Bool} {A : Around} {D : Addr → Prop} {σ σ' : Store} {s s' : Shared} (x : AOk C k md A σ s.heap) (y : Step C D σ s σ' s')
    (hD : ∀ l, A.frames = some l → ∀ L ∈ l.filterMap (·.frame), D L → ∃ o es n, s'.heap.get? L = some o ∧ o.data = .dict es n) : AOk C k md A σ' s'.heap :=
  ⟨x.frames.keep y hD, x.handled, x.depth, x.units⟩
theorem AOk.step {C : Cx} {k : Nat} {md : Bool} {A : Around} {σ σ' : Store} {s s' : Shared} (x : AOk C k md A σ s.heap) (y : Step C No σ s σ' s') : AOk C k md A σ' s'.heap := x.keep y fun _ _ _ _ f => f.elim

/-- environments of defs and of comprehensions -/
structure EnvOk (env : Env) : Prop where
  kind : env.scope.kind = .function
  globals : env.globals = mainGlobals
  builtins : env.builtins = builtinsNs

noncomputable def Holds (h : Heap) (env : Env) (x : Str) (v : V) : Prop :=
  match env.kindOf x with
  | some .local => ∃ m u, h.Ns env.locals m ∧ m x = some u ∧ VR h v u
  | some .cell | some .free => ∃ c u, env.cells.lookup x = some c ∧ h.IsCell c (some u) ∧ VR h v u
  | _ => True

/-- the names' places of this frame -/
noncomputable def Own (env : Env) (a : Addr) : Prop := a = env.locals ∨ ∃ x, env.cells.lookup x = some a

/-- the place of one name -/
noncomputable def OwnAt (env : Env) (x : Str) (a : Addr) : Prop := (env.kindOf x = some .local ∧ a = env.locals) ∨ (env.kindOf x = some .cell ∧ env.cells.lookup x = some a)
theorem OwnAt.own {env : Env} {x : Str} {a : Addr} (h : OwnAt env x a) : Own env a := h.elim (fun h => .inl h.2) fun h => .inr ⟨_, h.2⟩

structure LR (C : Cx) (σ : Store) (h : Heap) (env : Env) (nm : List (String × Nat)) (ρ : Loc) : Prop where
  holds : ∀ x i v, nm.lookup x = some i → ρ.get i = some v → Holds h env (Str.ofString x) v
  locals : ∃ m, h.Ns env.locals m
  lnew : σ env.locals = none ∧ C.base.get? env.locals = none
  cells : ∀ x c, env.cells.lookup x = some c → (∃ v, h.IsCell c v) ∧ σ c = none ∧ C.base.get? c = none
  apart : ∀ x y c, env.cells.lookup x = some c → env.cells.lookup y = some c → x = y

theorem ns_kept {h h' : Heap} {a : Addr} {m : Str → Option Value} {o : Obj} (hn : h.Ns a m) (ho : h.get? a = some o) (k : KeptAs o (h'.get? a)) : h'.Ns a m := by
  refine lift fun gg back => ?_
  obtain ⟨o₁, es, ep, h1, h2, h3⟩ := hn
  refine back ?_
  clear back gg
  rw [ho] at h1; cases h1
  refine ob2 k.some ?_
  intro o' e1 e2 _ _
  exact ⟨o', es, ep, e1, e2.trans h2, h3⟩
theorem cell_kept {h h' : Heap} {a : Addr} {v : Option Value} (hc : h.IsCell a v) (k : ∀ o, h.get? a = some o → KeptAs o (h'.get? a)) : h'.IsCell a v := by
  refine lift fun gg back => ?_
  obtain ⟨o, ho, hd⟩ := hc
  refine back ?_
  clear back gg
  exact ⟨o, (k o ho).plain (fun es n q => by rw [hd] at q; cases q), hd⟩

theorem untracked {C : Cx} {D : Addr → Prop} {σ σ' : Store} {s s' : Shared} (y : Step C D σ s σ' s') {a : Addr} {o : Obj} (ho : s.heap.get? a = some o) (hn : σ a = none) : σ' a = none := by
  cases q : σ' a with
  | none => rfl
  | some x =>
    rcases y.fresh a (by rw [q]; simp) with z | z
    · exact absurd hn z
    · exact absurd (Heap.lt_size ho) (Nat.not_lt.mpr z)

theorem LR.step {C : Cx} {σ σ' : Store} {s s' : Shared} {env : Env} {nm : List (String × Nat)} {ρ : Loc} (x : LR C σ s.heap env nm ρ) (y : Step C No σ s σ' s') : LR C σ' s'.heap env nm ρ := by
  refine lift fun gg back => ?_
  obtain ⟨m, o, es, ep, hL, hLd, hLr⟩ := x.locals
  refine back ?_
  clear back gg
  have kL : ∀ o, s.heap.get? env.locals = some o → KeptAs o (s'.heap.get? env.locals) := fun o ho => y.h.keep _ o ho fun d => d.elim (fun z => z x.lnew.1) id
  have kN : ∀ m, s.heap.Ns env.locals m → s'.heap.Ns env.locals m := fun m hm => ns_kept hm hL (kL o hL)
  have kC : ∀ {n c v}, env.cells.lookup n = some c → s.heap.IsCell c v → s'.heap.IsCell c v := fun {n c v} hc hv => cell_kept hv fun o ho => y.h.keep _ o ho fun d => d.elim (fun z => z (x.cells _ _ hc).2.1) id
  refine ⟨fun n i v hn hv => ?_, ⟨m, kN m ⟨o, es, ep, hL, hLd, hLr⟩⟩, ⟨untracked y hL x.lnew.1, x.lnew.2⟩, fun n c hc => ?_, x.apart⟩
  · have := x.holds n i v hn hv
    unfold Holds at this ⊢
    split at this
    · refine ob3 this ?_
      clear this
      intro m u h1 h2 h3
      exact ⟨m, u, kN m h1, h2, y.vr h3⟩
    · refine ob3 this ?_
      clear this
      intro c u h1 h2 h3
      exact ⟨c, u, h1, kC h1 h2, y.vr h3⟩
    · refine ob3 this ?_
      clear this
      intro c u h1 h2 h3
      exact ⟨c, u, h1, kC h1 h2, y.vr h3⟩
    · trivial
  · refine lift fun gg back => ?_
    refine ob4 (x.cells n c hc) ?_
    intro v hv h2 h3
    obtain ⟨o', ho', _⟩ := id hv
    refine back ?_
    clear back gg
    exact ⟨⟨v, kC hc hv⟩, untracked y ho' h2, h3⟩

theorem LR.own {C : Cx} {σ : Store} {h : Heap} {env : Env} {nm : List (String × Nat)} {ρ : Loc} (x : LR C σ h env nm ρ) : ∀ a, Own env a → ∃ o, h.get? a = some o ∧ ∀ vs, o.data ≠ .fields vs := by
  rintro a (rfl | ⟨n, hc⟩)
  · refine lift fun gg back => ?_
    obtain ⟨m, o, es, ep, hL, hLd, _⟩ := x.locals
    refine back ?_
    clear back gg
    exact ⟨o, hL, fun vs q => by rw [hLd] at q; cases q⟩
  · refine lift fun gg back => ?_
    obtain ⟨⟨v, o, ho, hd⟩, _⟩ := x.cells n a hc
    refine back ?_
    clear back gg
    exact ⟨o, ho, fun vs q => by rw [hd] at q; cases q⟩

theorem NR.keep {h h' : Heap} (k : TupKeep h h') : ∀ {fs : List (String × V)} {es : List DictEntry}, NR h fs es → NR h' fs es
  | [], [], _ => trivial
  | (_, _) :: _, _ :: _, ⟨a, b, c⟩ => ⟨a, b.keep k, NR.keep k c⟩
  | [], _ :: _, f => f.elim
  | _ :: _, [], f => f.elim

theorem KR.keep {prog : Program} {w : World} {h h' : Heap} {a : Addr} {ks : List V} (x : KR prog w h a ks) (e : h'.get? a = h.get? a) (k : TupKeep h h') : KR prog w h' a ks := by
  rcases x with ⟨ns, h1, o, es, ep, h2, h3⟩ | ⟨ps, h1, o, es, ep, h2, h3, h4, h5, h6, h7⟩
  · exact .inl ⟨ns, h1, o, es, ep, e.trans h2, h3⟩
  · refine .inr ⟨ps, h1, o, es, ep, e.trans h2, h3, h4, h5, fun x hx => ?_, h7⟩
    refine lift fun gg back => ?_
    obtain ⟨o', items, n, q1, q2, q3⟩ := h6 x hx
    refine back ?_
    clear back gg
    exact ⟨o', items, n, k _ _ q1 ⟨q2, _, _, q3.1⟩, q2, q3⟩

theorem OR.keep {cls : String → Option Addr} {prog : Program} {w : World} {h h' : Heap} {a : Addr} {o : AO} (x : OR cls prog w h a o) (e : h'.get? a = h.get? a) (k : TupKeep h h') : OR cls prog w h' a o := by
  cases o with
  | list vs => obtain ⟨xs, n, h1, h2, h3⟩ := x; exact ⟨xs, n, e.trans h1, h2.keep k, h3⟩
  | fixed vs => obtain ⟨xs, ⟨o, h1, h1'⟩, h2, h3⟩ := x; exact ⟨xs, ⟨o, e.trans h1, h1'⟩, h2.keep k, h3⟩
  | dict ks => exact ⟨x.1.keep e k, x.2⟩
  | inst c d => obtain ⟨C, h1, h2⟩ := x; exact ⟨C, h1, e.trans h2⟩
  | ns fs => obtain ⟨es, n, h1, h2, h3⟩ := x; exact ⟨es, n, e.trans h1, h2.keep k, h3⟩
  | exc c => obtain ⟨C, o, vs, h1, h2, h3⟩ := x; exact ⟨C, o, vs, h1, e.trans h2, h3⟩
theorem OR.there {cls : String → Option Addr} {prog : Program} {w : World} {h : Heap} {a : Addr} {o : AO} (x : OR cls prog w h a o) : ∃ ob, h.get? a = some ob ∧ ¬ IsT ob ∧ (∀ v, ob.data ≠ .cell v) ∧ ob.cls ≠ .type "frame" ∧ ob.cls ≠ .type "traceback" := by
  have nt : ∀ {ob : Obj}, ob.cls ≠ .type "tuple" → ¬ IsT ob := fun n q => n q.1
  have ty : ∀ {x y : String}, x ≠ y → Value.type x ≠ Value.type y := fun n q => n (by injection q)
  cases o with
  | list vs => obtain ⟨xs, n, h1, h2, h3⟩ := x; exact ⟨_, h1, nt (ty (by decide)), by simp, ty (by decide), ty (by decide)⟩
  | fixed vs => obtain ⟨xs, ⟨o, h1, h4, n, h5⟩, h2, h3⟩ := x; exact ⟨_, h1, nt (by rw [h4]; exact ty (by decide)), by rw [h5]; simp, by rw [h4]; exact ty (by decide), by rw [h4]; exact ty (by decide)⟩
  | dict ks =>
    rcases x.1 with ⟨ns, h1, o, es, ep, h2, h3, h4, _⟩ | ⟨ps, h1, o, es, ep, h2, h3, h4, _⟩
    · exact ⟨o, h2, nt (by rw [h3.1]; exact ty (by decide)), by rw [h4]; simp, by rw [h3.1]; exact ty (by decide), by rw [h3.1]; exact ty (by decide)⟩
    · exact ⟨o, h2, nt (by rw [h3.1]; exact ty (by decide)), by rw [h4]; simp, by rw [h3.1]; exact ty (by decide), by rw [h3.1]; exact ty (by decide)⟩
  | inst c d => obtain ⟨C, h1, h2⟩ := x; exact ⟨_, h2, nt (by simp), by simp, by simp, by simp⟩
  | ns fs => obtain ⟨es, n, h1, h2, h3⟩ := x; exact ⟨_, h1, nt (ty (by decide)), by simp, ty (by decide), ty (by decide)⟩
  | exc c => obtain ⟨C, o, vs, h1, h2, ⟨h3, _⟩, h4⟩ := x; exact ⟨_, h2, nt (by rw [h3]; simp), by rw [h4]; simp, by rw [h3]; simp, by rw [h3]; simp⟩

theorem Rel.frame {C : Cx} {σ : Store} {h h' : Heap} (r : Rel C σ h) (e : ∀ a o, σ a = some o → h'.get? a = h.get? a) (k : TupKeep h h') (st : C.base.StaysIn h') (hs : h.objs.size ≤ h'.objs.size) : Rel C σ h' :=
  ⟨st, fun a o q => (r.tr a o q).keep (e a o q) k, r.new, Nat.le_trans r.size hs⟩

/-- only one place, that the store does not have and that is no tuple, has turned -/
theorem Step.oneBut {C : Cx} {D : Addr → Prop} {σ : Store} {s : Shared} {h' : Heap} {t : Nat} {a : Addr} {o : Obj} (r : Rel C σ s.heap) (hs : Heap.SameBut a s.heap h') (hn : σ a = none) (hb : C.base.get? a = none) (hD : D a)
    (ho : s.heap.get? a = some o) (ht : ¬ IsT o) : Step C D σ s σ { s with heap := h', toks := t } := by
  have k : TupKeep s.heap h' := fun b ob e tc => (hs.2 b fun q => by subst q; rw [ho] at e; cases e; exact ht tc).trans e
  refine ⟨⟨Nat.le_of_eq hs.1.symm, fun b ob e n => .inl ((hs.2 b fun q => n (.inr (q ▸ hD))).trans e), k⟩, r.frame (fun b ob q => hs.2 b fun z => by rw [z, hn] at q; cases q) k (fun b ob e => ?_) (Nat.le_of_eq hs.1.symm), fun _ x => x, fun _ x => .inl x, rfl, rfl, rfl⟩
  exact (hs.2 b fun q => by rw [q, hb] at e; cases e).trans (r.stays b ob e)

theorem ofString_inj {x y : String} (h : Str.ofString x = Str.ofString y) : x = y := by
  rw [Str.ofString_eq_toList, Str.ofString_eq_toList] at h
  injection h with h
  have h' : x.toList.map Char.toNat = y.toList.map Char.toNat := by simpa using h
  have inj : ∀ a b : List Char, a.map Char.toNat = b.map Char.toNat → a = b := by
    intro a
    induction a with
    | nil => intro b e; cases b with | nil => rfl | cons _ _ => simp at e
    | cons c r ih =>
      intro b e
      cases b with
      | nil => simp at e
      | cons d q =>
        simp only [List.map_cons, List.cons.injEq] at e
        rw [ih q e.2]
        have : c = d := Char.ext (UInt32.toNat_inj.mp e.1)
        rw [this]
  exact String.ext (inj _ _ h')

theorem Loc.get_set_self {ρ : Loc} {i : Nat} {v : Option V} (h : i < ρ.length) : Loc.get (ρ.set i v) i = v := by simp [Loc.get, h]
theorem Loc.get_set_ne {ρ : Loc} {i j : Nat} {v : Option V} (h : j ≠ i) : Loc.get (ρ.set i v) j = Loc.get ρ j := by simp [Loc.get, Ne.symm h]

/-- names and their numbers -/
noncomputable def NmOk (nm : List (String × Nat)) (n : Nat) : Prop := (∀ x y i, nm.lookup x = some i → nm.lookup y = some i → x = y) ∧ ∀ x i, nm.lookup x = some i → i < n

section
variable {C : Cx} {A : Around} {E : Value → Shared → Prop} {σ : Store} {s : Shared} {env : Env} {nm : List (String × Nat)} {ρ : Loc}

theorem load_ok {x : String} {i : Nat} {v : V} {pos : Pos} {Q : Value → Shared → Prop} (Ev : EnvOk env) (L : LR C σ s.heap env nm ρ) (hx : nm.lookup x = some i) (hv : ρ.get i = some v)
    (hk : env.kindOf (Str.ofString x) = some .local ∨ env.kindOf (Str.ofString x) = some .cell ∨ env.kindOf (Str.ofString x) = some .free)
    (hd : (Str.ofString x == ("__debug__" : Str)) = false) (hc : (Str.ofString x == ("__classdict__" : Str)) = false)
    (h : ∀ u, VR s.heap v u → Q u s) : wpAny C.M A (eval (.Name (Str.ofString x) pos) env) Q E s := by
  have q := L.holds x i v hx hv
  unfold Holds at q
  refine wpAny_Name ?_ hd
  rcases hk with e | e | e
  · rw [e] at q
    refine ob3 q ?_
    clear q
    intro m u h1 h2 h3
    exact wpAny_loadName_local Ev.kind e h1 h2 (h u h3)
  · rw [e] at q
    refine ob3 q ?_
    clear q
    intro c u h1 h2 h3
    exact wpAny_loadName_cell Ev.kind e h1 h2 (h u h3)
  · rw [e] at q
    refine ob3 q ?_
    clear q
    intro c u h1 h2 h3
    exact wpAny_loadName_free Ev.kind e h1 h2 (h u h3) hc

theorem Holds.frame {h h' : Heap} {x : Str} {v : V} (q : Holds h env x v) (k : TupKeep h h') (hL : env.kindOf x = some .local → ∀ m u, h.Ns env.locals m → m x = some u → ∃ m', h'.Ns env.locals m' ∧ m' x = some u)
    (hC : ∀ c u, env.cells.lookup x = some c → h.IsCell c u → h'.IsCell c u) : Holds h' env x v := by
  unfold Holds at q ⊢
  split at q
  · rename_i e
    refine ob3 q ?_
    clear q
    intro m u h1 h2 h3
    refine ob5 (hL e m u h1 h2) ?_
    intro m' h4 h5
    exact ⟨m', u, h4, h5, h3.keep k⟩
  · refine ob3 q ?_
    clear q
    intro c u h1 h2 h3
    exact ⟨c, u, h1, hC c _ h1 h2, h3.keep k⟩
  · refine ob3 q ?_
    clear q
    intro c u h1 h2 h3
    exact ⟨c, u, h1, hC c _ h1 h2, h3.keep k⟩
  · trivial

theorem ns_unique {h : Heap} {a : Addr} {m m' : Str → Option Value} (x : h.Ns a m) (y : h.Ns a m') : m = m' := by
  refine lift fun gg back => ?_
  obtain ⟨o, es, ep, h1, h2, h3, h4⟩ := x
  obtain ⟨o', es', ep', h1', h2', h3', h4'⟩ := y
  refine back ?_
  clear back gg
  rw [h1] at h1'; cases h1'
  rw [h2] at h2'; cases h2'
  funext n
  rw [← h4 n, ← h4' n]

theorem store_ok {x : String} {i n : Nat} {v : V} {u : Value} {Q : Unit → Shared → Prop} (Ev : EnvOk env) (R : Rel C σ s.heap) (L : LR C σ s.heap env nm ρ) (hx : nm.lookup x = some i) (hn : NmOk nm n) (hl : ρ.length = n)
    (hk : env.kindOf (Str.ofString x) = some .local ∨ env.kindOf (Str.ofString x) = some .cell) (hcl : env.kindOf (Str.ofString x) = some .cell → (env.cells.lookup (Str.ofString x)).isSome = true) (hv : VR s.heap v u)
    (h : ∀ s', Step C (OwnAt env (Str.ofString x)) σ s σ s' → LR C σ s'.heap env nm (ρ.set i (some v)) → Q () s') : wpAny C.M A (storeName env (Str.ofString x) u) Q E s := by
  have hi : i < ρ.length := hl ▸ hn.2 x i hx
  have other : ∀ y j w, nm.lookup y = some j → Loc.get (ρ.set i (some v)) j = some w → (y = x ∧ w = v) ∨ (Str.ofString y ≠ Str.ofString x ∧ ρ.get j = some w) := fun y j w hy hw => by
    by_cases e : y = x
    · subst e
      rw [hx] at hy; cases hy
      rw [Loc.get_set_self hi] at hw; cases hw
      exact .inl ⟨rfl, rfl⟩
    · have hji : j ≠ i := fun q => by subst q; exact e (hn.1 y x _ hy hx)
      rw [Loc.get_set_ne hji] at hw
      exact .inr ⟨fun q => e (ofString_inj q), hw⟩
  rcases hk with e | e
  · refine lift fun gg back => ?_
    refine ob6 L.locals ?_
    intro m hm
    obtain ⟨o, es, ep, ho, hod, _⟩ := id hm
    refine back ?_
    clear back gg
    have hoc : ¬ IsT o := fun ⟨_, _, _, q⟩ => by rw [hod] at q; cases q
    refine wpAny_storeName_local e hm (fun h' hn' hs => ?_) (by rw [Ev.kind]; rfl)
    have st : Step C (OwnAt env (Str.ofString x)) σ s σ { s with heap := h', toks := s.toks + 1 } := Step.oneBut R hs L.lnew.1 L.lnew.2 (.inl ⟨e, rfl⟩) ho hoc
    have cell : ∀ {c w}, s.heap.IsCell c w → h'.IsCell c w := fun {c w} ⟨oc, h1, h2⟩ => ⟨oc, (hs.2 c fun q => by rw [q, ho] at h1; cases h1; rw [hod] at h2; cases h2).trans h1, h2⟩
    refine h _ st ⟨fun y j w hy hw => ?_, ⟨_, hn'⟩, L.lnew, fun y c hc => ?_, L.apart⟩
    · rcases other y j w hy hw with ⟨rfl, rfl⟩ | ⟨ny, hw'⟩
      · unfold Holds
        rw [e]
        exact ⟨_, u, hn', if_pos rfl, st.vr hv⟩
      · refine (L.holds y j w hy hw').frame st.h.tup (fun _ m₁ u₁ hm₁ hu₁ => ⟨_, hn', ?_⟩) fun c u₁ _ hc => cell hc
        rw [if_neg ny, ns_unique hm hm₁]; exact hu₁
    · refine ob7 (L.cells y c hc) ?_
      intro w hw r
      exact ⟨⟨w, cell hw⟩, r⟩
  · refine lift fun gg back => ?_
    refine ob6 (Option.isSome_iff_exists.mp (hcl e)) ?_
    intro c hc
    refine ob4 (L.cells _ c hc) ?_
    intro w₀ hw₀ hcn hcb
    obtain ⟨oc, hoc, hocd⟩ := id hw₀
    refine back ?_
    clear back gg
    have hoc' : ¬ IsT oc := fun ⟨_, _, _, q⟩ => by rw [hocd] at q; cases q
    refine wpAny_storeName_cell Ev.kind e hc hw₀ fun h' hc' hs => ?_
    have st : Step C (OwnAt env (Str.ofString x)) σ s σ { s with heap := h' } := Step.oneBut (t := s.toks) R hs hcn hcb (.inr ⟨e, hc⟩) hoc hoc'
    refine ob6 L.locals ?_
    intro m hm
    have nsk : ∀ m, s.heap.Ns env.locals m → h'.Ns env.locals m := fun m hm => hm.sameBut hs fun q => by
      refine lift fun gg back => ?_
      obtain ⟨o, es, ep, ho, hod, _⟩ := hm
      refine back ?_
      clear back gg
      rw [q, hoc] at ho; cases ho; rw [hocd] at hod; cases hod
    have cell : ∀ {c₁ w}, c₁ ≠ c → s.heap.IsCell c₁ w → h'.IsCell c₁ w := fun {c₁ w} n hw => hw.sameBut hs n
    refine h _ st ⟨fun y j w hy hw => ?_, ⟨m, nsk m hm⟩, L.lnew, fun y c₁ hc₁ => ?_, L.apart⟩
    · rcases other y j w hy hw with ⟨rfl, rfl⟩ | ⟨ny, hw'⟩
      · unfold Holds
        rw [e]
        exact ⟨c, u, hc, hc', st.vr hv⟩
      · exact (L.holds y j w hy hw').frame st.h.tup (fun _ m₁ u₁ hm₁ hu₁ => ⟨m₁, nsk _ hm₁, hu₁⟩) fun c₁ u₁ h1 h2 => cell (fun q => ny (L.apart _ _ c (q ▸ h1) hc)) h2
    · refine ob7 (L.cells y c₁ hc₁) ?_
      intro w hw r
      by_cases q : c₁ = c
      · subst q; exact ⟨⟨_, hc'⟩, r⟩
      · exact ⟨⟨w, cell q hw⟩, r⟩
end

end Mine.Internal
end

section
namespace Mine.Internal
open PySem

/-- the heap never shrinks, and what is not there below its end never comes -/
structure Dead (h h' : Heap) : Prop where
  size : h.objs.size ≤ h'.objs.size
  dead : ∀ a, a < h.objs.size → h.get? a = none → h'.get? a = none
theorem Dead.refl {h : Heap} : Dead h h := ⟨Nat.le_refl _, fun _ _ e => e⟩
theorem Dead.trans {h₁ h₂ h₃ : Heap} (x : Dead h₁ h₂) (y : Dead h₂ h₃) : Dead h₁ h₃ := ⟨Nat.le_trans x.size y.size, fun a l e => y.dead a (Nat.lt_of_lt_of_le l x.size) (x.dead a l e)⟩
theorem Dead.push {h : Heap} {o : Obj} : Dead h (h.push o) := ⟨by rw [Heap.size_push]; exact Nat.le_succ _, fun a l e => by
  cases q : (h.push o).get? a with
  | none => rfl
  | some o' =>
    refine ob8 (Heap.get?_some_iff.mp q) ?_
    intro e1 e2
    have hne := Nat.ne_of_lt l
    have : h.get? a = some o' := Heap.get?_some_iff.mpr ⟨by cases h; simpa [Heap.push, Array.getElem?_push, hne] using e1, e2⟩
    rw [e] at this; cases this⟩
theorem Dead.update {h : Heap} {a : Addr} {f : Obj → Obj} (ha : (h.get? a).isSome = true) : Dead h (h.update a f) := ⟨by rw [Heap.size_update]; exact Nat.le_refl _, fun b _ e => by
  by_cases q : a = b
  · subst q; rw [e] at ha; cases ha
  · rw [Heap.get?_update_other _ _ q]; exact e⟩

theorem runs_dead {M : Model} {Γ : Ctx} {p : Pos} {t : Sem PySem.Fin} {fs : List Frame} {s s' : Shared} {e : End} (h : Runs M Γ p t fs s e s') : Dead s.heap s'.heap := by
  induction h with
  | done | raise | yield => exact .refl
  | update ha _ ih => exact (Dead.update ha).trans ih
  | alloc _ ih => exact Dead.push.trans ih
  | call _ _ i1 i2 | segRet _ _ i1 i2 | segGen _ _ i1 i2 => exact i1.trans i2
  | resumeFresh _ _ _ _ i1 i2 | resumeSuspended _ _ _ _ i1 i2 => exact i1.trans i2
  | segSuspGen _ _ _ _ i1 i2 => exact i1.trans i2
  | _ => assumption
theorem wakes_dead {M : Model} {Γ : Ctx} {p : Pos} {g : Nat} {r : Resume} {s s' : Shared} {res : GenResult} (h : Wakes M Γ p g r s res s') : Dead s.heap s'.heap := by
  unfold Wakes at h
  split at h
  · exact h.elim
  · split at h
    · refine ob9 h ?_
      clear h
      intro e₁ s₁ hr _ _ ee1
      subst ee1
      exact (runs_dead hr : Dead (s.setGen g .running).heap s₁.heap)
    · rw [h.2]; exact .refl
    · rw [h.2]; exact .refl
  · refine ob9 h ?_
    clear h
    intro e₁ s₁ hr _ _ ee2
    subst ee2
    exact (runs_dead hr : Dead (s.setGen g .running).heap s₁.heap)
  · rw [h.2]; exact .refl
  · rw [h.2]; exact .refl

theorem wp_dead {α : Type} (M : Model) (Γ : Ctx) (h₀ : Heap) (t : Sem α) : ∀ (Q : α → Pos → Shared → Prop) (E : Value → Pos → Shared → Prop) (p : Pos) (s : Shared), Dead h₀ s.heap → Sem.wp M Γ t Q E p s →
    Sem.wp M Γ t (fun a p' s' => Dead h₀ s'.heap ∧ Q a p' s') (fun e p' s' => Dead h₀ s'.heap ∧ E e p' s') p s := by
  induction t with
  | pure a => intro Q E p s hn h; exact ⟨hn, h⟩
  | raise e => intro Q E p s hn h; exact ⟨hn, h⟩
  | unsupported _ => intro Q E p s _ h; exact h
  | finish _ => intro Q E p s _ h; exact h
  | rule _ k ih => intro Q E p s hn h; exact ih () Q E p s hn h
  | «at» p' k ih => intro Q E p s hn h; exact ih () Q E p' s hn h
  | load a _ k ih => intro Q E p s hn h; obtain ⟨o, ho, h⟩ := h; exact ⟨o, ho, ih o Q E p s hn h⟩
  | update a _ f k ih => intro Q E p s hn h; exact ⟨h.1, ih () Q E p _ (hn.trans (Dead.update h.1)) h.2⟩
  | loadIfAlive a k ih => intro Q E p s hn h; exact ih _ Q E p s hn h
  | point _ k ih => intro Q E p s hn h; exact ih () Q E p s hn h
  | register _ _ => intro Q E p s _ h; exact h
  | alloc o k ih => intro Q E p s hn h; exact ih _ Q E p _ (hn.trans Dead.push) h
  | fresh k ih => intro Q E p s hn h; exact ih _ Q E p _ hn h
  | ask k ih => intro Q E p s hn h; exact ih _ Q E p s hn h
  | choose src m k ih => intro Q E p s hn h; exact ⟨h.1, ih _ Q E p _ hn h.2⟩
  | os q _ k ih => intro Q E p s hn h; exact ih _ Q E p _ hn h
  | call c hd _ _ k ih => intro Q E p s hn h; obtain ⟨r, s', hr, h⟩ := h; exact ⟨r, s', hr, ih r Q E p s' (hn.trans (runs_dead hr)) h⟩
  | handled own k ih => intro Q E p s hn h; exact ih _ Q E p s hn h
  | genState g k ih => intro Q E p s hn h; obtain ⟨st, hs, h⟩ := h; exact ⟨st, hs, ih _ Q E p s hn h⟩
  | newGen c k ih => intro Q E p s hn h; exact ih _ Q E p _ hn h
  | resume g r _ k ih => intro Q E p s hn h; obtain ⟨res, s', hw, h⟩ := h; exact ⟨res, s', hw, ih res Q E p s' (hn.trans (wakes_dead hw)) h⟩
  | yield _ _ _ _ => intro Q E p s _ h; exact h
  | stack k ih => intro Q E p s hn h; exact ih _ Q E p s hn h
  | fork _ _ => intro Q E p s _ h; exact h
  | thread k ih => intro Q E p s hn h; exact ih _ Q E p s hn h
  | await _ _ _ _ _ => intro Q E p s _ h; exact h

theorem wpAny_dead {α : Type} {M : Model} {A : Around} {s : Shared} {t : Sem α} {Q : α → Shared → Prop} {E : Value → Shared → Prop}
    (h : wpAny M A t (fun a s' => Dead s.heap s'.heap → Q a s') (fun e s' => Dead s.heap s'.heap → E e s') s) : wpAny M A t Q E s :=
  fun Γ p hΓ => Sem.wp_mono M Γ t (fun _ _ _ x => x.2 x.1) (fun _ _ _ x => x.2 x.1) p s (wp_dead M Γ _ t _ _ p s .refl (h Γ p hΓ))
/-- the heap never shrinks -/
theorem wpAny_size {α : Type} {M : Model} {A : Around} {s : Shared} {t : Sem α} {Q : α → Shared → Prop} {E : Value → Shared → Prop}
    (h : wpAny M A t (fun a s' => s.heap.objs.size ≤ s'.heap.objs.size → Q a s') (fun e s' => s.heap.objs.size ≤ s'.heap.objs.size → E e s') s) : wpAny M A t Q E s :=
  wpAny_dead (wpAny_mono h (fun _ _ x d => x d.size) fun _ _ x d => x d.size)
end Mine.Internal
end

section
namespace Mine.Internal
open PySem PySem.W PySem.Calls PyProof.Rows

theorem Rel.none_of_ge {C : Cx} {σ : Store} {h : Heap} (r : Rel C σ h) {a : Addr} (ha : h.objs.size ≤ a) : σ a = none := by
  cases q : σ a with
  | none => rfl
  | some o =>
    refine ob5 ((r.tr a o q).there) ?_
    intro ob ho _
    exact absurd (Heap.lt_size ho) (Nat.not_lt.mpr ha)
theorem base_none_of_ge {C : Cx} {σ : Store} {h : Heap} (r : Rel C σ h) {a : Addr} (ha : h.objs.size ≤ a) : C.base.get? a = none := by
  cases q : C.base.get? a with
  | none => rfl
  | some o => exact absurd (Heap.lt_size (r.stays a o q)) (Nat.not_lt.mpr ha)

theorem upd_same {σ : Store} {a : Addr} {o : AO} : (σ.upd a o) a = some o := if_pos rfl
theorem upd_ne {σ : Store} {a b : Addr} {o : AO} (h : b ≠ a) : (σ.upd a o) b = σ b := if_neg h

/-- the heap only grew, and holds a new object at a -/
theorem Step.grow {C : Cx} {σ : Store} {s : Shared} {h' : Heap} {t : Nat} (r : Rel C σ s.heap) (k : ∀ b ob, s.heap.get? b = some ob → h'.get? b = some ob) (hs : s.heap.objs.size ≤ h'.objs.size) :
    Step C No σ s σ { s with heap := h', toks := t } :=
  ⟨.grow k hs, r.frame (fun a o q => by obtain ⟨ob, ho, _⟩ := (r.tr a o q).there; rw [ho, k _ _ ho]) (fun a o e _ => k a o e) (fun a o e => k a o (r.stays a o e)) hs, fun _ x => x, fun _ x => .inl x, rfl, rfl, rfl⟩
theorem Step.alloc {C : Cx} {σ : Store} {s : Shared} {h' : Heap} {t : Nat} {a : Addr} {o : AO} (r : Rel C σ s.heap) (k : ∀ b ob, s.heap.get? b = some ob → h'.get? b = some ob) (hs : s.heap.objs.size ≤ h'.objs.size)
    (ha : s.heap.objs.size ≤ a) (hO : OR C.cls C.prog C.w h' a o) : Step C No σ s (σ.upd a o) { s with heap := h', toks := t } := by
  refine ⟨.grow k hs, ⟨fun b ob e => k b ob (r.stays b ob e), fun b ob q => ?_, fun b ob q => ?_, Nat.le_trans r.size hs⟩, fun b n => ?_, fun b n => ?_, rfl, rfl, rfl⟩
  · by_cases e : b = a
    · subst e; rw [upd_same] at q; cases q; exact hO
    · rw [upd_ne e] at q
      refine ob5 ((r.tr b ob q).there) ?_
      intro ob' ho _
      exact (r.tr b ob q).keep (by rw [ho, k _ _ ho]) fun a o e _ => k a o e
  · by_cases e : b = a
    · subst e; exact .inl (Nat.le_trans r.size ha)
    · rw [upd_ne e] at q; exact r.new b ob q
  · by_cases e : b = a
    · subst e; rw [upd_same]; simp
    · rw [upd_ne e]; exact n
  · by_cases e : b = a
    · subst e; exact .inr ha
    · rw [upd_ne e] at n; exact .inl n
/-- an object that the store has is turned -/
theorem Step.turn {C : Cx} {σ : Store} {s : Shared} {h' : Heap} {t : Nat} {a : Addr} {o₀ o : AO} (r : Rel C σ s.heap) (h₀ : σ a = some o₀) (hf : ∀ vs, o₀ ≠ .fixed vs) (hs : Heap.SameBut a s.heap h') (hO : TupKeep s.heap h' → OR C.cls C.prog C.w h' a o) :
    Step C No σ s (σ.upd a o) { s with heap := h', toks := t } := by
  refine ob10 ((r.tr a o₀ h₀).there) ?_
  intro ob₀ hob hnt _
  have k : TupKeep s.heap h' := fun b ob e tc => (hs.2 b fun q => by subst q; rw [hob] at e; cases e; exact hnt tc).trans e
  have hbs : C.base.objs.size ≤ a := (r.new a o₀ h₀).elim id fun ⟨vs, e⟩ => absurd e (hf vs)
  have hb : C.base.get? a = none := by
    cases q : C.base.get? a with
    | none => rfl
    | some o => exact absurd (Heap.lt_size q) (Nat.not_lt.mpr hbs)
  refine ⟨⟨Nat.le_of_eq hs.1.symm, fun b ob e n => .inl ((hs.2 b fun q => n (.inl (by rw [q, h₀]; simp))).trans e), k⟩, ⟨fun b ob e => (hs.2 b fun q => by rw [q, hb] at e; cases e).trans (r.stays b ob e), fun b ob q => ?_, fun b ob q => ?_, Nat.le_trans r.size (Nat.le_of_eq hs.1.symm)⟩,
    fun b n => ?_, fun b n => ?_, rfl, rfl, rfl⟩
  · by_cases e : b = a
    · subst e; rw [upd_same] at q; cases q; exact hO k
    · rw [upd_ne e] at q; exact (r.tr b ob q).keep (hs.2 b e) k
  · by_cases e : b = a
    · subst e; exact .inl hbs
    · rw [upd_ne e] at q; exact r.new b ob q
  · by_cases e : b = a
    · subst e; rw [upd_same]; simp
    · rw [upd_ne e]; exact n
  · by_cases e : b = a
    · subst e; exact .inl (by rw [h₀]; simp)
    · rw [upd_ne e] at n; exact .inl n

theorem szLine {n : Nat} (h : n ≤ szLim) : n ≤ sizeLine := Nat.le_trans h (by decide)

theorem onList_elim {σ : Store} {v : V} {K : Addr → List V → Prop} (h : onList σ v K) : ∃ a vs, v = .ref a ∧ σ a = some (.list vs) ∧ K a vs := by
  unfold onList at h
  split at h
  · split at h
    · rename_i a _ vs e; exact ⟨a, vs, rfl, e, h⟩
    · exact h.elim
  · exact h.elim
theorem onSome_elim {α : Type} {o : Option α} {K : α → Prop} (h : onSome o K) : ∃ a, o = some a ∧ K a := by
  cases o with
  | none => exact h.elim
  | some a => exact ⟨a, rfl, h⟩
theorem onInt_elim {v : V} {K : Int → Prop} (h : onInt v K) : ∃ i, v = .int i ∧ K i := by
  cases v <;> first | exact h.elim | exact ⟨_, rfl, h⟩
theorem onInst_elim {σ : Store} {v : V} {K : String → Addr → List (String × V) → Prop} (h : onInst σ v K) : ∃ a c d fs, v = .ref a ∧ σ a = some (.inst c d) ∧ σ d = some (.ns fs) ∧ K c d fs := by
  unfold onInst at h
  split at h
  · split at h
    · split at h
      · rename_i a _ c d e _ fs e'; exact ⟨a, c, d, fs, rfl, e, e', h⟩
      · exact h.elim
    · exact h.elim
  · exact h.elim
theorem VR.int_of {h : Heap} {i : Int} {x : Value} (v : VR h (.int i) x) : ∃ t, x = .int i t := by cases v; exact ⟨_, rfl⟩
theorem VR.bool_of {h : Heap} {b : Bool} {x : Value} (v : VR h (.bool b) x) : x = .bool b := by cases v; rfl
theorem VR.none_of {h : Heap} {x : Value} (v : VR h .none x) : x = .none := by cases v; rfl
theorem VR.str_of {h : Heap} {s : Str} {x : Value} (v : VR h (.str s) x) : ∃ t, x = .str s t := by cases v; exact ⟨_, rfl⟩
theorem VR.ref_of {h : Heap} {a : Addr} {x : Value} (v : VR h (.ref a) x) : x = .ref a := by cases v; rfl
theorem VR.tup_of {h : Heap} {vs : List V} {x : Value} (v : VR h (.tup vs) x) : ∃ a xs n, x = .ref a ∧ h.get? a = some (seqObj "tuple" xs.toArray n) ∧ VRs h vs xs := by
  cases v with | tup e r => exact ⟨_, _, _, rfl, e, r⟩
theorem Rel.list {C : Cx} {σ : Store} {h : Heap} (r : Rel C σ h) {a : Addr} {vs : List V} (e : σ a = some (.list vs)) : ∃ xs n, IsL h a xs.toArray n ∧ VRs h vs xs ∧ vs.length ≤ szLim := r.tr a _ e

/-- the room that a call has -/
structure Room (C : Cx) (md : Bool) (A : Around) : Prop where
  handled : md = true → A.handled = none
  depth : A.depth + 3 < 990
  units : A.units + 80 < 9000

section
variable {C : Cx} {A : Around} {E : Value → Shared → Prop} {σ : Store} {s : Shared} {Q : V → Store → Prop}

theorem PostV.now {v : V} {x : Value} (r : Rel C σ s.heap) (q : Q v σ) (h : VR s.heap v x) : PostV C σ s Q x s := ⟨v, σ, q, h, .refl r⟩
theorem PostV.tok {v : V} {x : Value} {t : Nat} (r : Rel C σ s.heap) (q : Q v σ) (h : VR s.heap v x) : PostV C σ s Q x { s with toks := t } := ⟨v, σ, q, h, .toks r t⟩

/-- a new list -/
theorem new_list {xs : List Value} {vs : List V} {h' : Heap} {t n : Nat} {a : Addr} (r : Rel C σ s.heap) (q : Mine.Internal.alloc σ (.list vs) Q) (k : ∀ b ob, s.heap.get? b = some ob → h'.get? b = some ob) (hs : s.heap.objs.size ≤ h'.objs.size)
    (ha : s.heap.objs.size ≤ a) (hO : h'.get? a = some (seqObj "list" xs.toArray n)) (hv : VRs s.heap vs xs) (hl : vs.length ≤ szLim) : PostV C σ s Q (.ref a) { s with heap := h', toks := t } :=
  ⟨.ref a, σ.upd a (.list vs), q a (r.none_of_ge ha), .ref, .alloc r k hs ha ⟨xs, n, hO, hv.keep fun b o e _ => k b o e, hl⟩⟩

theorem push_keeps {h : Heap} {o : Obj} : ∀ b ob, h.get? b = some ob → (h.push o).get? b = some ob := fun _ _ e => Heap.get?_push_of_some _ e
theorem push_size {h : Heap} {o : Obj} : h.objs.size ≤ (h.push o).objs.size := by rw [Heap.size_push]; exact Nat.le_succ _

theorem bits_small {a : Int} (h : a.natAbs < 2 ^ 32) : Builtin.Int.intBits a ≤ 64 := by
  unfold Builtin.Int.intBits
  split
  · exact Nat.zero_le _
  · rename_i q
    have h0 : a.natAbs ≠ 0 := fun z => q (by rw [Int.natAbs_eq_zero.mp z]; rfl)
    have := (Nat.log2_lt h0).mpr h
    omega

/-- two ints -/
theorem ii_ok {h : Heap} {u v : V} {x y : Value} {K : Int → Int → Prop} {W : Value → Value → Prop} (hu : VR h u x) (hv : VR h v y) (q : onII u v K) (g : ∀ a b t t', K a b → W (.int a t) (.int b t')) : W x y := by
  cases hu <;> first | exact q.elim | skip
  cases hv <;> first | exact q.elim | skip
  exact g _ _ _ _ q
theorem bin_ok {op : Operator} {u v : V} {x y : Value} (r : Rel C σ s.heap) (hu : VR s.heap u x) (hv : VR s.heap v y) (h : binV op u v σ Q) :
    wpAny C.M A (binaryOp op x y) (PostV C σ s Q) E s := by
  cases op with
  | Add =>
    by_cases hr : ∃ a, u = .ref a
    · refine ob6 hr ?_
      clear hr
      intro a ee3
      subst ee3
      have h : onList σ (.ref a) fun _ us => onList σ v fun _ vs => us.length + vs.length ≤ szLim ∧ alloc σ (.list (us ++ vs)) Q := h
      refine ob3 (onList_elim h) ?_
      intro _ us e ha h
      cases e
      refine lift fun gg back => ?_
      refine ob9 (onList_elim h) ?_
      intro b vs ee4
      subst ee4
      intro hb hz h
      cases hu.ref_of
      cases hv.ref_of
      refine ob3 (r.list ha) ?_
      intro xs n hL hX _
      refine ob3 (r.list hb) ?_
      intro ys m hL' hY _
      refine back ?_
      clear back gg
      have e1 := hX.length
      have e2 := hY.length
      refine P.add_list hL hL' ?_ (by simp only [List.size_toArray]; exact szLine (by omega))
      refine new_list (xs := xs ++ ys) (n := 0) (t := s.toks) r h push_keeps push_size (Nat.le_refl _) ?_ (hX.append hY) (by simp; omega)
      rw [Heap.get?_push_size _ rfl]; simp
    · have h' : onII u v fun a b => Q (.int (a + b)) σ := by
        cases u <;> first | exact h | exact absurd ⟨_, rfl⟩ hr
      exact ii_ok (W := fun x y => wpAny C.M A (binaryOp .Add x y) (PostV C σ s Q) E s) hu hv h' fun a b t t' h => add_int (.tok r h .int)
  | Sub => exact ii_ok (W := fun x y => wpAny C.M A (binaryOp .Sub x y) (PostV C σ s Q) E s) hu hv h fun a b t t' h => sub_int' (.tok r h .int)
  | Mult => exact ii_ok (W := fun x y => wpAny C.M A (binaryOp .Mult x y) (PostV C σ s Q) E s) hu hv h fun a b t t' h => PyProof.Rows.mul_int (.tok r h.2 .int) (IntMulOk.of_left (bits_small h.1.1))
  | FloorDiv => exact ii_ok (W := fun x y => wpAny C.M A (binaryOp .FloorDiv x y) (PostV C σ s Q) E s) hu hv h fun a b t t' h => PyProof.Rows.floordiv_int (Int.ne_of_gt h.1.1) (.tok r h.2 .int) (.inl (PyProof.noPylong_small (by omega)))
  | Mod => exact ii_ok (W := fun x y => wpAny C.M A (binaryOp .Mod x y) (PostV C σ s Q) E s) hu hv h fun a b t t' h => PyProof.Rows.mod_int' (Int.ne_of_gt h.1) (.tok r h.2 .int)
  | Pow =>
    refine ii_ok (W := fun x y => wpAny C.M A (binaryOp .Pow x y) (PostV C σ s Q) E s) hu hv h fun a b t t' h => ?_
    refine ob11 h ?_
    clear h
    intro ee5
    subst ee5
    intro ee6
    subst ee6
    intro h
    exact PyProof.Rows.pow_int (by decide) (by decide +kernel) (.tok r h .int)
  | _ => exact h.elim

theorem IsTup_of {h : Heap} {a : Addr} {xs : List Value} {n : Nat} (e : h.get? a = some (seqObj "tuple" xs.toArray n)) : h.IsTuple a xs.toArray := ⟨_, e, rfl, n, rfl⟩
theorem isList_of {a : Addr} {vs : List V} (r : Rel C σ s.heap) (e : σ a = some (.list vs)) : ∃ xs, s.heap.IsList a xs.toArray ∧ VRs s.heap vs xs := let ⟨xs, _, h1, h2, _⟩ := r.list e; ⟨xs, h1.isList, h2⟩

theorem eqList_get {f : V → V → Option Bool} : ∀ {us vs : List V} {b : Bool}, eqList f us vs = some b →
    (∀ j (h1 : j < us.length) (h2 : j < vs.length), ∃ c, f us[j] vs[j] = some c) ∧ b = ((List.range (min us.length vs.length)).all (fun j => ((f (us.getD j .none) (vs.getD j .none)).getD false)) && us.length == vs.length)
  | [], [], b, e => by simp [eqList] at e; subst e; simp
  | u :: us, v :: vs, b, e => by
    simp only [eqList] at e
    split at e
    · rename_i a c e1 e2
      cases e
      refine ob8 (eqList_get e2) ?_
      intro h1 h2
      refine ⟨fun j j1 j2 => ?_, ?_⟩
      · cases j with
        | zero => exact ⟨a, e1⟩
        | succ j => exact h1 j (by simpa using j1) (by simpa using j2)
      · rw [List.length_cons, List.length_cons, Nat.succ_min_succ, List.range_succ_eq_map, List.all_cons, List.all_map]
        simp only [List.getD_cons_zero, e1, Option.getD_some, h2, Bool.and_assoc]
        simp [Function.comp_def]
    · cases e
  | [], _ :: _, b, e => by simp [eqList] at e; subst e; simp
  | _ :: _, [], b, e => by simp [eqList] at e; subst e; simp

theorem VRs.at {h : Heap} {v : List V} {x : List Value} (r : VRs h v x) (j : Nat) (h1 : j < v.length) (h2 : j < x.length) : VR h v[j] x[j] := by
  refine ob5 (r.get (List.getElem?_eq_getElem h1)) ?_
  intro b e q
  rw [List.getElem?_eq_getElem h2] at e
  cases e; exact q

theorem list_no_tup {a : Addr} {vs : List V} {xs : List Value} {n : Nat} (r : Rel C σ s.heap) (e : σ a = some (.list vs)) (q : s.heap.get? a = some (seqObj "tuple" xs.toArray n)) : False := by
  refine ob12 (r.list e) ?_
  intro ys m h1 _
  have h1 := q.symm.trans h1
  injection h1 with h1
  have := congrArg Obj.cls h1
  injection this with this
  exact absurd this (by decide)

inductive EqB : V → V → Bool → Prop
  | none : EqB .none .none true
  | bb {a b} : EqB (.bool a) (.bool b) (a == b)
  | ii {a b} : EqB (.int a) (.int b) (a == b)
  | ss {a b} : EqB (.str a) (.str b) (a == b)
inductive EqC (σ : Store) : Nat → V → V → Bool → Prop
  | b {n u v b} : EqB u v b → EqC σ n u v b
  | tt {n us vs b} : eqList (eqv σ n) us vs = some b → EqC σ (n + 1) (.tup us) (.tup vs) b
  | rr {n a b us vs c} : σ a = some (.list us) → σ b = some (.list vs) → us.length = vs.length → eqList (eqv σ n) us vs = some c → EqC σ (n + 1) (.ref a) (.ref b) c
  | rl {n a b us vs} : σ a = some (.list us) → σ b = some (.list vs) → us.length ≠ vs.length → EqC σ (n + 1) (.ref a) (.ref b) false

theorem some_ne {α : Type} {a : α} {G : Prop} (h : none = some a) : G := by cases h
theorem eqB_of {u v : V} {b : Bool} (e : eqB u v = some b) : EqB u v b := by
  cases u with
  | none => cases v with
    | none => cases e; exact .none
    | _ => exact some_ne e
  | bool a => cases v with
    | bool b => cases e; exact .bb
    | _ => exact some_ne e
  | int a => cases v with
    | int b => cases e; exact .ii
    | _ => exact some_ne e
  | str a => cases v with
    | str b => cases e; exact .ss
    | _ => exact some_ne e
  | _ => exact some_ne e
theorem asL_of {o : Option AO} {us : List V} (e : asL o = some us) : o = some (.list us) := by
  cases o with
  | none => exact some_ne e
  | some o => cases o with
    | list vs => cases e; rfl
    | _ => exact some_ne e
theorem eqC_of {n : Nat} {u v : V} {b : Bool} (e : eqv σ n u v = some b) : EqC σ n u v b := by
  cases n with
  | zero => exact .b (eqB_of e)
  | succ n => cases u with
    | tup us => cases v with
      | tup vs => exact .tt e
      | _ => exact some_ne e
    | ref a => cases v with
      | ref c =>
        refine ob5 (Option.bind_eq_some_iff.mp e) ?_
        intro us h1 e
        refine ob5 (Option.bind_eq_some_iff.mp e) ?_
        intro vs h2 e
        by_cases hl : us.length = vs.length
        · rw [if_pos hl] at e; exact .rr (asL_of h1) (asL_of h2) hl e
        · rw [if_neg hl] at e; cases e; exact .rl (asL_of h1) (asL_of h2) hl
      | _ => exact some_ne e
    | _ => exact .b (eqB_of e)

theorem tup_same {h : Heap} {a : Addr} {xs ys : List Value} {n m : Nat} (q1 : h.get? a = some (seqObj "tuple" xs.toArray n)) (q2 : h.get? a = some (seqObj "tuple" ys.toArray m)) : xs = ys := by
  rw [q1] at q2
  injection q2 with q2
  have := congrArg Obj.data q2
  injection this with this _
  exact congrArg Array.toList this

theorem getD_at {us : List V} {j : Nat} (h : j < us.length) : us.getD j .none = us[j] := by simp [h]

/-- one value of the heap under two readings: equal -/
theorem eqB_same {h : Heap} {u v : V} {x : Value} {b : Bool} (hu : VR h u x) (hv : VR h v x) (e : EqB u v b) : b = true := by
  cases e with
  | none => rfl
  | bb => cases hu; cases hv; exact beq_self_eq_true _
  | ii => cases hu; cases hv; exact beq_self_eq_true _
  | ss => cases hu; cases hv; exact beq_self_eq_true _
theorem eqv_same (r : Rel C σ s.heap) : ∀ (n : Nat) {u v : V} {x : Value} {b : Bool}, VR s.heap u x → VR s.heap v x → eqv σ n u v = some b → b = true := by
  intro n
  induction n with
  | zero =>
    intro u v x b hu hv e
    exact eqB_same hu hv (eqB_of e)
  | succ n ih =>
    have lists : ∀ {us vs : List V} {xs : List Value} {b : Bool}, VRs s.heap us xs → VRs s.heap vs xs → eqList (eqv σ n) us vs = some b → b = true := by
      intro us vs xs b hu hv e
      have hl : us.length = vs.length := hu.length.trans hv.length.symm
      refine ob8 (eqList_get e) ?_
      intro h1 h2
      rw [h2, hl, beq_self_eq_true, Bool.and_true, Nat.min_self, List.all_eq_true]
      intro j hj
      have hj1 : j < us.length := hl ▸ List.mem_range.mp hj
      have hj2 : j < vs.length := hl ▸ hj1
      have hj3 : j < xs.length := hu.length ▸ hj1
      refine ob6 (h1 j hj1 hj2) ?_
      intro c hc
      rw [getD_at hj1, getD_at hj2, hc, ih (hu.at j hj1 hj3) (hv.at j hj2 hj3) hc]; rfl
    intro u v x b hu hv e
    cases eqC_of e with
    | b e => exact eqB_same hu hv e
    | tt e' => cases hu with | tup q1 r1 => cases hv with | tup q2 r2 => cases tup_same q1 q2; exact lists r1 r2 e'
    | rr e1 e2 _ e' =>
      cases hu; cases hv
      rw [e1] at e2; cases e2
      refine ob3 (r.list e1) ?_
      intro xs n _ hX _
      exact lists hX hX e'
    | rl e1 e2 hl =>
      cases hu; cases hv
      rw [e1] at e2; cases e2
      exact absurd rfl hl

theorem VR.same_kind (r : Rel C σ s.heap) {u u' v : V} {x : Value} {n : Nat} {b b' : Bool} (hu : VR s.heap u x) (hu' : VR s.heap u' x) (e : EqC σ n u v b) (e' : EqC σ n u' v b') : u = u' ∨ ∃ us us' xs, u = .tup us ∧ u' = .tup us' ∧ VRs s.heap us xs ∧ VRs s.heap us' xs := by
  cases hu with
  | tup q1 r1 => cases hu' with
    | tup q2 r2 => cases tup_same q1 q2; exact .inr ⟨_, _, _, rfl, rfl, r1, r2⟩
    | ref => cases e' with
      | b e => cases e
      | rr h => exact (list_no_tup r h q1).elim
      | rl h => exact (list_no_tup r h q1).elim
  | ref => cases hu' with
    | ref => exact .inl rfl
    | tup q2 _ => cases e with
      | b e => cases e
      | rr h => exact (list_no_tup r h q2).elim
      | rl h => exact (list_no_tup r h q2).elim
  | _ => cases hu'; exact .inl rfl
theorem eqv_det (r : Rel C σ s.heap) : ∀ (n : Nat) {u u' v : V} {x : Value} {b b' : Bool}, VR s.heap u x → VR s.heap u' x → eqv σ n u v = some b → eqv σ n u' v = some b' → b = b' := by
  intro n
  induction n with
  | zero =>
    intro u u' v x b b' hu hu' e e'
    rcases VR.same_kind r hu hu' (eqC_of e) (eqC_of e') with rfl | ⟨us, us', xs, rfl, rfl, _, _⟩
    · rw [e] at e'; exact Option.some.inj e'
    · exact some_ne e
  | succ n ih =>
    intro u u' v x b b' hu hu' e e'
    rcases VR.same_kind r hu hu' (eqC_of e) (eqC_of e') with rfl | ⟨us, us', xs, rfl, rfl, r1, r2⟩
    · rw [e] at e'; exact Option.some.inj e'
    · cases v with
      | tup ws =>
        refine ob8 (eqList_get (show eqList (eqv σ n) us ws = some b from e)) ?_
        intro h1 h2
        refine ob8 (eqList_get (show eqList (eqv σ n) us' ws = some b' from e')) ?_
        intro h1' h2'
        have hlen : us.length = us'.length := r1.length.trans r2.length.symm
        rw [h2, h2', hlen]
        have : ∀ j ∈ List.range (min us'.length ws.length), ((eqv σ n (us.getD j .none) (ws.getD j .none)).getD false) = ((eqv σ n (us'.getD j .none) (ws.getD j .none)).getD false) := fun j hj => by
          have hjm := List.mem_range.mp hj
          have hj1 : j < us'.length := Nat.lt_of_lt_of_le hjm (Nat.min_le_left ..)
          have hj0 : j < us.length := hlen ▸ hj1
          have hj2 : j < ws.length := Nat.lt_of_lt_of_le hjm (Nat.min_le_right ..)
          have hj3 := r1.length ▸ hj0
          refine ob6 (h1 j hj0 hj2) ?_
          intro c hc
          refine ob6 (h1' j hj1 hj2) ?_
          intro c' hc'
          rw [getD_at hj0, getD_at hj1, getD_at hj2, hc, hc', ih (r1.at j hj0 hj3) (r2.at j hj1 hj3) hc hc']
        congr 1
        rw [Bool.eq_iff_iff, List.all_eq_true, List.all_eq_true]
        exact ⟨fun q j hj => by rw [← this j hj]; exact q j hj, fun q j hj => by rw [this j hj]; exact q j hj⟩
      | _ => exact some_ne e

open PySem.SeqAt in
theorem eqAt_refs {A : Around} {s : Shared} {l b : Addr} {k : Bool} (hs : l = b → k = true) (h : RcAt A s (.ref l) (.ref b) k) : EqAt A s (.ref l) (.ref b) k := by
  by_cases q : l = b
  · subst q; rw [hs rfl]; exact .same _
  · exact .of_refs q h

open PySem.SeqAt in
theorem eqB_ok {A : Around} {u v : V} {x y : Value} {b : Bool} (hu : VR s.heap u x) (hv : VR s.heap v y) (e : EqB u v b) : EqAt A s x y b ∧ RcAt A s x y b ∧ RcNeAt A s x y (!b) := by
  cases e with
  | none => cases hu; cases hv; exact ⟨.same _, .none_none, .none_none⟩
  | bb => cases hu; cases hv; exact ⟨.bool_bool _ _, .bool_bool _ _, .bool_bool _ _⟩
  | ii => cases hu; cases hv; exact ⟨.int_int _ _ _ _, .int_int _ _ _ _, .int_int _ _ _ _⟩
  | ss => cases hu; cases hv; exact ⟨.str_str _ _ _ _, .str_str _ _ _ _, .str_str _ _ _ _⟩
open PySem.SeqAt in
theorem eqv_ok : ∀ (n : Nat) {A : Around} {u v : V} {x y : Value} {b : Bool}, Rel C σ s.heap → A.units + n < cLine → VR s.heap u x → VR s.heap v y → eqv σ n u v = some b → EqAt A s x y b ∧ RcAt A s x y b ∧ RcNeAt A s x y (!b) := by
  intro n
  induction n with
  | zero =>
    intro A u v x y b r hA hu hv e
    exact eqB_ok hu hv (eqB_of e)
  | succ n ih =>
    intro A u v x y b r hA hu hv e
    have e0 := e
    have hA1 : A.in1.units + n < cLine := by rw [Around.in1_units]; omega
    have hA0 : A.units < cLine := by omega
    clear hA
    have els : ∀ {us vs : List V} {xs ys : List Value} {b : Bool}, VRs s.heap us xs → VRs s.heap vs ys → eqList (eqv σ n) us vs = some b →
        (∀ j (h1 : j < xs.toArray.size) (h2 : j < ys.toArray.size), EqAt A.in1 s xs.toArray[j] ys.toArray[j] ((eqv σ n (us.getD j .none) (vs.getD j .none)).getD false)) ∧ b = ((List.range (min xs.toArray.size ys.toArray.size)).all (fun j => ((eqv σ n (us.getD j .none) (vs.getD j .none)).getD false)) && xs.toArray.size == ys.toArray.size) := by
      intro us vs xs ys b hX hY e
      refine ob8 (eqList_get e) ?_
      intro h1 h2
      have lx := hX.length; have ly := hY.length
      refine ⟨fun j j1 j2 => ?_, by rw [h2, List.size_toArray, List.size_toArray, lx, ly]⟩
      rw [List.size_toArray] at j1 j2
      refine ob6 (h1 j (lx ▸ j1) (ly ▸ j2)) ?_
      intro c hc
      rw [getD_at (lx ▸ j1), getD_at (ly ▸ j2), hc]
      exact (ih (A := A.in1) r hA1 (hX.at j (lx ▸ j1) j1) (hY.at j (ly ▸ j2) j2) hc).1
    cases eqC_of e with
    | b e => exact eqB_ok hu hv e
    | rr h1 h2 hl e' =>
      have hs : x = y → b = true := fun q => eqv_same r _ hu (q ▸ hv) e0
      cases hu; cases hv
      refine lift fun gg back => ?_
      refine ob5 (isList_of r h1) ?_
      intro xs hx hX
      refine ob5 (isList_of r h2) ?_
      intro ys hy hY
      refine ob8 (els hX hY e') ?_
      intro k1 k2
      refine back ?_
      clear back gg
      have hsz : xs.toArray.size = ys.toArray.size := by rw [List.size_toArray, List.size_toArray, ← hX.length, ← hY.length, hl]
      have R1 := RcAt.lists (A := A) hx hy hsz hA0 k1
      have R2 := RcNeAt.lists (A := A) hx hy hsz hA0 k1
      rw [← hsz, Nat.min_self, beq_self_eq_true, Bool.and_true] at k2
      rw [← k2] at R1 R2
      exact ⟨eqAt_refs (fun q => hs (by rw [q])) R1, R1, R2⟩
    | rl h1 h2 hl =>
      have hs : x = y → false = true := fun q => eqv_same r _ hu (q ▸ hv) e0
      cases hu; cases hv
      refine ob5 (isList_of r h1) ?_
      intro xs hx hX
      refine ob5 (isList_of r h2) ?_
      intro ys hy hY
      have hsz : (xs.toArray.size != ys.toArray.size) = true := by rw [List.size_toArray, List.size_toArray, ← hX.length, ← hY.length]; exact bne_iff_ne.mpr hl
      have R1 := RcAt.lists_lengths (A := A) hx hy hsz hA0
      exact ⟨eqAt_refs (fun q => hs (by rw [q])) R1, R1, RcNeAt.lists_lengths (A := A) hx hy hsz hA0⟩
    | tt e' =>
      have hs : x = y → b = true := fun q => eqv_same r _ hu (q ▸ hv) e0
      cases hu with | tup q1 hX => cases hv with | tup q2 hY =>
      refine ob8 (els hX hY e') ?_
      intro k1 k2
      have R1 := RcAt.tuples (A := A) (IsTup_of q1) (IsTup_of q2) hA0 k1
      have R2 := RcNeAt.tuples (A := A) (IsTup_of q1) (IsTup_of q2) hA0 k1
      rw [← k2] at R1 R2
      exact ⟨eqAt_refs (fun q => hs (by rw [q])) R1, R1, R2⟩

theorem memV_get {x : V} : ∀ {ys : List V} {b : Bool}, memV σ x ys = some b → (∀ y ∈ ys, ∃ c, eqv σ fuel y x = some c) ∧ (b = true ↔ ∃ y ∈ ys, eqv σ fuel y x = some true)
  | [], b, e => by simp [memV] at e; subst e; simp
  | y :: ys, b, e => by
    simp only [memV] at e
    split at e
    · rename_i a c e1 e2
      cases e
      refine ob8 (memV_get e2) ?_
      intro h1 h2
      refine ⟨fun z hz => ?_, ?_⟩
      · rcases List.mem_cons.mp hz with rfl | hz
        · exact ⟨a, e1⟩
        · exact h1 z hz
      · rw [Bool.or_eq_true, h2]
        constructor
        · rintro (rfl | ⟨z, hz, q⟩)
          · exact ⟨y, List.mem_cons_self, e1⟩
          · exact ⟨z, List.mem_cons_of_mem _ hz, q⟩
        · intro zz1
          refine ob5 zz1 ?_
          clear zz1
          intro z hz q
          rcases List.mem_cons.mp hz with rfl | hz
          · rw [e1] at q; exact .inl (Option.some.inj q)
          · exact .inr ⟨z, hz, q⟩
    · cases e

theorem VRs.mem {h : Heap} : ∀ {v : List V} {x : List Value}, VRs h v x → ∀ y ∈ x, ∃ u ∈ v, VR h u y
  | _, _, .nil, y, hy => by cases hy
  | _, _, .cons a r, y, hy => by
    rcases List.mem_cons.mp hy with rfl | hy
    · exact ⟨_, List.mem_cons_self, a⟩
    · refine ob5 (r.mem y hy) ?_
      intro u h1 h2
      exact ⟨u, List.mem_cons_of_mem _ h1, h2⟩
theorem VRs.mem' {h : Heap} : ∀ {v : List V} {x : List Value}, VRs h v x → ∀ u ∈ v, ∃ y ∈ x, VR h u y
  | _, _, .nil, y, hy => by cases hy
  | _, _, .cons a r, y, hy => by
    rcases List.mem_cons.mp hy with rfl | hy
    · exact ⟨_, List.mem_cons_self, a⟩
    · refine ob5 (r.mem' y hy) ?_
      intro u h1 h2
      exact ⟨u, List.mem_cons_of_mem _ h1, h2⟩

open PySem.SeqAt in
/-- the test that a membership makes of each item -/
theorem mem_test {x : V} {y : Value} {us : List V} {xs : List Value} {b : Bool} (r : Rel C σ s.heap) (hA : A.units + 8 < cLine) (hx : VR s.heap x y) (hX : VRs s.heap us xs) (e : memV σ x us = some b) :
    ∃ t : Value → Bool, (∀ z, z ∈ xs.toArray → EqAt A.in1 s z y (t z)) ∧ xs.toArray.any t = b := by
  classical
  refine ob8 (memV_get e) ?_
  intro h1 h2
  refine ⟨fun z => decide (∃ u ∈ us, VR s.heap u z ∧ eqv σ fuel u x = some true), fun z hz => ?_, ?_⟩
  · refine ob5 (hX.mem z (by simpa using hz)) ?_
    intro u hu hv
    refine ob6 (h1 u hu) ?_
    intro c hc
    have : decide (∃ u ∈ us, VR s.heap u z ∧ eqv σ fuel u x = some true) = c := by
      cases c with
      | true => exact decide_eq_true ⟨u, hu, hv, hc⟩
      | false =>
        refine decide_eq_false fun ⟨u', _, hv', hc'⟩ => ?_
        exact absurd (eqv_det r _ hv hv' hc hc') (by decide)
    dsimp only
    rw [this]
    exact (eqv_ok (A := A.in1) fuel r (by rw [Around.in1_units]; simp only [fuel]; omega) hv hx hc).1
  · rw [Bool.eq_iff_iff, h2, Array.any_eq_true']
    constructor
    · intro zz2
      refine ob5 zz2 ?_
      clear zz2
      intro z hz q
      refine ob10 (of_decide_eq_true q) ?_
      intro u hu _ q
      exact ⟨u, hu, q⟩
    · intro zz3
      refine ob5 zz3 ?_
      clear zz3
      intro u hu q
      refine ob5 (hX.mem' u hu) ?_
      intro z hz hv
      exact ⟨z, by simpa using hz, decide_eq_true ⟨u, hu, hv, q⟩⟩

theorem two_le_base (hl : C.base.NoLimit) : 2 < C.base.objs.size := by
  refine lift fun gg back => ?_
  obtain ⟨mc, h, _⟩ := hl
  refine back ?_
  clear back gg
  exact h.lt

theorem KR.ints {prog : Program} {w : World} {h : Heap} {a : Addr} {ks : List V} (x : KR prog w h a ks) (hk : ks.all isIntV = true) : ∃ ns : List Int, ks = ns.map V.int ∧ h.DictOf (intKind prog w) a (ns.map fun n => (n, Value.bool true)) := by
  rcases x with x | ⟨ps, rfl, o, es, ep, h1, h2, h3, h4, h5, h6⟩
  · exact x
  · cases ps with
    | nil =>
      refine ⟨[], rfl, o, es, ep, h1, h2, h3, fun e he => ?_, ?_, .nil⟩
      · have : es.toList = [] := h4
        rw [← Array.mem_toList_iff, this] at he; cases he
      · have : es.toList = [] := h4
        rw [this]; exact .nil
    | cons p r => simp [isIntV] at hk
theorem KR.pairs {prog : Program} {w : World} {h : Heap} {a : Addr} {ks : List V} (x : KR prog w h a ks) (hk : ks.all isPairV = true) :
    ∃ ps : List ((Int × Int) × Addr), ks = ps.map (fun p => V.tup [.int p.1.1, .int p.1.2]) ∧ h.DictOfH (tupleKind (intKind prog w)) a (ps.map fun p => ([p.1.1, p.1.2], p.2, Value.bool true)) := by
  rcases x with ⟨ns, rfl, o, es, ep, h1, h2, h3, h4, h5, h6⟩ | x
  · cases ns with
    | nil =>
      refine ⟨[], rfl, o, es, ep, h1, h2, h3, ?_, fun x hx => (by cases hx), .nil⟩
      have := h5.length
      simp only [List.map_nil, List.length_nil] at this
      rw [List.eq_nil_of_length_eq_zero this]; rfl
    | cons p r => simp [isPairV] at hk
  · exact x

theorem isInt_self (i : Int) (t : Tok) : Value.isInt i (.int i t) = true := by simp [Value.isInt]

theorem hasKey_ints (i : Int) (ns : List Int) : hasKey (.int i) (ns.map V.int) = ns.contains i := by
  induction ns with
  | nil => rfl
  | cons n r ih =>
    have ih' : (List.map V.int r).any (fun x => keyEq x (.int i)) = r.contains i := ih
    rw [hasKey, List.map_cons, List.any_cons, ih', List.contains_cons]
    show ((n == i) || _) = _
    rw [Bool.beq_comm]
theorem valueAt_ints (i : Int) (ns : List Int) : (valueAt (ns.map fun n => (n, Value.bool true)) i).isSome = ns.contains i := by
  induction ns with
  | nil => rfl
  | cons n r ih =>
    unfold valueAt at ih ⊢
    rw [List.map_cons, List.find?_cons, List.contains_cons]
    by_cases e : n = i
    · subst e; simp
    · simp only [e, decide_false, ih]
      have : (i == n) = false := by simp [Ne.symm e]
      rw [this, Bool.false_or]
theorem hasKey_pairs (i j : Int) (ps : List ((Int × Int) × Addr)) : hasKey (.tup [.int i, .int j]) (ps.map fun p => V.tup [.int p.1.1, .int p.1.2]) = (ps.map (·.1)).contains (i, j) := by
  induction ps with
  | nil => rfl
  | cons n r ih =>
    have ih' : (List.map (fun p : (Int × Int) × Addr => V.tup [.int p.1.1, .int p.1.2]) r).any (fun x => keyEq x (.tup [.int i, .int j])) = (r.map (·.1)).contains (i, j) := ih
    rw [hasKey, List.map_cons, List.any_cons, ih', List.map_cons, List.contains_cons]
    congr 1
    show (n.1.1 == i && n.1.2 == j) = _
    rw [Bool.eq_iff_iff]
    simp only [Bool.and_eq_true, beq_iff_eq, Prod.ext_iff]
    exact ⟨fun ⟨a, b⟩ => ⟨a.symm, b.symm⟩, fun ⟨a, b⟩ => ⟨a.symm, b.symm⟩⟩
theorem atKey_pairs (i j : Int) (ps : List ((Int × Int) × Addr)) : (atKey (ps.map fun p => ([p.1.1, p.1.2], p.2, Value.bool true)) [i, j]).isSome = (ps.map (·.1)).contains (i, j) := by
  induction ps with
  | nil => rfl
  | cons n r ih =>
    unfold atKey at ih ⊢
    rw [List.map_cons, List.find?_cons, List.map_cons, List.contains_cons]
    by_cases e : n.1 = (i, j)
    · have : [n.1.1, n.1.2] = [i, j] := by rw [e]
      simp [e]
    · have h1 : ¬ [n.1.1, n.1.2] = [i, j] := fun q => e (by injection q with q1 q2; injection q2 with q2 _; exact Prod.ext q1 q2)
      have h2 : ((i, j) == n.1) = false := beq_eq_false_iff_ne.mpr (Ne.symm e)
      rw [h2, Bool.false_or, ← ih]
      simp only [h1, decide_false]

theorem isPairV_elim {v : V} (h : isPairV v = true) : ∃ i j, v = .tup [.int i, .int j] := by
  unfold isPairV at h
  split at h
  · exact ⟨_, _, rfl⟩
  · cases h
theorem isIntV_elim {v : V} (h : isIntV v = true) : ∃ i, v = .int i := by
  unfold isIntV at h
  split at h
  · exact ⟨_, rfl⟩
  · cases h
theorem VR.pair_of {h : Heap} {i j : Int} {x : Value} (v : VR h (.tup [.int i, .int j]) x) : ∃ a n t u, x = .ref a ∧ h.get? a = some (seqObj "tuple" [Value.int i t, Value.int j u].toArray n) := by
  refine ob13 v.tup_of ?_
  intro a xs n ee7
  subst ee7
  intro e r
  cases r with | cons p r => cases r with | cons q r => cases r with | nil =>
  refine ob6 p.int_of ?_
  intro t ee8
  subst ee8
  refine ob6 q.int_of ?_
  intro u ee9
  subst ee9
  exact ⟨a, n, t, u, rfl, e⟩
theorem pairKey {prog : Program} {w : World} {h : Heap} {a : Addr} {i j : Int} {t u : Tok} {n : Nat} (e : h.get? a = some (seqObj "tuple" [Value.int i t, Value.int j u].toArray n)) : IsTupleKey (intKind prog w) h [i, j] a :=
  ⟨_, _, n, e, rfl, rfl, .cons (isInt_self i t) (.cons (isInt_self j u) .nil)⟩

theorem dict_ne_sys {d : Addr} {ks : List V} (r : Rel C σ s.heap) (hl : C.base.NoLimit) (e : σ d = some (.dict ks)) : (d == sysModules) = false := by
  have h2 := two_le_base hl
  rcases r.new d _ e with q | ⟨vs, q⟩
  · exact beq_eq_false_iff_ne.mpr fun z => by rw [z] at q; simp only [sysModules] at q; omega
  · cases q

theorem inDict_ok {x : V} {y : Value} {d : Addr} {ks : List V} {K : Value → Shared → Prop} (hl : C.base.NoLimit) (hA : A.units + 8 < cLine) (r : Rel C σ s.heap) (e : σ d = some (.dict ks)) (hx : VR s.heap x y) (hk : keysOk (x :: ks) = true)
    (h : ∀ t, K (.bool (hasKey x ks)) { s with toks := t }) : wpAny C.M A (compareOp .In y (.ref d)) K E s := by
  obtain ⟨hK, _⟩ := r.tr d _ e
  unfold keysOk at hk
  rcases Bool.or_eq_true_iff.mp hk with q | q
  · simp only [List.all_cons, Bool.and_eq_true] at q
    refine lift fun gg back => ?_
    refine ob6 (isIntV_elim q.1) ?_
    intro i ee10
    subst ee10
    refine ob6 hx.int_of ?_
    intro t ee11
    subst ee11
    refine ob5 (hK.ints q.2) ?_
    intro ns ee12
    subst ee12
    intro hd
    refine back ?_
    clear back gg
    refine wpAny_in_of (knd := intKind C.prog C.w) (isInt_self i t) (dict_ne_sys r hl e) hd.mapOf ?_
    rw [valueAt_ints, ← hasKey_ints]; exact h _
  · simp only [List.all_cons, Bool.and_eq_true] at q
    refine lift fun gg back => ?_
    refine ob14 (isPairV_elim q.1) ?_
    intro i j ee13
    subst ee13
    refine ob15 hx.pair_of ?_
    intro a n t u ee14
    subst ee14
    intro ha
    refine ob5 (hK.pairs q.2) ?_
    intro ps ee15
    subst ee15
    intro hd
    refine back ?_
    clear back gg
    refine wpAny_in_heap (knd := tupleKind (intKind C.prog C.w)) (tupleKind_room_in1 (by omega)) (pairKey ha) (dict_ne_sys r hl e) hd ?_
    rw [atKey_pairs, ← hasKey_pairs]; exact h _

theorem notIn_of_in {M : Model} {x y : Value} {K : Value → Shared → Prop} (h : wpAny M A (compareOp .In x y) (fun v s' => ∃ c, v = .bool c ∧ K (.bool (!c)) s') E s) : wpAny M A (compareOp .NotIn x y) K E s := by
  have h' : wpAny M A (contains y x) (fun c s' => K (.bool (!c)) s') E s := fun Γ p hΓ => by
    have := h Γ p hΓ
    have e : compareOp .In x y = (contains y x >>= fun b => pure (Value.bool b)) := rfl
    rw [e, Sem.wp_bind'] at this
    refine Sem.wp_mono M Γ _ (fun c p' s' q => ?_) (fun _ _ _ q => q) p s this
    refine lift fun gg back => ?_
    obtain ⟨c', q1, q2⟩ := q
    refine back ?_
    clear back gg
    cases q1; exact q2
  show wpAny M A (do return .bool (!(← contains y x))) K E s
  exact wpAny_bind (wpAny_mono h' (fun c s' q => wpAny_pure q) fun _ _ q => q)

theorem cmpII_ok {h : Heap} {u v : V} {x y : Value} {f : Int → Int → Bool} {b : Bool} {W : Value → Value → Prop} (hu : VR h u x) (hv : VR h v y) (e : cmpII u v f = some b) (g : ∀ i j t t', b = f i j → W (.int i t) (.int j t')) : W x y := by
  cases hu <;> first | (cases e; done) | skip
  cases hv <;> first | (cases e; done) | skip
  exact g _ _ _ _ (Option.some.inj e).symm
theorem cmp_ok {op : CmpOp} {u v : V} {x y : Value} {b : Bool} {K : Value → Shared → Prop} (hl : C.base.NoLimit) (hA : A.units + 16 < cLine) (r : Rel C σ s.heap) (hu : VR s.heap u x) (hv : VR s.heap v y) (e : cmpV σ op u v = some b)
    (h : ∀ t, K (.bool b) { s with toks := t }) : wpAny C.M A (compareOp op x y) K E s := by
  have hin : ∀ {u v : V} {x y : Value} {b : Bool} {K : Value → Shared → Prop}, VR s.heap u x → VR s.heap v y → inV σ u v = some b → (∀ t, K (.bool b) { s with toks := t }) → wpAny C.M A (compareOp .In x y) K E s := by
    intro u v x y b K hu hv e h
    unfold inV at e
    split at e
    · refine ob13 hv.tup_of ?_
      intro a xs n ee16
      subst ee16
      intro ha hX
      refine ob5 (mem_test (A := A) r (by omega) hu hX e) ?_
      intro t h1 h2
      exact PySem.SeqAt.in_tupleAt t (IsTup_of ha) h1 (by rw [h2]; exact h s.toks)
    · cases hv.ref_of
      split at e
      · rename_i vs hs
        refine ob5 (isList_of r hs) ?_
        intro xs hL hX
        refine ob5 (mem_test (A := A) r (by omega) hu hX e) ?_
        intro t h1 h2
        exact PySem.SeqAt.in_listAt t hL h1 (by rw [h2]; exact h s.toks)
      · rename_i ks hs
        split at e
        · rename_i hk
          cases e
          exact inDict_ok hl (by omega) r hs hu hk h
        · cases e
      · cases e
    · cases e
  have hi : ∀ {op : CmpOp} {f : Int → Int → Bool}, cmpII u v f = some b → (∀ i j t t', b = f i j → wpAny C.M A (compareOp op (.int i t) (.int j t')) K E s) → wpAny C.M A (compareOp op x y) K E s :=
    fun {op} {_} e g => cmpII_ok (W := fun x y => wpAny C.M A (compareOp op x y) K E s) hu hv e g
  cases op with
  | Eq => exact (eqv_ok fuel r (Nat.lt_of_le_of_lt (Nat.add_le_add_left (by decide) _) hA) hu hv e).2.1 _ _ _ _ (h s.toks)
  | NotEq =>
    refine ob5 (Option.map_eq_some_iff.mp e) ?_
    intro c hc ee17
    subst ee17
    exact (eqv_ok fuel r (Nat.lt_of_le_of_lt (Nat.add_le_add_left (by decide) _) hA) hu hv hc).2.2 _ _ _ _ (h s.toks)
  | Lt => exact hi e fun i j t t' e => PyProof.Rows.lt_int (e ▸ h s.toks)
  | LtE => exact hi e fun i j t t' e => PyProof.Rows.le_int (e ▸ h s.toks)
  | Gt => exact hi e fun i j t t' e => PyProof.Rows.gt_int (e ▸ h s.toks)
  | GtE => exact hi e fun i j t t' e => PyProof.Rows.ge_int (e ▸ h s.toks)
  | Is => cases e
  | IsNot => cases e
  | In => exact hin hu hv e h
  | NotIn =>
    refine ob5 (Option.map_eq_some_iff.mp e) ?_
    intro c hc ee18
    subst ee18
    exact notIn_of_in (hin hu hv hc fun t => ⟨c, rfl, h t⟩)
end
end Mine.Internal
end

section
namespace Mine.Internal
open PySem PySem.W PySem.Calls PyProof.Rows
section
variable {C : Cx} {A : Around} {E : Value → Shared → Prop} {σ : Store} {s : Shared} {Q : V → Store → Prop}

theorem truthy_ok {u : V} {x : Value} {b : Bool} {K : Bool → Shared → Prop} (hu : VR s.heap u x) (e : Mine.Internal.truthy σ u = some b) (h : K b s) : wpAny C.M A (PySem.truthy x) K E s := by
  unfold Mine.Internal.truthy at e
  split at e
  · cases e; cases hu; exact PyProof.Rows.truthy_none h
  · cases e; cases hu; exact wpAny_truthy_bool h
  · cases e; cases hu; exact PyProof.Rows.truthy_int h
  · cases e

theorem dict_there {a : Addr} {ks : List V} (r : Rel C σ s.heap) (hs : σ a = some (.dict ks)) : ∃ o, s.heap.get? a = some o ∧ o.cls = .type "dict" := by
  rcases (r.tr _ _ hs).1 with ⟨ns, _, o, es, ep, h1, h2, _⟩ | ⟨ps, _, o, es, ep, h1, h2, _⟩
  · exact ⟨o, h1, h2.1⟩
  · exact ⟨o, h1, h2.1⟩

noncomputable def tyV : Ty → Option Value
  | .int => some (.type "int") | .bool => some (.type "bool") | .tuple => some (.type "tuple") | .list => some (.type "list") | .str => some (.type "str")
  | .cls _ => none

/-- the five kinds asked for -/
theorem isin5 {W : Value → Bool → Prop} {k : Kd} {t : Ty} {c : Value} {b b1 b2 b3 b4 b5 : Bool} (ht : tyV t = some c) (e : isKd k t = some b) (e1 : isKd k .int = some b1) (e2 : isKd k .bool = some b2) (e3 : isKd k .tuple = some b3) (e4 : isKd k .list = some b4) (e5 : isKd k .str = some b5)
    (w1 : W (.type "int") b1) (w2 : W (.type "bool") b2) (w3 : W (.type "tuple") b3) (w4 : W (.type "list") b4) (w5 : W (.type "str") b5) : W c b := by
  cases t with
  | int => cases ht; cases e1.symm.trans e; exact w1
  | bool => cases ht; cases e2.symm.trans e; exact w2
  | tuple => cases ht; cases e3.symm.trans e; exact w3
  | list => cases ht; cases e4.symm.trans e; exact w4
  | str => cases ht; cases e5.symm.trans e; exact w5
  | cls _ => cases ht
noncomputable def IsiW (M : Model) (A : Around) (E : Value → Shared → Prop) (s : Shared) (K : Value → Shared → Prop) (x c : Value) (b : Bool) : Prop :=
  (∀ tk, K (.bool b) { s with toks := tk }) → wpAny M A (call (.builtin "isinstance") [x, c]) K E s
open PySem.IsiPair in
theorem isin_ok {u : V} {x c : Value} {t : Ty} {b : Bool} {K : Value → Shared → Prop} (r : Rel C σ s.heap) (hu : VR s.heap u x) (ht : tyV t = some c) (e : isInst σ u t = some b) (h : ∀ tk, K (.bool b) { s with toks := tk }) :
    wpAny C.M A (call (.builtin "isinstance") [x, c]) K E s := by
  have go : ∀ k, kindV σ u = some k → isKd k t = some b → IsiW C.M A E s K x c b := by
    clear h
    intro k hk e
    unfold kindV at hk
    split at hk
    · cases hk
      cases hu.none_of
      exact isin5 (W := IsiW C.M A E s K _) ht e rfl rfl rfl rfl rfl (fun h => NoneType_int (h _)) (fun h => NoneType_bool (h _)) (fun h => NoneType_tuple (h _)) (fun h => NoneType_list (h _)) (fun h => NoneType_str (h _))
    · cases hk
      cases hu.bool_of
      exact isin5 (W := IsiW C.M A E s K _) ht e rfl rfl rfl rfl rfl (fun h => bool_int (h s.toks)) (fun h => bool_bool (h s.toks)) (fun h => bool_tuple (h _)) (fun h => bool_list (h _)) (fun h => bool_str (h _))
    · cases hk
      refine ob6 hu.int_of ?_
      intro _ ee19
      subst ee19
      exact isin5 (W := IsiW C.M A E s K _) ht e rfl rfl rfl rfl rfl (fun h => int_int (h s.toks)) (fun h => int_bool (h _)) (fun h => int_tuple (h _)) (fun h => int_list (h _)) (fun h => int_str (h _))
    · cases hk
      refine ob6 hu.str_of ?_
      intro _ ee20
      subst ee20
      exact isin5 (W := IsiW C.M A E s K _) ht e rfl rfl rfl rfl rfl (fun h => str_int (h _)) (fun h => str_bool (h _)) (fun h => str_tuple (h _)) (fun h => str_list (h _)) (fun h => str_str (h s.toks))
    · cases hk
      refine ob13 hu.tup_of ?_
      intro a xs n ee21
      subst ee21
      intro ha _
      exact isin5 (W := IsiW C.M A E s K _) ht e rfl rfl rfl rfl rfl (fun h => tuple_int ha rfl (h _)) (fun h => tuple_bool ha rfl (h _)) (fun h => tuple_tuple ha rfl (h s.toks)) (fun h => tuple_list ha rfl (h _)) (fun h => tuple_str ha rfl (h _))
    · cases hu.ref_of
      split at hk
      · cases hk
        rename_i hs
        refine ob12 (r.list hs) ?_
        intro xs n ha _
        exact isin5 (W := IsiW C.M A E s K _) ht e rfl rfl rfl rfl rfl (fun h => list_int ha rfl (h _)) (fun h => list_bool ha rfl (h _)) (fun h => list_tuple ha rfl (h _)) (fun h => list_list ha rfl (h s.toks)) (fun h => list_str ha rfl (h _))
      · cases hk
        rename_i hs
        refine ob5 (dict_there r hs) ?_
        intro o ha hc
        exact isin5 (W := IsiW C.M A E s K _) ht e rfl rfl rfl rfl rfl (fun h => dict_int ha hc (h _)) (fun h => dict_bool ha hc (h _)) (fun h => dict_tuple ha hc (h _)) (fun h => dict_list ha hc (h _)) (fun h => dict_str ha hc (h _))
      · cases hk
  cases t with
  | cls C => cases ht
  | _ =>
    refine ob5 (Option.bind_eq_some_iff.mp e) ?_
    intro k hk e
    exact go k hk e h
end
end Mine.Internal
end

section
set_option linter.unusedVariables false
namespace Mine.Internal
open PySem PySem.W PySem.Calls PyProof.Rows
section
variable {C : Cx} {A : Around} {E : Value → Shared → Prop} {σ : Store} {s : Shared} {Q : V → Store → Prop}

theorem sub_false (slice : Expr) (o i : Value) : ∃ ops, subscripted slice false o i = operate ops (getItem o i) := by
  unfold subscripted
  split
  · exact ⟨_, rfl⟩
  · contradiction
  · exact ⟨_, rfl⟩

theorem pyIdx_lt {i : Int} {n k : Nat} (h : pyIdx i n = some k) : k < n ∧ seqIndex? i n = some k ∧ -(n : Int) ≤ i ∧ i < n ∧ (0 ≤ i → k = i.toNat) ∧ (i < 0 → k = (i + n).toNat) := by
  unfold pyIdx at h
  unfold seqIndex?
  split at h
  · rename_i h0
    split at h
    · rename_i h1
      cases h
      have : ¬ i < 0 := by omega
      refine ⟨h1, ?_, by omega, by omega, fun _ => rfl, fun z => by omega⟩
      simp only [this, if_false]
      rw [if_pos (by simp only [Bool.and_eq_true, decide_eq_true_eq]; omega)]
    · cases h
  · rename_i h0
    split at h
    · rename_i h1
      cases h
      have : i < 0 := by omega
      refine ⟨by omega, ?_, by omega, by omega, fun _ => by omega, fun _ => rfl⟩
      simp only [this, if_true]
      rw [if_pos (by simp only [Bool.and_eq_true, decide_eq_true_eq]; omega)]
    · cases h

theorem onSeq_elim {v : V} {K : List V → Prop} (h : onSeq σ v K) : ∃ vs, K vs ∧ ((v = .tup vs ∧ vs.length ≤ szLim) ∨ ∃ a, v = .ref a ∧ (σ a = some (.list vs) ∨ σ a = some (.fixed vs))) := by
  unfold onSeq at h
  split at h
  · exact ⟨_, h.2, .inl ⟨rfl, h.1⟩⟩
  · split at h
    · exact ⟨_, h, .inr ⟨_, rfl, .inl (by assumption)⟩⟩
    · exact ⟨_, h, .inr ⟨_, rfl, .inr (by assumption)⟩⟩
    · exact h.elim
  · exact h.elim

/-- a list or a fixed list of the store -/
theorem Rel.seq {a : Addr} {vs : List V} (r : Rel C σ s.heap) (h : σ a = some (.list vs) ∨ σ a = some (.fixed vs)) : ∃ xs, s.heap.IsList a xs.toArray ∧ VRs s.heap vs xs ∧ vs.length ≤ szLim := by
  rcases h with h | h
  · refine ob3 (r.list h) ?_
    intro xs n h1 h2 h3
    exact ⟨xs, h1.isList, h2, h3⟩
  · exact r.tr a _ h

theorem lim63 {n : Nat} (h : n ≤ szLim) : (n : Int) < 2 ^ 63 := by simp only [szLim] at h; omega

theorem item_ok {u v : V} {x y : Value} {value slice : Expr} {K : V → Prop} {Q : Value → Shared → Prop} (r : Rel C σ s.heap) (hu : VR s.heap u x) (hv : VR s.heap v y) (h : idxV u v σ K) (hQ : ∀ z w, K z → VR s.heap z w → Q w s) :
    wpAny C.M A (subscriptTail value slice x y) Q E s := by
  refine ob5 (onSeq_elim h) ?_
  intro vs h1 hseq
  clear h
  refine lift fun gg back => ?_
  refine ob5 (onInt_elim h1) ?_
  intro i ee22
  subst ee22
  intro h2
  refine ob5 (onSome_elim h2) ?_
  intro k hk h3
  refine ob5 (onSome_elim h3) ?_
  intro z hz h
  refine back ?_
  clear back gg
  clear h1 h2 h3
  refine lift fun gg back => ?_
  refine ob6 hv.int_of ?_
  intro t ee23
  subst ee23
  refine ob6 (sub_false slice x (.int i t)) ?_
  intro ops hops
  refine ob16 (pyIdx_lt hk) ?_
  intro hlt hsi hlo hhi hp hn
  refine back ?_
  clear back gg
  rcases hseq with ⟨rfl, hl⟩ | ⟨a, rfl, ha⟩
  · refine ob13 hu.tup_of ?_
    intro a xs n ee24
    subst ee24
    intro ha hX
    have hll := lim63 hl
    have e := hX.length
    refine ob5 (hX.get hz) ?_
    intro w hw hzw
    refine tail_any (T := "tuple") ⟨_, ha, rfl⟩ slot_tuple_getitem.lookup ?_ hops
    exact P.getItem_tuple ha (by omega) (by omega) (by simp only [List.size_toArray]; rw [← e]; exact hsi) (by simpa using hw) (hQ z w h hzw)
  · refine lift fun gg back => ?_
    cases hu.ref_of
    refine ob10 (r.seq ha) ?_
    intro xs hL hX hl
    refine back ?_
    clear back gg
    have hll := lim63 hl
    have e := hX.length
    refine ob5 (hX.get hz) ?_
    intro w hw hzw
    refine tail_any (T := "list") hL.typeIs slot_list_getitem.lookup ?_ hops
    by_cases h0 : 0 ≤ i
    · exact wpAny_getItem_list hL h0 (by omega) (by rw [← hp h0]; simpa using hw) (hQ z w h hzw)
    · refine wpAny_getItem_list_neg hL (by omega) (by simp only [List.size_toArray]; omega) (by omega) ?_ (hQ z w h hzw)
      have := hn (by omega)
      simp only [List.size_toArray]
      rw [← e, ← this]; simpa using hw

theorem len_ok {u : V} {x : Value} {K : V → Store → Prop} {Q : Value → Shared → Prop} (r : Rel C σ s.heap) (hu : VR s.heap u x) (h : onSeq σ u fun vs => K (.int vs.length) σ) (hQ : ∀ z t w, K z σ → VR s.heap z w → Q w { s with toks := t }) :
    wpAny C.M A (call (.builtin "len") [x]) Q E s := by
  refine ob5 (onSeq_elim h) ?_
  intro vs h' hseq
  clear h
  have h := h'
  clear h'
  rcases hseq with ⟨rfl, hl⟩ | ⟨a, rfl, ha⟩
  · refine ob13 hu.tup_of ?_
    intro a xs n ee25
    subst ee25
    intro ha hX
    have hll := lim63 hl
    have e := hX.length
    refine P.len_tuple ha (by simp only [List.size_toArray]; omega) (hQ _ _ _ h ?_)
    rw [List.size_toArray, ← e]; exact .int
  · refine lift fun gg back => ?_
    cases hu.ref_of
    refine ob10 (r.seq ha) ?_
    intro xs hL hX hl
    refine back ?_
    clear back gg
    have hll := lim63 hl
    have e := hX.length
    refine len_list hL (by simp only [List.size_toArray]; omega) (hQ _ _ _ h ?_)
    rw [List.size_toArray, ← e]; exact .int

theorem PostV.len {u : V} {x : Value} (r : Rel C σ s.heap) (hu : VR s.heap u x) (h : onSeq σ u fun vs => Q (.int vs.length) σ) : wpAny C.M A (call (.builtin "len") [x]) (PostV C σ s Q) E s :=
  len_ok (K := Q) r hu h fun z t w q hv => .tok r q hv

theorem VRs.take {h : Heap} : ∀ {v : List V} {x : List Value} (n : Nat), VRs h v x → VRs h (v.take n) (x.take n)
  | _, _, 0, _ => by simp only [List.take_zero]; exact .nil
  | _, _, n + 1, .nil => .nil
  | _, _, n + 1, .cons a r => .cons a (r.take n)
theorem VRs.drop {h : Heap} : ∀ {v : List V} {x : List Value} (n : Nat), VRs h v x → VRs h (v.drop n) (x.drop n)
  | _, _, 0, r => r
  | _, _, n + 1, .nil => .nil
  | _, _, n + 1, .cons _ r => r.drop n
theorem VRs.reverse {h : Heap} : ∀ {v : List V} {x : List Value}, VRs h v x → VRs h v.reverse x.reverse
  | _, _, .nil => .nil
  | _, _, .cons a r => by rw [List.reverse_cons, List.reverse_cons]; exact r.reverse.append (.cons a .nil)
theorem VRs.set {h : Heap} {a : V} {b : Value} (hab : VR h a b) : ∀ {v : List V} {x : List Value} (n : Nat), VRs h v x → VRs h (v.set n a) (x.set n b)
  | _, _, _, .nil => .nil
  | _, _, 0, .cons _ r => .cons hab r
  | _, _, n + 1, .cons c r => .cons c (r.set hab n)

theorem clamp_lo (n : Nat) (o : Option Int) : clampIdx n 0 o = kms_lo o n := by
  cases o with
  | none => rfl
  | some i => unfold clampIdx kms_lo; dsimp only; split <;> omega
theorem clamp_hi (n : Nat) (o : Option Int) : clampIdx n n o = kms_hi o n := by
  cases o with
  | none => rfl
  | some i => unfold clampIdx kms_hi; dsimp only; split <;> omega
theorem pySlice_eq {α : Type} (lo hi : Option Int) (l : List α) : pySlice lo hi l = (l.drop (kms_lo lo l.length)).take (kms_hi hi l.length - kms_lo lo l.length) := by
  unfold pySlice
  rw [clamp_lo, clamp_hi, List.drop_take]

theorem optInt_part {v : V} {x : Value} {o : Option Int} (hv : VR s.heap v x) (e : optInt v = some o) : IsPart x o := by
  unfold optInt at e
  split at e
  · cases e; cases hv; exact .none
  · cases e; cases hv; exact .int _ _
  · cases e

theorem slice_ok {u l h : V} {x xl xh : Value} {value : Expr} {lower upper : Option Expr} {p : Pos} (r : Rel C σ s.heap) (hu : VR s.heap u x) (hl : VR s.heap l xl) (hh : VR s.heap h xh) (q : sliceV u l h σ Q) :
    wpAny C.M A (subscriptTail value (.Slice lower upper none p) x (.ref s.heap.objs.size)) (PostV C σ s Q) E { s with heap := s.heap.push { cls := .type "slice", data := .fields #[xl, xh, .none] } } := by
  refine lift fun gg back => ?_
  refine ob3 (onList_elim q) ?_
  intro a vs ee26
  subst ee26
  intro ha q
  refine ob5 (onSome_elim q) ?_
  intro lo hlo q
  refine ob5 (onSome_elim q) ?_
  intro hi hhi q
  cases hu.ref_of
  refine ob3 (r.list ha) ?_
  intro xs n hL hX hz
  refine back ?_
  clear back gg
  have e := hX.length
  refine ob6 (sub_false (.Slice lower upper none p) (.ref a) (.ref s.heap.objs.size)) ?_
  intro ops hops
  have hL' : (s.heap.push { cls := .type "slice", data := .fields #[xl, xh, .none] }).IsList a xs.toArray := hL.isList.push _
  refine tail_any (T := "list") hL'.typeIs slot_list_getitem.lookup ?_ hops
  refine wpAny_getItem_list_slice hL' (Heap.IsSliceOf.new ..) (optInt_part hl hlo) (optInt_part hh hhi) .none (by simp) ?_ (by simp only [List.size_toArray]; exact szLine (by omega))
  dsimp only
  rw [kms_pick_eq]
  refine new_list (s := s) (xs := kms_pick xs lo hi) (n := 0) (t := s.toks) r q (fun b ob k => push_keeps _ _ (push_keeps _ _ k)) (Nat.le_trans push_size push_size) push_size (Heap.get?_push_size _ rfl) ?_ ?_
  · rw [pySlice_eq, kms_pick, e]
    exact (hX.drop _).take _
  · rw [pySlice_eq]; simp only [List.length_take, List.length_drop]; omega

/-- list(a list) -/
theorem listOf_ok {u : V} {x : Value} (r : Rel C σ s.heap) (hu : VR s.heap u x) (q : onList σ u fun _ vs => vs.length ≤ szLim ∧ Mine.Internal.alloc σ (.list vs) Q) : wpAny C.M A (call (.type "list") [x]) (PostV C σ s Q) E s := by
  refine lift fun gg back => ?_
  refine ob9 (onList_elim q) ?_
  intro a vs ee27
  subst ee27
  intro ha hz q
  cases hu.ref_of
  refine ob3 (r.list ha) ?_
  intro xs n hL hX _
  refine back ?_
  clear back gg
  have e := hX.length
  refine wpAny_size (call_list_seq a (.inl rfl) hL rfl rfl (fun h' c' k hn hsz => ?_) (by simp only [List.size_toArray]; exact szLine (by omega)))
  exact new_list (t := s.toks) r q k hsz (Nat.le_refl _) hn hX hz

theorem tupleOf_ok {u : V} {x : Value} (r : Rel C σ s.heap) (hu : VR s.heap u x) (q : onList σ u fun _ vs => vs.length ≤ szLim ∧ Q (.tup vs) σ) : wpAny C.M A (call (.type "tuple") [x]) (PostV C σ s Q) E s := by
  refine lift fun gg back => ?_
  refine ob9 (onList_elim q) ?_
  intro a vs ee28
  subst ee28
  intro ha hz q
  cases hu.ref_of
  refine ob3 (r.list ha) ?_
  intro xs n hL hX _
  refine back ?_
  clear back gg
  have e := hX.length
  refine wpAny_size (call_tuple_list hL.isList (fun h' k hsz => ?_) (by simp only [List.size_toArray]; exact szLine (by omega)))
  have k' : ∀ b ob, s.heap.get? b = some ob → (h'.push { cls := .type "tuple", data := .seq xs.toArray }).get? b = some ob := fun b ob hb => push_keeps _ _ (k b ob hb)
  exact ⟨.tup vs, σ, q, .tup (n := 0) (Heap.get?_push_size _ rfl) (hX.keep fun b o e _ => k' b o e), .grow (t := s.toks) r k' hsz⟩

theorem intBool_ok {b : Bool} (r : Rel C σ s.heap) (q : Q (.int (if b then 1 else 0)) σ) : wpAny C.M A (call (.type "int") [.bool b]) (PostV C σ s Q) E s :=
  call_int_bool (.tok r q .int)

/-- a list's object is turned by a method -/
theorem turn_list {a : Addr} {vs ws : List V} {xs : List Value} {n : Nat} {f : Array Value → Array Value} {v : V} {x : Value} (r : Rel C σ s.heap) (ha : σ a = some (.list vs)) (hL : IsL s.heap a xs.toArray n)
    (hW : VRs s.heap ws (f xs.toArray).toList) (hz : ws.length ≤ szLim) (q : Q v (σ.upd a (.list ws))) (hv : VR s.heap v x) : PostV C σ s Q x { s with heap := s.heap.update a (Obj.mapSeq f) } := by
  have st : Step C No σ s (σ.upd a (.list ws)) { s with heap := s.heap.update a (Obj.mapSeq f), toks := s.toks } := by
    refine .turn r ha (fun _ e => by cases e) ⟨Heap.size_update .., fun b hb => Heap.get?_update_other _ _ (Ne.symm hb)⟩ fun k => ⟨(f xs.toArray).toList, if (f xs.toArray).size == xs.toArray.size then n else n + 1, ?_, hW.keep k, hz⟩
    have := hL.update f
    rw [show (f xs.toArray).toList.toArray = f xs.toArray from by simp]
    exact this
  exact ⟨v, _, q, st.vr hv, st⟩

/-- methods of lists -/
theorem m0_ok {m : M0} {u : V} {x : Value} {id : String} {pos : Pos} (r : Rel C σ s.heap) (hu : VR s.heap u x) (hid : id = match m with | .pop => "list.pop" | .clear => "list.clear" | .reverse => "list.reverse") (q : m0V m u σ Q) :
    wpAny C.M A (callWith pos (.builtin id) [x] [] []) (PostV C σ s Q) E s := by
  refine lift fun gg back => ?_
  refine ob3 (onList_elim q) ?_
  intro a vs ee29
  subst ee29
  intro ha q
  cases hu.ref_of
  refine ob3 (r.list ha) ?_
  intro xs n hL hX hz
  refine back ?_
  clear back gg
  have e := hX.length
  have hsz : xs.toArray.size ≤ sizeLine := by simp only [List.size_toArray]; exact szLine (by omega)
  cases m with
  | pop =>
    subst hid
    dsimp only at q ⊢
    split at q
    · exact q.elim
    · rename_i y t ht
      have hvs : vs = t.reverse ++ [y] := by rw [← List.reverse_reverse vs, ht, List.reverse_cons]
      have hlen : vs.length = t.reverse.length + 1 := by rw [hvs]; simp
      obtain ⟨y', hy', hyy⟩ := hX.get (i := t.reverse.length) (a := y) (by rw [hvs]; simp)
      have hidx : xs.toArray.size - 1 = t.reverse.length := by simp only [List.size_toArray]; omega
      refine P.pop_list hL (y := y') (by rw [hidx]; simpa using hy') (turn_list r ha hL ?_ (by omega) q hyy) hsz
      have : (xs.toArray.eraseIdxIfInBounds (xs.toArray.size - 1)).toList = xs.take t.reverse.length := by
        rw [hidx]
        have hlt : t.reverse.length < xs.length := by omega
        simp only [List.eraseIdxIfInBounds_toArray]
        rw [List.eraseIdx_eq_take_drop_succ, List.drop_of_length_le (by omega), List.append_nil]
      rw [this]
      have := hX.take t.reverse.length
      rw [hvs, List.take_append_of_le_length (Nat.le_refl _), List.take_length] at this
      exact this
  | clear =>
    subst hid
    exact P.clear_list hL (turn_list r ha hL .nil (Nat.zero_le _) q .none) hsz
  | reverse =>
    subst hid
    refine P.reverse_list hL (turn_list r ha hL ?_ (by simpa using hz) q .none) hsz
    simpa using hX.reverse

noncomputable def m1Id : M1 → String
  | .append => "list.append" | .extend => "list.extend" | .remove => "list.remove"
theorem m1_ok {m : M1} {u v : V} {x y : Value} {id : String} {pos : Pos} {sx : Sem Value} {Q' : Value → Shared → Prop} (hid : id = m1Id m)
    (h : wpAny C.M A sx (fun y s₁ => ∃ σ₁ v Q, Rel C σ₁ s₁.heap ∧ VR s₁.heap u x ∧ VR s₁.heap v y ∧ m1V m u v σ₁ Q ∧ ∀ z s₂, PostV C σ₁ s₁ Q z s₂ → Q' z s₂) E s) (hx : ∃ a, x = .ref a) :
    wpAny C.M A (callWith pos (.builtin id) [x] [(false, sx)] []) Q' E s := by
  refine ob6 hx ?_
  clear hx
  intro a ee30
  subst ee30
  cases m with
  | append =>
    subst hid
    refine P.append_list (wpAny_mono h (fun y s₁ h₁ => ?_) fun _ _ e => e)
    refine lift fun gg back => ?_
    refine ob17 h₁ ?_
    clear h₁
    intro σ₁ v Q r hu hv q k
    refine ob9 (onList_elim q) ?_
    intro a' vs ee31
    subst ee31
    intro ha hz q
    cases hu.ref_of
    refine ob3 (r.list ha) ?_
    intro xs n hL hX _
    refine back ?_
    clear back gg
    have e := hX.length
    refine ⟨_, n, by simp only [List.size_toArray]; exact szLine (by omega), hL, k _ _ (turn_list r ha hL ?_ (by simp only [List.length_append, List.length_cons, List.length_nil]; omega) q .none)⟩
    simpa using hX.append (.cons hv .nil)
  | extend =>
    subst hid
    refine P.extend_list (wpAny_mono h (fun y s₁ h₁ => ?_) fun _ _ e => e)
    refine lift fun gg back => ?_
    refine ob17 h₁ ?_
    clear h₁
    intro σ₁ v Q r hu hv q k
    refine ob3 (onList_elim q) ?_
    intro a' vs ee32
    subst ee32
    intro ha q
    refine ob18 (onList_elim q) ?_
    intro b ws ee33
    subst ee33
    intro hb hne hz q
    refine back ?_
    clear back gg
    cases hu.ref_of; cases hv.ref_of
    refine ob3 (r.list ha) ?_
    intro xs n hL hX _
    refine ob3 (r.list hb) ?_
    intro ys n' hL' hY _
    have e := hX.length
    have e' := hY.length
    have hs : xs.length + ys.length ≤ szLim := by omega
    refine ⟨b, _, _, n, n', by simp only [List.size_toArray]; exact szLine (by omega), by simp only [List.size_toArray]; exact Nat.le_succ_of_le (szLine hs), ?_, rfl, hL, hL', k _ _ (turn_list r ha hL ?_ (by simp only [List.length_append]; omega) q .none)⟩
    · have := szLine hs
      simp only [Builtin.List.listTooLong, List.size_toArray, Bool.and_eq_true, decide_eq_true_eq, not_and]
      intro _
      omega
    · simpa using hX.append hY
  | remove =>
    subst hid
    refine seqMethod1_meets F.slot_list_remove F.entry_list_remove (wpAny_mono h (fun y s₁ h₁ => ?_) fun _ _ e => e)
    refine ob17 h₁ ?_
    clear h₁
    intro σ₁ v Q r hu hv q k
    refine ob3 (onList_elim q) ?_
    intro a' vs ee34
    subst ee34
    intro ha q
    exact q.elim

theorem insert_ok {u i v : V} {x y z : Value} (r : Rel C σ s.heap) (hu : VR s.heap u x) (hi : VR s.heap i y) (hv : VR s.heap v z) (q : insertV u i v σ Q) :
    wpAny C.M A (call (.builtin "list.insert") [x, y, z]) (PostV C σ s Q) E s := by
  refine lift fun gg back => ?_
  refine ob3 (onList_elim q) ?_
  intro a vs ee35
  subst ee35
  intro ha q
  refine ob19 (onInt_elim q) ?_
  intro k ee36
  subst ee36
  intro hk0 hk1 hz q
  cases hu.ref_of
  refine ob6 hi.int_of ?_
  intro t ee37
  subst ee37
  refine ob3 (r.list ha) ?_
  intro xs n hL hX hzz
  refine back ?_
  clear back gg
  have e := hX.length
  have hll := lim63 hzz
  refine call_meets F.slot_list_insert ⟨_, hL, rfl⟩ F.entry_list_insert (F.args_list_insert_3 _ _ _) (AutoSeq1.list_insert_list_int_val_1 a xs.toArray n k t z ?_ (by simp only [List.size_toArray]; exact szLine (by omega))) ⟨hL, ?_⟩
  · simp [Builtin.List.listFitsIndex]; omega
  · refine turn_list r ha hL ?_ (by simp only [List.length_append, List.length_take, List.length_cons, List.length_drop]; omega) q .none
    have hkn : ¬ k < 0 := by omega
    simp only [hkn, if_false, List.size_toArray]
    rw [show min k.toNat xs.length = k.toNat by omega]
    have := (hX.take k.toNat).append (.cons hv (hX.drop k.toNat))
    simpa [List.take_of_length_le] using this

theorem setlist_ok {a : Addr} {vs : List V} {j : Int} {t : Tok} {x : V} {z : Value} {K : Store → Prop} (r : Rel C σ s.heap) (ha : σ a = some (.list vs)) (h0 : 0 ≤ j) (h1 : j < vs.length) (hx : VR s.heap x z) (q : K (σ.upd a (.list (vs.set j.toNat x)))) :
    wpAny C.M A (setItem (.ref a) (.int j t) z) (fun _ s' => ∃ σ', K σ' ∧ Step C No σ s σ' s') E s := by
  refine ob3 (r.list ha) ?_
  intro xs n hL hX hz
  have e := hX.length
  have hll := lim63 hz
  have hl := hL.isList
  have fin : ∃ σ', K σ' ∧ Step C No σ s σ' { s with heap := s.heap.update a (Obj.mapSeq (·.setIfInBounds j.toNat z)) } := by
    refine lift fun gg back => ?_
    obtain ⟨_, σ', q', _, st⟩ := turn_list (Q := fun _ σ' => K σ') (f := (·.setIfInBounds j.toNat z)) (ws := vs.set j.toNat x) (v := .none) r ha hL (by simpa using hX.set hx j.toNat) (by simpa using hz) q .none
    refine back ?_
    clear back gg
    exact ⟨σ', q', st⟩
  unfold setItem
  try with_reducible refine wpAny_holding ?_
  first | refine wpAny_bind (wpAny_pure ?_) | skip
  refine wpAny_bind (wpAny_sequenceKey hl.typeIs (by decide) ?_)
  refine wpAny_bind (wpAny_callSpecial?_slot (name := Str.ofString "__setitem__") hl.typeIs slot_list_setitem
    (wpAny_call_entry slot_list_setitem hl.typeIs entry_list_setitem ?_ (args_list_setitem _ _ _)))
  show wpAny _ _ (Builtin.List.listSubscript? (.int j t) >>= _) _ _ s
  refine wpAny_bind (wpAny_listSubscript_int (fitsIndex_of h0 (by omega)) ?_)
  refine ob6 (Int.eq_ofNat_of_zero_le h0) ?_
  intro i ee38
  subst ee38
  have hi : i < xs.toArray.size := by simp only [List.size_toArray]; omega
  show wpAny _ _ ((seqItemAt a i >>= fun r => pure (r.map (i, ·))) >>= _) _ _ s
  refine wpAny_bind (wpAny_bind (wpAny_seqItemAt hL rfl (wpAny_pure ?_)))
  rw [Array.getElem?_eq_getElem hi]
  show wpAny _ _ (setSeqItemAt a i z >>= _) _ _ s
  refine wpAny_bind (wpAny_setSeqItemAt hL rfl ?_)
  first
    | exact wpAny_bind (wpAny_pure (wpAny_pure ⟨.none, rfl, wpAny_pure fin⟩))
    | exact wpAny_pure ⟨.none, rfl, wpAny_pure fin⟩

theorem putKey_ints (i : Int) (ns : List Int) : ∃ ns' : List Int, putKey (.int i) (ns.map V.int) = ns'.map V.int ∧ stored (ns.map fun n => (n, Value.bool true)) i (.bool true) = ns'.map fun n => (n, Value.bool true) := by
  by_cases h : i ∈ ns
  · refine ⟨ns, ?_, ?_⟩
    · unfold putKey; rw [hasKey_ints, if_pos (by simpa using h)]
    · unfold stored
      rw [if_pos (by simpa using h), List.map_map]
      refine List.map_congr_left fun n _ => ?_
      by_cases e : n = i
      · subst e; simp
      · simp [e]
  · refine ⟨ns ++ [i], ?_, ?_⟩
    · unfold putKey; rw [hasKey_ints, if_neg (by simpa using h)]; simp
    · unfold stored
      rw [if_neg (by simpa using h)]; simp
theorem putKey_pairs (i j : Int) (b : Addr) (ps : List ((Int × Int) × Addr)) : ∃ ps' : List ((Int × Int) × Addr), putKey (.tup [.int i, .int j]) (ps.map fun p => V.tup [.int p.1.1, .int p.1.2]) = ps'.map (fun p => V.tup [.int p.1.1, .int p.1.2]) ∧
    storedH (ps.map fun p => ([p.1.1, p.1.2], p.2, Value.bool true)) [i, j] b (.bool true) = ps'.map fun p => ([p.1.1, p.1.2], p.2, Value.bool true) := by
  have hh := atKey_pairs i j ps
  by_cases h : (i, j) ∈ ps.map (·.1)
  · have hc : (ps.map (·.1)).contains (i, j) = true := by simpa using h
    refine ⟨ps, ?_, ?_⟩
    · unfold putKey; rw [hasKey_pairs, if_pos hc]
    · unfold storedH
      rw [hh, if_pos hc, List.map_map]
      refine List.map_congr_left fun n _ => ?_
      simp only [Function.comp, putAt]
      split <;> rfl
  · have hc : ¬ (ps.map (·.1)).contains (i, j) = true := by simpa using h
    refine ⟨ps ++ [((i, j), b)], ?_, ?_⟩
    · unfold putKey; rw [hasKey_pairs, if_neg hc]; simp
    · unfold storedH
      rw [hh, if_neg hc]; simp
theorem putKey_length (k : V) (ks : List V) : (putKey k ks).length ≤ ks.length + 1 := by
  unfold putKey; split <;> simp
theorem setdict_ok {a : Addr} {ks : List V} {i : V} {y : Value} {K : Store → Prop} (hA : A.units + 8 < cLine) (r : Rel C σ s.heap) (ha : σ a = some (.dict ks)) (hi : VR s.heap i y) (hk : keysOk (i :: ks) = true) (hz : ks.length < szLim)
    (q : K (σ.upd a (.dict (putKey i ks)))) : wpAny C.M A (setItem (.ref a) y (.bool true)) (fun _ s' => ∃ σ', K σ' ∧ Step C No σ s σ' s') E s := by
  obtain ⟨hK, _⟩ := r.tr a _ ha
  have hz' := putKey_length i ks
  unfold keysOk at hk
  rcases Bool.or_eq_true_iff.mp hk with e | e
  · simp only [List.all_cons, Bool.and_eq_true] at e
    refine lift fun gg back => ?_
    refine ob6 (isIntV_elim e.1) ?_
    intro i ee39
    subst ee39
    refine ob6 hi.int_of ?_
    intro t ee40
    subst ee40
    refine ob5 (hK.ints e.2) ?_
    intro ns ee41
    subst ee41
    intro hd
    refine ob5 (putKey_ints i ns) ?_
    intro ns' e1 e2
    refine back ?_
    clear back gg
    refine wpAny_setItem_pairs (knd := intKind C.prog C.w) (isInt_self i t) hd (fun h' hd' hs => ⟨_, q, .turn r ha (fun _ e => by cases e) hs fun k => ⟨.inl ⟨ns', e1, e2 ▸ hd'⟩, by omega⟩⟩) (by simp at hz ⊢; exact szLine (by omega))
  · simp only [List.all_cons, Bool.and_eq_true] at e
    refine lift fun gg back => ?_
    refine ob14 (isPairV_elim e.1) ?_
    intro i j ee42
    subst ee42
    refine ob15 hi.pair_of ?_
    intro b n t u ee43
    subst ee43
    intro hb
    refine ob5 (hK.pairs e.2) ?_
    intro ps ee44
    subst ee44
    intro hd
    refine ob5 (putKey_pairs i j b ps) ?_
    intro ps' e1 e2
    refine back ?_
    clear back gg
    refine wpAny_setItem_heap (knd := tupleKind (intKind C.prog C.w)) (tupleKind_room_in1 (by omega)) (pairKey hb) hd (fun h' hd' hs => ⟨_, q, .turn r ha (fun _ e => by cases e) hs fun k => ⟨.inr ⟨ps', e1, e2 ▸ hd'⟩, by omega⟩⟩) (by simp at hz ⊢; exact szLine (by omega))

theorem setitem_ok {u i x : V} {xu xi xx : Value} {K : Store → Prop} (hA : A.units + 8 < cLine) (r : Rel C σ s.heap) (hu : VR s.heap u xu) (hi : VR s.heap i xi) (hx : VR s.heap x xx) (q : setitemV u i x σ K) :
    wpAny C.M A (setItem xu xi xx) (fun _ s' => ∃ σ', K σ' ∧ Step C No σ s σ' s') E s := by
  unfold setitemV at q
  split at q
  · cases hu.ref_of
    split at q
    · rename_i vs ha
      refine ob20 (onInt_elim q) ?_
      intro j ee45
      subst ee45
      intro h0 h1 q
      refine ob6 hi.int_of ?_
      intro t ee46
      subst ee46
      exact setlist_ok r ha h0 h1 hx q
    · rename_i ks ha
      refine lift fun gg back => ?_
      refine ob21 q ?_
      clear q
      intro h1 h2 ee47
      subst ee47
      intro q
      cases hx.bool_of
      refine back ?_
      clear back gg
      exact setdict_ok hA r ha hi h1 h2 q
    · exact q.elim
  · exact q.elim

theorem bools_get : ∀ {vs : List V} {bs : List Bool}, bools? vs = some bs → vs = bs.map V.bool
  | [], bs, e => by simp [bools?] at e; subst e; rfl
  | .bool b :: r, bs, e => by
    simp only [bools?, Option.map_eq_some_iff] at e
    refine ob5 e ?_
    clear e
    intro bs' e1 ee48
    subst ee48
    rw [bools_get e1]; rfl
  | .none :: _, _, e | .int _ :: _, _, e | .str _ :: _, _, e | .tup _ :: _, _, e | .ref _ :: _, _, e => by simp [bools?] at e
theorem ints_get : ∀ {vs : List V} {ns : List Int}, ints? vs = some ns → vs = ns.map V.int
  | [], bs, e => by simp [ints?] at e; subst e; rfl
  | .int b :: r, bs, e => by
    simp only [ints?, Option.map_eq_some_iff] at e
    refine ob5 e ?_
    clear e
    intro bs' e1 ee49
    subst ee49
    rw [ints_get e1]; rfl
  | .none :: _, _, e | .bool _ :: _, _, e | .str _ :: _, _, e | .tup _ :: _, _, e | .ref _ :: _, _, e => by simp [ints?] at e
theorem ints_are {h : Heap} : ∀ {ns : List Int} {xs : List Value}, VRs h (ns.map V.int) xs → IntsAre xs ns
  | [], _, r => by cases r; exact .nil
  | n :: ns, _, r => by
    cases r with | cons a r =>
    refine ob6 a.int_of ?_
    intro t ee50
    subst ee50
    exact .cons _ _ (ints_are r)
theorem ints_of {h : Heap} {xs : List Value} {ns : List Int} (r : IntsAre xs ns) : VRs h (ns.map V.int) xs := by
  induction r with
  | nil => exact .nil
  | cons _ _ _ ih => exact .cons .int ih

theorem bools_vals {h : Heap} : ∀ {bs : List Bool} {xs : List Value}, VRs h (bs.map V.bool) xs → xs = bs.map Value.bool
  | [], _, r => by cases r; rfl
  | b :: bs, _, r => by
    cases r with | cons a r =>
    rw [a.bool_of, bools_vals r]; rfl

theorem bools_truth {bs : List Bool} : TruthOf C.prog C.w A (fun i v => (bs.map Value.bool).toArray[i]? = some v) (fun i => bs.getD i false) := by
  intro i v s Q E hP hQ
  simp only [List.getElem?_toArray, List.getElem?_map, Option.map_eq_some_iff] at hP
  refine ob5 hP ?_
  clear hP
  intro b hb ee51
  subst ee51
  refine wpAny_truthy_bool ?_
  simpa [List.getD, hb] using hQ
theorem range_all (bs : List Bool) : (List.range bs.length).all (fun i => bs.getD i false) = bs.all id := by
  rw [Bool.eq_iff_iff]
  simp only [List.all_eq_true, List.mem_range, id]
  constructor
  · intro h b hb
    refine lift fun gg back => ?_
    obtain ⟨i, hi, rfl⟩ := List.mem_iff_getElem.mp hb
    refine back ?_
    clear back gg
    simpa [hi] using h i hi
  · intro h i hi
    simpa [hi] using h _ (List.getElem_mem hi)
theorem all_ok {u : V} {x : Value} (hh : A.handled = none) (r : Rel C σ s.heap) (hu : VR s.heap u x) (q : onList σ u fun _ vs => onSome (bools? vs) fun bs => Q (.bool (bs.all id)) σ) : wpAny C.M A (call (.builtin "all") [x]) (PostV C σ s Q) E s := by
  refine lift fun gg back => ?_
  refine ob3 (onList_elim q) ?_
  intro a vs ee52
  subst ee52
  intro ha q
  refine ob5 (onSome_elim q) ?_
  intro bs hb q
  cases hu.ref_of
  refine ob3 (r.list ha) ?_
  intro xs n hL hX _
  refine back ?_
  clear back gg
  rw [bools_get hb] at hX
  cases bools_vals hX
  refine wpAny_size (call_all_walk (wpAny_pyIter_list hL.isList ⟨_, _, _, _, _, _, fun i => bs.getD i false, rfl, Walks.list (A := A.in1) hh _ a (Nat.ne_of_lt (Heap.lt_size hL)) _,
    ⟨⟨_, Heap.get?_push_size _ rfl, rfl, rfl⟩, hL.isList.push _⟩, bools_truth, fun h' tk k hsz => ?_⟩))
  have k' : ∀ b ob, s.heap.get? b = some ob → h'.get? b = some ob := fun b ob e => k b ob (by simp only [List.mem_singleton]; exact Nat.ne_of_lt (Heap.lt_size e)) (push_keeps _ _ e)
  refine ⟨_, σ, q, ?_, .grow r k' hsz⟩
  rw [show (bs.map Value.bool).toArray.size = bs.length by simp, range_all]; exact .bool
theorem sorted_unique {l l' : List Int} (p : l.Perm l') (h : l.Pairwise (· ≤ ·)) (h' : l'.Pairwise (· ≤ ·)) : l = l' := p.eq_of_pairwise (fun a b _ _ h1 h2 => Int.le_antisymm h1 h2) h h'

theorem mergeSort_eq {ns ns' : List Int} (hp : ns'.Perm ns) (hs : ns'.Pairwise (· ≤ ·)) : ns.mergeSort (fun a b => decide (a ≤ b)) = ns' := by
  refine sorted_unique ((List.mergeSort_perm ns _).trans hp.symm) ?_ hs
  have := List.pairwise_mergeSort (le := fun a b : Int => decide (a ≤ b)) (by intro a b c h1 h2; simp only [decide_eq_true_eq] at *; omega) (by intro a b; simp only [Bool.or_eq_true, decide_eq_true_eq]; omega) ns
  exact this.imp (fun {a b} h => by simpa using h)
theorem sortedL_ok {a : Addr} {vs : List V} {ns : List Int} (r : Rel C σ s.heap) (ha : σ a = some (.list vs)) (hn : ints? vs = some ns) (h64 : vs.length < 64) (q : Mine.Internal.alloc σ (.list ((ns.mergeSort (fun a b => decide (a ≤ b))).map V.int)) Q) :
    wpAny C.M A (call (.builtin "sorted") [.ref a]) (PostV C σ s Q) E s := by
  refine ob3 (r.list ha) ?_
  intro xs n hL hX _
  have e := hX.length
  rw [ints_get hn] at hX
  have hI := ints_are hX
  refine sorted_ints hL.isList hI (by omega) fun out ns' hI' hp hs => ?_
  rw [mergeSort_eq hp hs] at q
  refine ob6 (sortedAll_at s.heap xs out) ?_
  intro c hc
  refine new_list (s := s) (h' := sortedAll s.heap xs out) (xs := out.toList) (n := c) (t := s.toks) r q (fun b ob hb => sortedAll_old hb) ?_ (Nat.le_succ _) (by simpa using hc) (ints_of hI') ?_
  · unfold sortedAll sortedHeap
    simp only [Heap.size_update, Heap.size_push]; omega
  · have := hp.length_eq
    have e2 : vs.length = ns.length := by rw [ints_get hn]; simp
    simp only [List.length_map, szLim]; omega
end
end Mine.Internal
end

section
set_option linter.unusedVariables false
namespace Mine.Internal
open PySem PySem.W PyProof.Rows

/-- a tree of questions goes to an answer, all questions in range -/
noncomputable def KGo {α : Type} (lt : Nat → Nat → Bool) (N : Nat) : KasT α → α → Prop
  | .ret a, b => a = b
  | .ask i j k, b => (i < N ∧ j < N) ∧ KGo lt N (k (lt i j)) b
theorem KGo.bind {α β : Type} {lt : Nat → Nat → Bool} {N : Nat} {f : α → KasT β} {a : α} {b : β} : ∀ {t : KasT α}, KGo lt N t a → KGo lt N (f a) b → KGo lt N (t.bind f) b
  | .ret _, h, g => by cases h; exact g
  | .ask i j k, h, g => ⟨h.1, KGo.bind (t := k (lt i j)) h.2 g⟩
theorem KGo.wp {α : Type} {lt : Nat → Nat → Bool} {N : Nat} {a : α} {s : Shared} {cmp : Nat → Nat → (Bool → Shared → Prop) → Shared → Prop} {Q : α → Shared → Prop}
    (hc : ∀ i j C, i < N → j < N → C (lt i j) s → cmp i j C s) (q : Q a s) : ∀ {t : KasT α}, KGo lt N t a → t.kasWp cmp Q s
  | .ret _, h => by cases h; exact q
  | .ask i j k, h => hc i j _ h.1.1 h.1.2 (KGo.wp hc q (t := k (lt i j)) h.2)

section
variable {lt : Nat → Nat → Bool} {N : Nat}
/-- an order -/
structure LtOk (lt : Nat → Nat → Bool) (N : Nat) : Prop where
  irr : ∀ i, lt i i = false
  tr : ∀ i j k, lt i j = true → lt j k = true → lt i k = true
  tot : ∀ i j, i < N → j < N → i ≠ j → lt i j = false → lt j i = true
/-- a permutation of the first N numbers -/
structure PermN (N : Nat) (p : Array Nat) : Prop where
  size : p.size = N
  lt : ∀ i, i < N → p.getD i 0 < N
  inj : ∀ i j, i < j → j < N → p.getD i 0 ≠ p.getD j 0
theorem PermN.of {p : Array Nat} (h : p.toList.Perm (List.range N)) : PermN N p := by
  have hl : p.size = N := by have := h.length_eq; simpa using this
  have hn : p.toList.Nodup := h.symm.nodup List.nodup_range
  have hg : ∀ i (hi : i < N), p.getD i 0 = p.toList[i]'(by simpa [hl] using hi) := by
    intro i hi
    simp [Array.getD, hl, hi]
  refine ⟨hl, fun i hi => ?_, fun i j hij hj e => ?_⟩
  · rw [hg i hi]
    exact List.mem_range.mp (h.subset (List.getElem_mem _))
  · rw [hg i (by omega), hg j hj] at e
    exact List.pairwise_iff_getElem.mp hn i j (by simp [hl]; omega) (by simp [hl]; omega) hij e
/-- rising in the first k places -/
noncomputable def UpTo (lt : Nat → Nat → Bool) (p : Array Nat) (k : Nat) : Prop := ∀ i j, i < j → j < k → lt (p.getD i 0) (p.getD j 0) = true
theorem upTo_of (O : LtOk lt N) {p : Array Nat} {k : Nat} (h : ∀ i, 1 ≤ i → i < k → lt (p.getD (i - 1) 0) (p.getD i 0) = true) : UpTo lt p k := by
  intro i j hij
  induction j with
  | zero => omega
  | succ j ih =>
    intro hj
    have h1 := h (j + 1) (by omega) hj
    rw [Nat.add_sub_cancel] at h1
    by_cases e : i = j
    · subst e; exact h1
    · exact O.tr _ _ _ (ih (by omega) (by omega)) h1

theorem asc_go (O : LtOk lt N) {p : Array Nat} (P : PermN N p) : ∀ (f n : Nat), 1 ≤ n → n + f ≤ N →
    ∃ m, KGo lt N (kas_asc p f n) m ∧ (n ≤ m ∧ m ≤ n + f) ∧ (∀ i, n ≤ i → i < m → lt (p.getD (i - 1) 0) (p.getD i 0) = true) ∧ (m < n + f → lt (p.getD m 0) (p.getD (m - 1) 0) = true)
  | 0, n, _, _ => ⟨n, rfl, by omega, fun i _ _ => by omega, fun _ => by omega⟩
  | f + 1, n, h1, h2 => by
    have r1 := P.lt n (by omega)
    have r2 := P.lt (n - 1) (by omega)
    cases hc : lt (p.getD n 0) (p.getD (n - 1) 0) with
    | true => exact ⟨n, ⟨⟨r1, r2⟩, by rw [hc]; rfl⟩, by omega, fun i _ _ => by omega, fun _ => hc⟩
    | false =>
      refine ob2 (asc_go O P f (n + 1) (by omega) (by omega)) ?_
      intro m a b c d
      refine ⟨m, ⟨⟨r1, r2⟩, by rw [hc]; exact a⟩, by omega, fun i hi hm => ?_, fun hm => d (by omega)⟩
      by_cases e : i = n
      · subst e
        exact O.tot _ _ r1 r2 (P.inj _ _ (by omega) (by omega)).symm hc
      · exact c i (by omega) hm

theorem desc_go (O : LtOk lt N) {p : Array Nat} (P : PermN N p) : ∀ (f n : Nat), 1 ≤ n → n + f ≤ N →
    ∃ m, KGo lt N (kas_desc f p n 0) (p, m, 0) ∧ (n ≤ m ∧ m ≤ n + f) ∧ (∀ i, n ≤ i → i < m → lt (p.getD i 0) (p.getD (i - 1) 0) = true)
  | 0, n, _, _ => ⟨n, rfl, by omega, fun i _ _ => by omega⟩
  | f + 1, n, h1, h2 => by
    have r1 := P.lt n (by omega)
    have r2 := P.lt (n - 1) (by omega)
    cases hc : lt (p.getD n 0) (p.getD (n - 1) 0) with
    | false =>
      have hd := O.tot _ _ r1 r2 (P.inj _ _ (by omega) (by omega)).symm hc
      refine ⟨n, ⟨⟨r1, r2⟩, ?_⟩, by omega, fun i _ _ => by omega⟩
      rw [hc]
      refine ⟨⟨r2, r1⟩, ?_⟩
      rw [hd]; rfl
    | true =>
      refine ob10 (desc_go O P f (n + 1) (by omega) (by omega)) ?_
      intro m a b c
      refine ⟨m, ⟨⟨r1, r2⟩, by rw [hc]; exact a⟩, by omega, fun i hi hm => ?_⟩
      by_cases e : i = n
      · subst e; exact hc
      · exact c i (by omega) hm

theorem getD_of {p q : Array Nat} {i j : Nat} (h : p[i]? = q[j]?) : p.getD i 0 = q.getD j 0 := by
  rw [Array.getD_eq_getD_getElem?, Array.getD_eq_getD_getElem?, h]

theorem count_go (O : LtOk lt N) {p : Array Nat} (hp : p.toList.Perm (List.range N)) (h2 : 2 ≤ N) :
    ∃ m q, KGo lt N (kas_count N p) (m, q) ∧ q.toList.Perm (List.range N) ∧ (1 ≤ m ∧ m ≤ N) ∧ UpTo lt q m := by
  have P := PermN.of hp
  refine ob2 (asc_go O P (N - 1) 1 (by omega) (by omega)) ?_
  intro n a b c d
  have up : UpTo lt p n := upTo_of O fun i h1 h2 => c i h1 h2
  by_cases e : n = N
  · refine ⟨n, p, KGo.bind a ?_, hp, by omega, up⟩
    rw [if_pos (by simp [e])]; rfl
  · have e' : ¬ ((n == N) = true) := by simp [e]
    by_cases e1 : n > 1
    · refine ⟨n, p, KGo.bind a ?_, hp, by omega, up⟩
      rw [if_neg e', if_pos e1]
      refine ⟨⟨P.lt _ (by omega), P.lt _ (by omega)⟩, ?_⟩
      rw [up 0 (n - 1) (by omega) (by omega)]; rfl
    · have en : n = 1 := by omega
      subst en
      refine ob10 (desc_go O P (N - 2) 2 (by omega) (by omega)) ?_
      intro m a' b' c'
      have hq : (kas_rev p 0 m).toList.Perm (List.range N) := (Array.perm_iff_toList_perm.mp (mirror_perm p 0 m _)).trans hp
      have Pq := PermN.of hq
      have hm : ∀ k, (kas_rev p 0 m).getD k 0 = if k < m then p.getD (m - 1 - k) 0 else p.getD k 0 := by
        intro k
        have := getElem?_mirror_all (xs := p) (i := 0) (j := m) (by rw [P.size]; omega) k
        simp only [Nat.zero_le, true_and, Nat.zero_add] at this
        by_cases hk : k < m
        · rw [if_pos hk] at this ⊢; exact getD_of this
        · rw [if_neg hk] at this ⊢; exact getD_of this
      refine ob2 (asc_go O Pq (N - m) m (by omega) (by omega)) ?_
      intro m' a2 b2 c2 _
      refine ⟨m', kas_rev p 0 m, KGo.bind a ?_, hq, by omega, upTo_of O fun i h1 h2 => ?_⟩
      · rw [if_neg e', if_neg e1]
        refine KGo.bind a' ?_
        dsimp only
        rw [if_neg (by omega)]
        exact KGo.bind a2 rfl
      · by_cases hi : i < m
        · rw [hm, hm, if_pos (by omega), if_pos hi]
          have e3 : m - 1 - (i - 1) = m - i := by omega
          have e4 : m - 1 - i = m - i - 1 := by omega
          rw [e3, e4]
          by_cases e5 : m - i = 1
          · rw [e5]; exact d (by omega)
          · exact c' (m - i) (by omega) (by omega)
        · exact c2 i (by omega) h2

theorem place_go (O : LtOk lt N) {p : Array Nat} (P : PermN N p) {k : Nat} (hk : k < N) : ∀ (f l r : Nat), r - l ≤ f → l ≤ r → r ≤ k → (∀ i, i < l → lt (p.getD i 0) (p.getD k 0) = true) → (∀ i, r ≤ i → i < k → lt (p.getD k 0) (p.getD i 0) = true) →
    UpTo lt p k → ∃ m, KGo lt N (kas_place p k f l r) m ∧ m ≤ k ∧ (∀ i, i < m → lt (p.getD i 0) (p.getD k 0) = true) ∧ (∀ i, m ≤ i → i < k → lt (p.getD k 0) (p.getD i 0) = true)
  | 0, l, r, hf, hlr, hr, h1, h2, _ => ⟨l, rfl, by omega, h1, fun i hi => h2 i (by omega)⟩
  | f + 1, l, r, hf, hlr, hr, h1, h2, U => by
    by_cases e : l ≥ r
    · refine ⟨l, ?_, by omega, h1, fun i hi => h2 i (by omega)⟩
      unfold kas_place; rw [if_pos e]; rfl
    · have q1 := P.lt k hk
      have q2 := P.lt ((l + r) / 2) (by omega)
      unfold kas_place
      rw [if_neg e]
      cases hc : lt (p.getD k 0) (p.getD ((l + r) / 2) 0) with
      | true =>
        obtain ⟨m, a, b⟩ := place_go O P hk f l ((l + r) / 2) (by omega) (by omega) (by omega) h1 (fun i hi hik => by
          by_cases e2 : i = (l + r) / 2
          · subst e2; exact hc
          · exact O.tr _ _ _ hc (U _ _ (by omega) hik)) U
        exact ⟨m, ⟨⟨q1, q2⟩, by rw [hc]; exact a⟩, b⟩
      | false =>
        have hd := O.tot _ _ q1 q2 (P.inj _ _ (by omega) hk).symm hc
        obtain ⟨m, a, b⟩ := place_go O P hk f ((l + r) / 2 + 1) r (by omega) (by omega) hr (fun i hi => by
          by_cases e2 : i = (l + r) / 2
          · subst e2; exact hd
          · exact O.tr _ _ _ (U _ _ (by omega) (by omega)) hd) h2 U
        exact ⟨m, ⟨⟨q1, q2⟩, by rw [hc]; exact a⟩, b⟩

theorem bin_go (O : LtOk lt N) : ∀ (f k : Nat) {p : Array Nat}, p.toList.Perm (List.range N) → k + f = N → UpTo lt p k →
    ∃ q, KGo lt N (kas_bin f p k) q ∧ q.toList.Perm (List.range N) ∧ UpTo lt q N
  | 0, k, p, hp, hk, U => ⟨p, rfl, hp, by rw [show N = k by omega]; exact U⟩
  | f + 1, k, p, hp, hk, U => by
    have P := PermN.of hp
    refine ob2 (place_go O P (by omega : k < N) k 0 k (by omega) (by omega) (Nat.le_refl _) (fun i hi => by omega) (fun i h1 h2 => by omega) U) ?_
    intro m a hm h1 h2
    have hq : (bubble p k (k - m)).toList.Perm (List.range N) := (Array.perm_iff_toList_perm.mp (bubble_perm p k _)).trans hp
    have hg : ∀ i, (bubble p k (k - m)).getD i 0 = if i = m then p.getD k 0 else if m < i ∧ i ≤ k then p.getD (i - 1) 0 else p.getD i 0 := by
      intro i
      have := getElem?_bubble (xs := p) (src := k) (by rw [P.size]; omega) (k - m) (by omega) i
      rw [show k - (k - m) = m by omega] at this
      by_cases e1 : i = m
      · rw [if_pos e1] at this ⊢; exact getD_of this
      · rw [if_neg e1] at this ⊢
        by_cases e2 : m < i ∧ i ≤ k
        · rw [if_pos e2] at this ⊢; exact getD_of this
        · rw [if_neg e2] at this ⊢; exact getD_of this
    have U' : UpTo lt (bubble p k (k - m)) (k + 1) := by
      intro i j hij hj
      rw [hg, hg]
      by_cases ei : i = m
      · rw [if_pos ei, if_neg (by omega), if_pos (by omega)]
        exact h2 _ (by omega) (by omega)
      · rw [if_neg ei]
        by_cases ej : j = m
        · rw [if_pos ej, if_neg (by omega)]
          exact h1 _ (by omega)
        · rw [if_neg ej]
          by_cases e1 : m < i ∧ i ≤ k
          · rw [if_pos e1, if_pos (by omega)]
            exact U _ _ (by omega) (by omega)
          · rw [if_neg e1]
            by_cases e2 : m < j ∧ j ≤ k
            · rw [if_pos e2]; exact U _ _ (by omega) (by omega)
            · rw [if_neg e2]; exact U _ _ (by omega) (by omega)
    refine ob5 (bin_go O f (k + 1) hq (by omega) U') ?_
    intro q b c
    exact ⟨q, KGo.bind a b, c⟩

theorem sort_go (O : LtOk lt N) (h2 : 2 ≤ N) : ∃ q, KGo lt N (kas_sort N) q ∧ q.toList.Perm (List.range N) ∧ UpTo lt q N := by
  refine ob9 (count_go O (p := List.toArray (List.range N)) (List.Perm.refl _) h2) ?_
  intro m p a hp hm U
  by_cases e : m < N
  · obtain ⟨q, b, c⟩ := bin_go O (N - max m 1) (max m 1) hp (by omega) (by rw [show max m 1 = m by omega]; exact U)
    refine ⟨q, KGo.bind a ?_, c⟩
    rw [if_pos e]; exact b
  · refine ⟨p, KGo.bind a ?_, hp, by rw [show N = m by omega]; exact U⟩
    rw [if_neg e]; rfl
end
end Mine.Internal
end

section
set_option linter.unusedVariables false
set_option linter.unusedSimpArgs false
namespace Mine.Internal
open PySem PySem.W PyProof.Rows

section
variable {prog : Program} {w : World} {A : Around} {E : Value → Shared → Prop} {s : Shared}
/-- the heap while a list is sorted -/
noncomputable def midHeap (h : Heap) (a : Addr) (vs : List Value) : Heap := ((h.update a (Obj.mapSeq fun _ => #[])).push (seqObj "tuple" vs.toArray 0)).push (seqObj "list" #[] 0)
theorem outs_eq {vs : List Value} : (List.range vs.length).map (fun i => vs.getD i Value.none) = vs := by
  apply List.ext_getElem?
  intro i
  rw [List.getElem?_map]
  by_cases h : i < vs.length
  · simp [h, List.getD]
  · simp [h]
theorem list_sort_go {a : Addr} {vs : List Value} {n : Nat} {P : PySem.Fin → Shared → Prop} {κ : SortKind} {lt : Nat → Nat → Bool} (ho : s.heap.get? a = some (seqObj "list" vs.toArray n)) (h64 : vs.length < 64) (O : LtOk lt vs.length)
    (hk : 2 ≤ vs.length → ∀ {E : Value → Shared → Prop} (Q : SortKind → Shared → Prop), Q κ { s with heap := midHeap s.heap a vs } → wpAny (model prog w) A (keyKind' vs.toArray) Q E { s with heap := midHeap s.heap a vs })
    (hc : ∀ i j C, i < vs.length → j < vs.length → C (lt i j) { s with heap := midHeap s.heap a vs } → kas_ask prog w A κ vs i j C { s with heap := midHeap s.heap a vs })
    (h : ∀ q : Array Nat, q.toList.Perm (List.range vs.length) → UpTo lt q vs.length → P (.done (.ret .none)) { s with heap := sortedHeap s.heap a vs (List.toArray (q.toList.map fun i => vs.getD i Value.none)) }) :
    wpAny (model prog w) A (Builtin.«list.sort» ⟨[.ref a], []⟩) P E s := by
  rw [list_sort_plain]
  have ha : a < s.heap.objs.size := Heap.lt_size ho
  refine wpAny_bind (listItems_at ho rfl ?_)
  refine wpAny_bind (listUpdate_at ho rfl ?_ (by rw [List.size_toArray, sizeLine_eq]; omega) (Nat.zero_le _))
  obtain ⟨e1, ho1⟩ : ∃ e1, (s.heap.update a (Obj.mapSeq fun _ => #[])).get? a = some (seqObj "list" #[] e1) := ⟨_, get?_update_seq ho (fun _ => #[])⟩
  refine wpAny_bind (seqEpoch_at ho1 rfl ?_)
  refine wpAny_bind (wpAny_newTuple ?_ (by show vs.length ≤ _; rw [sizeLine_eq]; omega))
  refine wpAny_bind (wpAny_newList ?_ (Nat.zero_le _))
  refine wpAny_holding ?_
  have ho6 : (midHeap s.heap a vs).get? a = some (seqObj "list" #[] e1) := by
    unfold midHeap
    rw [Heap.get?_push_ne _ _ _ (by rw [size_push', Heap.size_update]; exact Nat.ne_of_lt (Nat.lt_succ_of_lt ha)), Heap.get?_push_ne _ _ _ (by rw [Heap.size_update]; exact Nat.ne_of_lt ha)]
    exact ho1
  show wpAny (model prog w) A _ P E { s with heap := midHeap s.heap a vs }
  dsimp only
  by_cases h2 : vs.toArray.size < 2
  · rw [if_pos h2, if_pos h2]
    refine wpAny_bind (wpAny_pure ?_)
    rw [StateT.run_pure]
    refine wpAny_bind (wpAny_pure ?_)
    dsimp only
    have hz : vs.length < 2 := by simpa using h2
    have e0 : (arrOf (SortSt.mk' general' (vs.toArray.zip vs.toArray) #[] 7 none)).map (·.2) = List.toArray ((List.toArray (List.range vs.length)).toList.map fun i => vs.getD i Value.none) := by
      show (vs.toArray.zip vs.toArray).map (·.2) = _
      rw [show (List.toArray (List.range vs.length)).toList = List.range vs.length from rfl, outs_eq]
      apply Array.toList_inj.mp
      rw [Array.toList_map, Array.toList_zip]
      exact List.map_snd_zip (Nat.le_refl _)
    rw [e0]
    refine wpAny_bind (seqEpoch_at ho6 rfl ?_)
    refine wpAny_bind (listUpdate_at ho6 rfl ?_ (Nat.zero_le _) (by rw [List.size_toArray, List.length_map, sizeLine_eq]; simp; omega))
    show wpAny _ _ (do
      if let some e := failedOf (SortSt.mk' general' (vs.toArray.zip vs.toArray) #[] 7 none) then rule "list.sort.comparison-raised"; throw e
      if (e1 != e1) = true then rule "list.sort.modified"; raiseError "ValueError" "list modified during sort"
      ret .none) _ _ _
    simp only [bne_self_eq_false, Bool.false_eq_true, if_false]
    exact wpAny_pure (h (List.toArray (List.range vs.length)) (List.Perm.refl _) fun i j hij hj => by omega)
  · rw [if_neg h2, if_neg h2]
    have hz : 2 ≤ vs.length := by
      have : ¬ vs.length < 2 := by simpa using h2
      omega
    refine wpAny_bind (hk hz _ ?_)
    refine ob10 (sort_go O hz) ?_
    intro q g hp U
    refine wpAny_bind (wpAny_mono (kat_run (s := { s with heap := midHeap s.heap a vs }) (Q := fun st' s' => s' = { s with heap := midHeap s.heap a vs } ∧ arrOf st' = q.map (kas_item (vs.toArray.zip vs.toArray)) ∧ failedOf st' = none)
      (G := fun p s' => s' = { s with heap := midHeap s.heap a vs } ∧ p = q) rfl hz h64 (fun p' st' s' a1 a2 a3 a4 => ⟨a4.1, by rw [a2, a4.2], a3⟩) (KGo.wp hc ⟨rfl, rfl⟩ g)) ?_ fun _ _ e => e)
    intro zz6
    obtain ⟨⟨⟩, st'⟩ := zz6
    intro s' zz7
    refine ob22 zz7 ?_
    clear zz7
    intro ee53
    subst ee53
    intro har hf
    dsimp only
    rw [kat_snds rfl har]
    refine wpAny_bind (seqEpoch_at ho6 rfl ?_)
    have hql : q.toList.length = vs.length := by rw [hp.length_eq, List.length_range]
    refine wpAny_bind (listUpdate_at ho6 rfl ?_ (Nat.zero_le _) (by rw [List.size_toArray, List.length_map, hql, sizeLine_eq]; omega))
    rw [hf]
    simp only [bne_self_eq_false, Bool.false_eq_true, if_false]
    exact wpAny_pure (h q hp U)

/-- a tuple of two ints -/
noncomputable def TupAt (h : Heap) (v : Value) (p : Int × Int) : Prop := ∃ b t u m, v = .ref b ∧ h.get? b = some (seqObj "tuple" #[.int p.1 t, .int p.2 u] m)
noncomputable def lexB (p q : Int × Int) : Bool := decide (p.1 < q.1) || (p.1 == q.1 && decide (p.2 < q.2))
theorem lexB_iff {p q : Int × Int} : lexB p q = true ↔ lexLt p q := by simp [lexB, lexLt]
theorem tup_lt {v y : Value} {p q : Int × Int} {C : Bool → Shared → Prop} (hv : TupAt s.heap v p) (hw : TupAt s.heap y q) (h : C (lexB p q) s) : wpAny (model prog w) A (keyLt' (tuples' true) v y) C E s := by
  refine lift fun gg back => ?_
  obtain ⟨b, t, u, m, rfl, hb⟩ := hv
  obtain ⟨b', t', u', m', rfl, hb'⟩ := hw
  refine back ?_
  clear back gg
  refine kat_lt hb rfl hb' rfl (kat_cons (wpAny_eqBool_int (kat_go (fun e => kat_yes (kat_cons (wpAny_eqBool_int (kat_go (fun e2 => kat_yes (kat_nil ?_)) fun e2 => kat_no (kat_one _ _ (PyProof.Rows.lt_int ?_)))))) fun e => kat_no (oneLt_int ?_))))
  · have : lexB p q = false := by simp only [beq_iff_eq] at e e2; simp [lexB, e, e2]
    rw [this] at h; exact h
  · have : lexB p q = decide (p.2 < q.2) := by simp only [beq_iff_eq] at e; simp [lexB, e]
    rw [this] at h; exact h
  · have : lexB p q = decide (p.1 < q.1) := by simp only [lexB, e, Bool.false_and, Bool.or_false]
    rw [this] at h; exact h

theorem tups_kat {h : Heap} : ∀ {vs : List Value} {ps : List (Int × Int)}, vs.length = ps.length → (∀ i, i < ps.length → TupAt h (vs.getD i Value.none) (ps.getD i (0, 0))) →
    ∃ fs, KatTups h vs fs ∧ fs.length = vs.length ∧ ∀ v ∈ fs, ∃ i t, v = .int i t
  | [], [], _, _ => ⟨[], .nil, rfl, by simp⟩
  | [], _ :: _, e, _ => by simp at e
  | _ :: _, [], e, _ => by simp at e
  | v :: vs, p :: ps, e, h => by
    obtain ⟨fs, h1, h2, h3⟩ := tups_kat (vs := vs) (ps := ps) (by simpa using e) (fun i hi => by have := h (i + 1) (by simp; omega); simpa using this)
    refine lift fun gg back => ?_
    obtain ⟨b, t, u, m, e', hb⟩ := h 0 (by simp)
    refine back ?_
    clear back gg
    simp only [List.getD_cons_zero] at e' hb
    subst e'
    refine ⟨.int p.1 t :: fs, .cons hb rfl rfl rfl h1, by simp [h2], ?_⟩
    intro v hv
    rcases List.mem_cons.mp hv with rfl | hv
    · exact ⟨_, _, rfl⟩
    · exact h3 v hv

theorem lex_ok {ps : List (Int × Int)} (hn : ps.Nodup) : LtOk (fun i j => lexB (ps.getD i (0, 0)) (ps.getD j (0, 0))) ps.length := by
  refine ⟨fun i => ?_, fun i j k h1 h2 => ?_, fun i j hi hj hij h => ?_⟩
  · simp [lexB]
  · rw [lexB_iff] at *
    unfold lexLt at *
    omega
  · rw [lexB_iff]
    have h' : ¬ lexLt (ps.getD i (0, 0)) (ps.getD j (0, 0)) := fun x => by rw [lexB_iff.mpr x] at h; cases h
    have hne : ps.getD i (0, 0) ≠ ps.getD j (0, 0) := by
      rw [List.getD_eq_getElem?_getD, List.getD_eq_getElem?_getD, List.getElem?_eq_getElem hi, List.getElem?_eq_getElem hj]
      simp only [Option.getD_some]
      have hp := List.pairwise_iff_getElem.mp hn
      rcases Nat.lt_or_gt_of_ne hij with q | q
      · exact hp i j hi hj q
      · exact (hp j i hj hi q).symm
    generalize ps.getD i (0, 0) = a at *
    generalize ps.getD j (0, 0) = b at *
    refine lift fun gg back => ?_
    obtain ⟨a1, a2⟩ := a
    obtain ⟨b1, b2⟩ := b
    refine back ?_
    clear back gg
    unfold lexLt at *
    simp only [ne_eq, Prod.mk.injEq] at *
    omega

theorem midHeap_old {h : Heap} {a b : Addr} {vs : List Value} {o : Obj} (hb : h.get? b = some o) (hba : b ≠ a) : (midHeap h a vs).get? b = some o := by
  unfold midHeap
  refine push_keeps _ _ (push_keeps _ _ ?_)
  rw [Heap.get?_update_ne _ _ _ _ hba]; exact hb

theorem sorted_pairs {l : Addr} {vs : List Value} {ps : List (Int × Int)} {Q : Value → Shared → Prop} (hl : s.heap.IsList l vs.toArray) (e : vs.length = ps.length) (hP : ∀ i, i < ps.length → TupAt s.heap (vs.getD i Value.none) (ps.getD i (0, 0)))
    (hn : ps.Nodup) (h64 : ps.length < 64)
    (h : ∀ q : Array Nat, q.toList.Perm (List.range ps.length) → (q.toList.map fun i => ps.getD i (0, 0)).Pairwise lexLt → Q (.ref (s.heap.objs.size + 1)) { s with heap := sortedAll s.heap vs (List.toArray (q.toList.map fun i => vs.getD i Value.none)) }) :
    wpAny (model prog w) A (call (.builtin "sorted") [.ref l]) Q E s := by
  refine Calls.call_function_entry kind_sorted plain_sorted entry_sorted (args_sorted1 _) ?_
  unfold Builtin.«sorted»
  refine wpAny_bind (m := checkCount "sorted" 1 1 _) (wpAny_pure ?_)
  refine wpAny_bind (collect_list hl ?_ (by rw [sizeLine_eq]; omega))
  refine wpAny_bind (wpAny_newList ?_ (by rw [sizeLine_eq]; omega))
  have hsz : ((s.heap.push (seqObj "list" #[] 0)).update s.heap.objs.size (Obj.mapSeq (· ++ vs.toArray))).objs.size = s.heap.objs.size + 1 := by
    rw [Heap.size_update, size_push']
  have hoL : (((s.heap.push (seqObj "list" #[] 0)).update s.heap.objs.size (Obj.mapSeq (· ++ vs.toArray))).push (seqObj "list" vs.toArray 0)).get? (s.heap.objs.size + 1) = some (seqObj "list" vs.toArray 0) := by
    rw [← hsz]; exact Heap.get?_push_size _ rfl
  have keep : ∀ b o, s.heap.get? b = some o → (((s.heap.push (seqObj "list" #[] 0)).update s.heap.objs.size (Obj.mapSeq (· ++ vs.toArray))).push (seqObj "list" vs.toArray 0)).get? b = some o := fun b o q => by
    have hlt : b < s.heap.objs.size := Heap.lt_size q
    rw [Heap.get?_push_ne _ _ _ (by rw [hsz]; exact Nat.ne_of_lt (Nat.lt_succ_of_lt hlt)), Heap.get?_update_ne _ _ _ _ (Nat.ne_of_lt hlt), Heap.get?_push_ne _ _ _ (Nat.ne_of_lt hlt)]
    exact q
  show wpAny _ _ _ _ _ { s with heap := ((s.heap.push (seqObj "list" #[] 0)).update s.heap.objs.size (Obj.mapSeq (· ++ vs.toArray))).push (seqObj "list" vs.toArray 0) }
  rw [hsz]
  generalize hH : ((s.heap.push (seqObj "list" #[] 0)).update s.heap.objs.size (Obj.mapSeq (· ++ vs.toArray))).push (seqObj "list" vs.toArray 0) = H at *
  have hT : ∀ i, i < ps.length → TupAt (midHeap H (s.heap.objs.size + 1) vs) (vs.getD i Value.none) (ps.getD i (0, 0)) := fun i hi => by
    refine lift fun gg back => ?_
    obtain ⟨b, t, u, m, e1, e2⟩ := hP i hi
    refine back ?_
    clear back gg
    exact ⟨b, t, u, m, e1, midHeap_old (keep _ _ e2) (Nat.ne_of_lt (Nat.lt_succ_of_lt (Heap.lt_size e2)))⟩
  have O := lex_ok hn
  rw [← e] at O
  refine wpAny_bind (wpAny_holding (wpAny_call_entry slot_list_sort ⟨_, hoL, rfl⟩ entry_list_sort (list_sort_go (s := { s with heap := H }) (κ := tuples' true) hoL (by omega) O (fun h2 E' Q' q => ?_) (fun i j C hi hj q => ?_) fun q hp U => ⟨_, rfl, ?_⟩) (args_list_sort _)))
  · refine ob10 (tups_kat e hT) ?_
    intro fs k1 k2 k3
    refine kat_kind (T := .type "int") k1 (by omega) (fun v hv => ?_) (by decide) q
    refine ob14 (k3 v hv) ?_
    intro i t ee54
    subst ee54
    exact .now
  · exact tup_lt (hT i (by omega)) (hT j (by omega)) q
  · refine wpAny_pure ⟨_, rfl, ?_⟩
    have := h q (by rw [← e]; exact hp) (by
      refine List.pairwise_iff_getElem.mpr fun i j hi hj hij => ?_
      rw [List.getElem_map, List.getElem_map]
      have hql : q.toList.length = vs.length := by rw [hp.length_eq, List.length_range]
      have hi' : i < q.size := by simpa using hi
      have hj' : j < q.size := by simpa using hj
      have := U i j hij (by rw [← hql]; simpa using hj)
      rw [lexB_iff] at this
      simpa [Array.getD, hi', hj'] using this)
    unfold sortedAll at this
    rw [hH] at this
    exact this
end

section
variable {C : Cx} {A : Around} {E : Value → Shared → Prop} {σ : Store} {s : Shared} {Q : V → Store → Prop}
theorem pairs_get {ps : List (Int × Int)} : (List.range ps.length).map (fun i => ps.getD i (0, 0)) = ps := by
  apply List.ext_getElem?
  intro i
  rw [List.getElem?_map]
  by_cases h : i < ps.length
  · simp [h, List.getD]
  · simp [h]
theorem vrs_map {h : Heap} {f : Nat → V} {g : Nat → Value} : ∀ {l : List Nat}, (∀ i ∈ l, VR h (f i) (g i)) → VRs h (l.map f) (l.map g)
  | [], _ => .nil
  | i :: l, k => .cons (k i (.head _)) (vrs_map fun j hj => k j (.tail _ hj))
theorem tupAt_of {h : Heap} {p : Int × Int} {x : Value} (v : VR h (pr p) x) : TupAt h x p := by
  refine ob13 v.tup_of ?_
  intro a xs n ee55
  subst ee55
  intro ha hX
  cases hX with
  | cons v1 hX =>
    cases hX with
    | cons v2 hX =>
      cases hX
      refine ob6 v1.int_of ?_
      intro t ee56
      subst ee56
      refine ob6 v2.int_of ?_
      intro u ee57
      subst ee57
      exact ⟨a, t, u, n, rfl, ha⟩
theorem sortedP_ok {a : Addr} {vs : List V} (r : Rel C σ s.heap) (ha : σ a = some (.list vs)) (q : sortP vs fun ws => Mine.Internal.alloc σ (.list ws) Q) : wpAny C.M A (call (.builtin "sorted") [.ref a]) (PostV C σ s Q) E s := by
  refine lift fun gg back => ?_
  obtain ⟨ps, ⟨rfl, hn, h64⟩, q⟩ := q
  refine ob3 (r.list ha) ?_
  intro xs n hL hX _
  refine back ?_
  clear back gg
  have e : xs.length = ps.length := by have := hX.length; simpa using this.symm
  have hV : ∀ i, i < ps.length → VR s.heap (pr (ps.getD i (0, 0))) (xs.getD i Value.none) := fun i hi => by
    obtain ⟨b, h1, h2⟩ := hX.get (i := i) (a := pr (ps.getD i (0, 0))) (by rw [List.getElem?_map, List.getD_eq_getElem?_getD, List.getElem?_eq_getElem hi]; rfl)
    rw [List.getD_eq_getElem?_getD (l := xs), h1]; exact h2
  refine sorted_pairs hL.isList e (fun i hi => tupAt_of (hV i hi)) hn h64 fun p hp hs => ?_
  have hq := q _ (by have := hp.map fun i => ps.getD i (0, 0); rw [pairs_get] at this; exact this) hs
  refine ob6 (sortedAll_at s.heap xs (List.toArray (p.toList.map fun i => xs.getD i Value.none))) ?_
  intro c hc
  refine new_list (s := s) (h' := sortedAll s.heap xs (List.toArray (p.toList.map fun i => xs.getD i Value.none))) (xs := p.toList.map fun i => xs.getD i Value.none) (n := c) (t := s.toks) r hq (fun b ob hb => sortedAll_old hb) ?_ (Nat.le_succ _) hc ?_ ?_
  · unfold sortedAll sortedHeap
    simp only [Heap.size_update, Heap.size_push]; omega
  · rw [List.map_map]
    exact vrs_map fun i hi => hV i (List.mem_range.mp (hp.subset hi))
  · have := hp.length_eq
    rw [List.length_range] at this
    rw [List.length_map, List.length_map, this]
    unfold szLim; omega
end
end Mine.Internal
end

section
set_option linter.unusedVariables false
set_option maxRecDepth 100000
namespace Mine.Internal
open PySem PySem.W PySem.Calls PyProof.Rows
section
variable {C : Cx} {A : Around} {E : Value → Shared → Prop} {σ : Store} {s : Shared} {Q : V → Store → Prop}

theorem ints_get' : ∀ {vs : List V} {ns : List Int}, ints? vs = some ns → vs = ns.map V.int
  | [], bs, e => by simp [ints?] at e; subst e; rfl
  | .int b :: r, bs, e => by
    simp only [ints?, Option.map_eq_some_iff] at e
    refine ob5 e ?_
    clear e
    intro bs' e1 ee58
    subst ee58
    rw [ints_get' e1]; rfl
  | .none :: _, _, e | .bool _ :: _, _, e | .str _ :: _, _, e | .tup _ :: _, _, e | .ref _ :: _, _, e => by simp [ints?] at e
theorem onSrc_elim {md : Bool} {v : V} {K : List V → Prop} (h : onSrc md σ v K) : ∃ a vs, v = .ref a ∧ K vs ∧ σ a = some (.list vs) := by
  unfold onSrc at h
  cases v with
  | ref a =>
    dsimp only at h
    split at h
    · exact ⟨_, _, rfl, h, by assumption⟩
    · exact h.elim
  | _ => exact h.elim
theorem sortedV_elim {vs ws : List V} (h : sortedV vs = some ws) : ∃ ns, ints? vs = some ns ∧ vs.length < 64 ∧ ws = (ns.mergeSort (fun a b => decide (a ≤ b))).map V.int := by
  unfold sortedV at h
  split at h
  · split at h
    · cases h; exact ⟨_, by assumption, by assumption, rfl⟩
    · cases h
  · cases h
theorem sorted_ok {md : Bool} {u : V} {x : Value} (hl : C.base.NoLimit) (hh : md = true → A.handled = none) (r : Rel C σ s.heap) (hu : VR s.heap u x) (q : b1V md .sorted u σ Q) :
    wpAny C.M A (call (.builtin "sorted") [x]) (PostV C σ s Q) E s := by
  rcases q with q | q
  · refine lift fun gg back => ?_
    refine ob3 (onSrc_elim q) ?_
    intro a vs ee59
    subst ee59
    intro q ha
    refine ob5 (onSome_elim q) ?_
    intro ws hw q
    refine ob10 (sortedV_elim hw) ?_
    intro ns h1 h2 ee60
    subst ee60
    cases hu.ref_of
    refine back ?_
    clear back gg
    exact sortedL_ok r ha h1 h2 q
  · refine lift fun gg back => ?_
    refine ob3 (onList_elim q) ?_
    intro a vs ee61
    subst ee61
    intro ha q
    cases hu.ref_of
    refine back ?_
    clear back gg
    exact sortedP_ok r ha q
end
end Mine.Internal
end

section
set_option linter.unusedVariables false
set_option maxRecDepth 100000
namespace Mine.Internal
open PySem PySem.W PySem.Calls PyProof.Rows
section
variable {C : Cx} {A : Around} {E : Value → Shared → Prop} {σ : Store} {s : Shared} {Q : V → Store → Prop}

theorem keysOf_elim : ∀ {vs : List V} {ks : List V}, keysOf vs = some ks → vs = ks.map fun k => V.tup [k, .bool true]
  | [], ks, e => by cases e; rfl
  | v :: r, ks, e => by
    unfold keysOf at e
    split at e
    · cases ‹_ = []›
    · rename_i k r' heq
      cases heq
      refine ob5 (Option.map_eq_some_iff.mp e) ?_
      intro ks' e1 ee62
      subst ee62
      rw [keysOf_elim e1]; rfl
    · cases e
theorem VRs.key {h : Heap} {ns : List Int} {xs : List Value} (r : VRs h (ns.map fun n => V.tup [.int n, .bool true]) xs) {i : Nat} (hi : i < ns.length) : ∃ a t m, xs[i]? = some (.ref a) ∧ h.get? a = some (seqObj "tuple" [Value.int ns[i] t, Value.bool true].toArray m) := by
  refine ob5 (r.get (i := i) (a := .tup [.int ns[i], .bool true]) (by simp [hi])) ?_
  intro x hx hv
  refine ob13 hv.tup_of ?_
  intro a ys m ee63
  subst ee63
  intro ha hY
  cases hY with | cons p q => cases q with | cons p2 q => cases q with | nil =>
  refine lift fun gg back => ?_
  refine ob6 p.int_of ?_
  intro t ee64
  subst ee64
  cases p2.bool_of
  refine back ?_
  clear back gg
  exact ⟨a, t, m, hx, ha⟩

end
end Mine.Internal
end

section
set_option linter.unusedVariables false
namespace Mine.Internal
open PySem PySem.W PySem.Calls PyProof.Rows

/-- a block's names, and the numbers of its variables -/
structure Sc where
  names : List (Str × NameKind)
  nm : List (String × Nat)
  size : Nat

noncomputable def Sc.var (S : Sc) (id : Str) (i : Nat) : Bool :=
  S.nm.any (fun p => decide (Str.ofString p.1 = id) && decide (S.nm.lookup p.1 = some i)) &&
  (S.names.lookup id == some .local || S.names.lookup id == some .cell || S.names.lookup id == some .free) && !(id == ("__debug__" : Str)) && !(id == ("__classdict__" : Str))
/-- a name that may be bound here -/
noncomputable def Sc.own (S : Sc) (id : Str) (i : Nat) : Bool :=
  S.nm.any (fun p => decide (Str.ofString p.1 = id) && decide (S.nm.lookup p.1 = some i)) && (S.names.lookup id == some .local || S.names.lookup id == some .cell)
noncomputable def Sc.glb (S : Sc) (id : Str) (x : String) : Bool := decide (id = Str.ofString x) && S.names.lookup id == some .globalImplicit && !(id == ("__debug__" : Str))

noncomputable def plainBase : Expr → Bool
  | .Call (.Name _ _) [] [] _ => false
  | _ => true
noncomputable def b1Name : B1 → String
  | .len => "len" | .list => "list" | .sorted => "sorted" | .int => "int" | .all => "all" | .any => "any" | .tuple => "tuple" | .dict => "dict" | .set => "set" | .max => "max"
noncomputable def m0Name : M0 → String
  | .pop => "pop" | .clear => "clear" | .reverse => "reverse"
noncomputable def m1Name : M1 → String
  | .append => "append" | .extend => "extend" | .remove => "remove"
noncomputable def tyName : Ty → String
  | .int => "int" | .bool => "bool" | .tuple => "tuple" | .list => "list" | .str => "str" | .cls c => c

noncomputable def tyOk : Ty → Bool
  | .cls c => decide (c ∈ "ValueError" :: "NetError" :: excNames)
  | _ => true
noncomputable def relN (out names : List (Str × NameKind)) : List (Str × NameKind) := names.map fun (n, k) => if k == .free && out.lookup n == some .cell then (n, .cell) else (n, k)
noncomputable def compSc (S : Sc) (bs : List (String × Nat)) (names : List (Str × NameKind)) : Sc := ⟨relN S.names names, bs ++ S.nm, S.size⟩

/-- what a comprehension's block may have -/
noncomputable def compOk (S : Sc) (bs : List (String × Nat)) (scope : Scope) : Bool :=
  scope.kind == .function && decide ((scope.names.map (·.1)).Nodup) &&
  scope.names.all (fun (n, k) => match k with
    | .local => decide (n = (".0" : Str)) || bs.any fun p => decide (Str.ofString p.1 = n)
    | .free => S.names.lookup n == some .cell || S.names.lookup n == some .free
    | .globalImplicit => true
    | _ => false) &&
  (bs ++ S.nm).all (fun q => decide (Str.ofString q.1 ≠ (".0" : Str))) && decide ((bs.map (·.1)).Nodup) && decide ((bs.map (·.2)).Nodup) && bs.all fun p => scope.names.lookup (Str.ofString p.1) == some .local && decide (p.2 < S.size) && S.nm.all fun q => q.2 != p.2


noncomputable def cM (x : Expr) (k : Const → Bool) : Bool := match x with | .Constant c _ _ => k c | _ => false
@[elab_as_elim] theorem cME {P : Expr → Prop} {x : Expr} {k : Const → Bool} (h : cM x k = true) (g : ∀ c kk p, k c = true → P (.Constant c kk p)) : P x := by
  cases x <;> first | exact absurd h Bool.false_ne_true | exact g _ _ _ h
noncomputable def nmM (x : Expr) (k : Str → Bool) : Bool := match x with | .Name id _ => k id | _ => false
@[elab_as_elim] theorem nmME {P : Expr → Prop} {x : Expr} {k : Str → Bool} (h : nmM x k = true) (g : ∀ id p, k id = true → P (.Name id p)) : P x := by
  cases x <;> first | exact absurd h Bool.false_ne_true | exact g _ _ h
noncomputable def biM (x : Expr) (k : Expr → Operator → Expr → Bool) : Bool := match x with | .BinOp l op r _ => k l op r | _ => false
@[elab_as_elim] theorem biME {P : Expr → Prop} {x : Expr} {k : Expr → Operator → Expr → Bool} (h : biM x k = true) (g : ∀ l op r p, k l op r = true → P (.BinOp l op r p)) : P x := by
  cases x <;> first | exact absurd h Bool.false_ne_true | exact g _ _ _ _ h
noncomputable def unM (x : Expr) (k : UnaryOp → Expr → Bool) : Bool := match x with | .UnaryOp op l _ => k op l | _ => false
@[elab_as_elim] theorem unME {P : Expr → Prop} {x : Expr} {k : UnaryOp → Expr → Bool} (h : unM x k = true) (g : ∀ op l p, k op l = true → P (.UnaryOp op l p)) : P x := by
  cases x <;> first | exact absurd h Bool.false_ne_true | exact g _ _ _ h
noncomputable def cpM (x : Expr) (k : Expr → (List CmpOp) → (List Expr) → Bool) : Bool := match x with | .Compare l ops rs _ => k l ops rs | _ => false
@[elab_as_elim] theorem cpME {P : Expr → Prop} {x : Expr} {k : Expr → (List CmpOp) → (List Expr) → Bool} (h : cpM x k = true) (g : ∀ l ops rs p, k l ops rs = true → P (.Compare l ops rs p)) : P x := by
  cases x <;> first | exact absurd h Bool.false_ne_true | exact g _ _ _ _ h
noncomputable def boM (x : Expr) (k : BoolOp → (List Expr) → Bool) : Bool := match x with | .BoolOp op xs _ => k op xs | _ => false
@[elab_as_elim] theorem boME {P : Expr → Prop} {x : Expr} {k : BoolOp → (List Expr) → Bool} (h : boM x k = true) (g : ∀ op xs p, k op xs = true → P (.BoolOp op xs p)) : P x := by
  cases x <;> first | exact absurd h Bool.false_ne_true | exact g _ _ _ h
noncomputable def caM (x : Expr) (k : Expr → (List Expr) → (List Keyword) → Pos → Bool) : Bool := match x with | .Call f xs ks p => k f xs ks p | _ => false
@[elab_as_elim] theorem caME {P : Expr → Prop} {x : Expr} {k : Expr → (List Expr) → (List Keyword) → Pos → Bool} (h : caM x k = true) (g : ∀ f xs ks p, k f xs ks p = true → P (.Call f xs ks p)) : P x := by
  cases x <;> first | exact absurd h Bool.false_ne_true | exact g _ _ _ _ h
noncomputable def atM (x : Expr) (k : Expr → Str → Pos → Bool) : Bool := match x with | .Attribute y id p => k y id p | _ => false
@[elab_as_elim] theorem atME {P : Expr → Prop} {x : Expr} {k : Expr → Str → Pos → Bool} (h : atM x k = true) (g : ∀ y id p, k y id p = true → P (.Attribute y id p)) : P x := by
  cases x <;> first | exact absurd h Bool.false_ne_true | exact g _ _ _ h
noncomputable def suM (x : Expr) (k : Expr → Expr → Bool) : Bool := match x with | .Subscript y z _ => k y z | _ => false
@[elab_as_elim] theorem suME {P : Expr → Prop} {x : Expr} {k : Expr → Expr → Bool} (h : suM x k = true) (g : ∀ y z p, k y z = true → P (.Subscript y z p)) : P x := by
  cases x <;> first | exact absurd h Bool.false_ne_true | exact g _ _ _ h
noncomputable def slM (x : Expr) (k : (Option Expr) → (Option Expr) → (Option Expr) → Bool) : Bool := match x with | .Slice l u st _ => k l u st | _ => false
@[elab_as_elim] theorem slME {P : Expr → Prop} {x : Expr} {k : (Option Expr) → (Option Expr) → (Option Expr) → Bool} (h : slM x k = true) (g : ∀ l u st p, k l u st = true → P (.Slice l u st p)) : P x := by
  cases x <;> first | exact absurd h Bool.false_ne_true | exact g _ _ _ _ h
noncomputable def liM (x : Expr) (k : (List Expr) → Bool) : Bool := match x with | .List xs _ => k xs | _ => false
@[elab_as_elim] theorem liME {P : Expr → Prop} {x : Expr} {k : (List Expr) → Bool} (h : liM x k = true) (g : ∀ xs p, k xs = true → P (.List xs p)) : P x := by
  cases x <;> first | exact absurd h Bool.false_ne_true | exact g _ _ h
noncomputable def tuM (x : Expr) (k : (List Expr) → Bool) : Bool := match x with | .Tuple xs _ _ => k xs | _ => false
@[elab_as_elim] theorem tuME {P : Expr → Prop} {x : Expr} {k : (List Expr) → Bool} (h : tuM x k = true) (g : ∀ xs kk p, k xs = true → P (.Tuple xs kk p)) : P x := by
  cases x <;> first | exact absurd h Bool.false_ne_true | exact g _ _ _ h
noncomputable def diM (x : Expr) (k : (List (Option Expr)) → (List Expr) → Bool) : Bool := match x with | .Dict ks vs _ => k ks vs | _ => false
@[elab_as_elim] theorem diME {P : Expr → Prop} {x : Expr} {k : (List (Option Expr)) → (List Expr) → Bool} (h : diM x k = true) (g : ∀ ks vs p, k ks vs = true → P (.Dict ks vs p)) : P x := by
  cases x <;> first | exact absurd h Bool.false_ne_true | exact g _ _ _ h
noncomputable def lcM (x : Expr) (k : Expr → (List Comprehension) → Scope → Bool) : Bool := match x with | .ListComp y gs sc _ => k y gs sc | _ => false
@[elab_as_elim] theorem lcME {P : Expr → Prop} {x : Expr} {k : Expr → (List Comprehension) → Scope → Bool} (h : lcM x k = true) (g : ∀ y gs sc p, k y gs sc = true → P (.ListComp y gs sc p)) : P x := by
  cases x <;> first | exact absurd h Bool.false_ne_true | exact g _ _ _ _ h
noncomputable def sxM (x : Stmt) (k : Expr → Bool) : Bool := match x with | .Expr e _ => k e | _ => false
@[elab_as_elim] theorem sxME {P : Stmt → Prop} {x : Stmt} {k : Expr → Bool} (h : sxM x k = true) (g : ∀ e p, k e = true → P (.Expr e p)) : P x := by
  cases x <;> first | exact absurd h Bool.false_ne_true | exact g _ _ h
noncomputable def sasM (x : Stmt) (k : (List Expr) → Expr → Bool) : Bool := match x with | .Assign ts e _ => k ts e | _ => false
@[elab_as_elim] theorem sasME {P : Stmt → Prop} {x : Stmt} {k : (List Expr) → Expr → Bool} (h : sasM x k = true) (g : ∀ ts e p, k ts e = true → P (.Assign ts e p)) : P x := by
  cases x <;> first | exact absurd h Bool.false_ne_true | exact g _ _ _ h
noncomputable def sreM (x : Stmt) (k : (Option Expr) → Bool) : Bool := match x with | .Return e _ => k e | _ => false
@[elab_as_elim] theorem sreME {P : Stmt → Prop} {x : Stmt} {k : (Option Expr) → Bool} (h : sreM x k = true) (g : ∀ e p, k e = true → P (.Return e p)) : P x := by
  cases x <;> first | exact absurd h Bool.false_ne_true | exact g _ _ h
noncomputable def spaM (x : Stmt) (k : Bool) : Bool := match x with | .Pass _ => k | _ => false
@[elab_as_elim] theorem spaME {P : Stmt → Prop} {x : Stmt} {k : Bool} (h : spaM x k = true) (g : ∀ p, k = true → P (.Pass p)) : P x := by
  cases x <;> first | exact absurd h Bool.false_ne_true | exact g _ h
noncomputable def sraM (x : Stmt) (k : (Option Expr) → (Option Expr) → Bool) : Bool := match x with | .Raise e c _ => k e c | _ => false
@[elab_as_elim] theorem sraME {P : Stmt → Prop} {x : Stmt} {k : (Option Expr) → (Option Expr) → Bool} (h : sraM x k = true) (g : ∀ e c p, k e c = true → P (.Raise e c p)) : P x := by
  cases x <;> first | exact absurd h Bool.false_ne_true | exact g _ _ _ h
noncomputable def sifM (x : Stmt) (k : Expr → (List Stmt) → (List Stmt) → Bool) : Bool := match x with | .If e b o _ => k e b o | _ => false
@[elab_as_elim] theorem sifME {P : Stmt → Prop} {x : Stmt} {k : Expr → (List Stmt) → (List Stmt) → Bool} (h : sifM x k = true) (g : ∀ e b o p, k e b o = true → P (.If e b o p)) : P x := by
  cases x <;> first | exact absurd h Bool.false_ne_true | exact g _ _ _ _ h
noncomputable def sfoM (x : Stmt) (k : Expr → Expr → (List Stmt) → (List Stmt) → Bool) : Bool := match x with | .For t e b o _ => k t e b o | _ => false
@[elab_as_elim] theorem sfoME {P : Stmt → Prop} {x : Stmt} {k : Expr → Expr → (List Stmt) → (List Stmt) → Bool} (h : sfoM x k = true) (g : ∀ t e b o p, k t e b o = true → P (.For t e b o p)) : P x := by
  cases x <;> first | exact absurd h Bool.false_ne_true | exact g _ _ _ _ _ h
noncomputable def strM (x : Stmt) (k : (List Stmt) → (List ExceptHandler) → (List Stmt) → (List Stmt) → Bool) : Bool := match x with | .Try b hs o f _ => k b hs o f | _ => false
@[elab_as_elim] theorem strME {P : Stmt → Prop} {x : Stmt} {k : (List Stmt) → (List ExceptHandler) → (List Stmt) → (List Stmt) → Bool} (h : strM x k = true) (g : ∀ b hs o f p, k b hs o f = true → P (.Try b hs o f p)) : P x := by
  cases x <;> first | exact absurd h Bool.false_ne_true | exact g _ _ _ _ _ h
noncomputable def l0 {α : Type} (xs : List α) (b : Bool) : Bool := match xs with | [] => b | _ => false
@[elab_as_elim] theorem l0E {α : Type} {P : List α → Prop} {xs : List α} {b : Bool} (h : l0 xs b = true) (g : b = true → P []) : P xs := by
  cases xs with
  | nil => exact g h
  | cons _ _ => exact absurd h Bool.false_ne_true
noncomputable def lc {α : Type} (xs : List α) (k : α → List α → Bool) : Bool := match xs with | x :: r => k x r | _ => false
@[elab_as_elim] theorem lcE {α : Type} {P : List α → Prop} {xs : List α} {k : α → List α → Bool} (h : lc xs k = true) (g : ∀ x r, k x r = true → P (x :: r)) : P xs := by
  cases xs with
  | nil => exact absurd h Bool.false_ne_true
  | cons _ _ => exact g _ _ h
noncomputable def l1 {α : Type} (xs : List α) (k : α → Bool) : Bool := lc xs fun x r => l0 r (k x)
@[elab_as_elim] theorem l1E {α : Type} {P : List α → Prop} {xs : List α} {k : α → Bool} (h : l1 xs k = true) (g : ∀ x, k x = true → P [x]) : P xs :=
  lcE h fun _ _ h => l0E h fun h => g _ h
noncomputable def l2 {α : Type} (xs : List α) (k : α → α → Bool) : Bool := lc xs fun x r => l1 r (k x)
@[elab_as_elim] theorem l2E {α : Type} {P : List α → Prop} {xs : List α} {k : α → α → Bool} (h : l2 xs k = true) (g : ∀ x y, k x y = true → P [x, y]) : P xs :=
  lcE h fun _ _ h => l1E h fun _ h => g _ _ h
noncomputable def l3 {α : Type} (xs : List α) (k : α → α → α → Bool) : Bool := lc xs fun x r => l2 r (k x)
@[elab_as_elim] theorem l3E {α : Type} {P : List α → Prop} {xs : List α} {k : α → α → α → Bool} (h : l3 xs k = true) (g : ∀ x y z, k x y z = true → P [x, y, z]) : P xs :=
  lcE h fun _ _ h => l2E h fun _ _ h => g _ _ _ h
noncomputable def o0 {α : Type} (o : Option α) (b : Bool) : Bool := match o with | none => b | _ => false
@[elab_as_elim] theorem o0E {α : Type} {P : Option α → Prop} {o : Option α} {b : Bool} (h : o0 o b = true) (g : b = true → P none) : P o := by
  cases o with
  | none => exact g h
  | some _ => exact absurd h Bool.false_ne_true
noncomputable def o1 {α : Type} (o : Option α) (k : α → Bool) : Bool := match o with | some x => k x | _ => false
@[elab_as_elim] theorem o1E {α : Type} {P : Option α → Prop} {o : Option α} {k : α → Bool} (h : o1 o k = true) (g : ∀ x, k x = true → P (some x)) : P o := by
  cases o with
  | none => exact absurd h Bool.false_ne_true
  | some _ => exact g _ h
/-- f(..) of a name, and o.m(..) -/
noncomputable def ncM (x : Expr) (k : Str → List Expr → Bool) : Bool := caM x fun f xs ks _ => nmM f fun id => l0 ks (k id xs)
@[elab_as_elim] theorem ncME {P : Expr → Prop} {x : Expr} {k : Str → List Expr → Bool} (h : ncM x k = true) (g : ∀ id np xs p, k id xs = true → P (.Call (.Name id np) xs [] p)) : P x :=
  caME h fun _ _ _ _ h => nmME h fun _ _ h => l0E h fun h => g _ _ _ _ h
noncomputable def acM (x : Expr) (k : Expr → Str → Pos → List Expr → Pos → Bool) : Bool := caM x fun f xs ks p => atM f fun y id q => l0 ks (k y id q xs p)
@[elab_as_elim] theorem acME {P : Expr → Prop} {x : Expr} {k : Expr → Str → Pos → List Expr → Pos → Bool} (h : acM x k = true) (g : ∀ y id q xs p, k y id q xs p = true → P (.Call (.Attribute y id q) xs [] p)) : P x :=
  caME h fun _ _ _ _ h => atME h fun _ _ _ h => l0E h fun h => g _ _ _ _ _ h
noncomputable def cp1M (x : Expr) (k : Expr → CmpOp → Expr → Bool) : Bool := cpM x fun l ops rs => l1 ops fun op => l1 rs fun r => k l op r
@[elab_as_elim] theorem cp1ME {P : Expr → Prop} {x : Expr} {k : Expr → CmpOp → Expr → Bool} (h : cp1M x k = true) (g : ∀ l op r p, k l op r = true → P (.Compare l [op] [r] p)) : P x :=
  cpME h fun _ _ _ _ h => l1E h fun _ h => l1E h fun _ h => g _ _ _ _ h
noncomputable def cp2M (x : Expr) (k : Expr → CmpOp → CmpOp → Expr → Expr → Bool) : Bool := cpM x fun l ops rs => l2 ops fun o₁ o₂ => l2 rs fun m r => k l o₁ o₂ m r
@[elab_as_elim] theorem cp2ME {P : Expr → Prop} {x : Expr} {k : Expr → CmpOp → CmpOp → Expr → Expr → Bool} (h : cp2M x k = true) (g : ∀ l o₁ o₂ m r p, k l o₁ o₂ m r = true → P (.Compare l [o₁, o₂] [m, r] p)) : P x :=
  cpME h fun _ _ _ _ h => l2E h fun _ _ h => l2E h fun _ _ h => g _ _ _ _ _ _ h
noncomputable def sl0M (x : Expr) (k : Expr → Option Expr → Option Expr → Bool) : Bool := suM x fun y z => slM z fun l u st => o0 st (k y l u)
@[elab_as_elim] theorem sl0ME {P : Expr → Prop} {x : Expr} {k : Expr → Option Expr → Option Expr → Bool} (h : sl0M x k = true) (g : ∀ y l u q p, k y l u = true → P (.Subscript y (.Slice l u none q) p)) : P x :=
  suME h fun _ _ _ h => slME h fun _ _ _ _ h => o0E h fun h => g _ _ _ _ _ h
noncomputable def isStrC : Const → Bool
  | .str _ => true
  | _ => false
noncomputable def exM (h : ExceptHandler) (k : Str → Str → List Stmt → Bool) : Bool := match h with
  | .ExceptHandler t n b _ => o1 t fun e => nmM e fun id => o1 n fun n => k id n b
@[elab_as_elim] theorem exME {P : ExceptHandler → Prop} {h : ExceptHandler} {k : Str → Str → List Stmt → Bool} (hh : exM h k = true) (g : ∀ id np n b p, k id n b = true → P (.ExceptHandler (some (.Name id np)) (some n) b p)) : P h := by
  cases h with
  | ExceptHandler t n b p =>
    have hh : (o1 t fun e => nmM e fun id => o1 n fun n => k id n b) = true := hh
    refine o1E hh ?_
    intro e hh
    refine nmME hh ?_
    intro id np hh
    refine o1E hh ?_
    intro m hh
    exact g _ _ _ _ _ hh
noncomputable def tgOf : Tg → List Nat
  | .one x => [x]
  | .many xs => xs
noncomputable def matchTs (S : Sc) : List Nat → List Expr → Bool
  | [], xs => xs.isEmpty
  | i :: is, xs => lc xs fun x r => nmM x fun id => S.own id i && matchTs S is r
noncomputable def matchT (S : Sc) : Tg → Expr → Bool
  | .one i, x => nmM x fun id => S.own id i
  | .many is, x => tuM x fun xs => matchTs S is xs && decide is.Nodup

/-- what enumerate gives is taken apart -/
noncomputable def itTg : Ex → Tg → Bool
  | .enum _, .one _ => false
  | _, _ => true

mutual
noncomputable def matchE (S : Sc) : Ex → Expr → Bool
  | .none, x => cM x fun c => decide (c = .none)
  | .tt, x => cM x fun c => decide (c = .bool true)
  | .ff, x => cM x fun c => decide (c = .bool false)
  | .int i, x => cM x fun c => decide (c = .int i)
  | .str t, x => cM x fun c => decide (c = .str (Str.ofString t))
  | .var i, x => nmM x fun id => S.var id i
  | .glob g, x => nmM x fun id => S.glb id g
  | .bin op a b, x => biM x fun l op' r => decide (op' = op) && matchE S a l && matchE S b r
  | .neg a, x => unM x fun op l => decide (op = .USub) && matchE S a l
  | .not a, x => unM x fun op l => decide (op = .Not) && matchE S a l
  | .cmp op a b, x => cp1M x fun l op' r => decide (op' = op) && matchE S a l && matchE S b r
  | .cmp2 o₁ o₂ a b c, x => cp2M x fun l p₁ p₂ m r => decide (p₁ = o₁) && decide (p₂ = o₂) && matchE S a l && matchE S b m && matchE S c r
  | .bool isAnd es, x => boM x fun op xs => decide (op = if isAnd then .And else .Or) && matchEs S es xs
  | .call f es, x => ncM x fun id xs => S.glb id f && matchEs S es xs
  | .make c es, x => ncM x fun id xs => decide (c ≠ "") && S.glb id c && matchEs S es xs
  | .meth o name es, x => acM x fun y id apos xs pos => decide (id = Str.ofString name) && (apos.endLine == pos.line) && plainBase y && decide (xs.length < 30) && matchE S o y && matchEs S es xs
  | .m0 o m, x => acM x fun y id apos xs pos => l0 xs (decide (id = Str.ofString (m0Name m)) && (apos.endLine == pos.line) && plainBase y && matchE S o y)
  | .m1 o m a, x => acM x fun y id apos xs pos => l1 xs fun z => decide (id = Str.ofString (m1Name m)) && (apos.endLine == pos.line) && plainBase y && matchE S o y && matchE S a z
  | .insert o a b, x => acM x fun y id apos xs pos => l2 xs fun z w => decide (id = Str.ofString "insert") && (apos.endLine == pos.line) && plainBase y && matchE S o y && matchE S a z && matchE S b w
  | .attr o name, x => atM x fun y id _ => decide (id = Str.ofString name) && plainBase y && matchE S o y
  | .idx o i, x => suM x fun y z => matchE S o y && matchE S i z
  | .slice o lo hi, x => sl0M x fun y l h => matchE S o y && matchO S lo l && matchO S hi h
  | .rev _, _ => false
  | .list es, x => liM x fun xs => matchEs S es xs
  | .tuple es, x => tuM x fun xs => matchEs S es xs
  | .dict0, x => diM x fun ks vs => l0 ks (l0 vs true)
  | .dict1 _ _, _ => false
  | .comp bs elt t it cond, x => lcM x fun y gs scope => l1 gs fun g => compOk S bs scope && itTg it t && matchT (compSc S bs scope.names) t g.target && decide (tgOf t = bs.map (·.2)) && matchE S it g.iter && matchE (compSc S bs scope.names) elt y && matchC (compSc S bs scope.names) cond g.ifs && decide (g.is_async = 0)
  | .b1 f e, x => ncM x fun id xs => l1 xs fun y => S.glb id (b1Name f) && matchE S e y
  | .min2 _ _, _ => false
  | .max2 _ _, _ => false
  | .isin e t, x => ncM x fun id xs => l2 xs fun y z => nmM z fun id' => tyOk t && S.glb id "isinstance" && S.glb id' (tyName t) && matchE S e y
  | .range1 a, x => ncM x fun id xs => l1 xs fun y => S.glb id "range" && matchE S a y
  | .range2 a b, x => ncM x fun id xs => l2 xs fun y z => S.glb id "range" && matchE S a y && matchE S b z
  | .range3 a b c, x => ncM x fun id xs => l3 xs fun y z w => S.glb id "range" && matchE S a y && matchE S b z && matchE S c w
  | .enum _, _ => false
noncomputable def matchEs (S : Sc) : Exs → List Expr → Bool
  | .nil, xs => l0 xs true
  | .cons e es, xs => lc xs fun x r => matchE S e x && matchEs S es r
noncomputable def matchO (S : Sc) : ExO → Option Expr → Bool
  | .none, o => o0 o true
  | .some e, o => o1 o fun x => matchE S e x
noncomputable def matchC (S : Sc) : ExO → List Expr → Bool
  | .none, xs => l0 xs true
  | .some e, xs => l1 xs fun x => matchE S e x
end

theorem mEs_nn {S : Sc} : matchEs S .nil [] = true := rfl
theorem mEs_nc {S : Sc} {x : Expr} {xs : List Expr} : matchEs S .nil (x :: xs) = false := rfl
theorem mEs_cn {S : Sc} {e : Ex} {es : Exs} : matchEs S (.cons e es) [] = false := rfl
theorem mEs_cc {S : Sc} {e : Ex} {es : Exs} {x : Expr} {xs : List Expr} : matchEs S (.cons e es) (x :: xs) = (matchE S e x && matchEs S es xs) := rfl
theorem mO_nn {S : Sc} : matchO S .none none = true := rfl
theorem mO_ns {S : Sc} {x : Expr} : matchO S .none (some x) = false := rfl
theorem mO_sn {S : Sc} {e : Ex} : matchO S (.some e) none = false := rfl
theorem mO_ss {S : Sc} {e : Ex} {x : Expr} : matchO S (.some e) (some x) = matchE S e x := rfl
theorem mC_nn {S : Sc} : matchC S .none [] = true := rfl
theorem mC_nc {S : Sc} {x : Expr} {xs : List Expr} : matchC S .none (x :: xs) = false := rfl
theorem mC_sn {S : Sc} {e : Ex} : matchC S (.some e) [] = false := rfl
theorem mC_s1 {S : Sc} {e : Ex} {x : Expr} : matchC S (.some e) [x] = matchE S e x := rfl
theorem mC_s2 {S : Sc} {e : Ex} {x y : Expr} {r : List Expr} : matchC S (.some e) (x :: y :: r) = false := rfl
theorem match_star {S : Sc} {e : Ex} {v : Expr} {p : Pos} : matchE S e (.Starred v p) = false := by cases e <;> rfl
theorem match_set {S : Sc} {e : Ex} {v : List Expr} {k : Nat} {p : Pos} : matchE S e (.Set v k p) = false := by cases e <;> rfl
theorem star_of {S : Sc} {e : Ex} {x : Expr} {rest : List Expr} {env : Env} (h : matchE S e x = true) : starEach (x :: rest) env = (false, eval x env) :: starEach rest env := by
  cases x <;> first | rfl | (rw [match_star] at h; cases h)
theorem folded_of {S : Sc} {e : Ex} {x : Expr} {env : Env} (h : matchE S e x = true) (v : Value) : foldedSetIterable x env v = pure v := by
  cases x <;> first | rfl | (rw [match_set] at h; cases h)
theorem marks_of {S : Sc} {e : Ex} {x : Expr} {op : CmpOp} (h : matchE S e x = true) : behindInMarks op x = false := by
  cases x <;> first | rfl | (rw [match_set] at h; cases h)
theorem base_of {x : Expr} {name : Str} {env : Env} (h : plainBase x = true) (t : Sem Value) : attributeBase x name env t = t := by
  unfold attributeBase
  split
  · exact Bool.noConfusion h
  · rfl

noncomputable def isComp : Ex → Bool
  | .comp .. => true
  | _ => false
noncomputable def isTup : Ex → Bool
  | .tuple _ => true
  | _ => false
noncomputable def tgOne : Tg → Bool
  | .one _ => true
  | _ => false
mutual
noncomputable def matchS (S : Sc) : St → Stmt → Bool
  | .expr e, s => sxM s fun x => matchE S e x && !isComp e
  | .assign t e, s => sasM s fun ts x => l1 ts fun tg => matchT S t tg && matchE S e x && (tgOne t || (!isTup e && !isComp e))
  | .setattr o name e, s => sasM s fun ts z => l1 ts fun tg => atM tg fun y id _ => decide (id = Str.ofString name) && matchE S o y && matchE S e z
  | .setitem o i e, s => sasM s fun ts z => l1 ts fun tg => suM tg fun y w => matchE S o y && matchE S i w && matchE S e z
  | .ret e, s => sreM s fun o => o1 o fun x => matchE S e x
  | .pass, s => spaM s true
  | .raise c _, s => sraM s fun o c' => o0 c' (o1 o fun x => ncM x fun id xs => l1 xs fun y => cM y fun k => isStrC k && S.glb id c)
  | .iff c th el, s => sifM s fun x b o => matchE S c x && matchSs S th b && matchSs S el o
  | .whil _ _, _ => false
  | .for t it body, s => sfoM s fun tg x b o => l0 o (matchT S t tg && matchE S it x && itTg it t && matchSs S body b)
  | .tryx body hs, s => strM s fun b hs' o f => l0 o (l0 f (matchSs S body b && matchHs S hs hs' && !hs'.isEmpty))
noncomputable def matchSs (S : Sc) : Sts → List Stmt → Bool
  | .nil, xs => l0 xs true
  | .cons s r, xs => lc xs fun x xs => matchS S s x && matchSs S r xs
noncomputable def matchHs (S : Sc) : Hs → List ExceptHandler → Bool
  | .nil, xs => l0 xs true
  | .cons C x body r, xs => lc xs fun h xs => exM h fun id n bd => lc bd fun b bs => decide (C ∈ excNames) && S.glb id C && S.own n x && (S.names.lookup n == some .local) && matchSs S body (b :: bs) && matchHs S r xs
end
end Mine.Internal
end

section
set_option linter.unusedVariables false
namespace Mine.Internal
open PySem PySem.W PySem.Calls PyProof.Rows

noncomputable def bNames : List (String × Value) := [("len", .builtin "len"), ("list", .type "list"), ("sorted", .builtin "sorted"), ("int", .type "int"), ("all", .builtin "all"), ("any", .builtin "any"), ("tuple", .type "tuple"), ("dict", .type "dict"),
  ("set", .type "set"), ("max", .builtin "max"), ("min", .builtin "min"), ("isinstance", .builtin "isinstance"), ("range", .type "range"), ("enumerate", .type "enumerate"), ("bool", .type "bool"), ("str", .type "str"), ("ValueError", .type "ValueError")]

/-- a class whose objects keep their fields in a dict -/
noncomputable def ClsOk (K : Frag) (Cl : Addr) : Prop :=
  plainGet K Cl ("x" : Str) = true ∧ findIn K (.ref Cl) "__setattr__" = some (some (.builtin "object.__setattr__")) ∧ plainOver K Cl = true ∧ hasDictIn K Cl = true

structure CxOk (C : Cx) : Prop where
  inK : C.K.In C.base
  g : C.base.Ns mainGlobals C.mg
  b : C.base.Ns builtinsNs C.mb
  nolimit : C.base.NoLimit
  bn : ∀ x v, (x, v) ∈ bNames → C.mg (Str.ofString x) = none ∧ C.mb (Str.ofString x) = some v
  glob : ∀ x i, globs x = some i → ∃ t, C.mg (Str.ofString x) = some (.int i t)
  clsNe : C.cls "" = none
  clsG : ∀ c Cl, C.cls c = some Cl → C.mg (Str.ofString c) = some (.ref Cl)
  fnG : ∀ f a, C.fn "" f = some a → C.mg (Str.ofString f) = some (.ref a) ∧ ∃ o fd, C.base.get? a = some o ∧ o.data = .func fd
  made : ∀ c fa, C.fn c "__init__" = some fa → c ≠ "" → ∃ Cl, C.cls c = some Cl ∧ keepIn C.K (.ref Cl) = true ∧ makesIn C.K Cl = true ∧ findIn C.K (.ref Cl) "__init__" = some (some (.ref fa)) ∧ typeIn C.K (.ref fa) = some (.type "function")
  meth : ∀ c name fa Cl, C.fn c name = some fa → c ≠ "" → C.cls c = some Cl → ClsOk C.K Cl ∧ findIn C.K (.ref Cl) (Str.ofString name) = some (some (.ref fa)) ∧ isFn C.K (.ref fa) = true ∧ ∃ o fd, C.base.get? fa = some o ∧ o.data = .func fd
  flds : ∀ c name Cl, C.fld c name = true → C.cls c = some Cl → ClsOk C.K Cl ∧ findIn C.K (.ref Cl) (Str.ofString name) = some none

/-- a class of the text, or ValueError -/
noncomputable def clsV (C : Cx) (D : String) : Option Value := if D = "ValueError" then some (.type "ValueError") else (C.cls D).map .ref

structure CxIs (C : Cx) : Prop where
  isi : ∀ {c D : String} {vD : Value} {A : Around} {s : Shared} {a Cl : Addr} {o : Obj} {vs : Array Value} {Q : Value → Shared → Prop} {E : Value → Shared → Prop}, c ∈ excNames → D ∈ "ValueError" :: "NetError" :: excNames → clsV C D = some vD → C.base.StaysIn s.heap → C.cls c = some Cl →
    s.heap.get? a = some o → o.cls = .ref Cl → o.dict = none → o.data = .fields vs → (∀ t, Q (.bool (excSub c D)) { s with toks := t }) → wpAny C.M A (call (.builtin "isinstance") [.ref a, vD]) Q E s
  clsV : ∀ D vD, Mine.Internal.clsV C D = some vD → C.mg (Str.ofString D) = some vD ∨ (D = "ValueError" ∧ vD = .type "ValueError")
  own : ∀ c ∈ excNames, ∃ Cl B newId initId bm, C.cls c = some Cl ∧ ExcBaseFacts B newId initId bm ∧ OwnCls (Str.ofString c) Cl bm newId C.mg C.base
  excm : ∀ {c D : String} {A : Around} {s : Shared} {a Cl Dl : Addr} {o : Obj} {vs : Array Value} {Q : Bool → Shared → Prop} {E : Value → Shared → Prop}, c ∈ excNames → D ∈ excNames → C.base.StaysIn s.heap → C.cls c = some Cl → C.cls D = some Dl →
    s.heap.get? a = some o → o.cls = .ref Cl → o.data = .fields vs → Q (decide (c = D)) s → wpAny C.M A (excMatches (.ref a) (.ref Dl)) Q E s
  dom : ∀ (D : String), D ∈ "ValueError" :: "NetError" :: excNames → ∃ vD, Mine.Internal.clsV C D = some vD

section
variable {C : Cx} {A : Around} {E : Value → Shared → Prop} {σ : Store} {s : Shared} {Q : V → Store → Prop}

theorem inK_at (X : CxOk C) (r : Rel C σ s.heap) : C.K.In s.heap := X.inK.keeps r.stays

theorem isStr_iff {n name : String} {t : Tok} : (Value.str (Str.ofString n) t).isStr (Str.ofString name) = true ↔ n = name := by
  show (Str.ofString n == Str.ofString name) = true ↔ _
  rw [beq_iff_eq]
  exact ⟨ofString_inj, fun e => by rw [e]⟩
theorem isStr_false {n name : String} {t : Tok} (h : n ≠ name) : (Value.str (Str.ofString n) t).isStr (Str.ofString name) = false := by
  rw [← Bool.not_eq_true]; exact fun e => h (isStr_iff.mp e)

theorem NR.noRef {h : Heap} : ∀ {fs : List (String × V)} {es : List DictEntry}, NR h fs es → es.any (·.refKey) = false
  | [], [], _ => rfl
  | (_, _) :: _, e :: _, ⟨⟨t, ht⟩, _, c⟩ => by
    rw [List.any_cons, NR.noRef c, Bool.or_false]
    unfold DictEntry.refKey; rw [ht]
  | [], _ :: _, f => f.elim
  | _ :: _, [], f => f.elim
theorem NR.find {h : Heap} {name : String} : ∀ {fs : List (String × V)} {es : List DictEntry}, NR h fs es →
    (∀ v, fs.lookup name = some v → ∃ x, getL (Str.ofString name) es = some (some x) ∧ VR h v x) ∧ (fs.lookup name = none → getL (Str.ofString name) es = some none)
  | [], [], _ => ⟨fun v e => (by simp at e), fun _ => rfl⟩
  | (n, u) :: fs, e :: es, ⟨⟨t, ht⟩, b, c⟩ => by
    refine ob8 (NR.find (name := name) c) ?_
    intro h1 h2
    have hr := NR.noRef c
    have hre : e.refKey = false := by unfold DictEntry.refKey; rw [ht]
    by_cases q : n = name
    · subst q
      have hs : e.key.isStr (Str.ofString n) = true := by rw [ht]; exact isStr_iff.mpr rfl
      refine ⟨fun v hv => ?_, fun hv => ?_⟩
      · rw [List.lookup_cons, beq_self_eq_true] at hv; cases hv
        exact ⟨e.val, by unfold getL; rw [List.find?_cons, hs], b⟩
      · rw [List.lookup_cons, beq_self_eq_true] at hv; cases hv
    · have hs : e.key.isStr (Str.ofString name) = false := by rw [ht]; exact isStr_false q
      have hg : getL (Str.ofString name) (e :: es) = getL (Str.ofString name) es := by unfold getL; rw [List.find?_cons, hs, List.any_cons, hre, Bool.false_or]
      have hl : List.lookup name ((n, u) :: fs) = List.lookup name fs := by rw [List.lookup_cons, beq_eq_false_iff_ne.mpr (Ne.symm q)]
      rw [hg, hl]; exact ⟨h1, h2⟩
  | [], _ :: _, f => f.elim
  | _ :: _, [], f => f.elim

theorem NR.put {h : Heap} {name : String} {v : V} {x : Value} {hsh : Int} {t : Tok} (hv : VR h v x) : ∀ {fs : List (String × V)} {es : List DictEntry}, NR h fs es → NR h (putF name v fs) (putL (Str.ofString name) hsh (.str (Str.ofString name) t) x es)
  | [], [], _ => ⟨⟨t, rfl⟩, hv, trivial⟩
  | (n, u) :: fs, e :: es, ⟨⟨t', ht⟩, b, c⟩ => by
    unfold putF putL
    by_cases q : n = name
    · subst q
      have hs : e.key.isStr (Str.ofString n) = true := by rw [ht]; exact isStr_iff.mpr rfl
      rw [if_pos rfl, if_pos hs]
      exact ⟨⟨t', ht⟩, hv, c⟩
    · have hs : ¬ e.key.isStr (Str.ofString name) = true := by rw [ht]; exact fun z => q (isStr_iff.mp z)
      rw [if_neg q, if_neg hs]
      exact ⟨⟨t', ht⟩, b, NR.put hv c⟩
  | [], _ :: _, f => f.elim
  | _ :: _, [], f => f.elim
theorem NR.length {h : Heap} : ∀ {fs : List (String × V)} {es : List DictEntry}, NR h fs es → fs.length = es.length
  | [], [], _ => rfl
  | (_, _) :: _, e :: _, ⟨_, _, c⟩ => by simp [NR.length c]
  | [], _ :: _, f => f.elim
  | _ :: _, [], f => f.elim
theorem putF_length (name : String) (v : V) : ∀ fs, (putF name v fs).length ≤ fs.length + 1
  | [] => by simp [putF]
  | (n, u) :: r => by
    unfold putF
    split
    · simp
    · have := putF_length name v r; simp; omega
theorem putF_names (name : String) (v : V) : ∀ {fs : List (String × V)}, (fs.map (·.1)).Nodup → ((putF name v fs).map (·.1)).Nodup ∧ ∀ y, y ∈ (putF name v fs).map (·.1) → y = name ∨ y ∈ fs.map (·.1)
  | [], _ => by simp [putF]
  | (n, u) :: r, hn => by
    simp only [List.map_cons, List.nodup_cons] at hn
    refine ob8 (putF_names name v hn.2) ?_
    intro h1 h2
    unfold putF
    split
    · rename_i e
      simp only [List.map_cons, List.nodup_cons]
      exact ⟨hn, fun y hy => by rcases List.mem_cons.mp hy with rfl | hy <;> simp_all⟩
    · rename_i e
      simp only [List.map_cons, List.nodup_cons, List.mem_cons]
      refine ⟨⟨fun hm => ?_, h1⟩, fun y hy => ?_⟩
      · rcases h2 _ hm with q | q
        · exact e q
        · exact hn.1 q
      · rcases hy with rfl | hy
        · exact .inr (.inl rfl)
        · rcases h2 _ hy with q | q
          · exact .inl q
          · exact .inr (.inr q)

theorem inst_at {a d Cl : Addr} {es : List DictEntry} {n : Nat} {h : Heap} (h1 : h.get? a = some (instObj Cl d)) (h2 : h.get? d = some (dictOf es n)) : InstAt h a (instObj Cl d) Cl (some (dictOf es n)) := ⟨h1, rfl, rfl, h2⟩

theorem handed_of {v : V} {x : Value} (h : VR s.heap v x) : handedIn x = true := by cases h <;> rfl

theorem attr_ok {F : String → String → Prop} {u : V} {x : Value} {name : String} {K : V → Prop} {Q' : Value → Shared → Prop} {expr : Bool} (X : CxOk C) (r : Rel C σ s.heap) (hu : VR s.heap u x) (hF : ∀ c, F c name → C.fld c name = true)
    (q : attrV F u name σ K) (h : ∀ z w t, K z → VR s.heap z w → Q' w { s with toks := t }) : wpAny C.M A (getAttr x (Str.ofString name) expr) Q' E s := by
  refine lift fun gg back => ?_
  obtain ⟨a, c, d, fs, rfl, ha, hd, hf, q⟩ := onInst_elim q
  refine ob5 (onSome_elim q) ?_
  intro v hv q
  cases hu.ref_of
  obtain ⟨Cl, hc, hi⟩ := r.tr a _ ha
  obtain ⟨es, n, hdo, hn, _⟩ := r.tr d _ hd
  obtain ⟨⟨k1, k2, k3, k4⟩, k5⟩ := X.flds c name Cl (hF c hf) hc
  refine ob5 ((NR.find (name := name) hn).1 v hv) ?_
  intro y hy hvy
  refine back ?_
  clear back gg
  exact get_value (K := C.K) (inK_at X r) (inst_at hi hdo) (plainGet_of k1).1 (findObj_own (attr := none) k4 k5 rfl hy) (handed_of hvy) (h v y _ q hvy)

theorem getMethod_ok {a d Cl : Addr} {c name : String} {fs : List (String × V)} {fa : Addr} {pl : Sem Bool} {Q' : Value × List Value → Shared → Prop} (X : CxOk C) (r : Rel C σ s.heap) (ha : σ a = some (.inst c d)) (hd : σ d = some (.ns fs)) (hl : fs.lookup name = none)
    (hfa : C.fn c name = some fa) (hc0 : c ≠ "") (h : Q' (.ref fa, [.ref a]) s) : wpAny C.M A (getMethod (.ref a) (Str.ofString name) pl) Q' E s := by
  refine lift fun gg back => ?_
  obtain ⟨Cl, hc, hi⟩ := r.tr a _ ha
  obtain ⟨es, n, hdo, hn, _⟩ := r.tr d _ hd
  obtain ⟨⟨k1, k2, k3, k4⟩, k5, k6, _⟩ := X.meth c name fa Cl hfa hc0 hc
  refine back ?_
  clear back gg
  exact method_fn (inK_at X r) (inst_at hi hdo) (plainGet_of k1).1 (plainGet_of k1).2 k5 (beq_iff_eq.mp k6) (by show (lookIn _ (dictOf es n)).map _ = _; rw [lookIn_dict, (NR.find (name := name) hn).2 hl]; rfl) h

theorem setattr_ok {F : String → String → Prop} {u v : V} {x y : Value} {name : String} {K : Store → Prop} (X : CxOk C) (r : Rel C σ s.heap) (hu : VR s.heap u x) (hv : VR s.heap v y) (hF : ∀ c, F c name → C.fld c name = true)
    (q : setattrV F u name v σ K) : wpAny C.M A (setAttr x (Str.ofString name) y) (fun _ s' => ∃ σ', K σ' ∧ Step C No σ s σ' s') E s := by
  refine lift fun gg back => ?_
  obtain ⟨a, c, d, fs, rfl, ha, hd, ⟨hf, hlen⟩, q⟩ := onInst_elim q
  cases hu.ref_of
  obtain ⟨Cl, hc, hi⟩ := r.tr a _ ha
  obtain ⟨es, n, hdo, hn, hnd⟩ := r.tr d _ hd
  obtain ⟨⟨k1, k2, k3, k4⟩, k5⟩ := X.flds c name Cl (hF c hf) hc
  refine back ?_
  clear back gg
  have hK := inK_at X r
  have I := inst_at hi hdo
  refine set_plain hK I k2 (osa_open (s := { s with toks := s.toks + 1 }) (r := none) hK I k3 (by unfold takerIn; rw [k5]; rfl) fun b => ?_)
  refine ob5 (any_some k4) ?_
  intro cd hcc hd'
  have hsb : Heap.SameBut d s.heap (s.heap.update d (Obj.putName (Str.ofString name) (PyData.keyHash C.w.params (Str.ofString name)) (.str (Str.ofString name) (s.toks + 1)) y)) := ⟨Heap.size_update .., fun b hb => Heap.get?_update_other _ _ (Ne.symm hb)⟩
  have D' : (s.heap.update d (Obj.putName (Str.ofString name) (PyData.keyHash C.w.params (Str.ofString name)) (.str (Str.ofString name) (s.toks + 1)) y)).get? d =
      some (dictOf (putL (Str.ofString name) (PyData.keyHash C.w.params (Str.ofString name)) (.str (Str.ofString name) (s.toks + 1)) y es) (putN (Str.ofString name) es n)) := by
    rw [← putName_dict]
    exact Heap.get?_update_self _ hdo (by rw [putName_dict]; rfl)
  have hlen' : (putL (Str.ofString name) (PyData.keyHash C.w.params (Str.ofString name)) (.str (Str.ofString name) (s.toks + 1)) y es).length ≤ 101 := by
    have h1 := (NR.put (hsh := PyData.keyHash C.w.params (Str.ofString name)) (t := s.toks + 1) (name := name) hv hn).length
    have h2 := putF_length name v fs
    omega
  have fin : ∀ t, ∃ σ', K σ' ∧ Step C No σ s σ' { s with heap := s.heap.update d (Obj.putName (Str.ofString name) (PyData.keyHash C.w.params (Str.ofString name)) (.str (Str.ofString name) (s.toks + 1)) y), toks := t } := fun t =>
    ⟨_, q, .turn r hd (fun _ e => by cases e) hsb fun k => ⟨_, _, D', (NR.put hv hn).keep k, (putF_names name v hnd).1⟩⟩
  refine wpAny_bind (wpAny_pure (wpAny_bind (wpAny_bind (wpAny_loadPart hi (wpAny_bind (Looks.here (s := { s with toks := s.toks + 1 }) (looks_clsIn hK hcc) ?_))))))
  rw [hd']
  refine wpAny_pure (a := some d) (wpAny_bind (wpAny_pure (wpAny_bind ?_)))
  unfold nsSet
  refine wpAny_bind (wpAny_bind (wpAny_askSetting (wpAny_pure (wpAny_bind (wpAny_mkText (wpAny_bind (wpAny_loadPart hdo ?_)))))))
  have cc : (!es.toArray.any (·.key.isStr (Str.ofString name)) && es.toArray.any (·.refKey)) = false := by
    rw [← Array.any_toList, ← Array.any_toList]
    simp only [hn.noRef, Bool.and_false]
  dsimp only
  rw [aRefKeyMayBeTheName_at, cc]
  refine wpAny_updatePart hdo ?_
  refine wpAny_bind (wpAny_lookBehind D' (pastItsLine_dict (by rw [List.size_toArray, sizeLine_eq]; omega)) ?_)
  exact wpAny_pure (fin _)
end
end Mine.Internal
end

section
set_option linter.unusedVariables false
namespace Mine.Internal
open PySem PySem.W PySem.Calls PyProof.Rows

structure EnvS (S : Sc) (env : Env) : Prop extends EnvOk env where
  names : env.scope.names = S.names
  nm : NmOk S.nm S.size
  cells : ∀ x, (S.names.lookup x = some .cell ∨ S.names.lookup x = some .free) → (env.cells.lookup x).isSome = true
theorem EnvS.kindOf {S : Sc} {env : Env} (h : EnvS S env) (x : Str) : env.kindOf x = S.names.lookup x := by unfold Env.kindOf; rw [h.names]

structure Dyn (C : Cx) (k : Nat) (md : Bool) (S : Sc) (A : Around) (env : Env) (ρ : Loc) (σ : Store) (s : Shared) : Prop where
  a : AOk C (k + 1) md A σ s.heap
  r : Rel C σ s.heap
  l : LR C σ s.heap env S.nm ρ
  len : ρ.length = S.size

/-- the surroundings that a function's call may have -/
structure ARun (C : Cx) (k : Nat) (md : Bool) (A : Around) (σ : Store) (h : Heap) : Prop where
  frames : FramesOk C A σ h
  handled : md = true → A.handled = none
  depth : A.depth + 3 * k + 1 < 990
  units : A.units + 40 * k + 10 < 9000

structure CallsOk (C : Cx) (k : Nat) (md : Bool) (Φ : Calls) : Prop where
  dom : ∀ c f, Φ.has c f → ∃ a, C.fn c f = some a
  fld : ∀ c f, Φ.fld c f → C.fld c f = true
  run : ∀ {c f : String} {a : Addr} {vs : List V} {xs : List Value} {σ : Store} {s : Shared} {A : Around} {Q : V → Store → Prop} {X : XP}, C.fn c f = some a → ARun C k md A σ s.heap → Rel C σ s.heap → VRs s.heap vs xs → Φ.run c f vs σ Q X →
    codeAny C.M A (.call (.ref a) ⟨xs, []⟩) (fun r s' => match r with | .ok (.ret v) => PostV C σ s Q v s' | .ok _ => False | .error e => PostX C σ s X e s') s

structure Sur (C : Cx) (k : Nat) (md : Bool) (Φ : Calls) (S : Sc) (env : Env) : Prop where
  X : CxOk C
  I : CxIs C
  ca : CallsOk C k md Φ
  ev : EnvS S env

noncomputable def EvP (C : Cx) (e : Ex) : Prop := ∀ {k : Nat} {md : Bool} {Φ : Calls} {S : Sc} {x : Expr} {env : Env} {A : Around} {ρ : Loc} {σ : Store} {s : Shared} {Q : V → Store → Prop} {X : XP},
  Sur C k md Φ S env → Dyn C k md S A env ρ σ s → matchE S e x = true → wpE Φ md e ρ σ Q X → wpAny C.M A (eval x env) (PostV C σ s Q) (PostX C σ s X) s
noncomputable def PostB (C : Cx) (σ : Store) (s : Shared) (Q : V → Store → Prop) : Bool → Shared → Prop := fun b s' => ∃ V σ', Q V σ' ∧ Mine.Internal.truthy σ' V = some b ∧ Step C No σ s σ' s'
noncomputable def TrP (C : Cx) (e : Ex) : Prop := ∀ {k : Nat} {md : Bool} {Φ : Calls} {S : Sc} {x : Expr} {env : Env} {A : Around} {ρ : Loc} {σ : Store} {s : Shared} {Q : V → Store → Prop} {X : XP},
  Sur C k md Φ S env → Dyn C k md S A env ρ σ s → matchE S e x = true → wpE Φ md e ρ σ Q X → (∀ V σ', Q V σ' → ∃ b, Mine.Internal.truthy σ' V = some b) → wpAny C.M A (isTrue x env (eval x env)) (PostB C σ s Q) (PostX C σ s X) s
noncomputable def PostL (C : Cx) (σ : Store) (s : Shared) (Q : List V → Store → Prop) : List Value → Shared → Prop := fun xs s' => ∃ vs σ', Q vs σ' ∧ VRs s'.heap vs xs ∧ Step C No σ s σ' s'
noncomputable def EvsP (C : Cx) (es : Exs) : Prop := ∀ {k : Nat} {md : Bool} {Φ : Calls} {S : Sc} {xs : List Expr} {env : Env} {A : Around} {ρ : Loc} {σ : Store} {s : Shared} {Q : List V → Store → Prop} {X : XP} {pos : Pos},
  Sur C k md Φ S env → Dyn C k md S A env ρ σ s → matchEs S es xs = true → wpEs Φ md es ρ σ Q X → wpAny C.M A (spliced (backTo pos (starEach xs env))) (PostL C σ s Q) (PostX C σ s X) s
noncomputable def EvoP (C : Cx) (o : ExO) : Prop := ∀ {k : Nat} {md : Bool} {Φ : Calls} {S : Sc} {x : Option Expr} {env : Env} {A : Around} {ρ : Loc} {σ : Store} {s : Shared} {Q : V → Store → Prop} {X : XP},
  Sur C k md Φ S env → Dyn C k md S A env ρ σ s → matchO S o x = true → wpO Φ md o ρ σ Q X → wpAny C.M A (evalPart x env) (PostV C σ s Q) (PostX C σ s X) s

section
variable {C : Cx} {k : Nat} {md : Bool} {Φ : Calls} {S : Sc} {env : Env} {A : Around} {ρ : Loc} {σ σ₁ : Store} {s s₁ : Shared} {X : XP} {Q : V → Store → Prop}

theorem Dyn.step {σ' : Store} {s' : Shared} (d : Dyn C k md S A env ρ σ s) (st : Step C No σ s σ' s') : Dyn C k md S A env ρ σ' s' := ⟨d.a.step st, st.rel, d.l.step st, d.len⟩

theorem seqE {t : Sem Value} {Q₁ : V → Store → Prop} {K : Value → Shared → Prop} (st : Step C No σ s σ₁ s₁) (h : wpAny C.M A t (PostV C σ₁ s₁ Q₁) (PostX C σ₁ s₁ X) s₁)
    (k : ∀ v V σ₂ s₂, Q₁ V σ₂ → VR s₂.heap V v → Step C No σ₁ s₁ σ₂ s₂ → Step C No σ s σ₂ s₂ → K v s₂) : wpAny C.M A t K (PostX C σ s X) s₁ :=
  wpAny_mono h (fun v s₂ ⟨V, σ₂, q, hv, st₂⟩ => k v V σ₂ s₂ q hv st₂ (st.trans st₂)) fun _ _ hx => hx.from st
theorem seqL {t : Sem (List Value)} {Q₁ : List V → Store → Prop} {K : List Value → Shared → Prop} (st : Step C No σ s σ₁ s₁) (h : wpAny C.M A t (PostL C σ₁ s₁ Q₁) (PostX C σ₁ s₁ X) s₁)
    (k : ∀ v V σ₂ s₂, Q₁ V σ₂ → VRs s₂.heap V v → Step C No σ₁ s₁ σ₂ s₂ → Step C No σ s σ₂ s₂ → K v s₂) : wpAny C.M A t K (PostX C σ s X) s₁ :=
  wpAny_mono h (fun v s₂ ⟨V, σ₂, q, hv, st₂⟩ => k v V σ₂ s₂ q hv st₂ (st.trans st₂)) fun _ _ hx => hx.from st
theorem seqB {t : Sem Bool} {Q₁ : V → Store → Prop} {K : Bool → Shared → Prop} (st : Step C No σ s σ₁ s₁) (h : wpAny C.M A t (PostB C σ₁ s₁ Q₁) (PostX C σ₁ s₁ X) s₁)
    (k : ∀ b V σ₂ s₂, Q₁ V σ₂ → Mine.Internal.truthy σ₂ V = some b → Step C No σ₁ s₁ σ₂ s₂ → Step C No σ s σ₂ s₂ → K b s₂) : wpAny C.M A t K (PostX C σ s X) s₁ :=
  wpAny_mono h (fun v s₂ ⟨V, σ₂, q, hv, st₂⟩ => k v V σ₂ s₂ q hv st₂ (st.trans st₂)) fun _ _ hx => hx.from st
theorem fin {s₂ : Shared} {t : Sem Value} {E : Value → Shared → Prop} (st : Step C No σ s σ₁ s₁) (h : wpAny C.M A t (PostV C σ₁ s₁ Q) E s₂) : wpAny C.M A t (PostV C σ s Q) E s₂ :=
  wpAny_mono h (fun _ _ hx => hx.from st) fun _ _ hx => hx

theorem Sc.var_elim {id : Str} {i : Nat} (h : S.var id i = true) : ∃ x, id = Str.ofString x ∧ S.nm.lookup x = some i ∧ (S.names.lookup id = some .local ∨ S.names.lookup id = some .cell ∨ S.names.lookup id = some .free) ∧
    (id == ("__debug__" : Str)) = false ∧ (id == ("__classdict__" : Str)) = false := by
  unfold Sc.var at h
  simp only [Bool.and_eq_true, Bool.not_eq_true', List.any_eq_true, Bool.or_eq_true, beq_iff_eq, decide_eq_true_eq] at h
  refine ob23 h ?_
  clear h
  intro p hp h1 h2 h3 h4 h5
  exact ⟨p.1, h1.symm, h2, by rcases h3 with (h3 | h3) | h3; exact .inl h3; exact .inr (.inl h3); exact .inr (.inr h3), h4, h5⟩
theorem Sc.own_elim {id : Str} {i : Nat} (h : S.own id i = true) : ∃ x, id = Str.ofString x ∧ S.nm.lookup x = some i ∧ (S.names.lookup id = some .local ∨ S.names.lookup id = some .cell) := by
  unfold Sc.own at h
  simp only [Bool.and_eq_true, List.any_eq_true, Bool.or_eq_true, beq_iff_eq, decide_eq_true_eq] at h
  refine ob24 h ?_
  clear h
  intro p hp h1 h2 h3
  exact ⟨p.1, h1.symm, h2, h3⟩
theorem Sc.glb_elim {id : Str} {x : String} (h : S.glb id x = true) : id = Str.ofString x ∧ S.names.lookup id = some .globalImplicit ∧ (id == ("__debug__" : Str)) = false := by
  unfold Sc.glb at h
  simp only [Bool.and_eq_true, Bool.not_eq_true', beq_iff_eq, decide_eq_true_eq] at h
  exact ⟨h.1.1, h.1.2, h.2⟩

theorem g_at (X : CxOk C) (r : Rel C σ s.heap) : s.heap.Ns mainGlobals C.mg := X.g.keeps r.stays
theorem b_at (X : CxOk C) (r : Rel C σ s.heap) : s.heap.Ns builtinsNs C.mb := X.b.keeps r.stays

/-- a global name -/
theorem glb_ok {id : Str} {x : String} {v : Value} {pos : Pos} {K : Value → Shared → Prop} {E : Value → Shared → Prop} (U : Sur C k md Φ S env) (r : Rel C σ s.heap) (h : S.glb id x = true) (hv : C.mg (Str.ofString x) = some v) (q : K v s) :
    wpAny C.M A (eval (.Name id pos) env) K E s := by
  refine ob22 (Sc.glb_elim h) ?_
  intro ee65
  subst ee65
  intro h1 h2
  refine Name_function_global U.ev.kind (by rw [U.ev.kindOf]; exact h1) (loadGlobal_global (mg := C.mg) ?_ hv q) h2
  rw [U.ev.globals]; exact g_at U.X r
theorem bnm_ok {id : Str} {x : String} {v : Value} {pos : Pos} {K : Value → Shared → Prop} {E : Value → Shared → Prop} (U : Sur C k md Φ S env) (r : Rel C σ s.heap) (h : S.glb id x = true) (hv : (x, v) ∈ bNames) (q : K v s) :
    wpAny C.M A (eval (.Name id pos) env) K E s := by
  refine ob22 (Sc.glb_elim h) ?_
  intro ee66
  subst ee66
  intro h1 h2
  refine ob8 (U.X.bn x v hv) ?_
  intro h3 h4
  refine Name_function_global U.ev.kind (by rw [U.ev.kindOf]; exact h1) (loadGlobal_builtin (mg := C.mg) (mb := C.mb) ?_ h3 ?_ h4 q) h2
  · rw [U.ev.globals]; exact g_at U.X r
  · rw [U.ev.builtins]; exact b_at U.X r

theorem cline (d : Dyn C k md S A env ρ σ s) : A.units + 16 < cLine := by
  have := d.a.units
  have e : cLine = 9000 ∨ 9000 ≤ cLine := by decide
  rcases e with e | e <;> omega

theorem not_unary {u : V} {x : Value} {b : Bool} {K : Value → Shared → Prop} {E : Value → Shared → Prop} (hu : VR s.heap u x) (e : Mine.Internal.truthy σ u = some b) (h : K (.bool (!b)) s) : wpAny C.M A (unaryOp .Not x) K E s := by
  unfold unaryOp
  refine wpAny_holding ?_
  dsimp only
  rw [if_pos (by decide)]
  exact wpAny_bind (truthy_ok hu e (wpAny_pure h))

/- simple expressions -/
theorem ev_none : EvP C .none := by
  intro k md Φ S x env A ρ σ s Q X U d hm h
  dsimp only [E_none, E_tt, E_ff, E_int, E_str, E_var, E_glob, E_bin, E_neg, E_not, E_cmp, E_cmp2, E_bool, E_call, E_make, E_meth, E_m0, E_m1, E_insert, E_attr, E_idx, E_slice, E_rev, E_list, E_tuple, E_dict0, E_b1, E_min2, E_max2, E_isin, E_dict1, wpE_comp] at h
  refine cME hm ?_
  intro c kk p hm
  cases of_decide_eq_true hm
  · exact wpAny_Constant_none (.now d.r h .none)
theorem ev_tt : EvP C .tt := by
  intro k md Φ S x env A ρ σ s Q X U d hm h
  dsimp only [E_none, E_tt, E_ff, E_int, E_str, E_var, E_glob, E_bin, E_neg, E_not, E_cmp, E_cmp2, E_bool, E_call, E_make, E_meth, E_m0, E_m1, E_insert, E_attr, E_idx, E_slice, E_rev, E_list, E_tuple, E_dict0, E_b1, E_min2, E_max2, E_isin, E_dict1, wpE_comp] at h
  refine cME hm ?_
  intro c kk p hm
  cases of_decide_eq_true hm
  · exact wpAny_Constant_bool (.now d.r h .bool)
theorem ev_ff : EvP C .ff := by
  intro k md Φ S x env A ρ σ s Q X U d hm h
  dsimp only [E_none, E_tt, E_ff, E_int, E_str, E_var, E_glob, E_bin, E_neg, E_not, E_cmp, E_cmp2, E_bool, E_call, E_make, E_meth, E_m0, E_m1, E_insert, E_attr, E_idx, E_slice, E_rev, E_list, E_tuple, E_dict0, E_b1, E_min2, E_max2, E_isin, E_dict1, wpE_comp] at h
  refine cME hm ?_
  intro c kk p hm
  cases of_decide_eq_true hm
  · exact wpAny_Constant_bool (.now d.r h .bool)
theorem ev_int {i : Int} : EvP C (.int i) := by
  intro k md Φ S x env A ρ σ s Q X U d hm h
  dsimp only [E_none, E_tt, E_ff, E_int, E_str, E_var, E_glob, E_bin, E_neg, E_not, E_cmp, E_cmp2, E_bool, E_call, E_make, E_meth, E_m0, E_m1, E_insert, E_attr, E_idx, E_slice, E_rev, E_list, E_tuple, E_dict0, E_b1, E_min2, E_max2, E_isin, E_dict1, wpE_comp] at h
  refine cME hm ?_
  intro c kk p hm
  · cases of_decide_eq_true hm
    exact wpAny_Constant_int (.tok d.r h .int)
theorem ev_str {i : String} : EvP C (.str i) := by
  intro k md Φ S x env A ρ σ s Q X U d hm h
  dsimp only [E_none, E_tt, E_ff, E_int, E_str, E_var, E_glob, E_bin, E_neg, E_not, E_cmp, E_cmp2, E_bool, E_call, E_make, E_meth, E_m0, E_m1, E_insert, E_attr, E_idx, E_slice, E_rev, E_list, E_tuple, E_dict0, E_b1, E_min2, E_max2, E_isin, E_dict1, wpE_comp] at h
  refine cME hm ?_
  intro c kk p hm
  · cases of_decide_eq_true hm
    exact wpAny_Constant_str (.tok d.r h .str)
theorem ev_var {i : Nat} : EvP C (.var i) := by
  intro k md Φ S x env A ρ σ s Q X U d hm h
  dsimp only [E_none, E_tt, E_ff, E_int, E_str, E_var, E_glob, E_bin, E_neg, E_not, E_cmp, E_cmp2, E_bool, E_call, E_make, E_meth, E_m0, E_m1, E_insert, E_attr, E_idx, E_slice, E_rev, E_list, E_tuple, E_dict0, E_b1, E_min2, E_max2, E_isin, E_dict1, wpE_comp] at h
  refine nmME hm ?_
  intro id p hm
  · refine ob25 (Sc.var_elim hm) ?_
    intro x ee67
    subst ee67
    intro h1 h2 h3 h4
    refine ob5 (onSome_elim h) ?_
    intro v hv q
    refine load_ok U.ev.toEnvOk d.l h1 hv ?_ h3 h4 fun u hu => .now d.r q hu
    rw [U.ev.kindOf]; exact h2
theorem ev_glob {g : String} : EvP C (.glob g) := by
  intro k md Φ S x env A ρ σ s Q X U d hm h
  dsimp only [E_none, E_tt, E_ff, E_int, E_str, E_var, E_glob, E_bin, E_neg, E_not, E_cmp, E_cmp2, E_bool, E_call, E_make, E_meth, E_m0, E_m1, E_insert, E_attr, E_idx, E_slice, E_rev, E_list, E_tuple, E_dict0, E_b1, E_min2, E_max2, E_isin, E_dict1, wpE_comp] at h
  refine nmME hm ?_
  intro id p hm
  · refine ob5 (onSome_elim h) ?_
    intro i hi q
    refine ob6 (U.X.glob g i hi) ?_
    intro t ht
    exact glb_ok U d.r hm ht (.now d.r q .int)
theorem ev_bin {op : Operator} {a b : Ex} (ha : EvP C a) (hb : EvP C b) : EvP C (.bin op a b) := by
  intro k md Φ S x env A ρ σ s Q X U d hm h
  dsimp only [E_none, E_tt, E_ff, E_int, E_str, E_var, E_glob, E_bin, E_neg, E_not, E_cmp, E_cmp2, E_bool, E_call, E_make, E_meth, E_m0, E_m1, E_insert, E_attr, E_idx, E_slice, E_rev, E_list, E_tuple, E_dict0, E_b1, E_min2, E_max2, E_isin, E_dict1, wpE_comp] at h
  refine biME hm ?_
  intro l op' r p hm
  · simp only [Bool.and_eq_true, decide_eq_true_eq] at hm
    refine ob11 hm ?_
    clear hm
    intro ee68
    subst ee68
    intro h1 h2
    refine wpAny_BinOp (seqE (.refl d.r) (ha U d h1 h) fun x u σ₁ s₁ q hu _ st => seqE st (hb U (d.step st) h2 q) fun y v σ₂ s₂ q hv st₂ st' => fin st' ?_)
    exact bin_ok st'.rel (st₂.vr hu) hv q
theorem ev_neg {a : Ex} (ha : EvP C a) : EvP C (.neg a) := by
  intro k md Φ S x env A ρ σ s Q X U d hm h
  dsimp only [E_none, E_tt, E_ff, E_int, E_str, E_var, E_glob, E_bin, E_neg, E_not, E_cmp, E_cmp2, E_bool, E_call, E_make, E_meth, E_m0, E_m1, E_insert, E_attr, E_idx, E_slice, E_rev, E_list, E_tuple, E_dict0, E_b1, E_min2, E_max2, E_isin, E_dict1, wpE_comp] at h
  refine unME hm ?_
  intro op l p hm
  simp only [Bool.and_eq_true, decide_eq_true_eq] at hm
  refine ob8 hm ?_
  clear hm
  intro ee69
  subst ee69
  intro hm
  · refine wpAny_UnaryOp (seqE (.refl d.r) (ha U d hm h) fun x u σ₁ s₁ q hu _ st => fin st ?_)
    refine ob5 (onInt_elim q) ?_
    intro i ee70
    subst ee70
    intro q
    refine ob6 hu.int_of ?_
    intro t ee71
    subst ee71
    exact neg_int (.tok st.rel q .int)
theorem ev_not {a : Ex} (ha : EvP C a) : EvP C (.not a) := by
  intro k md Φ S x env A ρ σ s Q X U d hm h
  dsimp only [E_none, E_tt, E_ff, E_int, E_str, E_var, E_glob, E_bin, E_neg, E_not, E_cmp, E_cmp2, E_bool, E_call, E_make, E_meth, E_m0, E_m1, E_insert, E_attr, E_idx, E_slice, E_rev, E_list, E_tuple, E_dict0, E_b1, E_min2, E_max2, E_isin, E_dict1, wpE_comp] at h
  refine unME hm ?_
  intro op l p hm
  simp only [Bool.and_eq_true, decide_eq_true_eq] at hm
  refine ob8 hm ?_
  clear hm
  intro ee72
  subst ee72
  intro hm
  · refine wpAny_UnaryOp (seqE (.refl d.r) (ha U d hm h) fun x u σ₁ s₁ q hu _ st => fin st ?_)
    refine ob5 (onSome_elim q) ?_
    intro b hb q
    exact not_unary hu hb (.now st.rel q .bool)
theorem ev_cmp {op : CmpOp} {a b : Ex} (ha : EvP C a) (hb : EvP C b) : EvP C (.cmp op a b) := by
  intro k md Φ S x env A ρ σ s Q X U d hm h
  dsimp only [E_none, E_tt, E_ff, E_int, E_str, E_var, E_glob, E_bin, E_neg, E_not, E_cmp, E_cmp2, E_bool, E_call, E_make, E_meth, E_m0, E_m1, E_insert, E_attr, E_idx, E_slice, E_rev, E_list, E_tuple, E_dict0, E_b1, E_min2, E_max2, E_isin, E_dict1, wpE_comp] at h
  refine cp1ME hm ?_
  intro l op' r p hm
  · simp only [Bool.and_eq_true, decide_eq_true_eq] at hm
    refine ob11 hm ?_
    clear hm
    intro ee73
    subst ee73
    intro h1 h2
    refine wpAny_Compare1 (seqE (.refl d.r) (ha U d h1 h) fun x u σ₁ s₁ q hu _ st => seqE st (hb U (d.step st) h2 q) fun y v σ₂ s₂ q hv st₂ st' => fin st' ?_) (marks_of h2)
    refine ob5 (onSome_elim q) ?_
    intro c hc q
    exact cmp_ok U.X.nolimit (cline d) st'.rel (st₂.vr hu) hv hc fun t => .tok st'.rel q .bool
theorem tr_of {e : Ex} {x : Expr} (he : EvP C e) (U : Sur C k md Φ S env) (d : Dyn C k md S A env ρ σ s) (hm : matchE S e x = true) (h : wpE Φ md e ρ σ Q X) (hq : ∀ V σ', Q V σ' → ∃ b, Mine.Internal.truthy σ' V = some b)
    (hx : isTrue x env (eval x env) = (do let v ← eval x env; standAt x.pos; holding [v] (PySem.truthy v))) : wpAny C.M A (isTrue x env (eval x env)) (PostB C σ s Q) (PostX C σ s X) s := by
  refine wpAny_isTrue_value (seqE (.refl d.r) (he U d hm h) fun x u σ₁ s₁ q hu _ st => ?_) hx
  refine ob6 (hq _ _ q) ?_
  intro b hb
  exact truthy_ok hu hb ⟨u, σ₁, q, hb, st⟩
theorem tr_not {a : Ex} (ha : TrP C a) : TrP C (.not a) := by
  intro k md Φ S x env A ρ σ s Q X U d hm h hq
  dsimp only [E_none, E_tt, E_ff, E_int, E_str, E_var, E_glob, E_bin, E_neg, E_not, E_cmp, E_cmp2, E_bool, E_call, E_make, E_meth, E_m0, E_m1, E_insert, E_attr, E_idx, E_slice, E_rev, E_list, E_tuple, E_dict0, E_b1, E_min2, E_max2, E_isin, E_dict1, wpE_comp] at h
  refine unME hm ?_
  intro op l p hm
  simp only [Bool.and_eq_true, decide_eq_true_eq] at hm
  refine ob8 hm ?_
  clear hm
  intro ee74
  subst ee74
  intro hm
  · refine wpAny_isTrue_Not (seqB (.refl d.r) (ha U d hm h fun V σ' q => ?_) fun b V σ₁ s₁ q hb _ st => ?_)
    · refine ob5 (onSome_elim q) ?_
      intro b hb _
      exact ⟨b, hb⟩
    · refine ob5 (onSome_elim q) ?_
      intro b' hb' q
      rw [hb] at hb'; cases hb'
      exact ⟨.bool (!b), σ₁, q, rfl, st⟩
theorem tr_cmp {op : CmpOp} {a b : Ex} (ha : EvP C a) (hb : EvP C b) : TrP C (.cmp op a b) := by
  intro k md Φ S x env A ρ σ s Q X U d hm h hq
  dsimp only [E_none, E_tt, E_ff, E_int, E_str, E_var, E_glob, E_bin, E_neg, E_not, E_cmp, E_cmp2, E_bool, E_call, E_make, E_meth, E_m0, E_m1, E_insert, E_attr, E_idx, E_slice, E_rev, E_list, E_tuple, E_dict0, E_b1, E_min2, E_max2, E_isin, E_dict1, wpE_comp] at h
  refine cp1ME hm ?_
  intro l op' r p hm
  · simp only [Bool.and_eq_true, decide_eq_true_eq] at hm
    refine ob11 hm ?_
    clear hm
    intro ee75
    subst ee75
    intro h1 h2
    refine wpAny_isTrue_Compare1 (seqE (.refl d.r) (ha U d h1 h) fun x u σ₁ s₁ q hu _ st => seqE st (hb U (d.step st) h2 q) fun y v σ₂ s₂ q hv st₂ st' => ?_) (marks_of h2)
    refine ob5 (onSome_elim q) ?_
    intro c hc q
    exact cmp_ok U.X.nolimit (cline d) st'.rel (st₂.vr hu) hv hc fun t => wpAny_truthy_bool ⟨.bool c, σ₂, q, rfl, st'.trans (.toks st'.rel t)⟩

theorem ev_cmp2 {o₁ o₂ : CmpOp} {a b c : Ex} (ha : EvP C a) (hb : EvP C b) (hc : EvP C c) : EvP C (.cmp2 o₁ o₂ a b c) := by
  intro k md Φ S x env A ρ σ s Q X U d hm h
  dsimp only [E_none, E_tt, E_ff, E_int, E_str, E_var, E_glob, E_bin, E_neg, E_not, E_cmp, E_cmp2, E_bool, E_call, E_make, E_meth, E_m0, E_m1, E_insert, E_attr, E_idx, E_slice, E_rev, E_list, E_tuple, E_dict0, E_b1, E_min2, E_max2, E_isin, E_dict1, wpE_comp] at h
  refine cp2ME hm ?_
  intro l p₁ p₂ m r p hm
  · simp only [Bool.and_eq_true, decide_eq_true_eq] at hm
    refine ob26 hm ?_
    clear hm
    intro ee76
    subst ee76
    intro ee77
    subst ee77
    intro h1 h2 h3
    refine Compare_chain (seqE (.refl d.r) (ha U d h1 h) fun x u σ₁ s₁ q hu _ st => chain_link (seqE st (hb U (d.step st) h2 q) fun y v σ₂ s₂ q hv st₂ st' => ?_)) (by show behindInMarks _ _ = false; exact marks_of h3)
    refine ob5 (onSome_elim q) ?_
    intro r hr q
    refine cmp_ok U.X.nolimit (cline d) st'.rel (st₂.vr hu) hv hr fun t => wpAny_truthy_bool ?_
    have st3 := st'.trans (.toks st'.rel t)
    cases r with
    | false => exact ⟨.bool false, σ₂, q, .bool, st3⟩
    | true =>
      refine chain_last (seqE st3 (hc U (d.step st3) h3 q) fun z w σ₃ s₃ q hw st₃ st' => fin st' ?_)
      refine ob5 (onSome_elim q) ?_
      intro r hr q
      exact cmp_ok U.X.nolimit (cline d) st'.rel (st₃.vr (Step.vr (.toks (D := No) st3.rel t) hv)) hw hr fun t => .tok st'.rel q .bool
theorem tr_cmp2 {o₁ o₂ : CmpOp} {a b c : Ex} (ha : EvP C a) (hb : EvP C b) (hc : EvP C c) : TrP C (.cmp2 o₁ o₂ a b c) := by
  intro k md Φ S x env A ρ σ s Q X U d hm h hq
  dsimp only [E_none, E_tt, E_ff, E_int, E_str, E_var, E_glob, E_bin, E_neg, E_not, E_cmp, E_cmp2, E_bool, E_call, E_make, E_meth, E_m0, E_m1, E_insert, E_attr, E_idx, E_slice, E_rev, E_list, E_tuple, E_dict0, E_b1, E_min2, E_max2, E_isin, E_dict1, wpE_comp] at h
  refine cp2ME hm ?_
  intro l p₁ p₂ m r p hm
  · simp only [Bool.and_eq_true, decide_eq_true_eq] at hm
    refine ob26 hm ?_
    clear hm
    intro ee78
    subst ee78
    intro ee79
    subst ee79
    intro h1 h2 h3
    refine isTrue_chain (seqE (.refl d.r) (ha U d h1 h) fun x u σ₁ s₁ q hu _ st => test_link (seqE st (hb U (d.step st) h2 q) fun y v σ₂ s₂ q hv st₂ st' => ?_)) (by show behindInMarks _ _ = false; exact marks_of h3)
    refine ob5 (onSome_elim q) ?_
    intro r hr q
    refine cmp_ok U.X.nolimit (cline d) st'.rel (st₂.vr hu) hv hr fun t => wpAny_truthy_bool ?_
    have st3 := st'.trans (.toks st'.rel t)
    cases r with
    | false => exact ⟨.bool false, σ₂, q, rfl, st3⟩
    | true =>
      refine test_last (seqE st3 (hc U (d.step st3) h3 q) fun z w σ₃ s₃ q hw st₃ st' => ?_)
      refine ob5 (onSome_elim q) ?_
      intro r hr q
      exact cmp_ok U.X.nolimit (cline d) st'.rel (st₃.vr (Step.vr (.toks (D := No) st3.rel t) hv)) hw hr fun t => wpAny_truthy_bool ⟨.bool r, σ₃, q, rfl, st'.trans (.toks st'.rel t)⟩

theorem evs_nil : EvsP C .nil := by
  intro k md Φ S xs env A ρ σ s Q X pos U d hm h
  cases xs with
  | nil => simp only [Es_nil, Es_cons] at h; exact args_nil ⟨[], σ, h, .nil, .refl d.r⟩
  | cons _ _ => simp [mEs_nn, mEs_nc, mEs_cn, mEs_cc] at hm
theorem evs_cons {e : Ex} {es : Exs} (he : EvP C e) (hs : EvsP C es) : EvsP C (.cons e es) := by
  intro k md Φ S xs env A ρ σ s Q X pos U d hm h
  cases xs with
  | nil => simp [mEs_nn, mEs_nc, mEs_cn, mEs_cc] at hm
  | cons x xs =>
    simp only [mEs_nn, mEs_nc, mEs_cn, mEs_cc, Bool.and_eq_true] at hm; simp only [Es_nil, Es_cons] at h
    refine args_cons (seqE (.refl d.r) (he U d hm.1 h) fun y u σ₁ s₁ q hu _ st => seqL st (hs U (d.step st) hm.2 q) fun ys vs σ₂ s₂ q hv st₂ st' => ⟨_, σ₂, q, .cons (st₂.vr hu) hv, st'⟩) (star_of hm.1)

/-- arguments -/
theorem args_any {pos : Pos} : ∀ {es : Exs} {xs : List Expr}, matchEs S es xs = true → (backTo pos (starEach xs env)).any (·.1) = false
  | .nil, [], _ => rfl
  | .cons e es, x :: xs, h => by
    simp only [mEs_nn, mEs_nc, mEs_cn, mEs_cc, Bool.and_eq_true] at h
    rw [star_of h.1]
    show (false || (backTo pos (starEach xs env)).any (·.1)) = false
    rw [args_any (es := es) h.2]; rfl
  | .nil, _ :: _, h => by simp [mEs_nn, mEs_nc, mEs_cn, mEs_cc] at h
  | .cons _ _, [], h => by simp [mEs_nn, mEs_nc, mEs_cn, mEs_cc] at h
theorem args_ok {es : Exs} {xs : List Expr} {f : Value} {pos : Pos} {K : Args → Shared → Prop} {E : Value → Shared → Prop} (hm : matchEs S es xs = true) (h : wpAny C.M A (spliced (backTo pos (starEach xs env))) (fun vs s' => K ⟨vs, []⟩ s') E s) :
    wpAny C.M A (evalArgs f true (backTo pos (starEach xs env)) []) K E s := by
  cases xs with
  | nil =>
    unfold evalArgs
    first
      | exact wpAny_bind (wpAny_mono h (fun vs s' h' => wpAny_holding (wpAny_bind (wpAny_pure (wpAny_bind (wpAny_pure (wpAny_pure h')))))) fun _ _ e => e)
      | exact wpAny_bind (wpAny_mono h (fun vs s' h' => wpAny_bind (wpAny_pure (wpAny_holding (wpAny_bind (wpAny_pure (wpAny_bind (wpAny_pure (wpAny_pure h')))))))) fun _ _ e => e)
  | cons x xs =>
    cases es with
    | nil => simp [mEs_nn, mEs_nc, mEs_cn, mEs_cc] at hm
    | cons e es =>
      simp only [mEs_nn, mEs_nc, mEs_cn, mEs_cc, Bool.and_eq_true] at hm
      rw [star_of hm.1] at h ⊢
      exact evalArgs_plain h

theorem Dyn.run (d : Dyn C k md S A env ρ σ s) : ARun C k md A σ s.heap := by
  refine lift fun gg back => ?_
  obtain ⟨a1, a2, a3, a4⟩ := d.a
  refine back ?_
  clear back gg
  exact ⟨a1, a2, by omega, by omega⟩

theorem ev_call {f : String} {es : Exs} (hs : EvsP C es) : EvP C (.call f es) := by
  intro k md Φ S x env A ρ σ s Q X U d hm h
  dsimp only [E_none, E_tt, E_ff, E_int, E_str, E_var, E_glob, E_bin, E_neg, E_not, E_cmp, E_cmp2, E_bool, E_call, E_make, E_meth, E_m0, E_m1, E_insert, E_attr, E_idx, E_slice, E_rev, E_list, E_tuple, E_dict0, E_b1, E_min2, E_max2, E_isin, E_dict1, wpE_comp] at h
  refine ncME hm ?_
  intro id p xs pos hm
  · simp only [Bool.and_eq_true] at hm
    refine ob6 (U.ca.dom _ _ h.1) ?_
    intro a ha
    refine ob27 (U.X.fnG f a ha) ?_
    intro hg o fd ho hd
    refine Call_Name rfl (glb_ok U d.r hm.1 hg (callWith_function (o := o) (fd := fd) (args_ok hm.2 (seqL (.refl d.r) (hs U d hm.2 h.2) fun xs vs σ₁ s₁ q hv _ st => ⟨⟨st.rel.stays a o ho, hd⟩, ?_⟩))))
    refine wpAny_mono (wpAny_call (U.ca.run ha (d.step st).run st.rel hv q)) (fun _ _ hx => hx.from st) fun _ _ hx => hx.from st

theorem ev_meth {o : Ex} {name : String} {es : Exs} (ho : EvP C o) (hs : EvsP C es) : EvP C (.meth o name es) := by
  intro k md Φ S x env A ρ σ s Q X U d hm h
  dsimp only [E_none, E_tt, E_ff, E_int, E_str, E_var, E_glob, E_bin, E_neg, E_not, E_cmp, E_cmp2, E_bool, E_call, E_make, E_meth, E_m0, E_m1, E_insert, E_attr, E_idx, E_slice, E_rev, E_list, E_tuple, E_dict0, E_b1, E_min2, E_max2, E_isin, E_dict1, wpE_comp] at h
  refine acME hm ?_
  intro x id apos xs pos hm
  · simp only [Bool.and_eq_true, decide_eq_true_eq] at hm
    refine ob28 hm ?_
    clear hm
    intro ee80
    subst ee80
    intro hline hb hlen h1 h2
    rw [arm_eval_Call, base_of hb]
    refine wpAny_bind (seqE (.refl d.r) (ho U d h1 h) fun y u σ₁ s₁ q hu _ st => wpAny_bind (wpAny_standAt ?_))
    refine lift fun gg back => ?_
    obtain ⟨a, c, dd, fs, rfl, ha, hd, ⟨hl, hh⟩, q⟩ := onInst_elim q
    refine ob6 (U.ca.dom _ _ hh) ?_
    intro fa hfa
    cases hu.ref_of
    obtain ⟨Cl, hcl, hi⟩ := st.rel.tr a _ ha
    refine back ?_
    clear back gg
    have hne : c ≠ "" := fun e => by rw [e, U.X.clsNe] at hcl; cases hcl
    refine ob29 (U.X.meth c name fa Cl hfa hne hcl) ?_
    intro _ _ _ ob fd hob hdat
    have hform : methodCallForm (xs.length + ([] : List Keyword).length) (backTo pos (starEach xs env)) (backToKw pos (keywordEach [] env)) = true := by
      unfold methodCallForm
      have := args_any (env := env) (pos := pos) (es := es) h2
      have h0 : (backTo pos (starEach xs env)).all (fun x => !x.1) = true := by
        rw [List.all_eq_true]
        intro y hy
        rw [List.any_eq_false] at this
        simpa using this y hy
      rw [h0]
      simp only [List.length_nil, Nat.add_zero, Bool.true_and, Bool.and_eq_true, decide_eq_true_eq]
      exact ⟨rfl, hlen⟩
    have hpos : methodCallPos true x env apos pos = pure pos := by unfold methodCallPos; rw [hline]; rfl
    unfold methodCall
    rw [hform]
    refine wpAny_bind (wpAny_holding ?_)
    show wpAny _ _ (getMethod _ _ _) _ _ _
    refine getMethod_ok (Cl := Cl) U.X st.rel ha hd hl hfa hne ?_
    refine wpAny_bind (wpAny_of_eq hpos ?_)
    refine callWith_function (o := ob) (fd := fd) (args_ok h2 (seqL st (hs U (d.step st) h2 q) fun xs vs σ₂ s₂ q hv st₂ st' => ⟨⟨st'.rel.stays fa ob hob, hdat⟩, ?_⟩))
    exact wpAny_mono (wpAny_call (U.ca.run hfa (d.step st').run st'.rel (.cons .ref hv) q)) (fun _ _ hx => hx.from st') fun _ _ hx => hx.from st'

theorem callWith_clsK {es : Exs} {xs : List Expr} {Cl : Addr} {pos : Pos} {K : Value → Shared → Prop} {E : Value → Shared → Prop} (hK : C.K.In s.heap) (hk : keepIn C.K (.ref Cl) = true) (hm : matchEs S es xs = true)
    (h : wpAny C.M A (spliced (backTo pos (starEach xs env))) (fun vs s₁ => C.K.In s₁.heap ∧ wpAny C.M A (call (.ref Cl) vs) K E s₁) E s) : wpAny C.M A (callWith pos (.ref Cl) [] (backTo pos (starEach xs env)) []) K E s := by
  cases xs with
  | nil => exact callWith_K0 hK hk (fun Γ p hΓ => ((h Γ p hΓ : C.K.In s.heap ∧ wpAny C.M A (call (.ref Cl) []) K E s)).2 Γ p hΓ)
  | cons x xs =>
    cases es with
    | nil => simp [mEs_nn, mEs_nc, mEs_cn, mEs_cc] at hm
    | cons e es =>
      have hm' := hm
      simp only [mEs_nn, mEs_nc, mEs_cn, mEs_cc, Bool.and_eq_true] at hm
      exact callWith_K hK hk h (star_of hm.1) (args_any hm.2)

theorem ev_make {c : String} {es : Exs} (hs : EvsP C es) : EvP C (.make c es) := by
  intro k md Φ S x env A ρ σ s Q X U d hm h
  dsimp only [E_none, E_tt, E_ff, E_int, E_str, E_var, E_glob, E_bin, E_neg, E_not, E_cmp, E_cmp2, E_bool, E_call, E_make, E_meth, E_m0, E_m1, E_insert, E_attr, E_idx, E_slice, E_rev, E_list, E_tuple, E_dict0, E_b1, E_min2, E_max2, E_isin, E_dict1, wpE_comp] at h
  refine ncME hm ?_
  intro id p xs pos hm
  · simp only [Bool.and_eq_true, decide_eq_true_eq] at hm
    refine lift fun gg back => ?_
    refine ob6 (U.ca.dom _ _ h.1) ?_
    intro fa hfa
    refine ob11 hm ?_
    clear hm
    intro hne hg hmm
    refine ob25 (U.X.made c fa hfa hne) ?_
    intro Cl hcl hkp hmk hfi hty
    refine back ?_
    clear back gg
    refine Call_Name rfl (glb_ok U d.r hg (U.X.clsG c Cl hcl) (callWith_clsK (inK_at U.X d.r) hkp hmm (seqL (.refl d.r) (hs U d hmm h.2) fun xs vs σ₁ s₁ q hv _ st => ⟨inK_at U.X st.rel, ?_⟩)))
    refine lift fun gg back => ?_
    obtain ⟨hh, g, dr, tk, os⟩ := s₁
    refine back ?_
    clear back gg
    have hK : C.K.In hh := inK_at U.X st.rel
    refine wpAny_call (make_core (makes_of hK hmk) (looks_findIn hK hfi) (fun self => bind_fn hK self hty) (.inl rfl) ?_)
    have hsz : (hh.push emptyDict).objs.size = hh.objs.size + 1 := Heap.size_push ..
    have st1 : Step C No σ₁ ⟨hh, g, dr, tk, os⟩ (σ₁.upd hh.objs.size (.ns [])) ⟨hh.push emptyDict, g, dr, tk, os⟩ :=
      Step.alloc (s := ⟨hh, g, dr, tk, os⟩) (t := tk) st.rel push_keeps push_size (Nat.le_refl _) ⟨[], 0, Heap.get?_push_size _ rfl, trivial, .nil⟩
    have st2 : Step C No (σ₁.upd hh.objs.size (.ns [])) ⟨hh.push emptyDict, g, dr, tk, os⟩ ((σ₁.upd hh.objs.size (.ns [])).upd (hh.objs.size + 1) (.inst c hh.objs.size)) ⟨(hh.push emptyDict).push (instObj Cl hh.objs.size), g, dr, tk, os⟩ :=
      Step.alloc (s := ⟨hh.push emptyDict, g, dr, tk, os⟩) (t := tk) st1.rel push_keeps push_size (by rw [hsz]; exact Nat.le_refl _) ⟨Cl, hcl, by rw [← hsz]; exact Heap.get?_push_size _ rfl⟩
    have st12 := st1.trans st2
    have hq := q (hh.objs.size + 1) hh.objs.size (st.rel.none_of_ge (Nat.le_succ _)) (st.rel.none_of_ge (Nat.le_refl _)) (Nat.succ_ne_self _)
    have a' := (d.step (st.trans st12)).a
    have ar : ARun C k md (A.under (.builtin "type.__call__" ⟨.ref Cl :: xs, []⟩)) ((σ₁.upd hh.objs.size (.ns [])).upd (hh.objs.size + 1) (.inst c hh.objs.size)) ((hh.push emptyDict).push (instObj Cl hh.objs.size)) := by
      refine lift fun gg back => ?_
      obtain ⟨a1, a2, a3, a4⟩ := a'
      refine back ?_
      clear back gg
      refine ⟨a1, a2, ?_, ?_⟩
      · show A.depth + 1 + 3 * k + 1 < 990; omega
      · show A.units + (1 + 3 * (Code.builtin "type.__call__" ⟨.ref Cl :: xs, []⟩).frames) + 40 * k + 10 < 9000
        have : (Code.builtin "type.__call__" ⟨.ref Cl :: xs, []⟩).frames = 0 := by rfl
        omega
    refine codeAny_mono (U.ca.run hfa ar st12.rel (.cons .ref (st12.vrs hv)) hq) fun r s' z => ?_
    rcases r with e | (v | _ | _ | _)
    · exact z.from (st.trans st12)
    all_goals first | exact z.elim | skip
    refine lift fun gg back => ?_
    obtain ⟨V, σ', ⟨rfl, q'⟩, hv', st'⟩ := z
    refine back ?_
    clear back gg
    cases hv'.none_of
    exact ⟨rfl, .ref _, σ', q', .ref, (st.trans st12).trans st'⟩

theorem ev_attr {o : Ex} {name : String} (ho : EvP C o) : EvP C (.attr o name) := by
  intro k md Φ S x env A ρ σ s Q X U d hm h
  dsimp only [E_none, E_tt, E_ff, E_int, E_str, E_var, E_glob, E_bin, E_neg, E_not, E_cmp, E_cmp2, E_bool, E_call, E_make, E_meth, E_m0, E_m1, E_insert, E_attr, E_idx, E_slice, E_rev, E_list, E_tuple, E_dict0, E_b1, E_min2, E_max2, E_isin, E_dict1, wpE_comp] at h
  refine atME hm ?_
  intro y id p hm
  · simp only [Bool.and_eq_true, decide_eq_true_eq] at hm
    refine ob11 hm ?_
    clear hm
    intro ee81
    subst ee81
    intro hb h1
    rw [arm_eval_Attribute, base_of hb]
    refine wpAny_bind (seqE (.refl d.r) (ho U d h1 h) fun y u σ₁ s₁ q hu _ st => wpAny_bind (wpAny_standAt (wpAny_bind (wpAny_holding ?_))))
    exact attr_ok U.X st.rel hu (fun c => U.ca.fld c name) q fun z w t q hz => wpAny_bind (wpAny_letTemporaryGo (wpAny_pure (PostV.from st (.tok st.rel q hz))))
theorem ev_idx {a b : Ex} (ha : EvP C a) (hb : EvP C b) : EvP C (.idx a b) := by
  intro k md Φ S x env A ρ σ s Q X U d hm h
  dsimp only [E_none, E_tt, E_ff, E_int, E_str, E_var, E_glob, E_bin, E_neg, E_not, E_cmp, E_cmp2, E_bool, E_call, E_make, E_meth, E_m0, E_m1, E_insert, E_attr, E_idx, E_slice, E_rev, E_list, E_tuple, E_dict0, E_b1, E_min2, E_max2, E_isin, E_dict1, wpE_comp] at h
  refine suME hm ?_
  intro y z p hm
  · simp only [Bool.and_eq_true] at hm
    refine Subscript_ (seqE (.refl d.r) (ha U d hm.1 h) fun x u σ₁ s₁ q hu _ st => seqE st (hb U (d.step st) hm.2 q) fun y v σ₂ s₂ q hv st₂ st' => fin st' ?_)
    exact item_ok (K := fun z => Q z σ₂) st'.rel (st₂.vr hu) hv q fun z w q hz => .now st'.rel q hz
theorem evo_none : EvoP C .none := by
  intro k md Φ S x env A ρ σ s Q X U d hm h
  cases x with
  | none => simp only [O_none, O_some] at h; exact wpAny_pure (.now d.r h .none)
  | some _ => simp [mO_nn, mO_ns, mO_sn, mO_ss] at hm
theorem evo_some {e : Ex} (he : EvP C e) : EvoP C (.some e) := by
  intro k md Φ S x env A ρ σ s Q X U d hm h
  cases x with
  | none => simp [mO_nn, mO_ns, mO_sn, mO_ss] at hm
  | some x => simp only [O_none, O_some] at h; simp only [mO_nn, mO_ns, mO_sn, mO_ss] at hm; exact he U d hm h
theorem ev_slice {a : Ex} {lo hi : ExO} (ha : EvP C a) (hlo : EvoP C lo) (hhi : EvoP C hi) : EvP C (.slice a lo hi) := by
  intro k md Φ S x env A ρ σ s Q X U d hm h
  dsimp only [E_none, E_tt, E_ff, E_int, E_str, E_var, E_glob, E_bin, E_neg, E_not, E_cmp, E_cmp2, E_bool, E_call, E_make, E_meth, E_m0, E_m1, E_insert, E_attr, E_idx, E_slice, E_rev, E_list, E_tuple, E_dict0, E_b1, E_min2, E_max2, E_isin, E_dict1, wpE_comp] at h
  refine sl0ME hm ?_
  intro y l u q p hm
  · simp only [Bool.and_eq_true] at hm
    refine ob11 hm ?_
    clear hm
    intro h1 h2 h3
    refine Subscript_ (seqE (.refl d.r) (ha U d h1 h) fun x u σ₁ s₁ q hu _ st => wpAny_Slice (seqE st (hlo U (d.step st) h2 q) fun y v σ₂ s₂ q hv st₂ st' => seqE st' (hhi U (d.step st') h3 q) fun z w σ₃ s₃ q hw st₃ st'' => ?_))
    rw [evalPart_none]
    exact wpAny_pure (fin st'' (slice_ok st''.rel (st₃.vr (st₂.vr hu)) (st₃.vr hv) hw q))
theorem ev_list {es : Exs} (hs : EvsP C es) : EvP C (.list es) := by
  intro k md Φ S x env A ρ σ s Q X U d hm h
  dsimp only [E_none, E_tt, E_ff, E_int, E_str, E_var, E_glob, E_bin, E_neg, E_not, E_cmp, E_cmp2, E_bool, E_call, E_make, E_meth, E_m0, E_m1, E_insert, E_attr, E_idx, E_slice, E_rev, E_list, E_tuple, E_dict0, E_b1, E_min2, E_max2, E_isin, E_dict1, wpE_comp] at h
  refine liME hm ?_
  intro xs p hm
  · refine wpAny_List (seqL (.refl d.r) (hs U d hm h) fun xs vs σ₁ s₁ q hv _ st => ?_)
    have e := hv.length
    exact ⟨szLine (by omega), .from st (new_list (n := 0) (t := s₁.toks) st.rel q.2 push_keeps push_size (Nat.le_refl _) (Heap.get?_push_size _ rfl) hv q.1)⟩
theorem ev_tuple {es : Exs} (hs : EvsP C es) : EvP C (.tuple es) := by
  intro k md Φ S x env A ρ σ s Q X U d hm h
  dsimp only [E_none, E_tt, E_ff, E_int, E_str, E_var, E_glob, E_bin, E_neg, E_not, E_cmp, E_cmp2, E_bool, E_call, E_make, E_meth, E_m0, E_m1, E_insert, E_attr, E_idx, E_slice, E_rev, E_list, E_tuple, E_dict0, E_b1, E_min2, E_max2, E_isin, E_dict1, wpE_comp] at h
  refine tuME hm ?_
  intro xs kk p hm
  · refine wpAny_Tuple (seqL (.refl d.r) (hs U d hm h) fun xs vs σ₁ s₁ q hv _ st => ?_)
    have e := hv.length
    refine ⟨szLine (by omega), .from st ⟨.tup vs, σ₁, q.2, .tup (n := 0) (Heap.get?_push_size _ rfl) (hv.keep fun b o e _ => push_keeps _ _ e), .grow (t := s₁.toks) st.rel push_keeps push_size⟩⟩
theorem new_dict (h : Heap) : KR C.prog C.w (h.push { cls := .type "dict", data := .dict #[] }) h.objs.size [] :=
  .inl ⟨[], rfl, _, #[], 0, Heap.get?_push_size _ rfl, ⟨rfl, rfl, rfl⟩, rfl, fun _ h => by simp at h, .nil, .nil⟩
theorem ev_dict0 : EvP C .dict0 := by
  intro k md Φ S x env A ρ σ s Q X U d hm h
  dsimp only [E_none, E_tt, E_ff, E_int, E_str, E_var, E_glob, E_bin, E_neg, E_not, E_cmp, E_cmp2, E_bool, E_call, E_make, E_meth, E_m0, E_m1, E_insert, E_attr, E_idx, E_slice, E_rev, E_list, E_tuple, E_dict0, E_b1, E_min2, E_max2, E_isin, E_dict1, wpE_comp] at h
  refine diME hm ?_
  intro ks vs p hm
  refine l0E hm ?_
  intro hm
  refine l0E hm ?_
  intro hm
  · exact wpAny_Dict_empty ⟨.ref _, _, h _ (d.r.none_of_ge (Nat.le_refl _)), .ref, .alloc (t := s.toks) d.r push_keeps push_size (Nat.le_refl _) ⟨new_dict _, Nat.zero_le _⟩⟩

theorem plainB {id : String} {x : Expr} {e : Ex} {pos : Pos} {K : Value → Shared → Prop} {E : Value → Shared → Prop} (hm : matchE S e x = true) (h : wpAny C.M A (eval x env) (fun v s₁ => wpAny C.M A (call (.builtin id) [v]) K E s₁) E s) :
    wpAny C.M A (callWith pos (.builtin id) [] (backTo pos (starEach [x] env)) []) K E s := by
  rw [star_of hm]
  exact callWith_builtin (by rfl) (evalArgs_plain (spliced_cons (wpAny_mono h (fun v s₁ h₁ => spliced_nil h₁) fun _ _ e => e)))
theorem plainT {id : String} {x : Expr} {e : Ex} {pos : Pos} {K : Value → Shared → Prop} {E : Value → Shared → Prop} (hm : matchE S e x = true) (h : wpAny C.M A (eval x env) (fun v s₁ => wpAny C.M A (call (.type id) [v]) K E s₁) E s) :
    wpAny C.M A (callWith pos (.type id) [] (backTo pos (starEach [x] env)) []) K E s := by
  rw [star_of hm]
  exact PySem.callWith_type (by rfl) (evalArgs_plain (spliced_cons (wpAny_mono h (fun v s₁ h₁ => spliced_nil h₁) fun _ _ e => e)))
theorem ev_b1 {f : B1} {e : Ex} (he : EvP C e) : EvP C (.b1 f e) := by
  intro k md Φ S x env A ρ σ s Q X U d hm h
  dsimp only [E_none, E_tt, E_ff, E_int, E_str, E_var, E_glob, E_bin, E_neg, E_not, E_cmp, E_cmp2, E_bool, E_call, E_make, E_meth, E_m0, E_m1, E_insert, E_attr, E_idx, E_slice, E_rev, E_list, E_tuple, E_dict0, E_b1, E_min2, E_max2, E_isin, E_dict1, wpE_comp] at h
  refine ncME hm ?_
  intro nid np xs pos hm
  refine l1E hm ?_
  intro x hm
  · simp only [Bool.and_eq_true] at hm
    have hb : ∀ {id : String}, (b1Name f, Value.builtin id) ∈ bNames → (∀ v V σ₁ s₁, b1V md f V σ₁ Q → VR s₁.heap V v → Step C No σ s σ₁ s₁ → wpAny C.M A (call (.builtin id) [v]) (PostV C σ₁ s₁ Q) (PostX C σ s X) s₁) → wpAny C.M A (eval (.Call (.Name nid np) [x] [] pos) env) (PostV C σ s Q) (PostX C σ s X) s :=
      fun {id} hin go => Call_Name rfl (bnm_ok U d.r hm.1 hin (plainB hm.2 (seqE (.refl d.r) (he U d hm.2 h) fun v V σ₁ s₁ q hv _ st => fin st (go v V σ₁ s₁ q hv st))))
    have ht : ∀ {id : String}, (b1Name f, Value.type id) ∈ bNames → (∀ v V σ₁ s₁, b1V md f V σ₁ Q → VR s₁.heap V v → Step C No σ s σ₁ s₁ → wpAny C.M A (call (.type id) [v]) (PostV C σ₁ s₁ Q) (PostX C σ s X) s₁) → wpAny C.M A (eval (.Call (.Name nid np) [x] [] pos) env) (PostV C σ s Q) (PostX C σ s X) s :=
      fun {id} hin go => Call_Name rfl (bnm_ok U d.r hm.1 hin (plainT hm.2 (seqE (.refl d.r) (he U d hm.2 h) fun v V σ₁ s₁ q hv _ st => fin st (go v V σ₁ s₁ q hv st))))
    cases f with
    | len => exact hb (id := "len") (List.mem_of_getElem? (i := 0) rfl) fun v V σ₁ s₁ q hv st => PostV.len st.rel hv q
    | list => exact ht (id := "list") (List.mem_of_getElem? (i := 1) rfl) fun v V σ₁ s₁ q hv st => listOf_ok st.rel hv q
    | sorted => exact hb (id := "sorted") (List.mem_of_getElem? (i := 2) rfl) fun v V σ₁ s₁ q hv st => sorted_ok U.X.nolimit (fun h => d.a.handled h) st.rel hv q
    | int =>
      refine ht (id := "int") (List.mem_of_getElem? (i := 3) rfl) fun v V σ₁ s₁ q hv st => ?_
      unfold b1V at q
      dsimp only at q
      split at q
      · cases hv.bool_of; exact intBool_ok st.rel q
      · exact q.elim
    | all => exact hb (id := "all") (List.mem_of_getElem? (i := 4) rfl) fun v V σ₁ s₁ q hv st => all_ok (d.a.handled q.1) st.rel hv q.2
    | any => exact hb (id := "any") (List.mem_of_getElem? (i := 5) rfl) fun v V σ₁ s₁ q hv st => q.elim
    | tuple => exact ht (id := "tuple") (List.mem_of_getElem? (i := 6) rfl) fun v V σ₁ s₁ q hv st => tupleOf_ok st.rel hv q
    | dict => exact ht (id := "dict") (List.mem_of_getElem? (i := 7) rfl) fun v V σ₁ s₁ q hv st => q.elim
    | set => exact ht (id := "set") (List.mem_of_getElem? (i := 8) rfl) fun v V σ₁ s₁ q hv st => q.elim
    | max => exact hb (id := "max") (List.mem_of_getElem? (i := 9) rfl) fun v V σ₁ s₁ q hv st => q.elim
theorem ty_mem {t : Ty} {c : Value} (h : tyV t = some c) : (tyName t, c) ∈ bNames := by
  cases t with
  | int => cases h; exact List.mem_of_getElem? (i := 3) rfl
  | bool => cases h; exact List.mem_of_getElem? (i := 14) rfl
  | tuple => cases h; exact List.mem_of_getElem? (i := 6) rfl
  | list => cases h; exact List.mem_of_getElem? (i := 1) rfl
  | str => cases h; exact List.mem_of_getElem? (i := 15) rfl
  | cls _ => cases h
theorem isInst_cls {D : String} {u : V} {b : Bool} (e : isInst σ u (.cls D) = some b) : ∃ a c, u = .ref a ∧ σ a = some (.exc c) ∧ c ∈ excNames ∧ b = excSub c D := by
  cases u with
  | ref a =>
    simp only [isInst] at e
    split at e
    · split at e
      · cases e; exact ⟨_, _, rfl, by assumption, by assumption, rfl⟩
      · cases e
    · cases e
  | _ => simp [isInst] at e
theorem ev_isin {e : Ex} {t : Ty} (he : EvP C e) : EvP C (.isin e t) := by
  intro k md Φ S x env A ρ σ s Q X U d hm h
  dsimp only [E_none, E_tt, E_ff, E_int, E_str, E_var, E_glob, E_bin, E_neg, E_not, E_cmp, E_cmp2, E_bool, E_call, E_make, E_meth, E_m0, E_m1, E_insert, E_attr, E_idx, E_slice, E_rev, E_list, E_tuple, E_dict0, E_b1, E_min2, E_max2, E_isin, E_dict1, wpE_comp] at h
  refine ncME hm ?_
  intro id p xs pos hm
  refine l2E hm ?_
  intro x z hm
  refine nmME hm ?_
  intro id' p' hm
  · simp only [Bool.and_eq_true] at hm
    refine ob30 hm ?_
    clear hm
    intro htk h0 h1 h2
    refine Call_Name rfl (bnm_ok (v := .builtin "isinstance") U d.r h0 (List.mem_of_getElem? (i := 11) rfl) ?_)
    rw [star_of h2]
    refine callWith_builtin (by rfl) (evalArgs_plain (spliced_cons (seqE (.refl d.r) (he U d h2 h) fun x u σ₁ s₁ q hu _ st => ?_)))
    show wpAny _ _ (spliced ((false, eval (.Name id' p') env) :: [])) _ _ _
    refine spliced_cons ?_
    refine ob5 (onSome_elim q) ?_
    intro b hb q
    by_cases ht : ∃ D, t = .cls D
    · refine lift fun gg back => ?_
      refine ob6 ht ?_
      clear ht
      intro D ee82
      subst ee82
      refine ob9 (isInst_cls hb) ?_
      intro a c ee83
      subst ee83
      intro ha hc ee84
      subst ee84
      cases hu.ref_of
      obtain ⟨Cl, o, vs, hcl, ho, hoc, hod⟩ := st.rel.tr a _ ha
      refine back ?_
      clear back gg
      have fin' : ∀ vD, clsV C D = some vD → wpAny C.M A (call (.builtin "isinstance") [.ref a, vD]) (PostV C σ s Q) (PostX C σ s X) s₁ := fun vD hvD =>
        U.I.isi hc (of_decide_eq_true htk) hvD st.rel.stays hcl ho hoc.1 hoc.2 hod fun tk => .from st (.tok st.rel q .bool)
      have hD : (∃ vD, clsV C D = some vD) := U.I.dom D (of_decide_eq_true htk)
      refine ob6 hD ?_
      clear hD
      intro vD hvD
      rcases U.I.clsV D vD hvD with hg | ⟨rfl, rfl⟩
      · exact glb_ok U st.rel h1 hg (spliced_nil (fin' vD hvD))
      · exact bnm_ok U st.rel h1 (List.mem_of_getElem? (i := 16) rfl) (spliced_nil (fin' _ hvD))
    · have : ∃ c, tyV t = some c := by cases t <;> first | exact ⟨_, rfl⟩ | exact absurd ⟨_, rfl⟩ ht
      refine ob6 this ?_
      clear this
      intro c hc
      exact bnm_ok U st.rel h1 (ty_mem hc) (spliced_nil (isin_ok st.rel hu hc hb fun tk => .from st (.tok st.rel q .bool)))

/- and, or -/
noncomputable def BoP (C : Cx) (es : Exs) : Prop := ∀ {k : Nat} {md : Bool} {Φ : Calls} {S : Sc} {xs : List Expr} {env : Env} {A : Around} {ρ : Loc} {σ : Store} {s : Shared} {Q : V → Store → Prop} {X : XP} {pos : Pos} {isAnd : Bool},
  Sur C k md Φ S env → Dyn C k md S A env ρ σ s → matchEs S es xs = true → wpBool Φ md isAnd es ρ σ Q X → wpAny C.M A (boolOp pos (if isAnd then .And else .Or) (evalEach xs env)) (PostV C σ s Q) (PostX C σ s X) s
noncomputable def BtP (C : Cx) (es : Exs) : Prop := ∀ {k : Nat} {md : Bool} {Φ : Calls} {S : Sc} {xs : List Expr} {env : Env} {A : Around} {ρ : Loc} {σ : Store} {s : Shared} {Q : V → Store → Prop} {X : XP} {isAnd : Bool},
  Sur C k md Φ S env → Dyn C k md S A env ρ σ s → matchEs S es xs = true → wpBool Φ md isAnd es ρ σ Q X → (∀ V σ', Q V σ' → ∃ b, Mine.Internal.truthy σ' V = some b) → wpAny C.M A (allTrue (if isAnd then .And else .Or) xs env) (PostB C σ s Q) (PostX C σ s X) s

theorem bo_nil : BoP C .nil := by
  intro k md Φ S xs env A ρ σ s Q X pos isAnd U d hm h
  exact False.elim h
theorem bt_nil : BtP C .nil := by
  intro k md Φ S xs env A ρ σ s Q X isAnd U d hm h
  exact fun _ => False.elim h
theorem bo_cons {e : Ex} {es : Exs} (he : EvP C e) (hs : BoP C es) : BoP C (.cons e es) := by
  intro k md Φ S xs env A ρ σ s Q X pos isAnd U d hm h
  cases xs with
  | nil => simp [mEs_nn, mEs_nc, mEs_cn, mEs_cc] at hm
  | cons x xs =>
    simp only [mEs_nn, mEs_nc, mEs_cn, mEs_cc, Bool.and_eq_true] at hm
    cases es with
    | nil =>
      cases xs with
      | nil => simp only [B_one, B_cons] at h; exact he U d hm.1 h
      | cons _ _ => simp [mEs_nn, mEs_nc, mEs_cn, mEs_cc] at hm
    | cons e' es =>
      cases xs with
      | nil => simp [mEs_nn, mEs_nc, mEs_cn, mEs_cc] at hm
      | cons y ys =>
        simp only [B_one, B_cons] at h
        show wpAny C.M A (do
          let v ← eval x env
          standAt pos
          let c ← holding [v] (PySem.truthy v)
          match (if isAnd then BoolOp.And else BoolOp.Or), c with
          | .And, false | .Or, true => pure v
          | _, _ => boolOp pos (if isAnd then .And else .Or) (evalEach (y :: ys) env)) _ _ s
        refine wpAny_bind (seqE (.refl d.r) (he U d hm.1 h) fun v V σ₁ s₁ q hv _ st => wpAny_bind (wpAny_standAt (wpAny_bind (wpAny_holding ?_))))
        refine ob5 (onSome_elim q) ?_
        intro b hb q
        refine truthy_ok hv hb ?_
        have go : b = isAnd → wpAny C.M A (boolOp pos (if isAnd then .And else .Or) (evalEach (y :: ys) env)) (PostV C σ s Q) (PostX C σ s X) s₁ := fun e => by
          rw [if_pos e] at q
          exact wpAny_mono (hs U (d.step st) hm.2 q) (fun _ _ hx => hx.from st) fun _ _ hx => hx.from st
        have no : b ≠ isAnd → PostV C σ s Q v s₁ := fun e => by
          rw [if_neg e] at q
          exact ⟨V, σ₁, q, hv, st⟩
        cases isAnd <;> cases b
        · exact go rfl
        · exact wpAny_pure (no (by decide))
        · exact wpAny_pure (no (by decide))
        · exact go rfl
theorem bt_cons {e : Ex} {es : Exs} (he : TrP C e) (hs : BtP C es) : BtP C (.cons e es) := by
  intro k md Φ S xs env A ρ σ s Q X isAnd U d hm h hq
  cases xs with
  | nil => simp [mEs_nn, mEs_nc, mEs_cn, mEs_cc] at hm
  | cons x xs =>
    simp only [mEs_nn, mEs_nc, mEs_cn, mEs_cc, Bool.and_eq_true] at hm
    show wpAny C.M A (do
      match (if isAnd then BoolOp.And else BoolOp.Or), ← isTrue x env (eval x env) with
      | .And, false => pure false
      | .Or, true => pure true
      | _, _ => allTrue (if isAnd then .And else .Or) xs env) _ _ s
    cases es with
    | nil =>
      cases xs with
      | nil =>
        simp only [B_one, B_cons] at h
        refine wpAny_bind (seqB (.refl d.r) (he U d hm.1 h hq) fun b V σ₁ s₁ q hb _ st => ?_)
        cases isAnd <;> cases b <;> exact wpAny_pure ⟨V, σ₁, q, hb, st⟩
      | cons _ _ => simp [mEs_nn, mEs_nc, mEs_cn, mEs_cc] at hm
    | cons e' es =>
      cases xs with
      | nil => simp [mEs_nn, mEs_nc, mEs_cn, mEs_cc] at hm
      | cons y ys =>
        simp only [B_one, B_cons] at h
        refine wpAny_bind (seqB (.refl d.r) (he U d hm.1 h fun V σ' q => ?_) fun b V σ₁ s₁ q hb _ st => ?_)
        · refine ob5 (onSome_elim q) ?_
          intro b hb _
          exact ⟨b, hb⟩
        refine ob5 (onSome_elim q) ?_
        intro b' hb' q
        rw [hb] at hb'; cases hb'
        have go : b = isAnd → wpAny C.M A (allTrue (if isAnd then .And else .Or) (y :: ys) env) (PostB C σ s Q) (PostX C σ s X) s₁ := fun e => by
          rw [if_pos e] at q
          exact wpAny_mono (hs U (d.step st) hm.2 q hq) (fun _ _ ⟨V, σ', q1, q2, q3⟩ => ⟨V, σ', q1, q2, st.trans q3⟩) fun _ _ hx => hx.from st
        have no : b ≠ isAnd → PostB C σ s Q b s₁ := fun e => by
          rw [if_neg e] at q
          exact ⟨V, σ₁, q, hb, st⟩
        cases isAnd <;> cases b
        · exact go rfl
        · exact wpAny_pure (no (by decide))
        · exact wpAny_pure (no (by decide))
        · exact go rfl
theorem ev_bool {isAnd : Bool} {es : Exs} (hs : BoP C es) : EvP C (.bool isAnd es) := by
  intro k md Φ S x env A ρ σ s Q X U d hm h
  dsimp only [E_none, E_tt, E_ff, E_int, E_str, E_var, E_glob, E_bin, E_neg, E_not, E_cmp, E_cmp2, E_bool, E_call, E_make, E_meth, E_m0, E_m1, E_insert, E_attr, E_idx, E_slice, E_rev, E_list, E_tuple, E_dict0, E_b1, E_min2, E_max2, E_isin, E_dict1, wpE_comp] at h
  refine boME hm ?_
  intro op xs p hm
  · simp only [Bool.and_eq_true, decide_eq_true_eq] at hm
    refine ob8 hm ?_
    clear hm
    intro ee85
    subst ee85
    intro hm
    rw [arm_eval_BoolOp]
    exact hs U d hm h
theorem tr_bool {isAnd : Bool} {es : Exs} (hs : BtP C es) : TrP C (.bool isAnd es) := by
  intro k md Φ S x env A ρ σ s Q X U d hm h hq
  dsimp only [E_none, E_tt, E_ff, E_int, E_str, E_var, E_glob, E_bin, E_neg, E_not, E_cmp, E_cmp2, E_bool, E_call, E_make, E_meth, E_m0, E_m1, E_insert, E_attr, E_idx, E_slice, E_rev, E_list, E_tuple, E_dict0, E_b1, E_min2, E_max2, E_isin, E_dict1, wpE_comp] at h
  refine boME hm ?_
  intro op xs p hm
  · simp only [Bool.and_eq_true, decide_eq_true_eq] at hm
    refine ob8 hm ?_
    clear hm
    intro ee86
    subst ee86
    intro hm
    exact wpAny_isTrue_BoolOp (hs U d hm h hq)

/- methods of lists -/
theorem list_on {a : Addr} {vs : List V} (r : Rel C σ s.heap) (ha : σ a = some (.list vs)) : s.TypeIs (.ref a) "list" ∧ ∀ b, Value.ref a = .ref b → ∃ ob, s.heap.get? b = some ob ∧ ob.dict = none := by
  refine ob12 (r.list ha) ?_
  intro xs n hL _
  exact ⟨⟨_, hL, rfl⟩, fun b e => by cases e; exact ⟨_, hL, rfl⟩⟩
theorem ev_m0 {o : Ex} {m : M0} (ho : EvP C o) : EvP C (.m0 o m) := by
  intro k md Φ S x env A ρ σ s Q X U d hm h
  dsimp only [E_none, E_tt, E_ff, E_int, E_str, E_var, E_glob, E_bin, E_neg, E_not, E_cmp, E_cmp2, E_bool, E_call, E_make, E_meth, E_m0, E_m1, E_insert, E_attr, E_idx, E_slice, E_rev, E_list, E_tuple, E_dict0, E_b1, E_min2, E_max2, E_isin, E_dict1, wpE_comp] at h
  refine acME hm ?_
  intro x id apos xs pos hm
  refine l0E hm ?_
  intro hm
  · simp only [Bool.and_eq_true, decide_eq_true_eq] at hm
    refine ob30 hm ?_
    clear hm
    intro ee87
    subst ee87
    intro hline hb h1
    refine Call_method0 (base_of hb _) hline (seqE (.refl d.r) (ho U d h1 h) fun y u σ₁ s₁ q hu _ st => ?_)
    refine lift fun gg back => ?_
    refine ob3 (onList_elim q) ?_
    intro a vs ee88
    subst ee88
    intro ha _
    cases hu.ref_of
    refine ob8 (list_on st.rel ha) ?_
    intro hT hdn
    refine back ?_
    clear back gg
    cases m with
    | pop => exact ⟨"list", "list.pop", F.plainAttrs_list, F.slot_list_pop, F.type_list_pop, hT, hdn, fin st (m0_ok st.rel hu rfl q)⟩
    | clear => exact ⟨"list", "list.clear", F.plainAttrs_list, F.slot_list_clear, F.type_list_clear, hT, hdn, fin st (m0_ok st.rel hu rfl q)⟩
    | reverse => exact ⟨"list", "list.reverse", F.plainAttrs_list, F.slot_list_reverse, F.type_list_reverse, hT, hdn, fin st (m0_ok st.rel hu rfl q)⟩
theorem ev_m1 {o e : Ex} {m : M1} (ho : EvP C o) (he : EvP C e) : EvP C (.m1 o m e) := by
  intro k md Φ S x env A ρ σ s Q X U d hm h
  dsimp only [E_none, E_tt, E_ff, E_int, E_str, E_var, E_glob, E_bin, E_neg, E_not, E_cmp, E_cmp2, E_bool, E_call, E_make, E_meth, E_m0, E_m1, E_insert, E_attr, E_idx, E_slice, E_rev, E_list, E_tuple, E_dict0, E_b1, E_min2, E_max2, E_isin, E_dict1, wpE_comp] at h
  refine acME hm ?_
  intro x id apos xs pos hm
  refine l1E hm ?_
  intro y hm
  · simp only [Bool.and_eq_true, decide_eq_true_eq] at hm
    refine ob26 hm ?_
    clear hm
    intro ee89
    subst ee89
    intro hline hb h1 h2
    refine Call_method1 (base_of hb _) (star_of h2) hline (seqE (.refl d.r) (ho U d h1 h) fun y u σ₁ s₁ q hu _ st => ?_)
    refine lift fun gg back => ?_
    refine ob3 (onList_elim q) ?_
    intro a vs ee90
    subst ee90
    intro ha q
    cases hu.ref_of
    refine ob8 (list_on st.rel ha) ?_
    intro hT hdn
    refine back ?_
    clear back gg
    have go : ∀ {id : String}, id = m1Id m → wpAny C.M A (callWith pos (.builtin id) [.ref a] [(false, eval y env)] []) (PostV C σ s Q) (PostX C σ s X) s₁ := fun {id} hid =>
      m1_ok (u := .ref a) (v := .none) (y := .none) hid (seqE st (he U (d.step st) h2 q) fun z v σ₂ s₂ q hv st₂ st' => ⟨σ₂, v, Q, st'.rel, .ref, hv, q, fun z s₂ hz => hz.from st'⟩) ⟨a, rfl⟩
    cases m with
    | append => exact ⟨"list", "list.append", F.plainAttrs_list, F.slot_list_append, F.type_list_append, hT, hdn, go rfl⟩
    | extend => exact ⟨"list", "list.extend", F.plainAttrs_list, F.slot_list_extend, F.type_list_extend, hT, hdn, go rfl⟩
    | remove => exact ⟨"list", "list.remove", F.plainAttrs_list, F.slot_list_remove, F.type_list_remove, hT, hdn, go rfl⟩
theorem ev_insert {o a b : Ex} (ho : EvP C o) (ha : EvP C a) (hb : EvP C b) : EvP C (.insert o a b) := by
  intro k md Φ S x env A ρ σ s Q X U d hm h
  dsimp only [E_none, E_tt, E_ff, E_int, E_str, E_var, E_glob, E_bin, E_neg, E_not, E_cmp, E_cmp2, E_bool, E_call, E_make, E_meth, E_m0, E_m1, E_insert, E_attr, E_idx, E_slice, E_rev, E_list, E_tuple, E_dict0, E_b1, E_min2, E_max2, E_isin, E_dict1, wpE_comp] at h
  refine acME hm ?_
  intro x id apos xs pos hm
  refine l2E hm ?_
  intro y z hm
  · simp only [Bool.and_eq_true, decide_eq_true_eq] at hm
    refine ob28 hm ?_
    clear hm
    intro ee91
    subst ee91
    intro hline hbase h1 h2 h3
    refine Call_method2 (base_of hbase _) (by rw [star_of h2, star_of h3]; rfl) hline (seqE (.refl d.r) (ho U d h1 h) fun w u σ₁ s₁ q hu _ st => ?_)
    refine lift fun gg back => ?_
    refine ob3 (onList_elim q) ?_
    intro c vs ee92
    subst ee92
    intro hc q
    cases hu.ref_of
    refine ob8 (list_on st.rel hc) ?_
    intro hT hdn
    refine back ?_
    clear back gg
    refine ⟨"list", "list.insert", F.plainAttrs_list, F.slot_list_insert, F.type_list_insert, hT, hdn, ?_⟩
    refine callWith_builtin (by rfl) (evalArgs_plain (spliced_cons (seqE st (ha U (d.step st) h2 q) fun y i σ₂ s₂ q hi st₂ st' => spliced_cons (seqE st' (hb U (d.step st') h3 q) fun z v σ₃ s₃ q hv st₃ st'' => spliced_nil (fin st'' ?_)))))
    exact insert_ok st''.rel .ref (st₃.vr hi) hv q
end
end Mine.Internal
end

section
set_option linter.unusedVariables false
namespace Mine.Internal
open PySem PySem.W PySem.Calls PyProof.Rows

section
variable {C : Cx} {k : Nat} {md : Bool} {Φ : Calls} {S : Sc} {env : Env} {A : Around} {ρ : Loc} {σ σ' σ₁ : Store} {s s' s₁ : Shared} {D : Addr → Prop}

/-- what is new counts for nothing -/
theorem Step.old (x : Step C (fun a => D a ∨ s.heap.objs.size ≤ a) σ s σ' s') : Step C D σ s σ' s' :=
  ⟨⟨x.h.size, fun a o e n => x.h.keep a o e fun d => d.elim (fun z => n (.inl z)) fun z => z.elim (fun z => n (.inr z)) fun z => absurd (Heap.lt_size e) (Nat.not_lt.mpr z), x.h.tup⟩, x.rel, x.dom, x.fresh, x.gens, x.os, x.drawn⟩

/-- places of an iterator's own -/
structure Hold (C : Cx) (wr : List Addr) (σ : Store) (h : Heap) : Prop where
  no : ∀ b ∈ wr, σ b = none ∧ C.base.get? b = none
  at_ : ∀ b ∈ wr, ∃ o, h.get? b = some o ∧ ¬ IsT o ∧ ∀ es n, o.data ≠ .dict es n

theorem Step.wrote {wr : List Addr} {h' : Heap} {t : Nat} (r : Rel C σ s.heap) (m : Hold C wr σ s.heap) (k : ∀ b o, b ∉ wr → s.heap.get? b = some o → h'.get? b = some o) (hs : s.heap.objs.size ≤ h'.objs.size) :
    Step C (· ∈ wr) σ s σ { s with heap := h', toks := t } := by
  have tk : TupKeep s.heap h' := fun b o e ht => k b o (fun hb => by obtain ⟨o', e', nt, _⟩ := m.at_ b hb; rw [e] at e'; cases e'; exact nt ht) e
  refine ⟨⟨hs, fun a o e n => .inl (k a o (fun hb => n (.inr hb)) e), tk⟩, r.frame (fun a o q => ?_) tk (fun b o e => k b o (fun hb => ?_) (r.stays b o e)) hs, fun _ x => x, fun _ x => .inl x, rfl, rfl, rfl⟩
  · refine ob5 ((r.tr a o q).there) ?_
    intro ob ho _
    rw [ho]
    exact k a ob (fun hb => by rw [(m.no a hb).1] at q; cases q) ho
  · rw [(m.no b hb).2] at e; cases e

theorem LR.keep {nm : List (String × Nat)} (x : LR C σ s.heap env nm ρ) (y : Step C D σ s σ' s') (hO : ∀ a, Own env a → ¬ D a) : LR C σ' s'.heap env nm ρ := by
  refine lift fun gg back => ?_
  obtain ⟨m, o, es, ep, hL, hLd, hLr⟩ := x.locals
  refine back ?_
  clear back gg
  have kL : ∀ o, s.heap.get? env.locals = some o → KeptAs o (s'.heap.get? env.locals) := fun o ho => y.h.keep _ o ho fun d => d.elim (fun z => z x.lnew.1) (hO _ (.inl rfl))
  have kN : ∀ m, s.heap.Ns env.locals m → s'.heap.Ns env.locals m := fun m hm => ns_kept hm hL (kL o hL)
  have kC : ∀ {n c v}, env.cells.lookup n = some c → s.heap.IsCell c v → s'.heap.IsCell c v := fun {n c v} hc hv => cell_kept hv fun o ho => y.h.keep _ o ho fun d => d.elim (fun z => z (x.cells _ _ hc).2.1) (hO _ (.inr ⟨_, hc⟩))
  refine ⟨fun n i v hn hv => ?_, ⟨m, kN m ⟨o, es, ep, hL, hLd, hLr⟩⟩, ⟨untracked y hL x.lnew.1, x.lnew.2⟩, fun n c hc => ?_, x.apart⟩
  · have := x.holds n i v hn hv
    unfold Holds at this ⊢
    split at this
    · refine ob3 this ?_
      clear this
      intro m u h1 h2 h3
      exact ⟨m, u, kN m h1, h2, y.vr h3⟩
    · refine ob3 this ?_
      clear this
      intro c u h1 h2 h3
      exact ⟨c, u, h1, kC h1 h2, y.vr h3⟩
    · refine ob3 this ?_
      clear this
      intro c u h1 h2 h3
      exact ⟨c, u, h1, kC h1 h2, y.vr h3⟩
    · trivial
  · refine lift fun gg back => ?_
    refine ob4 (x.cells n c hc) ?_
    intro v hv h2 h3
    obtain ⟨o', ho', _⟩ := id hv
    refine back ?_
    clear back gg
    exact ⟨⟨v, kC hc hv⟩, untracked y ho' h2, h3⟩

/-- frames lie below n -/
noncomputable def Low (A : Around) (n : Nat) : Prop := ∀ l, A.frames = some l → ∀ L ∈ l.filterMap (·.frame), L < n
theorem AOk.low {k : Nat} (x : AOk C k md A σ s.heap) : Low A s.heap.objs.size := by
  refine lift fun gg back => ?_
  obtain ⟨⟨l, hl, hf, hn⟩, _⟩ := x
  refine back ?_
  clear back gg
  intro l' hl' L hL
  rw [hl] at hl'; cases hl'
  refine ob1 (hn L hL) ?_
  intro _ o _ _ ho _
  exact Heap.lt_size ho

theorem Dyn.apart {n : Nat} (d : Dyn C k md S A env ρ σ s) (y : Step C D σ s σ' s') (low : Low A n) (hn : ∀ a, D a → n ≤ a) (hO : ∀ a, Own env a → ¬ D a) : Dyn C k md S A env ρ σ' s' :=
  ⟨d.a.keep y fun l hl L hL hd => absurd (low l hl L hL) (Nat.not_lt.mpr (hn L hd)), y.rel, d.l.keep y hO, d.len⟩

theorem Hold.step {wr : List Addr} (m : Hold C wr σ s.heap) (y : Step C D σ s σ' s') (hD : ∀ b ∈ wr, ¬ D b) : Hold C wr σ' s'.heap ∧ ∀ b ∈ wr, ∀ o, s.heap.get? b = some o → s'.heap.get? b = some o := by
  have kp : ∀ b ∈ wr, ∀ o, s.heap.get? b = some o → s'.heap.get? b = some o := fun b hb o e => by
    refine ob10 (m.at_ b hb) ?_
    intro o' e' _ nd
    rw [e] at e'; cases e'
    exact (y.h.keep b o e fun q => q.elim (fun z => z (m.no b hb).1) (hD b hb)).plain nd
  refine ⟨⟨fun b hb => ?_, fun b hb => ?_⟩, kp⟩
  · refine ob5 (m.at_ b hb) ?_
    intro o' e' _
    exact ⟨untracked y e' (m.no b hb).1, (m.no b hb).2⟩
  · refine ob5 (m.at_ b hb) ?_
    intro o' e' nd
    exact ⟨o', kp b hb o' e', nd⟩

/-- an iterator that gives these items; chk must hold of the store at each turn -/
structure ItOk (C : Cx) (A : Around) (ow : Bool) (I : Addr) (wr : List Addr) (items : List V) (chk : Store → Prop) (St : Nat → Heap → Prop) (Mid : Nat → Value → Heap → Prop) : Prop where
  at_ : ∀ i h, St i h → ∀ b ∈ wr, ∃ o, h.get? b = some o ∧ ¬ IsT o ∧ ∀ es n, o.data ≠ .dict es n
  frame : ∀ i h h', St i h → TupKeep h h' → (∀ b ∈ wr, ∀ o, h.get? b = some o → h'.get? b = some o) → St i h'
  item : ∀ i σ s (hi : i < items.length), St i s.heap → Rel C σ s.heap → chk σ → ∀ (Q : Option Value → Shared → Prop) (E : Value → Shared → Prop),
    (∀ v h' tk, VR h' items[i] v → Mid i v h' → (∀ b o, b ∉ wr → s.heap.get? b = some o → h'.get? b = some o) → Q (some v) { s with heap := h', toks := tk }) → wpAny C.M A (pyNext (.ref I)) Q E s
  midAt : ∀ i v h, Mid i v h → ∀ b ∈ wr, ∃ o, h.get? b = some o ∧ ¬ IsT o ∧ ∀ es n, o.data ≠ .dict es n
  go : ∀ (tg : Expr) i v s (Q : Unit → Shared → Prop) (E : Value → Shared → Prop), Mid i v s.heap → (ow = true → ∃ elts k pos, tg = .Tuple elts k pos) →
    (∀ h', St (i + 1) h' → (∀ b o, b ∉ wr → s.heap.get? b = some o → h'.get? b = some o) → Q () { s with heap := h' }) → wpAny C.M A (letOwnedTupleGo tg (.ref I) v) Q E s
  done : ∀ σ s, St items.length s.heap → Rel C σ s.heap → chk σ → ∀ (Q : Option Value → Shared → Prop) (E : Value → Shared → Prop),
    (∀ h' tk, (∀ b o, b ∉ wr → s.heap.get? b = some o → h'.get? b = some o) → Q none { s with heap := h', toks := tk }) → wpAny C.M A (pyNext (.ref I)) Q E s
  self : ∀ i s (Q : Value → Shared → Prop) (E : Value → Shared → Prop), St i s.heap → Q (.ref I) s → wpAny C.M A (pyIter (.ref I)) Q E s

theorem letOwned_plain {I : Addr} {o : Obj} {n : String} {tg : Expr} {v : Value} {Q : Unit → Shared → Prop} {E : Value → Shared → Prop} (ho : s.heap.get? I = some o) (hc : o.cls = .type n)
    (hn : (["enumerate", "zip", "dict_itemiterator", "dict_reverseitemiterator", "odict_iterator", "itertools.zip_longest", "itertools.pairwise"].contains n) = false) (h : Q () s) : wpAny C.M A (letOwnedTupleGo tg (.ref I) v) Q E s := by
  have body : wpAny C.M A (do
      let (.ref r, .ref a) := ((Value.ref I), v) | return
      let o ← load r
      match o.cls, o.data with
      | .type n, .fields vs =>
        if ["enumerate", "zip", "dict_itemiterator", "dict_reverseitemiterator", "odict_iterator", "itertools.zip_longest", "itertools.pairwise"].contains n && vs[0]? == some (rawInt a) then
          rule "for.unpacks-the-owned-tuple"
          updateField r 0 .none
      | _, _ => pure ()) Q E s := by
    cases v with
    | ref a =>
      refine wpAny_bind (wpAny_load ho ?_)
      rw [hc]
      split
      · rename_i heq _
        cases heq
        rw [hn, Bool.false_and]
        exact wpAny_pure h
      · exact wpAny_pure h
    | _ => exact wpAny_pure h
  unfold letOwnedTupleGo
  split
  · exact body
  · exact body
  · exact wpAny_pure h

theorem not_fields {o : Obj} {vs : Array Value} (h : o.data = .fields vs) : ¬ IsT o ∧ ∀ es n, o.data ≠ .dict es n := ⟨fun ⟨_, _, _, q⟩ => (by rw [h] at q; cases q), fun es n q => (by rw [h] at q; cases q)⟩

/-- over a list -/
theorem ItOk.list {I a : Addr} {vs : List V} (hh : A.handled = none) (hne : a ≠ I) : ItOk C A false I [I] vs (fun σ => σ a = some (.list vs)) (fun i h => h.IsListIter I a i) (fun i _ h => h.IsListIter I a (i + 1)) where
  at_ := fun i h ⟨o, ho, hc, hd⟩ b hb => by simp only [List.mem_singleton] at hb; subst hb; exact ⟨o, ho, not_fields hd⟩
  frame := fun i h h' hst _ k => hst.at fun o e => k I (by simp) o e
  item := fun i σ s hi hst r hc Q E h => by
    refine ob3 (r.list hc) ?_
    intro xs n hL hX _
    have hi' : i < xs.length := hX.length ▸ hi
    refine wpAny_pyNext_list_item hst hL.isList (x := xs[i]) (by simp [hi']) fun h' hit hs => ?_
    have kk : ∀ b o, b ∉ [I] → s.heap.get? b = some o → h'.get? b = some o := fun b o hb e => (hs.2 b fun q => hb (by simp [q])).trans e
    refine h _ h' s.toks ((hX.at i hi hi').keep fun b o e ht => ?_) hit kk
    refine lift fun gg back => ?_
    obtain ⟨oi, hoi, _, hd⟩ := hst
    refine back ?_
    clear back gg
    exact kk b o (fun q => by simp only [List.mem_singleton] at q; subst q; rw [hoi] at e; cases e; exact (not_fields hd).1 ht) e
  midAt := fun i v h ⟨o, ho, hc, hd⟩ b hb => by simp only [List.mem_singleton] at hb; subst hb; exact ⟨o, ho, not_fields hd⟩
  go := fun tg i v s Q E hm _ h => by
    refine lift fun gg back => ?_
    obtain ⟨o, ho, hc, hd⟩ := id hm
    refine back ?_
    clear back gg
    exact letOwned_plain ho hc (by decide) (h s.heap hm fun _ _ _ e => e)
  done := fun σ s hst r hc Q E h => by
    refine ob3 (r.list hc) ?_
    intro xs n hL hX _
    refine wpAny_pyNext_list_end hh hst hL.isList (by simp [hX.length]) fun h' he => h h' s.toks fun b o hb e => he b o (fun q => hb (by simp [q])) e
  self := fun i s Q E hst h => wpAny_pyIter_listiter hst h

/-- over a tuple -/
theorem ItOk.tuple {I a : Addr} {vs : List V} {xs : List Value} {n : Nat} (hh : A.handled = none) (hne : a ≠ I) :
    ItOk C A false I [I] vs (fun _ => True) (fun i h => h.IsTupleIter I a i ∧ h.get? a = some (seqObj "tuple" xs.toArray n) ∧ VRs h vs xs) (fun i _ h => h.IsTupleIter I a (i + 1) ∧ h.get? a = some (seqObj "tuple" xs.toArray n) ∧ VRs h vs xs) where
  at_ := fun i h ⟨⟨o, ho, hc, hd⟩, _⟩ b hb => by simp only [List.mem_singleton] at hb; subst hb; exact ⟨o, ho, not_fields hd⟩
  frame := fun i h h' ⟨h1, h2, h3⟩ tk k => ⟨h1.at fun o e => k I (by simp) o e, tk _ _ h2 ⟨rfl, _, _, rfl⟩, h3.keep tk⟩
  item := fun i σ s hi ⟨hst, hT, hX⟩ r _ Q E h => by
    have hi' : i < xs.length := hX.length ▸ hi
    refine wpAny_pyNext_tuple_item hst (IsTup_of hT) (x := xs[i]) (by simp [hi']) fun h' hit hs => ?_
    have kk : ∀ b o, b ∉ [I] → s.heap.get? b = some o → h'.get? b = some o := fun b o hb e => (hs.2 b fun q => hb (by simp [q])).trans e
    have tk : TupKeep s.heap h' := fun b o e ht => by
      refine lift fun gg back => ?_
      obtain ⟨oi, hoi, _, hd⟩ := hst
      refine back ?_
      clear back gg
      exact kk b o (fun q => by simp only [List.mem_singleton] at q; subst q; rw [hoi] at e; cases e; exact (not_fields hd).1 ht) e
    exact h _ h' s.toks ((hX.at i hi hi').keep tk) ⟨hit, tk _ _ hT ⟨rfl, _, _, rfl⟩, hX.keep tk⟩ kk
  midAt := fun i v h ⟨⟨o, ho, hc, hd⟩, _⟩ b hb => by simp only [List.mem_singleton] at hb; subst hb; exact ⟨o, ho, not_fields hd⟩
  go := fun tg i v s Q E hm _ h => by
    refine lift fun gg back => ?_
    obtain ⟨⟨o, ho, hc, hd⟩, _⟩ := id hm
    refine back ?_
    clear back gg
    exact letOwned_plain ho hc (by decide) (h s.heap hm fun _ _ _ e => e)
  done := fun σ s ⟨hst, hT, hX⟩ r _ Q E h => by
    refine wpAny_pyNext_tuple_end hh hst (IsTup_of hT) (by simp [hX.length]) fun h' he => h h' s.toks fun b o hb e => he b o (fun q => hb (by simp [q])) e
  self := fun i s Q E hst h => wpAny_pyIter_tupleiter hst.1 h

theorem upto_get {a b c : Int} {i : Nat} (h : i < ((upto a b c).map V.int).length) : ((upto a b c).map V.int)[i] = V.int (a + i * c) := by
  simp only [List.length_map] at h
  unfold upto at h ⊢
  split at h
  · rename_i hc
    simp only [List.getElem_map, if_pos hc, List.getElem_range]
    rw [Int.mul_comm]
  · simp at h

/-- over a range -/
theorem ItOk.range {I : Addr} {a b c : Int} {n : Nat} (hh : A.handled = none) (hn : (upto a b c).length = n) :
    ItOk C A false I [I] ((upto a b c).map V.int) (fun _ => True) (fun i h => IsRangeIter h I (a + (i : Nat) * c) ((n : Int) - (i : Nat)) c) (fun i _ h => IsRangeIter h I (a + (i + 1 : Nat) * c) ((n : Int) - (i + 1 : Nat)) c) where
  at_ := fun i h ho b hb => by simp only [List.mem_singleton] at hb; subst hb; exact ⟨_, ho, not_fields rfl⟩
  frame := fun i h h' hst _ k => k I (by simp) _ hst
  item := fun i σ s hi hst r hc Q E h => by
    have hi' : i < n := by simp only [List.length_map] at hi; omega
    refine wpAny_pyNext_range_item hst (by omega) fun h' hit hs => ?_
    have e1 : a + ((i + 1 : Nat) : Int) * c = a + (i : Int) * c + c := by push_cast; rw [Int.add_mul, Int.one_mul, Int.add_assoc]
    have e2 : (n : Int) - ((i + 1 : Nat) : Int) = (n : Int) - (i : Int) - 1 := by push_cast; omega
    refine h _ h' _ ?_ ?_ fun b o hb e => (hs.2 b fun q => hb (by simp [q])).trans e
    · rw [upto_get hi]; exact .int
    · rw [e1, e2]; exact hit
  midAt := fun i v h ho b hb => by simp only [List.mem_singleton] at hb; subst hb; exact ⟨_, ho, not_fields rfl⟩
  go := fun tg i v s Q E hm _ h => letOwned_plain hm rfl (by decide) (h s.heap hm fun _ _ _ e => e)
  done := fun σ s hst r hc Q E h => by
    simp only [List.length_map, hn] at hst
    exact wpAny_pyNext_range_end hh hst (by omega) fun h' he => h h' s.toks fun b o hb e => he b o (fun q => hb (by simp [q])) e
  self := fun i s Q E hst h => wpAny_pyIter_rangeiter hst h

end
end Mine.Internal
end

section
set_option linter.unusedVariables false
namespace Mine.Internal
open PySem PySem.W PySem.Calls PyProof.Rows

section
variable {C : Cx} {k : Nat} {md : Bool} {Φ : Calls} {S : Sc} {env : Env} {A : Around} {ρ : Loc} {σ σ' σ₁ : Store} {s s' s₁ : Shared} {D : Addr → Prop} {X : XP}

noncomputable def ItPost (C : Cx) (A : Around) (e : Ex) (σ : Store) (s : Shared) (Q : List V → (Store → Prop) → Store → Prop) : Value → Shared → Prop := fun v s₂ =>
  ∃ ow I wr items chk St Mid σ₁, v = .ref I ∧ ItOk C A ow I wr items chk St Mid ∧ St 0 s₂.heap ∧ Hold C wr σ₁ s₂.heap ∧ (∀ b ∈ wr, s.heap.objs.size ≤ b) ∧ Step C No σ s σ₁ s₂ ∧ Q items chk σ₁ ∧ (ow = true → ∃ e', e = .enum e')
noncomputable def ItP (C : Cx) (e : Ex) : Prop := ∀ {k : Nat} {md : Bool} {Φ : Calls} {S : Sc} {x : Expr} {env : Env} {A : Around} {ρ : Loc} {σ : Store} {s : Shared} {Q : List V → (Store → Prop) → Store → Prop} {X : XP},
  Sur C k md Φ S env → Dyn C k md S A env ρ σ s → matchE S e x = true → md = true → wpIt Φ md e ρ σ Q X → wpAny C.M A (eval x env) (fun v s₁ => wpAny C.M A (pyIter v) (ItPost C A e σ s Q) (PostX C σ s X) s₁) (PostX C σ s X) s

theorem new_hold {h : Heap} {o : Obj} (r : Rel C σ₁ s₁.heap) (hb : ¬ IsT o) (hd : ∀ es n, o.data ≠ .dict es n) (hf : o.isFreed = false) (ho : (s₁.heap.push o).get? s₁.heap.objs.size = some o) : Hold C [s₁.heap.objs.size] σ₁ (s₁.heap.push o) :=
  ⟨fun b hb => by simp only [List.mem_singleton] at hb; subst hb; exact ⟨r.none_of_ge (Nat.le_refl _), base_none_of_ge r (Nat.le_refl _)⟩, fun b hb => by simp only [List.mem_singleton] at hb; subst hb; exact ⟨o, ho, ‹_›, hd⟩⟩

theorem it_of {e : Ex} (he : EvP C e) (hw : ∀ Φ md ρ σ Q X, wpIt Φ md e ρ σ Q X = wpE Φ md e ρ σ (fun u σ₁ => iterV u σ₁ fun items chk => Q items chk σ₁) X) : ItP C e := by
  intro k md Φ S x env A ρ σ s Q X U d hm hmd h
  rw [hw] at h
  refine seqE (.refl d.r) (he U d hm h) fun v u σ₁ s₁ q hu _ st => ?_
  have hh := d.a.handled hmd
  unfold iterV at q
  split at q
  · refine ob13 hu.tup_of ?_
    intro a xs n ee93
    subst ee93
    intro ha hX
    refine wpAny_pyIter_tuple (IsTup_of ha) ?_
    refine ⟨false, _, [s₁.heap.objs.size], _, _, _, _, σ₁, rfl, ItOk.tuple (a := a) (xs := xs) (n := n) hh (Nat.ne_of_lt (Heap.lt_size ha)), ⟨⟨_, Heap.get?_push_size _ rfl, rfl, rfl⟩, push_keeps _ _ ha, hX.keep fun b o e _ => push_keeps _ _ e⟩,
      new_hold (h := s₁.heap) st.rel (not_fields rfl).1 (not_fields rfl).2 rfl (Heap.get?_push_size _ rfl), fun b hb => by simp only [List.mem_singleton] at hb; subst hb; exact st.h.size, st.trans (.grow (t := s₁.toks) st.rel push_keeps push_size), q, fun f => by cases f⟩
  · refine ob3 (onList_elim q) ?_
    intro a vs e ha q
    cases e
    refine lift fun gg back => ?_
    cases hu.ref_of
    refine ob3 (st.rel.list ha) ?_
    intro xs n hL hX _
    refine back ?_
    clear back gg
    refine wpAny_pyIter_list hL.isList ?_
    refine ⟨false, _, [s₁.heap.objs.size], _, _, _, _, σ₁, rfl, ItOk.list hh (Nat.ne_of_lt (Heap.lt_size hL)), ⟨_, Heap.get?_push_size _ rfl, rfl, rfl⟩,
      new_hold (h := s₁.heap) st.rel (not_fields rfl).1 (not_fields rfl).2 rfl (Heap.get?_push_size _ rfl), fun b hb => by simp only [List.mem_singleton] at hb; subst hb; exact st.h.size, st.trans (.grow (t := s₁.toks) st.rel push_keeps push_size), q, fun f => by cases f⟩
  · exact q.elim

theorem upto_len (a b c : Int) (hc : 0 < c) : Builtin.Range.rangeSize a b c = ((upto a b c).length : Int) := by
  unfold Builtin.Range.rangeSize upto
  rw [if_pos hc, if_pos hc]
  simp only [List.length_map, List.length_range]
  split
  · rename_i h
    have e : (b - a + c - 1) / c = (b - a - 1) / c + 1 := by
      rw [show b - a + c - 1 = (b - a - 1) + c * 1 by omega, Int.add_mul_ediv_left _ _ (by omega)]
    have : 0 ≤ (b - a - 1) / c := Int.ediv_nonneg (by omega) (by omega)
    rw [e]; omega
  · rename_i h
    have : (b - a + c - 1) / c ≤ 0 := by
      have := Int.ediv_lt_of_lt_mul hc (show b - a + c - 1 < 1 * c by omega)
      omega
    omega
theorem range_small {a b c : Int} (ha : a < 2 ^ 31) (ha' : -(2 ^ 31) < a) (hb : b < 2 ^ 31) (hb' : -(2 ^ 31) < b) (hc : 0 < c) (hc' : c < 2 ^ 31) : Builtin.Range.small a b c = true := by
  have hl : Builtin.Range.rangeSize a b c ≤ 2 ^ 33 ∧ 0 ≤ Builtin.Range.rangeSize a b c := by
    unfold Builtin.Range.rangeSize
    rw [if_pos hc]
    split
    · have h0 : 0 ≤ (b - a - 1) / c := Int.ediv_nonneg (by omega) (by omega)
      have h1 : (b - a - 1) / c ≤ b - a - 1 := Int.ediv_le_self _ (by omega)
      omega
    · omega
  unfold Builtin.Range.small Builtin.Range.rangeFitsLong
  simp only [gt_iff_lt, hc, if_true, Bool.and_eq_true, Bool.or_eq_true, decide_eq_true_eq, beq_iff_eq]
  omega

/-- from a range to its iterator -/
theorem range_it {e : Ex} {a b c : Int} {t u v : Tok} {r : Addr} {Q : List V → (Store → Prop) → Store → Prop} {E : Value → Shared → Prop} (hh : A.handled = none) (st : Step C No σ s σ₁ s₁) (hr : IsRange s₁.heap r a b c t u v)
    (hc : 0 < c) (hs : Builtin.Range.small a b c = true) (q : Q ((upto a b c).map V.int) (fun _ => True) σ₁) : wpAny C.M A (pyIter (.ref r)) (ItPost C A e σ s Q) E s₁ := by
  refine wpAny_pyIter_range hr hs ?_
  refine ⟨false, _, [s₁.heap.objs.size], _, _, _, _, σ₁, rfl, ItOk.range (a := a) (b := b) (c := c) hh rfl, ?_,
      new_hold (h := s₁.heap) st.rel (not_fields rfl).1 (not_fields rfl).2 rfl (Heap.get?_push_size _ rfl), fun b hb => by simp only [List.mem_singleton] at hb; subst hb; exact st.h.size, st.trans (.grow (t := s₁.toks) st.rel push_keeps push_size), q, fun f => by cases f⟩
  show (s₁.heap.push _).get? _ = _
  rw [upto_len a b c hc, Heap.get?_push_size _ rfl]
  simp

theorem it_range1 {a : Ex} (ha : EvP C a) : ItP C (.range1 a) := by
  intro k md Φ S x env A ρ σ s Q X U d hm hmd h
  dsimp only [I_r1, I_r2, I_r3, I_en, I_var, I_idx, I_attr, I_list, I_call, I_slice] at h
  refine ncME hm ?_
  intro id np xs pos hm
  refine l1E hm ?_
  intro x hm
  · simp only [Bool.and_eq_true] at hm
    refine Call_Name rfl (bnm_ok (v := .type "range") U d.r hm.1 (List.mem_of_getElem? (i := 12) rfl) (plainT hm.2 (seqE (.refl d.r) (ha U d hm.2 h) fun v u σ₁ s₁ q hu _ st => ?_)))
    refine ob20 (onInt_elim q) ?_
    intro i ee94
    subst ee94
    intro h1 h2 q
    refine ob6 hu.int_of ?_
    intro t ee95
    subst ee95
    exact call_range_1 (range_it (s₁ := { s₁ with heap := _, toks := _ }) (d.a.handled hmd) (st.trans (.grow st.rel push_keeps push_size)) (IsRange.new ..) (by decide) (range_small (by omega) (by omega) h1 h2 (by omega) (by omega)) q)
theorem plainT2 {id : String} {x y : Expr} {e e' : Ex} {pos : Pos} {K : Value → Shared → Prop} {E : Value → Shared → Prop} (hm : matchE S e x = true) (hm' : matchE S e' y = true)
    (h : wpAny C.M A (eval x env) (fun v s₁ => wpAny C.M A (eval y env) (fun u s₂ => wpAny C.M A (call (.type id) [v, u]) K E s₂) E s₁) E s) :
    wpAny C.M A (callWith pos (.type id) [] (backTo pos (starEach [x, y] env)) []) K E s := by
  rw [star_of hm, star_of hm']
  exact PySem.callWith_type (by rfl) (evalArgs_plain (spliced_cons (wpAny_mono h (fun v s₁ h₁ => spliced_cons (wpAny_mono h₁ (fun u s₂ h₂ => spliced_nil h₂) fun _ _ e => e)) fun _ _ e => e)))
theorem plainT3 {id : String} {x y z : Expr} {e e' e'' : Ex} {pos : Pos} {K : Value → Shared → Prop} {E : Value → Shared → Prop} (hm : matchE S e x = true) (hm' : matchE S e' y = true) (hm'' : matchE S e'' z = true)
    (h : wpAny C.M A (eval x env) (fun v s₁ => wpAny C.M A (eval y env) (fun u s₂ => wpAny C.M A (eval z env) (fun w s₃ => wpAny C.M A (call (.type id) [v, u, w]) K E s₃) E s₂) E s₁) E s) :
    wpAny C.M A (callWith pos (.type id) [] (backTo pos (starEach [x, y, z] env)) []) K E s := by
  rw [star_of hm, star_of hm', star_of hm'']
  exact PySem.callWith_type (by rfl) (evalArgs_plain (spliced_cons (wpAny_mono h (fun v s₁ h₁ => spliced_cons (wpAny_mono h₁ (fun u s₂ h₂ => spliced_cons (wpAny_mono h₂ (fun w s₃ h₃ => spliced_nil h₃) fun _ _ e => e)) fun _ _ e => e)) fun _ _ e => e)))
theorem it_range2 {a b : Ex} (ha : EvP C a) (hb : EvP C b) : ItP C (.range2 a b) := by
  intro k md Φ S x env A ρ σ s Q X U d hm hmd h
  dsimp only [I_r1, I_r2, I_r3, I_en, I_var, I_idx, I_attr, I_list, I_call, I_slice] at h
  refine ncME hm ?_
  intro id np xs pos hm
  refine l2E hm ?_
  intro x y hm
  · simp only [Bool.and_eq_true] at hm
    refine ob11 hm ?_
    clear hm
    intro h0 h1 h2
    refine Call_Name rfl (bnm_ok (v := .type "range") U d.r h0 (List.mem_of_getElem? (i := 12) rfl) (plainT2 h1 h2 (seqE (.refl d.r) (ha U d h1 h) fun x u σ₁ s₁ q hu _ st => seqE st (hb U (d.step st) h2 q) fun y v σ₂ s₂ q hv st₂ st' => ?_)))
    refine lift fun gg back => ?_
    refine ob5 (onInt_elim q) ?_
    intro i ee96
    subst ee96
    intro q1
    refine ob31 (onInt_elim q1) ?_
    intro j ee97
    subst ee97
    intro h3 h4 h5 h6 q2
    refine ob6 hu.int_of ?_
    intro t ee98
    subst ee98
    refine ob6 hv.int_of ?_
    intro t' ee99
    subst ee99
    refine back ?_
    clear back gg
    exact call_range_2 (range_it (s₁ := { s₂ with heap := _, toks := _ }) (d.a.handled hmd) (st'.trans (.grow st'.rel push_keeps push_size)) (IsRange.new ..) (by decide) (range_small h5 h6 h3 h4 (by omega) (by omega)) q2)
theorem it_range3 {a b c : Ex} (ha : EvP C a) (hb : EvP C b) (hc : EvP C c) : ItP C (.range3 a b c) := by
  intro k md Φ S x env A ρ σ s Q X U d hm hmd h
  dsimp only [I_r1, I_r2, I_r3, I_en, I_var, I_idx, I_attr, I_list, I_call, I_slice] at h
  refine ncME hm ?_
  intro id np xs pos hm
  refine l3E hm ?_
  intro x y z hm
  · simp only [Bool.and_eq_true] at hm
    refine ob30 hm ?_
    clear hm
    intro h0 h1 h2 h3
    refine Call_Name rfl (bnm_ok (v := .type "range") U d.r h0 (List.mem_of_getElem? (i := 12) rfl) (plainT3 h1 h2 h3 (seqE (.refl d.r) (ha U d h1 h) fun x u σ₁ s₁ q hu _ st => seqE st (hb U (d.step st) h2 q) fun y v σ₂ s₂ q hv st₂ st' =>
      seqE st' (hc U (d.step st') h3 q) fun z w σ₃ s₃ q hw st₃ st'' => ?_)))
    refine lift fun gg back => ?_
    refine ob5 (onInt_elim q) ?_
    intro i ee100
    subst ee100
    intro q1
    refine ob5 (onInt_elim q1) ?_
    intro j ee101
    subst ee101
    intro q2
    refine ob32 (onInt_elim q2) ?_
    intro l ee102
    subst ee102
    intro h3 h4 h5 h6 h7 h8 q3
    refine ob6 hu.int_of ?_
    intro t ee103
    subst ee103
    refine ob6 hv.int_of ?_
    intro t' ee104
    subst ee104
    refine ob6 hw.int_of ?_
    intro t'' ee105
    subst ee105
    refine back ?_
    clear back gg
    refine call_range_3 (by omega) (range_it (s₁ := { s₃ with heap := _, toks := _ }) (d.a.handled hmd) (st''.trans (.grow st''.rel push_keeps push_size)) (IsRange.new ..) h7 (range_small h5 h6 h3 h4 h7 (by omega)) q3) (.inl (PyProof.noPylong_small (by omega)))
theorem Dyn.own {ρ' : Loc} {P : Addr → Prop} (d : Dyn C k md S A env ρ σ s) (st : Step C P σ s σ' s') (hP : ∀ a, P a → Own env a) (l : LR C σ' s'.heap env S.nm ρ') (hl : ρ'.length = ρ.length) : Dyn C k md S A env ρ' σ' s' :=
  ⟨d.a.keep st fun fl hfl L hL hp => (by
    rcases hP L hp with rfl | ⟨n, hc⟩
    · refine lift fun gg back => ?_
      obtain ⟨m, o, es, ep, ho, hd, _⟩ := l.locals
      refine back ?_
      clear back gg
      exact ⟨o, es, ep, ho, hd⟩
    · exfalso
      refine lift fun gg back => ?_
      obtain ⟨⟨v, o, ho, hd⟩, _⟩ := d.l.cells n L hc
      obtain ⟨fl', hfl', _, hn⟩ := d.a.frames
      refine back ?_
      clear back gg
      rw [hfl] at hfl'; cases hfl'
      refine ob1 (hn L hL) ?_
      intro _ o' es n' ho' hd'
      rw [ho] at ho'; cases ho'; rw [hd] at hd'; cases hd'), st.rel, l, hl.trans d.len⟩
theorem store_dyn {id : Str} {i : Nat} {v : V} {x : Value} {Q : Unit → Shared → Prop} {E : Value → Shared → Prop} (U : Sur C k md Φ S env) (d : Dyn C k md S A env ρ σ s) (hm : S.own id i = true) (hv : VR s.heap v x)
    (h : ∀ s', Step C (OwnAt env id) σ s σ s' → Dyn C k md S A env (ρ.set i (some v)) σ s' → Q () s') : wpAny C.M A (storeName env id x) Q E s := by
  refine ob10 (Sc.own_elim hm) ?_
  intro n ee106
  subst ee106
  intro hn hk
  refine store_ok U.ev.toEnvOk d.r d.l hn U.ev.nm d.len (by rw [U.ev.kindOf]; exact hk) (fun hc => U.ev.cells _ (.inl (by rw [← U.ev.kindOf]; exact hc))) hv fun s' st l => h s' st (d.own st (fun _ q => q.own) l (by simp))
theorem assign_each {P : Addr → Prop} {E : Value → Shared → Prop} (U : Sur C k md Φ S env) {Q : Unit → Shared → Prop} (is : List Nat) : (∀ id i, S.own id i = true → i ∈ is → ∀ a, OwnAt env id a → P a) → ∀ (elts : List Expr) (vs : List V) (xs : List Value) (ρ : Loc) (s : Shared), matchTs S is elts = true → is.length = vs.length → VRs s.heap vs xs →
    Dyn C k md S A env ρ σ s → (∀ s', Step C P σ s σ s' → Dyn C k md S A env ((is.zip vs).foldl (fun r p => r.set p.1 (some p.2)) ρ) σ s' → Q () s') → wpAny C.M A (assignInOrder ((assignEach elts env).map (·.2)) xs) Q E s := by
  induction is with
  | nil =>
    intro hP elts vs xs ρ s hm hl hv d h
    cases elts with
    | nil => exact wpAny_pure (h s (.refl d.r) (by simpa using d))
    | cons _ _ => exact absurd hm Bool.false_ne_true
  | cons i is ih =>
    intro hP elts vs xs ρ s hm hl hv d h
    refine lcE hm ?_
    intro e elts hm
    refine nmME hm ?_
    intro id p hm
    simp only [Bool.and_eq_true] at hm
    cases hv with
    | nil => cases hl
    | cons hv r =>
      rename_i v vs x xs
      show wpAny C.M A (do holding xs (assign (.Name id p) env x); assignInOrder ((assignEach elts env).map (·.2)) xs) Q E s
      refine wpAny_bind (wpAny_holding (wpAny_assign_Name (store_dyn U d hm.1 hv fun s' st d' => ?_)))
      exact ih (fun id i hi hm => hP id i hi (List.mem_cons_of_mem _ hm)) elts vs xs _ s' hm.2 (Nat.succ.inj hl) (st.vrs r) d' fun s'' st' d'' => h s'' ((st.mono (hP id i hm.1 List.mem_cons_self)).trans st') d''

theorem each_len : ∀ {is : List Nat} {elts : List Expr}, matchTs S is elts = true → (assignEach elts env).length = is.length ∧ (assignEach elts env).findIdx? (·.1) = none
  | [], elts, h => by
    cases elts with
    | nil => exact ⟨rfl, rfl⟩
    | cons _ _ => exact absurd h Bool.false_ne_true
  | i :: is, elts, h => by
    refine lcE h ?_
    intro x r h
    refine nmME h ?_
    intro id p h
    simp only [Bool.and_eq_true] at h
    have hr := each_len (is := is) h.2
    have e : assignEach (.Name id p :: r) env = (false, assign (.Name id p) env) :: assignEach r env := rfl
    rw [e]
    exact ⟨by simp [hr.1], by rw [List.findIdx?_cons]; simp [hr.2]⟩

theorem assign_ok {P : Addr → Prop} {t : Tg} {tg : Expr} {v : V} {x : Value} {ρ' : Loc} {Q : Unit → Shared → Prop} {E : Value → Shared → Prop} (U : Sur C k md Φ S env) (d : Dyn C k md S A env ρ σ s) (hm : matchT S t tg = true) (hv : VR s.heap v x) (hb : bindTg t v ρ = some ρ')
    (hh : tgOk md t) (hP : ∀ id i, S.own id i = true → i ∈ tgOf t → ∀ a, OwnAt env id a → P a) (h : ∀ s', Step C P σ s σ s' → Dyn C k md S A env ρ' σ s' → Q () s') : wpAny C.M A (assign tg env x) Q E s := by
  cases t with
  | one i =>
    refine nmME hm ?_
    intro id p hm
    cases hb
    exact wpAny_assign_Name (store_dyn U d hm hv fun s' st d' => h s' (st.mono (hP _ _ hm (by simp [tgOf]))) d')
  | many is =>
    refine tuME hm ?_
    intro xs kk p hm
    simp only [Bool.and_eq_true] at hm
    cases v with
    | tup vs =>
      dsimp only [bindTg] at hb
      split at hb
      · rename_i hlen
        cases hb
        refine ob13 hv.tup_of ?_
        intro a ys n ee107
        subst ee107
        intro ha hY
        have hE := each_len (env := env) hm.1
        rw [arm_assign_Tuple]
        refine wpAny_bind (wpAny_standAt ?_)
        unfold unpack
        have e := hY.length
        rw [hE.1, hE.2, show is.length = ys.toArray.size by rw [List.size_toArray, hlen, e]]
        refine wpAny_bind (wpAny_holding (wpAny_size (wpAny_unpackItems_tuple (d.a.handled hh) (IsTup_of ha) fun h' hx hsz => ?_)))
        have st : Step C No σ s σ { s with heap := h' } := .grow (t := s.toks) d.r (fun b o e => hx b o (Nat.ne_of_lt (Heap.lt_size e)) e) hsz
        exact assign_each U is hP _ _ _ _ _ hm.1 hlen (st.vrs hY) (d.step st) fun s' st' d' => h s' (st.no.trans st') d'
      · cases hb
    | _ => cases hb
end
end Mine.Internal
end

section
set_option linter.unusedVariables false
namespace Mine.Internal
open PySem PySem.W PySem.Calls PyProof.Rows

noncomputable def PostC (C : Cx) (σ : Store) (s : Shared) (Q : Bool → Store → Prop) : Bool → Shared → Prop := fun b s' => ∃ σ', Q b σ' ∧ Step C No σ s σ' s'
noncomputable def CoP (C : Cx) (o : ExO) : Prop := ∀ {k : Nat} {md : Bool} {Φ : Calls} {S : Sc} {ifs : List Expr} {env : Env} {A : Around} {ρ : Loc} {σ : Store} {s : Shared} {Q : Bool → Store → Prop} {X : XP},
  Sur C k md Φ S env → Dyn C k md S A env ρ σ s → matchC S o ifs = true → wpC Φ md o ρ σ Q X →
    wpAny C.M A (forIn ifs true fun c r => if r = true then do let ok ← isTrue c env (eval c env); pure (ForInStep.yield ok) else pure (ForInStep.yield r)) (PostC C σ s Q) (PostX C σ s X) s

section
variable {C : Cx} {k : Nat} {md : Bool} {Φ : Calls} {S : Sc} {env : Env} {A : Around} {ρ : Loc} {σ σ' σ₁ : Store} {s s' s₁ : Shared} {D : Addr → Prop} {X : XP}

theorem co_none : CoP C .none := by
  intro k md Φ S ifs env A ρ σ s Q X U d hm h
  cases ifs with
  | nil => simp only [C_none, C_some] at h; exact wpAny_tests_nil ⟨σ, h, .refl d.r⟩
  | cons _ _ => simp [mC_nn, mC_nc, mC_sn, mC_s1, mC_s2] at hm
theorem co_some {e : Ex} (he : TrP C e) : CoP C (.some e) := by
  intro k md Φ S ifs env A ρ σ s Q X U d hm h
  cases ifs with
  | nil => simp [mC_nn, mC_nc, mC_sn, mC_s1, mC_s2] at hm
  | cons x r =>
    cases r with
    | cons _ _ => simp [mC_nn, mC_nc, mC_sn, mC_s1, mC_s2] at hm
    | nil =>
      simp only [mC_nn, mC_nc, mC_sn, mC_s1, mC_s2] at hm; simp only [C_none, C_some] at h
      refine wpAny_tests_one (seqB (.refl d.r) (he U d hm h fun V σ' q => ?_) fun b V σ₁ s₁ q hb _ st => ?_)
      · refine ob5 (onSome_elim q) ?_
        intro b hb _
        exact ⟨b, hb⟩
      · refine ob5 (onSome_elim q) ?_
        intro b' hb' q
        rw [hb] at hb'; cases hb'
        exact ⟨σ₁, q, st⟩

/-- an object that nothing has told of comes into the store -/
theorem Step.adopt {a : Addr} {o : AO} (x : Step C D σ s σ' s') (ha : s.heap.objs.size ≤ a) (hn : σ' a = none) (hO : OR C.cls C.prog C.w s'.heap a o) (hb : C.base.objs.size ≤ a) : Step C D σ s (σ'.upd a o) s' := by
  refine ⟨x.h, ⟨x.rel.stays, fun b ob q => ?_, fun b ob q => ?_, x.rel.size⟩, fun b n => ?_, fun b n => ?_, x.gens, x.os, x.drawn⟩
  · by_cases e : b = a
    · subst e; rw [upd_same] at q; cases q; exact hO
    · rw [upd_ne e] at q; exact x.rel.tr b ob q
  · by_cases e : b = a
    · subst e; exact .inl hb
    · rw [upd_ne e] at q; exact x.rel.new b ob q
  · by_cases e : b = a
    · subst e; rw [upd_same]; simp
    · rw [upd_ne e]; exact x.dom b n
  · by_cases e : b = a
    · subst e; exact .inr ha
    · rw [upd_ne e] at n; exact x.fresh b n

theorem compLoop_list {elt target iter : Expr} {ifs : List Expr} {scope : Scope} {pos : Pos} {it acc : Value} {R : Result → Shared → Prop} (I : Nat → Shared → Prop)
    (turn : ∀ n s, I n s → wpAny C.M A (pyNext it) (fun r s₁ => match r with
      | none => R (.ok .next) s₁
      | some v => wpAny C.M A (letOwnedTupleGo target it v) (fun _ s₁ => wpAny C.M A (assign target env v) (fun _ s₂ =>
          wpAny C.M A (forIn ifs true fun c r => if r = true then do let ok ← isTrue c env (eval c env); pure (ForInStep.yield ok) else pure (ForInStep.yield r)) (fun ok s₃ =>
            if ok = true then wpAny C.M A (eval elt env) (fun x s₄ => wpAny C.M A (call (.builtin "list.append") [acc, x]) (fun _ s₅ => ∃ m, m < n ∧ I m s₅) (fun _ _ => False) s₄) (fun _ _ => False) s₃
            else ∃ m, m < n ∧ I m s₃) (fun _ _ => False) s₂) (fun _ _ => False) s₁) (fun _ _ => False) s₁) (fun _ _ => False) s)
    (n : Nat) (h : I n s) : codeAny C.M A (.compLoop (.ListComp elt [⟨target, iter, ifs, 0⟩] scope pos) 0 it acc env) R s := by
  refine codeAny_loop rfl I (fun n s hI => ?_) n h
  show wpAny _ A ((compTurn (.ListComp elt [⟨target, iter, ifs, 0⟩] scope pos) 0 it acc env).onRaise (fun x => do noteFrame x env; theTreesLotGoes x)) _ _ s
  refine wpAny_noted ?_
  rw [compTurn_list]
  refine wpAny_bind (wpAny_standAt (wpAny_bind (wpAny_mono (turn n s hI) (fun r s₁ h₁ => ?_) fun _ _ h' => h'.elim)))
  cases r with
  | none => exact wpAny_pure h₁
  | some v =>
    refine wpAny_bind (wpAny_mono h₁ (fun _ s₁ h₁ => ?_) fun _ _ h' => h'.elim)
    refine wpAny_bind (wpAny_mono h₁ (fun _ s₂ h₂ => wpAny_bind (wpAny_mono h₂ (fun ok s₃ h₃ => ?_) fun _ _ h' => h'.elim)) fun _ _ h' => h'.elim)
    cases ok with
    | false => exact wpAny_pure ⟨rfl, h₃⟩
    | true =>
      exact wpAny_bind (wpAny_bind (wpAny_mono h₃ (fun x s₄ h₄ => wpAny_bind (wpAny_mono h₄ (fun _ s₅ h₅ => wpAny_pure (wpAny_pure ⟨rfl, h₅⟩)) fun _ _ h' => h'.elim)) fun _ _ h' => h'.elim))

/-- what a comprehension's turns keep -/
structure CInv (C : Cx) (k : Nat) (md : Bool) (S : Sc) (A : Around) (cenv : Env) (ρ : Loc) (wr : List Addr) (acc : Addr) (St : Nat → Heap → Prop) (σ : Store) (s : Shared) (i : Nat) (vs : List V) (σ' : Store) (s' : Shared) : Prop where
  st : St i s'.heap
  hold : Hold C wr σ' s'.heap
  obj : ∃ xs n, IsL s'.heap acc xs.toArray n ∧ VRs s'.heap vs xs
  len : vs.length ≤ szLim
  accN : σ' acc = none
  step : Step C (fun a => s.heap.objs.size ≤ a) σ s σ' s'
  dyn : Dyn C k md S A cenv ρ σ' s'

theorem CInv.no {cenv : Env} {wr : List Addr} {acc : Addr} {St : Nat → Heap → Prop} {i : Nat} {vs : List V} {σ₂ : Store} {s₂ : Shared} {ow : Bool} {I : Addr} {items : List V} {chk : Store → Prop} {Mid : Nat → Value → Heap → Prop} {ρ' : Loc}
    (W : ItOk C A ow I wr items chk St Mid) (v : CInv C k md S A cenv ρ wr acc St σ s i vs σ₁ s₁) (y : Step C D σ₁ s₁ σ₂ s₂) (hw : ∀ b ∈ wr, ¬ D b) (ha : ¬ D acc) (hD : ∀ a, D a → s.heap.objs.size ≤ a) (d : Dyn C k md S A cenv ρ' σ₂ s₂) :
    CInv C k md S A cenv ρ' wr acc St σ s i vs σ₂ s₂ := by
  refine ob8 (v.hold.step y hw) ?_
  intro h1 h2
  refine ob12 v.obj ?_
  intro xs n hL hX
  have hL' : IsL s₂.heap acc xs.toArray n := (y.h.keep acc _ hL fun q => q.elim (fun z => z v.accN) ha).plain (fun es m q => by cases q)
  exact ⟨W.frame i _ _ v.st y.h.tup h2, h1, ⟨xs, n, hL', y.vrs hX⟩, v.len, untracked y hL v.accN, v.step.trans (y.mono hD), d⟩

theorem ItOk.next {ow : Bool} {I : Addr} {wr : List Addr} {items : List V} {chk : Store → Prop} {St : Nat → Heap → Prop} {Mid : Nat → Value → Heap → Prop} {i : Nat} {tg : Expr} {K : Option Value → Shared → Prop} {E : Value → Shared → Prop}
    (W : ItOk C A ow I wr items chk St Mid) (hi : i < items.length) (hst : St i s.heap) (r : Rel C σ s.heap) (m : Hold C wr σ s.heap) (hc : chk σ) (htg : ow = true → ∃ elts k pos, tg = .Tuple elts k pos)
    (h : ∀ v s₁, (∀ (Q' : Unit → Shared → Prop) (E' : Value → Shared → Prop), (∀ s₂, VR s₂.heap items[i] v → Step C (· ∈ wr) σ s σ s₂ → St (i + 1) s₂.heap → Hold C wr σ s₂.heap → Q' () s₂) → wpAny C.M A (letOwnedTupleGo tg (.ref I) v) Q' E' s₁) → K (some v) s₁) :
    wpAny C.M A (pyNext (.ref I)) K E s := by
  refine wpAny_size (W.item i σ s hi hst r hc _ _ fun v h' tk hv hmid kk hsz => h v _ fun Q' E' hQ => ?_)
  have st1 : Step C (· ∈ wr) σ s σ { s with heap := h', toks := tk } := .wrote r m kk hsz
  refine wpAny_size (W.go tg i v _ _ _ hmid htg fun h'' hst' kk' hsz' => ?_)
  have m1 : Hold C wr σ h' := ⟨m.no, W.midAt i v h' hmid⟩
  have st2 : Step C (· ∈ wr) σ { s with heap := h', toks := tk } σ { s with heap := h'', toks := tk } := .wrote (t := tk) st1.rel m1 kk' hsz'
  exact hQ _ (st2.vr hv) (st1.trans st2) hst' ⟨m.no, W.at_ _ _ hst'⟩
theorem ItOk.stop {ow : Bool} {I : Addr} {wr : List Addr} {items : List V} {chk : Store → Prop} {St : Nat → Heap → Prop} {Mid : Nat → Value → Heap → Prop} {K : Option Value → Shared → Prop} {E : Value → Shared → Prop}
    (W : ItOk C A ow I wr items chk St Mid) (hst : St items.length s.heap) (r : Rel C σ s.heap) (m : Hold C wr σ s.heap) (hc : chk σ) (h : ∀ s₁, Step C (· ∈ wr) σ s σ s₁ → K none s₁) : wpAny C.M A (pyNext (.ref I)) K E s :=
  wpAny_size (W.done σ s hst r hc _ _ fun h' tk kk hsz => h _ (.wrote r m kk hsz))

theorem append_acc {acc : Addr} {xs : List Value} {n : Nat} {x : Value} {K : Value → Shared → Prop} {E : Value → Shared → Prop} (r : Rel C σ s.heap) (hn : σ acc = none) (hb : C.base.get? acc = none) (hL : IsL s.heap acc xs.toArray n) (hz : xs.length ≤ szLim)
    (h : ∀ s', Step C (· = acc) σ s σ s' → (∃ n', IsL s'.heap acc (xs ++ [x]).toArray n') → K .none s') : wpAny C.M A (call (.builtin "list.append") [.ref acc, x]) K E s := by
  refine call_meets F.slot_list_append ⟨_, hL, rfl⟩ F.entry_list_append (F.args_list_append_2 _ _) (list_append acc xs.toArray n x (by simp only [List.size_toArray]; exact szLine hz)) ⟨hL, ?_⟩
  refine h _ (Step.oneBut (t := s.toks) r ⟨Heap.size_update .., fun b hb => Heap.get?_update_other _ _ (Ne.symm hb)⟩ hn hb rfl hL (fun q => by have := q.1; injection this with this; exact absurd this (by decide))) ?_
  have := hL.update (·.push x)
  refine ⟨if (xs.toArray.push x).size == xs.toArray.size then n else n + 1, ?_⟩
  rw [show (xs ++ [x]).toArray = xs.toArray.push x by simp]
  exact this

theorem sets_comm {i : Nat} {v : Option V} : ∀ {is : List Nat} {ws : List V} {ρ : Loc}, i ∉ is → ((is.zip ws).foldl (fun r p => r.set p.1 (some p.2)) ρ).set i v = (is.zip ws).foldl (fun r p => r.set p.1 (some p.2)) (ρ.set i v)
  | [], _, _, _ => by simp
  | _ :: _, [], _, _ => by simp
  | j :: is, w :: ws, ρ, h => by
    simp only [List.mem_cons, not_or] at h
    simp only [List.zip_cons_cons, List.foldl_cons]
    rw [sets_comm h.2, List.set_comm _ _ (Ne.symm h.1)]
theorem sets_again : ∀ {is : List Nat} {vs ws : List V} {ρ : Loc}, is.Nodup → is.length = vs.length → (is.zip vs).foldl (fun r p => r.set p.1 (some p.2)) ((is.zip ws).foldl (fun r p => r.set p.1 (some p.2)) ρ) = (is.zip vs).foldl (fun r p => r.set p.1 (some p.2)) ρ
  | [], _, _, _, _, _ => by simp
  | _ :: _, [], _, _, _, h => by simp at h
  | _ :: _, _ :: _, [], _, _, _ => by simp
  | i :: is, v :: vs, w :: ws, ρ, hn, hl => by
    simp only [List.nodup_cons] at hn
    simp only [List.zip_cons_cons, List.foldl_cons]
    rw [sets_comm hn.1, List.set_set, sets_again hn.2 (by simpa using hl)]
/-- bound anew as if it were the first time -/
theorem bind_again {t : Tg} {v w : V} {ρ ρ' ρ₁ : Loc} (hn : (tgOf t).Nodup) (h : bindTg t w ρ = some ρ') (h' : bindTg t v ρ = some ρ₁) : bindTg t v ρ' = some ρ₁ := by
  cases t with
  | one i =>
    simp only [bindTg, Option.some.injEq] at h h' ⊢
    subst h; subst h'
    rw [List.set_set]
  | many is =>
    cases v with
    | tup vs =>
      cases w with
      | tup ws =>
        simp only [bindTg] at h h' ⊢
        split at h
        · split at h'
          · cases h; cases h'
            rename_i h1 h2
            rw [if_pos h2, sets_again (is := is) hn h2]
          · cases h'
        · cases h
      | _ => simp [bindTg] at h
    | _ => simp [bindTg] at h'

/-- the turns of a comprehension -/
theorem comp_turns {ow : Bool} {I acc : Addr} {wr : List Addr} {items : List V} {chk : Store → Prop} {St : Nat → Heap → Prop} {Mid : Nat → Value → Heap → Prop} {cenv : Env} {S' : Sc} {t : Tg} {tg x y : Expr} {ifs : List Expr} {elt : Ex} {cond : ExO} {scope : Scope} {pos : Pos}
    {Q : V → Store → Prop} {R : Result → Shared → Prop} (W : ItOk C A ow I wr items chk St Mid) (U : Sur C k md Φ S' cenv) (helt : EvP C elt) (hcond : CoP C cond) (hT : matchT S' t tg = true) (hE : matchE S' elt x = true) (hC : matchC S' cond ifs = true)
    (hmd : md = true) (htg : ow = true → ∃ elts k pos, tg = .Tuple elts k pos) (hP : ∀ id i, S'.own id i = true → i ∈ tgOf t → ∀ a, OwnAt cenv id a → a = cenv.locals) (hnd : (tgOf t).Nodup)
    (hwr : ∀ b ∈ wr, s.heap.objs.size ≤ b ∧ ¬ Own cenv b ∧ b ≠ acc) (hacc : s.heap.objs.size ≤ acc ∧ ¬ Own cenv acc) (hbacc : C.base.get? acc = none) (hloc : s.heap.objs.size ≤ cenv.locals) (low : Low A s.heap.objs.size)
    (hR : ∀ vs σ' s', (∃ i ρ₀, CInv C k md S' A cenv ρ₀ wr acc St σ s i vs σ' s') → Mine.Internal.alloc σ' (.list vs) Q → ∀ s'', Step C (· ∈ wr) σ' s' σ' s'' → R (.ok .next) s'') {i : Nat} {vs : List V} {σ₁ : Store} {s₁ : Shared} {ρ₀ : Loc} (hbind : ∀ v ρ₁, bindTg t v ρ = some ρ₁ → bindTg t v ρ₀ = some ρ₁)
    (inv : CInv C k md S' A cenv ρ₀ wr acc St σ s i vs σ₁ s₁) (hi : i ≤ items.length)
    (h : compV chk (fun v σ₂ K => onSome (bindTg t v ρ) fun ρ' => wpC Φ md cond ρ' σ₂ (fun b σ₃ => if b then wpE Φ md elt ρ' σ₃ (fun x σ₄ => K (some x) σ₄) noX else K none σ₃) noX) Q (items.drop i) vs σ₁) :
    codeAny C.M A (.compLoop (.ListComp x [⟨tg, y, ifs, 0⟩] scope pos) 0 (.ref I) (.ref acc) cenv) R s₁ := by
  refine compLoop_list (fun n s' => ∃ i vs σ' ρ₀, (∀ v ρ₁, bindTg t v ρ = some ρ₁ → bindTg t v ρ₀ = some ρ₁) ∧ CInv C k md S' A cenv ρ₀ wr acc St σ s i vs σ' s' ∧ i ≤ items.length ∧ n = items.length - i ∧
    compV chk (fun v σ₂ K => onSome (bindTg t v ρ) fun ρ' => wpC Φ md cond ρ' σ₂ (fun b σ₃ => if b then wpE Φ md elt ρ' σ₃ (fun x σ₄ => K (some x) σ₄) noX else K none σ₃) noX) Q (items.drop i) vs σ') ?_ (items.length - i) ⟨i, vs, σ₁, ρ₀, hbind, inv, hi, rfl, h⟩
  clear h hi inv hbind
  intro n s' zz9
  refine ob33 zz9 ?_
  clear zz9
  intro i vs σ' ρ₀ hbind inv hi ee108
  subst ee108
  intro h
  by_cases hlt : i < items.length
  · rw [List.drop_eq_getElem_cons hlt] at h
    simp only [compV] at h
    refine ob22 h ?_
    clear h
    intro hc hlen h
    refine ob5 (onSome_elim h) ?_
    intro ρ' hb h
    refine W.next hlt inv.st inv.dyn.r inv.hold hc htg fun v s₁ hgo => hgo _ _ fun s₂ hv st hst' hold' => ?_
    have hOwr : ∀ a, Own cenv a → ¬ a ∈ wr := fun a ha hb => (hwr a hb).2.1 ha
    have d2 : Dyn C k md S' A cenv ρ₀ σ' s₂ := inv.dyn.apart (n := s.heap.objs.size) st low (fun a ha => (hwr a ha).1) hOwr
    refine ob12 inv.obj ?_
    intro xs n hL hX
    have hL2 : IsL s₂.heap acc xs.toArray n := (st.h.keep acc _ hL fun q => q.elim (fun z => z inv.accN) fun z => (hwr acc z).2.2 rfl).plain (fun es m q => by cases q)
    have inv2 : CInv C k md S' A cenv ρ₀ wr acc St σ s (i + 1) vs σ' s₂ := ⟨hst', hold', ⟨xs, n, hL2, st.vrs hX⟩, inv.len, untracked st hL inv.accN, inv.step.trans (st.mono fun a ha => (hwr a ha).1), d2⟩
    refine assign_ok (P := fun a => a = cenv.locals) U d2 hT hv (hbind _ _ hb) (by cases t <;> first | trivial | exact hmd) hP fun s₃ st3 d3 => ?_
    have locO : Own cenv cenv.locals := .inl rfl
    have inv3 : CInv C k md S' A cenv ρ' wr acc St σ s (i + 1) vs σ' s₃ := inv2.no W st3 (fun b hb q => (hwr b hb).2.1 (q ▸ locO)) (fun q => hacc.2 (q ▸ locO)) (fun a q => q ▸ hloc) d3
    refine wpAny_mono (hcond U d3 hC h) (fun b s₄ h₄ => ?_) fun _ _ hx => (by obtain ⟨_, _, _, _, f, _⟩ := hx; exact f)
    refine lift fun gg back => ?_
    obtain ⟨σ₄, h, st4⟩ := h₄
    refine back ?_
    clear back gg
    have inv4 := inv3.no W st4 (fun _ _ f => f) (fun f => f) (fun _ f => f.elim) (d3.step st4)
    have hb' := hbind _ _ hb
    have hbn : ∀ v ρ₁, bindTg t v ρ = some ρ₁ → bindTg t v ρ' = some ρ₁ := fun v ρ₁ hv => bind_again hnd hb hv
    cases b with
    | false => exact ⟨items.length - (i + 1), by omega, i + 1, vs, σ₄, ρ', hbn, inv4, hlt, rfl, h⟩
    | true =>
      refine wpAny_mono (helt U (d3.step st4) hE h) (fun y s₅ h₅ => ?_) fun _ _ hx => (by obtain ⟨_, _, _, _, f, _⟩ := hx; exact f)
      refine lift fun gg back => ?_
      obtain ⟨V, σ₅, h, hv5, st5⟩ := h₅
      refine back ?_
      clear back gg
      have inv5 := inv4.no W st5 (fun _ _ f => f) (fun f => f) (fun _ f => f.elim) ((d3.step st4).step st5)
      refine ob12 inv5.obj ?_
      intro xs5 n5 hL5 hX5
      have e5 := hX5.length
      refine append_acc inv5.dyn.r inv5.accN hbacc hL5 (by have := inv5.len; omega) fun s₆ st6 hL6 => ?_
      refine ob6 hL6 ?_
      clear hL6
      intro n6 hL6
      refine ob8 (inv5.hold.step st6 fun b hb q => (hwr b hb).2.2 q) ?_
      intro hold6 kp6
      have d6 : Dyn C k md S' A cenv ρ' σ₅ s₆ := inv5.dyn.apart (n := s.heap.objs.size) st6 low (fun a ha => ha ▸ hacc.1) fun a ha q => hacc.2 (q ▸ ha)
      refine ⟨items.length - (i + 1), by omega, i + 1, vs ++ [V], σ₅, ρ', hbn, ⟨W.frame _ _ _ inv5.st st6.h.tup kp6, hold6, ⟨xs5 ++ [y], n6, hL6, (st6.vrs hX5).append (.cons (st6.vr hv5) .nil)⟩, ?_, inv5.accN, inv5.step.trans (st6.mono fun a ha => ha ▸ hacc.1), d6⟩, hlt, rfl, h⟩
      simp only [List.length_append, List.length_cons, List.length_nil]; omega
  · have hi' : i = items.length := by omega
    subst hi'
    rw [List.drop_length] at h
    simp only [compV] at h
    exact W.stop inv.st inv.dyn.r inv.hold h.1 fun s₁ st => hR vs σ' s' ⟨_, _, inv⟩ h.2 s₁ st

/- a comprehension's block -/
noncomputable def clOf (env : Env) (names : List (Str × NameKind)) : List (Str × Addr) := ((names.filter fun x => x.2 == .free).map fun x => (x.1, (env.cells.lookup x.1).getD 0)).reverse

theorem closure_go (f : Str × NameKind → List (Str × Addr) → Sem (ForInStep (List (Str × Addr))))
    (hf : ∀ name kind cs, f (name, kind) cs = if kind == .free then (do let a ← cellOf env name; pure (.yield ((name, a) :: cs))) else pure (.yield cs)) :
    ∀ (names : List (Str × NameKind)) (acc : List (Str × Addr)), (∀ x ∈ names, x.2 = .free → (env.cells.lookup x.1).isSome = true) → forIn names acc f = (pure (clOf env names ++ acc) : Sem _)
  | [], acc, _ => rfl
  | (n, kd) :: r, acc, h => by
    rw [List.forIn_cons, hf]
    have ih := fun acc => closure_go f hf r acc fun x hx => h x (List.mem_cons_of_mem _ hx)
    by_cases hk : kd = .free
    · subst hk
      refine ob6 (Option.isSome_iff_exists.mp (h (n, .free) List.mem_cons_self rfl)) ?_
      intro c hc
      have e : cellOf env n = pure c := by unfold cellOf; rw [hc]
      rw [if_pos (by rfl), e]
      show forIn r ((n, c) :: acc) f = _
      rw [ih]
      simp [clOf, hc]
    · rw [if_neg (by simpa using hk)]
      show forIn r acc f = _
      rw [ih]
      have : (kd == NameKind.free) = false := by simpa using hk
      simp [clOf, this]
theorem closure_ok {scope : Scope} (h : ∀ x ∈ scope.names, x.2 = .free → (env.cells.lookup x.1).isSome = true) : closureFor scope env = pure (clOf env scope.names) := by
  have key : forIn scope.names [] (fun (x : Str × NameKind) (cs : List (Str × Addr)) => match x with
      | (name, kind) => if (kind == NameKind.free) = true then (do let a ← cellOf env name; pure (ForInStep.yield ((name, a) :: cs))) else pure (ForInStep.yield cs)) = (pure (clOf env scope.names ++ []) : Sem _) :=
    closure_go _ (fun _ _ _ => rfl) scope.names [] h
  rw [List.append_nil] at key
  unfold closureFor
  exact congrArg (fun m : Sem (List (Str × Addr)) => m >>= fun cs => pure cs) key

theorem lookup_fn {α : Type} (f : Str → α) : ∀ (l : List Str) (n : Str), (l.map fun x => (x, f x)).lookup n = if n ∈ l then some (f n) else none
  | [], n => by simp
  | m :: l, n => by
    rw [List.map_cons, List.lookup_cons]
    by_cases h : n = m
    · subst h; simp
    · rw [beq_eq_false_iff_ne.mpr h, lookup_fn f l n]
      simp [h]
theorem clOf_lookup {names : List (Str × NameKind)} {n : Str} : (clOf env names).lookup n = if (n, NameKind.free) ∈ names then some ((env.cells.lookup n).getD 0) else none := by
  have e : clOf env names = (((names.filter fun x => x.2 == .free).map (·.1)).reverse).map fun x => (x, (env.cells.lookup x).getD 0) := by
    unfold clOf
    rw [List.map_reverse, List.map_map]; rfl
  rw [e, lookup_fn]
  have : (n ∈ ((names.filter fun x => x.2 == .free).map (·.1)).reverse) ↔ (n, NameKind.free) ∈ names := by
    simp only [List.mem_reverse, List.mem_map, List.mem_filter, beq_iff_eq]
    constructor
    · intro zz10
      refine lift fun gg back => ?_
      obtain ⟨⟨a, b⟩, ⟨h1, h2⟩, h3⟩ := zz10
      refine back ?_
      clear back gg
      simp only at h2 h3
      subst h2; subst h3; exact h1
    · intro h; exact ⟨_, ⟨h, rfl⟩, rfl⟩
  by_cases h : (n, NameKind.free) ∈ names
  · rw [if_pos (this.mpr h), if_pos h]
  · rw [if_neg (fun q => h (this.mp q)), if_neg h]

theorem mem_lookup {names : List (Str × NameKind)} (hn : (names.map (·.1)).Nodup) {n : Str} {kd : NameKind} (h : (n, kd) ∈ names) : names.lookup n = some kd := by
  induction names with
  | nil => cases h
  | cons x r ih =>
    obtain ⟨m, j⟩ := x
    simp only [List.map_cons, List.nodup_cons] at hn
    rcases List.mem_cons.mp h with e | h
    · cases e; simp [List.lookup_cons]
    · have : n ≠ m := fun e => hn.1 (e ▸ List.mem_map_of_mem (f := (·.1)) h)
      rw [List.lookup_cons, beq_eq_false_iff_ne.mpr this]
      exact ih hn.2 h
theorem lookup_mem {names : List (Str × NameKind)} {n : Str} {kd : NameKind} (h : names.lookup n = some kd) : (n, kd) ∈ names := PySem.mem_of_lookup h
theorem relN_mem {out names : List (Str × NameKind)} {n : Str} {kd : NameKind} (h : (n, kd) ∈ relN out names) : ∃ kd₀, (n, kd₀) ∈ names ∧ (kd = kd₀ ∨ (kd₀ = .free ∧ kd = .cell)) := by
  unfold relN at h
  refine lift fun gg back => ?_
  obtain ⟨⟨m, j⟩, hm, e⟩ := List.mem_map.mp h
  refine back ?_
  clear back gg
  dsimp only at e
  split at e
  · rename_i hc
    cases e
    simp only [Bool.and_eq_true, beq_iff_eq] at hc
    exact ⟨j, hm, .inr ⟨hc.1, rfl⟩⟩
  · cases e; exact ⟨_, hm, .inl rfl⟩
theorem relN_local {out names : List (Str × NameKind)} {n : Str} (h : names.lookup n = some .local) : (relN out names).lookup n = some .local := by
  induction names with
  | nil => simp at h
  | cons x r ih =>
    obtain ⟨m, j⟩ := x
    rw [List.lookup_cons] at h
    show List.lookup n ((if j == .free && out.lookup m == some .cell then (m, .cell) else (m, j)) :: relN out r) = _
    cases hb : n == m with
    | true =>
      rw [hb] at h; cases h
      simp [List.lookup_cons, hb]
    | false =>
      rw [hb] at h
      split
      · rw [List.lookup_cons, hb]; exact ih h
      · rw [List.lookup_cons, hb]; exact ih h

structure CompOk (S : Sc) (bs : List (String × Nat)) (scope : Scope) : Prop where
  kind : scope.kind = .function
  nodup : (scope.names.map (·.1)).Nodup
  names : ∀ n kd, (n, kd) ∈ scope.names → (kd = .local ∧ (n = (".0" : Str) ∨ ∃ p ∈ bs, Str.ofString p.1 = n)) ∨ (kd = .free ∧ (S.names.lookup n = some .cell ∨ S.names.lookup n = some .free)) ∨ kd = .globalImplicit
  zero : ∀ q ∈ bs ++ S.nm, Str.ofString q.1 ≠ (".0" : Str)
  nm : (bs.map (·.1)).Nodup
  idx : (bs.map (·.2)).Nodup
  bs : ∀ p ∈ bs, scope.names.lookup (Str.ofString p.1) = some .local ∧ p.2 < S.size ∧ ∀ q ∈ S.nm, q.2 ≠ p.2
theorem compOk_elim {bs : List (String × Nat)} {scope : Scope} (h : compOk S bs scope = true) : CompOk S bs scope := by
  unfold compOk at h
  simp only [Bool.and_eq_true, beq_iff_eq, decide_eq_true_eq, List.all_eq_true, bne_iff_ne] at h
  refine ob34 h ?_
  clear h
  intro h1 h2 h3 h4 h5 h6 h7
  refine ⟨h1, h2, fun n kd hm => ?_, h4, h5, h6, fun p hp => ⟨(h7 p hp).1.1, (h7 p hp).1.2, (h7 p hp).2⟩⟩
  have := h3 (n, kd) hm
  dsimp only at this
  cases kd with
  | «local» =>
    simp only [Bool.or_eq_true, decide_eq_true_eq, List.any_eq_true] at this
    exact .inl ⟨rfl, this⟩
  | free =>
    simp only [Bool.or_eq_true, beq_iff_eq] at this
    exact .inr (.inl ⟨rfl, this⟩)
  | globalImplicit => exact .inr (.inr rfl)
  | _ => cases this

theorem lookS_mem : ∀ {l : List (String × Nat)} {x : String} {i : Nat}, l.lookup x = some i → (x, i) ∈ l
  | (y, j) :: r, x, i, h => by
    rw [List.lookup_cons] at h
    cases hb : x == y with
    | true => rw [hb] at h; cases h; rw [beq_iff_eq.mp hb]; exact List.mem_cons_self
    | false => rw [hb] at h; exact List.mem_cons_of_mem _ (lookS_mem h)
theorem lookS_some : ∀ {l : List (String × Nat)} {x : String}, x ∈ l.map (·.1) → ∃ i, l.lookup x = some i
  | (y, j) :: r, x, h => by
    rw [List.lookup_cons]
    cases hb : x == y with
    | true => exact ⟨j, rfl⟩
    | false =>
      rcases List.mem_cons.mp h with e | h
      · rw [e] at hb; simp at hb
      · exact lookS_some h
theorem idx_inj {l : List (String × Nat)} (hn : (l.map (·.2)).Nodup) {x y : String} {i : Nat} (hx : (x, i) ∈ l) (hy : (y, i) ∈ l) : x = y := by
  induction l with
  | nil => cases hx
  | cons p r ih =>
    simp only [List.map_cons, List.nodup_cons] at hn
    rcases List.mem_cons.mp hx with e | hx <;> rcases List.mem_cons.mp hy with e' | hy
    · rw [← e'] at e; exact (Prod.mk.inj e).1
    · exact absurd (List.mem_map_of_mem (f := (·.2)) hy) (by rw [← e] at hn; exact hn.1)
    · exact absurd (List.mem_map_of_mem (f := (·.2)) hx) (by rw [← e'] at hn; exact hn.1)
    · exact ih hn.2 hx hy
theorem look_append {bs nm : List (String × Nat)} {x : String} {i : Nat} (h : (bs ++ nm).lookup x = some i) : bs.lookup x = some i ∨ (bs.lookup x = none ∧ nm.lookup x = some i) := by
  rw [List.lookup_append] at h
  cases hb : bs.lookup x with
  | none => rw [hb] at h; exact .inr ⟨rfl, h⟩
  | some j => rw [hb] at h; cases h; exact .inl rfl

theorem comp_nm {bs : List (String × Nat)} {scope : Scope} (K : CompOk S bs scope) (h : NmOk S.nm S.size) : NmOk (bs ++ S.nm) S.size := by
  refine ⟨fun x y i hx hy => ?_, fun x i hx => ?_⟩
  · rcases look_append hx with hx | ⟨_, hx⟩ <;> rcases look_append hy with hy | ⟨_, hy⟩
    · exact idx_inj K.idx (lookS_mem hx) (lookS_mem hy)
    · exact absurd rfl ((K.bs (x, i) (lookS_mem hx)).2.2 (y, i) (lookS_mem hy))
    · exact absurd rfl ((K.bs (y, i) (lookS_mem hy)).2.2 (x, i) (lookS_mem hx))
    · exact h.1 x y i hx hy
  · rcases look_append hx with hx | ⟨_, hx⟩
    · exact (K.bs _ (lookS_mem hx)).2.1
    · exact h.2 x i hx

theorem comp_env {bs : List (String × Nat)} {scope : Scope} {L : Addr} (U : Sur C k md Φ S env) (K : CompOk S bs scope) : EnvS (compSc S bs scope.names) (compEnvC scope (clOf env scope.names) L env) := by
  have hrel : (relabel scope env).names = relN S.names scope.names := by
    unfold relabel relN
    dsimp only
    refine List.map_congr_left fun x _ => ?_
    obtain ⟨n, kd⟩ := x
    dsimp only
    rw [U.ev.kind, U.ev.kindOf, show (ScopeKind.function == ScopeKind.function) = true from rfl, Bool.and_true]
  refine ⟨⟨K.kind, U.ev.globals, U.ev.builtins⟩, hrel, comp_nm K U.ev.nm, fun x hx => ?_⟩
  show ((clOf env scope.names).lookup x).isSome = true
  have : (x, NameKind.free) ∈ scope.names := by
    rcases hx with hx | hx
    · refine ob5 (relN_mem (lookup_mem hx)) ?_
      intro kd₀ hm e
      rcases e with rfl | ⟨rfl, _⟩
      · rcases K.names _ _ hm with ⟨e, _⟩ | ⟨e, _⟩ | e <;> cases e
      · exact hm
    · refine ob5 (relN_mem (lookup_mem hx)) ?_
      intro kd₀ hm e
      rcases e with rfl | ⟨rfl, e⟩
      · exact hm
      · cases e
  rw [clOf_lookup, if_pos this]; rfl

/-- the variables of a comprehension are not bound yet -/
noncomputable def unbind (bs : List (String × Nat)) (ρ : Loc) : Loc := bs.foldl (fun r p => r.set p.2 none) ρ
theorem unbind_len : ∀ {bs : List (String × Nat)} {ρ : Loc}, (unbind bs ρ).length = ρ.length
  | [], _ => rfl
  | p :: r, ρ => by rw [unbind, List.foldl_cons]; exact (unbind_len (bs := r)).trans (by simp)
theorem unbind_get : ∀ {bs : List (String × Nat)} {ρ : Loc} {i : Nat} {v : V}, (unbind bs ρ).get i = some v → ρ.get i = some v ∧ i ∉ bs.map (·.2)
  | [], _, _, _, h => ⟨h, by simp⟩
  | p :: r, ρ, i, v, h => by
    rw [unbind, List.foldl_cons] at h
    refine ob8 (unbind_get (bs := r) h) ?_
    intro h1 h2
    by_cases e : i = p.2
    · subst e
      by_cases hl : p.2 < ρ.length
      · rw [Loc.get_set_self hl] at h1; cases h1
      · simp [Loc.get, hl] at h1
    · rw [Loc.get_set_ne e] at h1
      exact ⟨h1, by simp only [List.map_cons, List.mem_cons, not_or]; exact ⟨e, h2⟩⟩
theorem unbind_bind {t : Tg} {bs : List (String × Nat)} {v : V} {ρ₁ : Loc} (hn : (tgOf t).Nodup) (ht : tgOf t = bs.map (·.2)) (h : bindTg t v ρ = some ρ₁) : bindTg t v (unbind bs ρ) = some ρ₁ := by
  have comm : ∀ {is : List Nat} {i : Nat} {ρ : Loc} {u : Option V}, i ∉ is → (is.foldl (fun r j => r.set j none) ρ).set i u = is.foldl (fun r j => r.set j none) (ρ.set i u) := by
    intro is
    induction is with
    | nil => intros; rfl
    | cons j is ih =>
      intro i ρ u hi
      simp only [List.mem_cons, not_or] at hi
      simp only [List.foldl_cons]
      rw [ih hi.2, List.set_comm _ _ (Ne.symm hi.1)]
  have many : ∀ {is : List Nat} {vs : List V} {ρ : Loc}, is.Nodup → is.length = vs.length → (is.zip vs).foldl (fun r p => r.set p.1 (some p.2)) (is.foldl (fun r j => r.set j none) ρ) = (is.zip vs).foldl (fun r p => r.set p.1 (some p.2)) ρ := by
    intro is
    induction is with
    | nil => intros; rfl
    | cons j is ih =>
      intro vs ρ hn hl
      cases vs with
      | nil => simp at hl
      | cons v vs =>
        simp only [List.nodup_cons] at hn
        simp only [List.zip_cons_cons, List.foldl_cons]
        rw [comm hn.1, List.set_set, ih hn.2 (by simpa using hl)]
  have eu : unbind bs ρ = (bs.map (·.2)).foldl (fun r j => r.set j none) ρ := by unfold unbind; rw [List.foldl_map]
  rw [eu, ← ht]
  cases t with
  | one i =>
    simp only [bindTg, Option.some.injEq, tgOf, List.foldl_cons, List.foldl_nil] at h ⊢
    subst h
    rw [List.set_set]
  | many is =>
    cases v with
    | tup vs =>
      simp only [bindTg, tgOf] at h ⊢
      split at h
      · rename_i hl
        cases h
        rw [if_pos hl, many (is := is) hn hl]
      · cases h
    | _ => simp [bindTg] at h

theorem comp_lr {bs : List (String × Nat)} {scope : Scope} {L : Addr} {m : Str → Option Value} (U : Sur C k md Φ S env) (K : CompOk S bs scope) (l : LR C σ s.heap env S.nm ρ) (hN : s.heap.Ns L m) (hσ : σ L = none) (hb : C.base.get? L = none) :
    LR C σ s.heap (compEnvC scope (clOf env scope.names) L env) (bs ++ S.nm) (unbind bs ρ) := by
  have ES := comp_env (L := L) U K
  have cl : ∀ {x c}, (clOf env scope.names).lookup x = some c → (x, NameKind.free) ∈ scope.names ∧ env.cells.lookup x = some c := fun {x c} h => by
    rw [clOf_lookup] at h
    split at h
    · rename_i hf
      refine ⟨hf, ?_⟩
      rcases K.names _ _ hf with ⟨e, _⟩ | ⟨_, hx⟩ | e
      · cases e
      · refine ob6 (Option.isSome_iff_exists.mp (U.ev.cells x hx)) ?_
        intro c' hc'
        rw [hc'] at h ⊢
        exact h
      · cases e
    · cases h
  refine ⟨fun x i v hx hv => ?_, ⟨m, hN⟩, ⟨hσ, hb⟩, fun x c hc => l.cells x c (cl hc).2, fun x y c hx hy => l.apart x y c (cl hx).2 (cl hy).2⟩
  refine ob8 (unbind_get hv) ?_
  intro hv hni
  rcases look_append hx with hx | ⟨hxn, hx⟩
  · exact absurd (List.mem_map_of_mem (f := (·.2)) (lookS_mem hx)) hni
  have hold := l.holds x i v hx hv
  have kk := ES.kindOf (Str.ofString x)
  unfold Holds at hold ⊢
  rw [kk]
  have free : (compSc S bs scope.names).names.lookup (Str.ofString x) = some .cell ∨ (compSc S bs scope.names).names.lookup (Str.ofString x) = some .free → ∃ c u, (clOf env scope.names).lookup (Str.ofString x) = some c ∧ s.heap.IsCell c (some u) ∧ VR s.heap v u := fun hx' => by
    refine ob6 (Option.isSome_iff_exists.mp (ES.cells _ hx')) ?_
    intro c hc
    refine ob8 (cl hc) ?_
    intro hf hc'
    rcases K.names _ _ hf with ⟨e, _⟩ | ⟨_, hy⟩ | e
    · cases e
    · rw [U.ev.kindOf] at hold
      rcases hy with hy | hy
      · rw [hy] at hold
        refine ob3 hold ?_
        clear hold
        intro c₁ u h1 h2 h3
        rw [hc'] at h1; cases h1
        exact ⟨c, u, hc, h2, h3⟩
      · rw [hy] at hold
        refine ob3 hold ?_
        clear hold
        intro c₁ u h1 h2 h3
        rw [hc'] at h1; cases h1
        exact ⟨c, u, hc, h2, h3⟩
    · cases e
  split
  · rename_i hk
    exfalso
    refine ob5 (relN_mem (lookup_mem hk)) ?_
    intro kd₀ hm e
    rcases e with rfl | ⟨rfl, e⟩
    · rcases K.names _ _ hm with ⟨_, e | ⟨p, hp, e⟩⟩ | ⟨e, _⟩ | e
      · exact K.zero (x, i) (List.mem_append_right _ (lookS_mem hx)) e
      · have := ofString_inj e
        obtain ⟨j, hj⟩ := lookS_some (l := bs) (x := x) (by rw [← this]; exact List.mem_map_of_mem (f := (·.1)) hp)
        rw [hxn] at hj; cases hj
      · cases e
      · cases e
    · cases e
  · rename_i hk; exact free (.inl hk)
  · rename_i hk; exact free (.inr hk)
  · trivial

/-- how a comprehension ends -/
noncomputable def CEnd (C : Cx) (σ : Store) (s : Shared) (Q : V → Store → Prop) (acc L : Addr) (s' : Shared) : Prop :=
  ∃ σ', Q (.ref acc) σ' ∧ Step C No σ s σ' s' ∧ (∃ m, s'.heap.Ns L m) ∧ σ' L = none ∧ C.base.get? L = none ∧ s.heap.objs.size ≤ L

theorem comp_core {bs : List (String × Nat)} {elt it : Ex} {t : Tg} {cond : ExO} {x y tg : Expr} {ifs : List Expr} {scope : Scope} {pos : Pos} {Q : V → Store → Prop} {E : Value → Shared → Prop} {use : Option (Value → Sem Unit)} {QQ : Value → Shared → Prop}
    (hit : ItP C it) (helt : EvP C elt) (hcond : CoP C cond) (U : Sur C k md Φ S env) (d : Dyn C k md S A env ρ σ s) (hm : matchE S (.comp bs elt t it cond) (.ListComp x [⟨tg, y, ifs, 0⟩] scope pos) = true)
    (h : wpE Φ md (.comp bs elt t it cond) ρ σ Q X) (hE : ∀ v s', PostX C σ s X v s' → E v s')
    (hend : ∀ acc L s', CEnd C σ s Q acc L s' → compPost C.M A E use QQ (.ref acc) L (.ok .next) s') :
    wpAny C.M A (comprehension (.ListComp x [⟨tg, y, ifs, 0⟩] scope pos) scope env y.pos (newList []) false (eval y env) use) QQ E s := by
  have hm : (compOk S bs scope && itTg it t && matchT (compSc S bs scope.names) t tg && decide (tgOf t = bs.map (·.2)) && matchE S it y && matchE (compSc S bs scope.names) elt x && matchC (compSc S bs scope.names) cond ifs && decide ((0 : Int) = 0)) = true := hm
  simp only [Bool.and_eq_true, decide_eq_true_eq] at hm
  rw [wpE_comp] at h
  refine ob35 hm ?_
  clear hm
  intro hK hitg hT htt h1 h2 h3 _
  refine ob8 h ?_
  clear h
  intro hmd h
  have K := compOk_elim hK
  have hfree : ∀ z ∈ scope.names, z.2 = .free → (env.cells.lookup z.1).isSome = true := fun z hz hf => by
    obtain ⟨n, kd⟩ := z
    simp only at hf
    subst hf
    rcases K.names _ _ hz with ⟨e, _⟩ | ⟨_, hy⟩ | e
    · cases e
    · exact U.ev.cells n hy
    · cases e
  refine wpAny_comprehension_free (cl := clOf env scope.names) rfl (fun v => folded_of h1 v) (closure_ok hfree) K.kind (fun z hz hl => mem_lookup K.nodup (by obtain ⟨n, kd⟩ := z; simp only at hl; subst hl; exact hz)) ?_
  refine wpAny_mono (hit U d h1 hmd h) (fun v s₁ h₁ => wpAny_mono h₁ (fun v s₂ h₂ => ?_) fun _ _ hx => hE _ _ hx) fun _ _ hx => hE _ _ hx
  refine lift fun gg back => ?_
  obtain ⟨ow, I, wr, items, chk, St, Mid, σ₁, rfl, W, hst, hold, hwr, st, q, how⟩ := h₂
  refine back ?_
  clear back gg
  refine wpAny_newList ?_ (by simp [sizeLine_eq])
  refine wpAny_newFunctionEnv (fun z hz e => ?_) (fun z hz => by cases hz) (fun h' hN hs => ?_) K.kind
  · obtain ⟨n, kd⟩ := z
    simp only at e
    subst e
    rcases K.names _ _ hz with ⟨e, _⟩ | ⟨e, _⟩ | e <;> cases e
  have hsz3 : (s₂.heap.push { cls := .type "list", data := .seq #[] }).objs.size = s₂.heap.objs.size + 1 := Heap.size_push ..
  generalize hacc : s₂.heap.objs.size = acc at hsz3 ⊢
  have hLe : ({ s₂ with heap := s₂.heap.push { cls := .type "list", data := .seq ([] : List Value).toArray } } : Shared).heap.objs.size = acc + 1 := hsz3
  rw [hLe] at hN hs ⊢
  show codeAny C.M A (.compStart _ 0 (.ref I) (.ref acc) (compEnvC scope (clOf env scope.names) (acc + 1) env)) _ _
  have kp : ∀ b o, s₂.heap.get? b = some o → h'.get? b = some o := fun b o e => by
    have hlt := Heap.lt_size e
    rw [hacc] at hlt
    rw [hs.2 b (Nat.ne_of_lt (Nat.lt_succ_of_lt hlt))]
    exact push_keeps _ _ (push_keeps _ _ e)
  have hsz : s₂.heap.objs.size ≤ h'.objs.size := by
    rw [hs.1, Heap.size_push, Heap.size_push]; omega
  have stg : Step C No σ₁ s₂ σ₁ { s₂ with heap := h', toks := s₂.toks + ([] : List (Str × Value)).length } := .grow st.rel kp hsz
  have st4 := st.trans stg
  have hss := st.h.size
  have d4 := d.step st4
  have haccO : h'.get? acc = some (seqObj "list" ([] : List Value).toArray 0) := by
    rw [hs.2 acc (Nat.ne_of_lt (Nat.lt_succ_self _))]
    refine push_keeps _ _ ?_
    rw [← hacc]; exact Heap.get?_push_size _ rfl
  have sacc : s.heap.objs.size ≤ acc := hacc ▸ hss
  have naccσ : σ₁ acc = none := st.rel.none_of_ge (Nat.le_of_eq hacc)
  have nLσ : σ₁ (acc + 1) = none := st.rel.none_of_ge (by rw [hacc]; exact Nat.le_succ _)
  have nLb : C.base.get? (acc + 1) = none := base_none_of_ge st.rel (by rw [hacc]; exact Nat.le_succ _)
  have naccb : C.base.get? acc = none := base_none_of_ge st.rel (Nat.le_of_eq hacc)
  have U' : Sur C k md Φ (compSc S bs scope.names) (compEnvC scope (clOf env scope.names) (acc + 1) env) := ⟨U.X, U.I, U.ca, comp_env U K⟩
  have d' : Dyn C k md (compSc S bs scope.names) A (compEnvC scope (clOf env scope.names) (acc + 1) env) (unbind bs ρ) σ₁ { s₂ with heap := h', toks := s₂.toks + ([] : List (Str × Value)).length } :=
    ⟨d4.a, d4.r, comp_lr U K d4.l hN nLσ nLb, unbind_len.trans d.len⟩
  refine ob8 (hold.step stg fun _ _ f => f) ?_
  intro hold4 kp4
  -- the cells of the outer block are old
  have cellOld : ∀ c, Own (compEnvC scope (clOf env scope.names) (acc + 1) env) c → c = acc + 1 ∨ c < s.heap.objs.size := fun c hc => by
    rcases hc with rfl | ⟨n, hc⟩
    · exact .inl rfl
    · right
      have hc : (clOf env scope.names).lookup n = some c := hc
      have hc' : env.cells.lookup n = some c := by
        rw [clOf_lookup] at hc
        split at hc
        · rename_i hf
          refine ob6 (Option.isSome_iff_exists.mp (hfree _ hf rfl)) ?_
          intro c' hc'
          rw [hc'] at hc ⊢; exact hc
        · cases hc
      refine lift fun gg back => ?_
      obtain ⟨⟨v, o, ho, _⟩, _⟩ := d.l.cells n c hc'
      refine back ?_
      clear back gg
      exact Heap.lt_size ho
  have wrLt : ∀ b ∈ wr, b < acc := fun b hb => by
    refine ob5 (hold.at_ b hb) ?_
    intro o ho _
    exact hacc ▸ Heap.lt_size ho
  have inv : CInv C k md (compSc S bs scope.names) A (compEnvC scope (clOf env scope.names) (acc + 1) env) (unbind bs ρ) wr acc St σ s 0 [] σ₁ { s₂ with heap := h', toks := s₂.toks + ([] : List (Str × Value)).length } :=
    ⟨W.frame 0 _ _ hst stg.h.tup kp4, hold4, ⟨[], 0, haccO, .nil⟩, Nat.zero_le _, naccσ, st4.no, d'⟩
  have hnd : (tgOf t).Nodup := htt ▸ K.idx
  have loop : codeAny C.M A (.compLoop (.ListComp x [⟨tg, y, ifs, 0⟩] scope pos) 0 (.ref I) (.ref acc) (compEnvC scope (clOf env scope.names) (acc + 1) env)) (compPost C.M A E use QQ (.ref acc) (acc + 1))
      { s₂ with heap := h', toks := s₂.toks + ([] : List (Str × Value)).length } := by
    refine comp_turns (y := y) (ρ := ρ) (t := t) (Q := Q) W U' helt hcond hT h2 h3 hmd (fun ho => ?_) (fun id i ho hi a ha => ?_) hnd (fun b hb => ⟨hwr b hb, fun ho => ?_, Nat.ne_of_lt (wrLt b hb)⟩) ⟨sacc, fun ho => ?_⟩ naccb
      (Nat.le_succ_of_le sacc) d.a.low (fun vs σ' s' hinv hal s'' stw => ?_) (fun v ρ₁ hb => unbind_bind hnd htt hb) inv (Nat.zero_le _) q
    · refine ob6 (how ho) ?_
      intro e' ee109
      subst ee109
      cases t with
      | one i => simp [itTg] at hitg
      | many is =>
        refine tuME hT ?_
        intro xs kk p _
        exact ⟨_, _, _, rfl⟩
    · rcases ha with ⟨_, rfl⟩ | ⟨hk, _⟩
      · rfl
      · exfalso
        refine ob10 (Sc.own_elim ho) ?_
        intro n ee110
        subst ee110
        intro hn _
        rw [U'.ev.kindOf] at hk
        rcases look_append hn with hn' | ⟨_, hn'⟩
        · have := relN_local (out := S.names) (K.bs _ (lookS_mem hn')).1
          have hk' : (relN S.names scope.names).lookup (Str.ofString n) = some .cell := hk
          rw [this] at hk'; cases hk'
        · rw [htt] at hi
          refine ob5 (List.mem_map.mp hi) ?_
          intro p hp hpe
          exact (K.bs p hp).2.2 _ (lookS_mem hn') hpe.symm
    · rcases cellOld b ho with e | e
      · exact absurd (wrLt b hb) (by rw [e]; exact Nat.not_lt.mpr (Nat.le_succ _))
      · exact absurd (hwr b hb) (Nat.not_le.mpr e)
    · rcases cellOld acc ho with e | e
      · exact absurd e (Nat.ne_of_lt (Nat.lt_succ_self _))
      · exact absurd sacc (Nat.not_le.mpr e)
    · refine ob14 hinv ?_
      clear hinv
      intro i ρ₀ inv'
      have dEnd : Dyn C k md (compSc S bs scope.names) A (compEnvC scope (clOf env scope.names) (acc + 1) env) ρ₀ σ' s'' := inv'.dyn.apart (n := s.heap.objs.size) stw d.a.low (fun a ha => hwr a ha) fun a ha hb => by
        rcases cellOld a ha with e | e
        · exact absurd (wrLt a hb) (by rw [e]; exact Nat.not_lt.mpr (Nat.le_succ _))
        · exact absurd (hwr a hb) (Nat.not_le.mpr e)
      refine ob12 inv'.obj ?_
      intro xs n hL hX
      have hL' : IsL s''.heap acc xs.toArray n := (stw.h.keep acc _ hL fun z => z.elim (fun z => z inv'.accN) fun z => absurd (wrLt acc z) (Nat.lt_irrefl _)).plain (fun es m q => by cases q)
      have tot : Step C (fun a => s.heap.objs.size ≤ a) σ s σ' s'' := inv'.step.trans (stw.mono fun a ha => hwr a ha)
      have hbb : C.base.objs.size ≤ acc := Nat.le_trans d.r.size sacc
      have fin : Step C No σ s (σ'.upd acc (.list vs)) s'' := (tot.adopt (o := .list vs) sacc inv'.accN ⟨xs, n, hL', stw.vrs hX, inv'.len⟩ hbb).drop fun a ha => ha
      refine hend acc (acc + 1) s'' ⟨_, hal acc inv'.accN, fin, dEnd.l.locals, ?_, nLb, Nat.le_succ_of_le sacc⟩
      rw [upd_ne (Nat.succ_ne_self _)]
      exact dEnd.l.lnew.1
  exact codeAny_compStart_list loop (W.self 0 _ _ _ inv.st loop)

theorem CEnd.after {Q : V → Store → Prop} {acc L : Addr} {h' : Heap} (x : CEnd C σ s Q acc L s') (hs : Heap.SameBut L s'.heap h') : PostV C σ s Q (.ref acc) { s' with heap := h' } := by
  refine lift fun gg back => ?_
  obtain ⟨σ', q, st, ⟨m, o, es, ep, ho, hd, _⟩, hn, hb, hl⟩ := x
  refine back ?_
  clear back gg
  have st2 : Step C (· = L) σ' s' σ' { s' with heap := h' } := Step.oneBut (t := s'.toks) st.rel hs hn hb rfl ho fun ⟨_, _, _, q⟩ => by rw [hd] at q; cases q
  exact ⟨_, σ', q, .ref, ((st.no (D := fun a => s.heap.objs.size ≤ a)).trans (st2.mono fun a e => e ▸ hl)).drop fun _ h => h⟩

theorem comp_shape {bs : List (String × Nat)} {elt it : Ex} {t : Tg} {cond : ExO} {x : Expr} (hm : matchE S (.comp bs elt t it cond) x = true) : ∃ y tg z ifs scope pos, x = .ListComp y [⟨tg, z, ifs, 0⟩] scope pos := by
  refine lcME hm ?_
  intro y gs scope pos hm
  refine l1E hm ?_
  intro g hm
  simp only [Bool.and_eq_true, decide_eq_true_eq] at hm
  have ha := hm.2
  refine lift fun gg back => ?_
  obtain ⟨tg, z, ifs, as⟩ := g
  refine back ?_
  clear back gg
  cases ha
  exact ⟨_, _, _, _, _, _, rfl⟩
theorem ev_comp {bs : List (String × Nat)} {elt it : Ex} {t : Tg} {cond : ExO} (hit : ItP C it) (helt : EvP C elt) (hcond : CoP C cond) : EvP C (.comp bs elt t it cond) := by
  intro k md Φ S x env A ρ σ s Q X U d hm h
  refine ob36 (comp_shape hm) ?_
  intro y tg z ifs scope pos ee111
  subst ee111
  rw [eval_ListComp]
  refine comp_core (use := none) hit helt hcond U d hm h (fun _ _ hx => hx) fun acc L s' hc => ?_
  have hc' := hc
  refine lift fun gg back => ?_
  obtain ⟨σ', q, st, hm, _⟩ := hc'
  refine ob6 hm ?_
  clear hm
  intro m hm
  refine back ?_
  clear back gg
  exact ⟨m, hm, fun h' hs => hc.after hs⟩

/- all expressions -/
noncomputable def Both (C : Cx) (e : Ex) : Prop := EvP C e ∧ TrP C e ∧ ItP C e
noncomputable def BothS (C : Cx) (es : Exs) : Prop := EvsP C es ∧ BoP C es ∧ BtP C es
noncomputable def BothO (C : Cx) (o : ExO) : Prop := EvoP C o ∧ CoP C o

theorem tr_plain {e : Ex} (he : EvP C e) (hx : ∀ S x env, matchE S e x = true → isTrue x env (eval x env) = (do let v ← eval x env; standAt x.pos; holding [v] (PySem.truthy v))) : TrP C e := by
  intro k md Φ S x env A ρ σ s Q X U d hm h hq
  exact tr_of he U d hm h hq (hx S x env hm)
theorem both_of {e : Ex} (he : EvP C e) (hx : ∀ S x env, matchE S e x = true → isTrue x env (eval x env) = (do let v ← eval x env; standAt x.pos; holding [v] (PySem.truthy v))) (hw : ∀ Φ md ρ σ Q X, wpIt Φ md e ρ σ Q X = wpE Φ md e ρ σ (fun u σ₁ => iterV u σ₁ fun items chk => Q items chk σ₁) X) : Both C e :=
  ⟨he, tr_plain he hx, it_of he hw⟩
theorem no_e {e : Ex} (h : ∀ S x, matchE S e x = false) : Both C e :=
  ⟨fun _ _ hm => Bool.noConfusion ((h _ _).symm.trans hm), fun _ _ hm => Bool.noConfusion ((h _ _).symm.trans hm), fun _ _ hm => Bool.noConfusion ((h _ _).symm.trans hm)⟩
theorem no_range {e : Ex} (h : ∀ Φ md ρ σ Q X, wpE Φ md e ρ σ Q X = False) : EvP C e := by
  intro k md Φ S x env A ρ σ s Q X U d hm hw
  rw [h] at hw; exact hw.elim
theorem no_rangeT {e : Ex} (h : ∀ Φ md ρ σ Q X, wpE Φ md e ρ σ Q X = False) : TrP C e := by
  intro k md Φ S x env A ρ σ s Q X U d hm hw
  rw [h] at hw; exact hw.elim

mutual
theorem all_e : ∀ e : Ex, Both C e
  | .none => both_of ev_none (fun S x env hm => (cME hm fun _ _ _ _ => rfl)) fun _ _ _ _ _ _ => rfl
  | .tt => both_of ev_tt (fun S x env hm => (cME hm fun _ _ _ _ => rfl)) fun _ _ _ _ _ _ => rfl
  | .ff => both_of ev_ff (fun S x env hm => (cME hm fun _ _ _ _ => rfl)) fun _ _ _ _ _ _ => rfl
  | .int _ => both_of ev_int (fun S x env hm => (cME hm fun _ _ _ _ => rfl)) fun _ _ _ _ _ _ => rfl
  | .str _ => both_of ev_str (fun S x env hm => (cME hm fun _ _ _ _ => rfl)) fun _ _ _ _ _ _ => rfl
  | .var _ => both_of ev_var (fun S x env hm => (nmME hm fun _ _ _ => rfl)) fun _ _ _ _ _ _ => rfl
  | .glob _ => both_of ev_glob (fun S x env hm => (nmME hm fun _ _ _ => rfl)) fun _ _ _ _ _ _ => rfl
  | .bin op a b => both_of (ev_bin (op := op) (all_e a).1 (all_e b).1) (fun S x env hm => (biME hm fun _ _ _ _ _ => rfl)) fun _ _ _ _ _ _ => rfl
  | .neg a => let e : EvP C (.neg a) := ev_neg (all_e a).1; ⟨e, tr_plain e fun S x env hm => (by
      refine unME hm ?_
      intro op l p hm
      simp only [Bool.and_eq_true, decide_eq_true_eq] at hm
      refine ob8 hm ?_
      clear hm
      intro ee112
      subst ee112
      intro _
      rfl), it_of e fun _ _ _ _ _ _ => rfl⟩
  | .not a => let e : EvP C (.not a) := ev_not (all_e a).1; ⟨e, tr_not (all_e a).2.1, it_of e fun _ _ _ _ _ _ => rfl⟩
  | .cmp op a b => let e : EvP C (.cmp op a b) := ev_cmp (op := op) (all_e a).1 (all_e b).1; ⟨e, tr_cmp (all_e a).1 (all_e b).1, it_of e fun _ _ _ _ _ _ => rfl⟩
  | .cmp2 o₁ o₂ a b c => let e : EvP C (.cmp2 o₁ o₂ a b c) := ev_cmp2 (o₁ := o₁) (o₂ := o₂) (all_e a).1 (all_e b).1 (all_e c).1; ⟨e, tr_cmp2 (all_e a).1 (all_e b).1 (all_e c).1, it_of e fun _ _ _ _ _ _ => rfl⟩
  | .bool i es => let e : EvP C (.bool i es) := ev_bool (isAnd := i) (all_s es).2.1; ⟨e, tr_bool (all_s es).2.2, it_of e fun _ _ _ _ _ _ => rfl⟩
  | .call f es => both_of (ev_call (f := f) (all_s es).1) (fun S x env hm => (ncME hm fun _ _ _ _ _ => rfl)) fun _ _ _ _ _ _ => rfl
  | .make f es => both_of (ev_make (c := f) (all_s es).1) (fun S x env hm => (ncME hm fun _ _ _ _ _ => rfl)) fun _ _ _ _ _ _ => rfl
  | .meth o n es => both_of (ev_meth (name := n) (all_e o).1 (all_s es).1) (fun S x env hm => (acME hm fun _ _ _ _ _ _ => rfl)) fun _ _ _ _ _ _ => rfl
  | .m0 o m => both_of (ev_m0 (m := m) (all_e o).1) (fun S x env hm => (acME hm fun _ _ _ _ _ _ => rfl)) fun _ _ _ _ _ _ => rfl
  | .m1 o m a => both_of (ev_m1 (m := m) (all_e o).1 (all_e a).1) (fun S x env hm => (acME hm fun _ _ _ _ _ _ => rfl)) fun _ _ _ _ _ _ => rfl
  | .insert o a b => both_of (ev_insert (all_e o).1 (all_e a).1 (all_e b).1) (fun S x env hm => (acME hm fun _ _ _ _ _ _ => rfl)) fun _ _ _ _ _ _ => rfl
  | .attr o n => both_of (ev_attr (name := n) (all_e o).1) (fun S x env hm => (atME hm fun _ _ _ _ => rfl)) fun _ _ _ _ _ _ => rfl
  | .idx a b => both_of (ev_idx (all_e a).1 (all_e b).1) (fun S x env hm => (suME hm fun _ _ _ _ => rfl)) fun _ _ _ _ _ _ => rfl
  | .slice a l h => both_of (ev_slice (all_e a).1 (all_o l).1 (all_o h).1) (fun S x env hm => (sl0ME hm fun _ _ _ _ _ _ => rfl)) fun _ _ _ _ _ _ => rfl
  | .rev _ => no_e fun _ _ => rfl
  | .list es => both_of (ev_list (all_s es).1) (fun S x env hm => (liME hm fun _ _ _ => rfl)) fun _ _ _ _ _ _ => rfl
  | .tuple es => both_of (ev_tuple (all_s es).1) (fun S x env hm => (tuME hm fun _ _ _ _ => rfl)) fun _ _ _ _ _ _ => rfl
  | .dict0 => both_of ev_dict0 (fun S x env hm => (diME hm fun _ _ _ _ => rfl)) fun _ _ _ _ _ _ => rfl
  | .dict1 _ _ => no_e fun _ _ => rfl
  | .comp bs elt t it cond => both_of (ev_comp (bs := bs) (t := t) (all_e it).2.2 (all_e elt).1 (all_o cond).2) (fun S x env hm => (lcME hm fun _ _ _ _ _ => rfl)) fun _ _ _ _ _ _ => rfl
  | .b1 f a => both_of (ev_b1 (f := f) (all_e a).1) (fun S x env hm => (ncME hm fun _ _ _ _ _ => rfl)) fun _ _ _ _ _ _ => rfl
  | .min2 _ _ => no_e fun _ _ => rfl
  | .max2 _ _ => no_e fun _ _ => rfl
  | .isin a t => both_of (ev_isin (t := t) (all_e a).1) (fun S x env hm => (ncME hm fun _ _ _ _ _ => rfl)) fun _ _ _ _ _ _ => rfl
  | .range1 a => ⟨no_range fun _ _ _ _ _ _ => rfl, no_rangeT fun _ _ _ _ _ _ => rfl, it_range1 (all_e a).1⟩
  | .range2 a b => ⟨no_range fun _ _ _ _ _ _ => rfl, no_rangeT fun _ _ _ _ _ _ => rfl, it_range2 (all_e a).1 (all_e b).1⟩
  | .range3 a b c => ⟨no_range fun _ _ _ _ _ _ => rfl, no_rangeT fun _ _ _ _ _ _ => rfl, it_range3 (all_e a).1 (all_e b).1 (all_e c).1⟩
  | .enum _ => no_e fun _ _ => rfl
theorem all_s : ∀ es : Exs, BothS C es
  | .nil => ⟨evs_nil, bo_nil, bt_nil⟩
  | .cons e es => ⟨evs_cons (all_e e).1 (all_s es).1, bo_cons (all_e e).1 (all_s es).2.1, bt_cons (all_e e).2.1 (all_s es).2.2⟩
theorem all_o : ∀ o : ExO, BothO C o
  | .none => ⟨evo_none, co_none⟩
  | .some e => ⟨evo_some (all_e e).1, co_some (all_e e).2.1⟩
end
end
end Mine.Internal
end

section
set_option linter.unusedVariables false
namespace Mine.Internal
open PySem PySem.W PySem.Calls PyProof.Rows

/-- an exception under way that has been seen by a frame -/
noncomputable def FlyT (C : Cx) (h₀ h : Heap) (e : Addr) (c : String) : Prop :=
  ∃ Cl oe vs T oT ts, (C.cls c = some Cl ∧ c ∈ excNames) ∧ h.get? e = some oe ∧ (oe.cls = .ref Cl ∧ oe.dict = none) ∧ oe.data = .fields vs ∧ 1 < vs.size ∧ h₀.objs.size ≤ e ∧
    vs[1]? = some (.ref T) ∧ T ≠ e ∧ h₀.objs.size ≤ T ∧ h.get? T = some oT ∧ oT.cls = .type "traceback" ∧ oT.data = .fields ts ∧ 3 < ts.size
theorem FlyT.fly {C : Cx} {h₀ h : Heap} {e : Addr} {c : String} (x : FlyT C h₀ h e c) : Fly C h₀ h e c := by
  refine lift fun gg back => ?_
  obtain ⟨Cl, oe, vs, T, oT, ts, a1, a2, a3, a4, a5, a6, b1, b2, b3, b4⟩ := x
  refine back ?_
  clear back gg
  exact ⟨Cl, oe, vs, a1, a2, a3, a4, a5, a6, .inr ⟨T, oT, ts, b1, b2, b3, b4⟩⟩

theorem dict_mapFields (o : Obj) (f) : (o.mapFields f).dict = o.dict := by obtain ⟨c, d, dt, sl⟩ := o; cases dt <;> rfl

section
variable {C : Cx} {A : Around} {E : Value → Shared → Prop} {σ : Store} {s : Shared} {h₀ : Heap} {e : Addr} {c : String}

/-- a traceback is not in the store -/
theorem tb_no {T : Addr} {oT : Obj} (r : Rel C σ s.heap) (hT : s.heap.get? T = some oT) (hc : oT.cls = .type "traceback") : σ T = none := by
  cases q : σ T with
  | none => rfl
  | some o =>
    refine ob25 ((r.tr T o q).there) ?_
    intro ob ho _ _ _ h5
    rw [hT] at ho; cases ho
    exact absurd hc h5
theorem base_no {a : Addr} (hs : C.base.objs.size ≤ h₀.objs.size) (ha : h₀.objs.size ≤ a) : C.base.get? a = none := by
  cases q : C.base.get? a with
  | none => rfl
  | some o => exact absurd (Heap.lt_size q) (Nat.not_lt.mpr (Nat.le_trans hs ha))

/-- one field of a record that the store does not have -/
theorem field_step {a : Addr} {o : Obj} {vs : Array Value} {i : Nat} {x : Value} (r : Rel C σ s.heap) (ho : s.heap.get? a = some o) (hd : o.data = .fields vs) (hn : σ a = none) (hb : C.base.get? a = none) :
    Step C (· = a) σ s σ { s with heap := s.heap.update a (Obj.mapFields (·.setIfInBounds i x)) } ∧
      (s.heap.update a (Obj.mapFields (·.setIfInBounds i x))).get? a = some (o.mapFields (·.setIfInBounds i x)) := by
  have hd₃ := Obj.data_mapFields hd (·.setIfInBounds i x)
  exact ⟨Step.oneBut (t := s.toks) r ⟨Heap.size_update .., fun b hb => Heap.get?_update_other _ _ (Ne.symm hb)⟩ hn hb rfl ho fun ⟨_, _, _, q⟩ => (by rw [hd] at q; cases q), Heap.get?_update_self _ ho (Obj.isFreed_of_fields hd₃)⟩

theorem setFlight_ok {f : Option Addr} {Q : Unit → Shared → Prop} (r : Rel C σ s.heap) (hs : C.base.objs.size ≤ h₀.objs.size) (fl : FlyT C h₀ s.heap e c) (h : ∀ s', Step C (fun a => h₀.objs.size ≤ a) σ s σ s' → FlyT C h₀ s'.heap e c → Q () s') :
    wpAny C.M A (setFlight (.ref e) f) Q E s := by
  refine lift fun gg back => ?_
  obtain ⟨Cl, oe, vs, T, oT, ts, a1, a2, a3, a4, a5, a6, b1, b2, b3, b4, b5, b6, b7⟩ := fl
  refine back ?_
  clear back gg
  unfold setFlight
  refine wpAny_bind (wpAny_field a2 a4 b1 ?_)
  rw [if_pos (show (Value.ref T != Value.none) = true from by simp)]
  refine wpAny_setField b4 b6 b7 ?_
  refine ob8 (field_step (i := 3) (x := f.elim .none fun f => rawInt f) r b4 b6 (tb_no r b4 b5) (base_no hs b3)) ?_
  intro st hT'
  refine h _ (st.mono fun a q => q ▸ b3) ⟨Cl, oe, vs, T, _, ts.setIfInBounds 3 (f.elim .none fun f => rawInt f), a1, ?_, a3, a4, a5, a6, b1, b2, b3, hT', ?_, Obj.data_mapFields b6 _, by simpa using b7⟩
  · show (s.heap.update T _).get? e = _
    rw [Heap.get?_update_other _ _ b2]; exact a2
  · rw [Obj.cls_mapFields]; exact b5

theorem slots_step {l : List Env} {h' : Heap} (r : Rel C σ s.heap) (fo : FramesOk C A σ s.heap) (hl : A.frames = some l) (hs : Heap.SlotsOnly (l.filterMap (·.frame)) s.heap h') : Step C No σ s σ { s with heap := h' } := by
  refine lift fun gg back => ?_
  obtain ⟨l', hl', hf, hn⟩ := fo
  refine back ?_
  clear back gg
  rw [hl] at hl'; cases hl'
  have eq : ∀ b o, s.heap.get? b = some o → (∀ es n, o.data ≠ .dict es n) → h'.get? b = some o := fun b o e hd => by
    refine (hs.2.1 b fun hb => ?_).trans e
    refine ob1 (hn b hb) ?_
    intro _ o' es n ho' hd'
    rw [e] at ho'; cases ho'
    exact hd es n hd'
  have tk : TupKeep s.heap h' := fun b o e ⟨_, xs, n, hd⟩ => eq b o e fun es m q => by rw [hd] at q; cases q
  have old : ∀ b, b ∉ l.filterMap (·.frame) → h'.get? b = s.heap.get? b := hs.2.1
  refine ⟨⟨Nat.le_of_eq hs.1.symm, fun a o e n => ?_, tk⟩, r.frame (fun a o q => old a fun hb => by rw [(hn a hb).1] at q; cases q) tk (fun b o e => ?_) (Nat.le_of_eq hs.1.symm), fun _ x => x, fun _ x => .inl x, rfl, rfl, rfl⟩
  · by_cases hb : a ∈ l.filterMap (·.frame)
    · refine ob1 (hn a hb) ?_
      intro _ o' es n' ho' hd'
      rw [e] at ho'; cases ho'
      refine ob6 (hs.2.2 a o e) ?_
      intro sl hsl
      exact .inr ⟨es, n', sl, hd', hsl⟩
    · exact .inl ((old a hb).trans e)
  · refine (old b fun hb => ?_).trans (r.stays b o e)
    rw [(hf.mem hb).1] at e; cases e

theorem note_ok {env : Env} {outer : List Env} {L : Addr} {Q : Unit → Shared → Prop} (hA : A.frames = some (env :: outer)) (hf : env.frame = some L) (fo : FramesOk C A σ s.heap) (r : Rel C σ s.heap) (hs : C.base.objs.size ≤ h₀.objs.size) (h₀s : h₀.objs.size ≤ s.heap.objs.size)
    (fl : Fly C h₀ s.heap e c) (hn : σ e = none) (h : ∀ s', Step C (fun a => h₀.objs.size ≤ a) σ s σ s' → FlyT C h₀ s'.heap e c → Q () s') : wpAny C.M A (noteFrame (.ref e) env) Q E s := by
  refine lift fun gg back => ?_
  obtain ⟨Cl, oe, vs, a1, a2, a3, a4, a5, a6, a7⟩ := fl
  refine back ?_
  clear back gg
  have entry : ∀ {s₁ : Shared} {head : Value} {b : Bool}, Step C (fun a => h₀.objs.size ≤ a) σ s σ s₁ → FramesOk C A σ s₁.heap → s₁.heap.get? e = some oe →
      wpAny C.M A (frameOf env >>= fun fr => entryPlaceOf L b >>= fun pl => EntryCells.newEntry head fr .none (rawInt L) .none pl >>= fun t => setField (.ref e) 1 t) Q E s₁ := by
    intro s₁ head b st fo₁ he
    refine lift fun gg back => ?_
    obtain ⟨l, hl, hff, hfn⟩ := id fo₁
    refine back ?_
    clear back gg
    have hl' := hl
    rw [hA] at hl'; cases hl'
    refine wpAny_bind (wpAny_frameOf_fun hA hff hf fun h₁ hs₁ => ?_)
    refine wpAny_bind (wpAny_entryPlaceOf fun pl hpl => ?_)
    unfold EntryCells.newEntry newFields
    refine wpAny_bind (wpAny_newObj_type ?_ (hpl.sizeOk5 _ _ _ _ _))
    have st1 : Step C No σ s₁ σ { s₁ with heap := h₁ } := slots_step st.rel fo₁ hA hs₁
    have he1 : h₁.get? e = some oe := (st1.h.keep e oe he fun q => q.elim (fun z => z hn) id).plain (fun es n q => by rw [a4] at q; cases q)
    generalize hob : ({ cls := .type "traceback", dict := none, data := .fields ([head, .ref L, .none, rawInt L, .none] ++ (if pl.isEmpty then List.replicate 6 Value.none else pl)).toArray } : Obj) = ob
    have st2 : Step C No σ { s₁ with heap := h₁ } σ { s₁ with heap := h₁.push ob } := .grow (s := { s₁ with heap := h₁ }) (t := s₁.toks) st1.rel push_keeps push_size
    have he2 : (h₁.push ob).get? e = some oe := push_keeps _ _ he1
    refine wpAny_setField he2 a4 a5 ?_
    refine ob8 (field_step (s := { s₁ with heap := h₁.push ob }) (i := 1) (x := .ref h₁.objs.size) st2.rel he2 a4 hn (base_no hs a6)) ?_
    intro st3 he3
    have hTe : h₁.objs.size ≠ e := Nat.ne_of_gt (Heap.lt_size he1)
    have hsz : h₀.objs.size ≤ h₁.objs.size := Nat.le_trans h₀s (Nat.le_trans st.h.size st1.h.size)
    refine h _ (((st.trans st1.no).trans st2.no).trans (st3.mono fun a q => q ▸ a6)) ⟨Cl, _, vs.setIfInBounds 1 (.ref h₁.objs.size), h₁.objs.size, ob, _, a1, he3, ⟨by rw [Obj.cls_mapFields]; exact a3.1, by rw [dict_mapFields]; exact a3.2⟩, Obj.data_mapFields a4 _, by simpa using a5, a6, ?_, hTe, hsz, ?_, by rw [← hob], by rw [← hob], ?_⟩
    · simp [a5]
    · show (Heap.update _ e _).get? _ = _
      rw [Heap.get?_update_other _ _ (Ne.symm hTe)]
      exact Heap.get?_push_size _ (by rw [← hob]; rfl)
    · simp
  unfold noteFrame
  simp only [hf]
  rcases a7 with h1 | ⟨T, oT, ts, b1, b2, b3, b4, b5, b6, b7⟩
  · refine wpAny_bind (wpAny_field a2 a4 h1 ?_)
    rw [if_neg (by decide)]
    exact entry (.refl r) fo a2
  · refine wpAny_bind (wpAny_field a2 a4 b1 ?_)
    rw [if_pos (show (Value.ref T != Value.none) = true from by simp)]
    refine wpAny_bind (wpAny_field b4 b6 (x := ts[3]) (by simp [b7]) ?_)
    refine wpAny_ite ?_
    split
    · exact wpAny_pure (h s (.refl r) ⟨Cl, oe, vs, T, oT, ts, a1, a2, a3, a4, a5, a6, b1, b2, b3, b4, b5, b6, b7⟩)
    · refine wpAny_bind (wpAny_setField b4 b6 b7 ?_)
      refine ob8 (field_step (i := 3) (x := Value.none) r b4 b6 (tb_no r b4 b5) (base_no hs b3)) ?_
      intro st _
      refine entry (st.mono fun a q => q ▸ b3) (fo.keep st fun l hl L hL q => ?_) ?_
      · exfalso
        refine lift fun gg back => ?_
        obtain ⟨l', hl', _, hfn⟩ := fo
        refine back ?_
        clear back gg
        rw [hl] at hl'; cases hl'
        refine ob1 (hfn L hL) ?_
        intro _ o' es n' ho' hd'
        rw [q, b4] at ho'; cases ho'; rw [b6] at hd'; cases hd'
      · show (s.heap.update T _).get? e = _
        rw [Heap.get?_update_other _ _ b2]; exact a2
end
end Mine.Internal
end

section
set_option linter.unusedVariables false
namespace Mine.Internal
open PySem PySem.W PySem.Calls PyProof.Rows

structure SurS (C : Cx) (k : Nat) (Φ : Bool → Calls) (S : Sc) (env : Env) : Prop where
  X : CxOk C
  I : CxIs C
  ca : ∀ md, CallsOk C k md (Φ md)
  ev : EnvS S env
  fr : env.frame = some env.locals
theorem SurS.sur {C : Cx} {k : Nat} {Φ : Bool → Calls} {S : Sc} {env : Env} (U : SurS C k Φ S env) (md : Bool) : Sur C k md (Φ md) S env := ⟨U.X, U.I, U.ca md, U.ev⟩

/-- the frame on top is this one -/
noncomputable def TopFr (A : Around) (env : Env) : Prop := ∃ outer, A.frames = some (env :: outer)

noncomputable def PostS (C : Cx) (S : Sc) (env : Env) (σ : Store) (s : Shared) (N : Loc → Store → Prop) (R : V → Store → Prop) : Flow → Shared → Prop := fun f s' => match f with
  | .next => ∃ ρ' σ', N ρ' σ' ∧ Step C (Own env) σ s σ' s' ∧ LR C σ' s'.heap env S.nm ρ' ∧ ρ'.length = S.size
  | .ret v => ∃ V σ', R V σ' ∧ VR s'.heap V v ∧ Step C (Own env) σ s σ' s' ∧ ∃ ρ', LR C σ' s'.heap env S.nm ρ' ∧ ρ'.length = S.size
  | _ => False
noncomputable def PostXS (C : Cx) (S : Sc) (env : Env) (σ : Store) (s : Shared) (X : XL) : Value → Shared → Prop := fun x s' =>
  ∃ e c ρ' σ', x = .ref e ∧ X c e ρ' σ' ∧ Step C (Own env) σ s σ' s' ∧ LR C σ' s'.heap env S.nm ρ' ∧ ρ'.length = S.size ∧ Fly C s.heap s'.heap e c ∧ σ' e = none

section
variable {C : Cx} {k : Nat} {md : Bool} {Φ : Bool → Calls} {S : Sc} {env : Env} {A : Around} {ρ : Loc} {σ σ₁ : Store} {s s₁ : Shared} {N : Loc → Store → Prop} {R : V → Store → Prop} {X : XL}

/-- after a part of a block -/
theorem Dyn.next {ρ' : Loc} {σ' : Store} {s' : Shared} (d : Dyn C k md S A env ρ σ s) (st : Step C (Own env) σ s σ' s') (l : LR C σ' s'.heap env S.nm ρ') (hl : ρ'.length = S.size) : Dyn C k md S A env ρ' σ' s' :=
  d.own st (fun _ h => h) l (hl.trans d.len.symm)
theorem PostS.from {f : Flow} {s' : Shared} (st : Step C (Own env) σ s σ₁ s₁) (h : PostS C S env σ₁ s₁ N R f s') : PostS C S env σ s N R f s' := by
  cases f with
  | next => obtain ⟨ρ', σ', q, st', r⟩ := h; exact ⟨ρ', σ', q, st.trans st', r⟩
  | ret v => obtain ⟨V, σ', q, hv, st', r⟩ := h; exact ⟨V, σ', q, hv, st.trans st', r⟩
  | _ => exact h.elim
theorem PostXS.from {x : Value} {s' : Shared} (st : Step C (Own env) σ s σ₁ s₁) (h : PostXS C S env σ₁ s₁ X x s') : PostXS C S env σ s X x s' := by
  refine lift fun gg back => ?_
  obtain ⟨e, c, ρ', σ', rfl, q, st', l, hl, fl, n⟩ := h
  refine back ?_
  clear back gg
  exact ⟨e, c, ρ', σ', rfl, q, st.trans st', l, hl, fl.older st.h.size, n⟩
theorem px_of {x : Value} {s' : Shared} (d : Dyn C k md S A env ρ σ₁ s₁) (st : Step C (Own env) σ s σ₁ s₁) (h : PostX C σ₁ s₁ (fun c a σ => X c a ρ σ) x s') : PostXS C S env σ s X x s' := by
  refine lift fun gg back => ?_
  obtain ⟨e, c, σ', rfl, q, st', fl, n⟩ := h
  refine back ?_
  clear back gg
  exact ⟨e, c, ρ, σ', rfl, q, st.trans st'.no, d.l.step st', d.len, fl.older st.h.size, n⟩

/-- an expression of a statement -/
theorem evS {t : Sem Value} {Q : V → Store → Prop} {K : Value → Shared → Prop} (d : Dyn C k md S A env ρ σ s) (h : wpAny C.M A t (PostV C σ s Q) (PostX C σ s (fun c a σ => X c a ρ σ)) s)
    (kk : ∀ v V σ₁ s₁, Q V σ₁ → VR s₁.heap V v → Step C No σ s σ₁ s₁ → K v s₁) : wpAny C.M A t K (PostXS C S env σ s X) s :=
  wpAny_mono h (fun v s₁ ⟨V, σ₁, q, hv, st⟩ => kk v V σ₁ s₁ q hv st) fun _ _ hx => px_of d (.refl d.r) hx
theorem evS2 {t : Sem Value} {Q : V → Store → Prop} {K : Value → Shared → Prop} (d : Dyn C k md S A env ρ σ s) (st : Step C No σ s σ₁ s₁) (h : wpAny C.M A t (PostV C σ₁ s₁ Q) (PostX C σ₁ s₁ (fun c a σ => X c a ρ σ)) s₁)
    (kk : ∀ v V σ₂ s₂, Q V σ₂ → VR s₂.heap V v → Step C No σ₁ s₁ σ₂ s₂ → Step C No σ s σ₂ s₂ → K v s₂) : wpAny C.M A t K (PostXS C S env σ s X) s₁ :=
  wpAny_mono h (fun v s₂ ⟨V, σ₂, q, hv, st₂⟩ => kk v V σ₂ s₂ q hv st₂ (st.trans st₂)) fun _ _ hx => px_of (d.step st) st.no hx

theorem Dyn.below (d : Dyn C k md S A env ρ σ s) : ∀ a, Own env a → a < s.heap.objs.size := fun a ha => by
  refine ob5 (d.l.own a ha) ?_
  intro o ho _
  exact Heap.lt_size ho

/-- the exception is noted in this frame, then comes back to it -/
theorem noted_back (U : SurS C k Φ S env) (tf : TopFr A env) (d : Dyn C k md S A env ρ σ s) {x : Value} {s' : Shared} (h : PostXS C S env σ s X x s') : notedBy C.M A env (cameBackBy C.M A env (PostXS C S env σ s X)) x s' := by
  refine lift fun gg back => ?_
  obtain ⟨outer, hA⟩ := tf
  obtain ⟨e, c, ρ', σ', rfl, q, st, l, hl, fl, n⟩ := h
  refine back ?_
  clear back gg
  have d' := d.next st l hl
  have hlow : ∀ a, Own env a → ¬ (s.heap.objs.size ≤ a) := fun a ha => Nat.not_le.mpr (d.below a ha)
  refine note_ok (h₀ := s.heap) hA U.fr d'.a.frames st.rel d.r.size st.h.size fl n fun s₁ st₁ ft => ?_
  refine wpAny_bind ?_
  refine lift fun gg back => ?_
  obtain ⟨Cl, oe, vs, T, oT, ts, a1, a2, a3, a4, a5, a6, b1, b2, b3, b4, b5, b6, b7⟩ := id ft
  refine back ?_
  clear back gg
  refine wpAny_field a2 a4 b1 ?_
  rw [if_neg (show ¬ ((Value.ref T == Value.none) = true) from by simp)]
  refine setFlight_ok (h₀ := s.heap) st₁.rel d.r.size ft fun s₂ st₂ ft₂ => ?_
  have st12 := st₁.trans st₂
  exact ⟨e, c, ρ', σ', rfl, q, (((st.mono (D' := fun a => Own env a ∨ s.heap.objs.size ≤ a) fun a h => .inl h)).trans (st12.mono fun a h => .inr h)).old, l.keep st12 hlow, hl, ft₂.fly, n⟩

noncomputable def StP (C : Cx) (st : St) : Prop := ∀ {k : Nat} {md : Bool} {Φ : Bool → Calls} {S : Sc} {x : Stmt} {env : Env} {A : Around} {ρ : Loc} {σ : Store} {s : Shared} {N : Loc → Store → Prop} {R : V → Store → Prop} {X : XL},
  SurS C k Φ S env → TopFr A env → Dyn C k md S A env ρ σ s → matchS S st x = true → wpS Φ md st ρ σ N R X → wpAny C.M A (exec x env) (PostS C S env σ s N R) (PostXS C S env σ s X) s
noncomputable def SsP (C : Cx) (ss : Sts) : Prop := ∀ {k : Nat} {md : Bool} {Φ : Bool → Calls} {S : Sc} {xs : List Stmt} {env : Env} {A : Around} {ρ : Loc} {σ : Store} {s : Shared} {N : Loc → Store → Prop} {R : V → Store → Prop} {X : XL},
  SurS C k Φ S env → TopFr A env → Dyn C k md S A env ρ σ s → matchSs S ss xs = true → wpSs Φ md ss ρ σ N R X → wpAny C.M A (execs xs env) (PostS C S env σ s N R) (PostXS C S env σ s X) s

theorem no_s {st : St} (g : ∀ S x, matchS S st x = false) : StP C st := by
  intro k md Φ S x env A ρ σ s N R X U tf d hm h
  exact Bool.noConfusion ((g _ _).symm.trans hm)
theorem ss_nil : SsP C .nil := by
  intro k md Φ S xs env A ρ σ s N R X U tf d hm h
  dsimp only [Ss_nil, Ss_cons] at h
  refine l0E hm ?_
  intro hm
  · exact wpAny_execs_nil ⟨ρ, σ, h, .refl d.r, d.l, d.len⟩
theorem ss_cons {st : St} {r : Sts} (hs : StP C st) (hr : SsP C r) : SsP C (.cons st r) := by
  intro k md Φ S xs env A ρ σ s N R X U tf d hm h
  dsimp only [Ss_nil, Ss_cons] at h
  refine lcE hm ?_
  intro x xs hm
  · simp only [Bool.and_eq_true] at hm
    refine wpAny_execs_cons (wpAny_mono (hs U tf d hm.1 h) (fun f s₁ h₁ => ?_) fun _ _ hx => hx)
    cases f with
    | next =>
      refine lift fun gg back => ?_
      obtain ⟨ρ₁, σ₁, q, st, l, hl⟩ := h₁
      refine back ?_
      clear back gg
      exact wpAny_mono (hr U tf (d.next st l hl) hm.2 q) (fun _ _ hx => hx.from st) fun _ _ hx => hx.from st
    | ret v => exact h₁
    | _ => exact h₁.elim

theorem swaps_no {e : Ex} {x : Expr} {tg : Option Expr} {line : Nat} (hm : matchE S e x = true) (hc : isComp e = false) : swapsWith x tg line env = pure false := by
  cases x with
  | ListComp _ _ _ _ => cases e <;> first | exact absurd hm Bool.false_ne_true | exact absurd hc.symm Bool.false_ne_true
  | SetComp _ _ _ _ => cases e <;> exact absurd hm Bool.false_ne_true
  | DictComp _ _ _ _ _ => cases e <;> exact absurd hm Bool.false_ne_true
  | _ => rfl
theorem st_expr {e : Ex} : StP C (.expr e) := by
  intro k md Φ S x env A ρ σ s N R X U tf d hm h
  dsimp only [S_expr, S_assign, S_setattr, S_setitem, S_ret, S_pass, S_raise, S_iff, S_whil, S_for, S_tryx] at h
  refine sxME hm ?_
  intro x p hm
  · simp only [Bool.and_eq_true, Bool.not_eq_true'] at hm
    rw [exec_Expr env _ _ (by unfold interactive; rw [U.ev.kind]; rfl) (swaps_no hm.1 hm.2)]
    refine wpAny_bind (wpAny_standAt (wpAny_bind (evS d ((all_e e).1 (U.sur md) d hm.1 h) fun v V σ₁ s₁ q hv st => ?_)))
    refine lift fun gg back => ?_
    refine ob8 q ?_
    clear q
    intro ee113
    subst ee113
    intro q
    cases hv.none_of
    refine back ?_
    clear back gg
    rw [dropValue_plain (by intro a e; cases e)]
    exact wpAny_pure ⟨ρ, σ₁, q, st.no, d.l.step st, d.len⟩
theorem st_ret {e : Ex} : StP C (.ret e) := by
  intro k md Φ S x env A ρ σ s N R X U tf d hm h
  dsimp only [S_expr, S_assign, S_setattr, S_setitem, S_ret, S_pass, S_raise, S_iff, S_whil, S_for, S_tryx] at h
  refine sreME hm ?_
  intro o p hm
  refine o1E hm ?_
  intro x hm
  · exact wpAny_Return_some (evS d ((all_e e).1 (U.sur md) d hm h) fun v V σ₁ s₁ q hv st => ⟨V, σ₁, q, hv, st.no, ρ, d.l.step st, d.len⟩)
theorem st_pass : StP C .pass := by
  intro k md Φ S x env A ρ σ s N R X U tf d hm h
  dsimp only [S_expr, S_assign, S_setattr, S_setitem, S_ret, S_pass, S_raise, S_iff, S_whil, S_for, S_tryx] at h
  refine spaME hm ?_
  intro p hm
  · exact wpAny_Pass ⟨ρ, σ, h, .refl d.r, d.l, d.len⟩
theorem trS {e : Ex} {x : Expr} {K : Bool → Shared → Prop} {Kb : Bool → Store → Prop} (U : SurS C k Φ S env) (d : Dyn C k md S A env ρ σ s) (hm : matchE S e x = true)
    (h : wpE (Φ md) md e ρ σ (fun v σ₁ => onSome (Mine.Internal.truthy σ₁ v) fun b => Kb b σ₁) fun c a σ₁ => X c a ρ σ₁) (kk : ∀ b σ₁ s₁, Kb b σ₁ → Step C No σ s σ₁ s₁ → K b s₁) : wpAny C.M A (isTrue x env (eval x env)) K (PostXS C S env σ s X) s := by
  refine wpAny_mono ((all_e e).2.1 (U.sur md) d hm h fun V σ' q => ?_) (fun b s₁ h₁ => ?_) fun _ _ hx => px_of d (.refl d.r) hx
  · refine ob5 (onSome_elim q) ?_
    intro b hb _
    exact ⟨b, hb⟩
  · refine lift fun gg back => ?_
    obtain ⟨V, σ₁, q, hb, st⟩ := h₁
    refine ob5 (onSome_elim q) ?_
    intro b' hb' q
    refine back ?_
    clear back gg
    rw [hb] at hb'; cases hb'
    exact kk b σ₁ s₁ q st
theorem st_iff {c : Ex} {th el : Sts} (hth : SsP C th) (hel : SsP C el) : StP C (.iff c th el) := by
  intro k md Φ S x env A ρ σ s N R X U tf d hm h
  dsimp only [S_expr, S_assign, S_setattr, S_setitem, S_ret, S_pass, S_raise, S_iff, S_whil, S_for, S_tryx] at h
  refine sifME hm ?_
  intro x b o p hm
  · simp only [Bool.and_eq_true] at hm
    refine wpAny_If (trS U d hm.1.1 h fun b σ₁ s₁ q st => ?_)
    cases b with
    | true => exact wpAny_mono (hth U tf (d.step st) hm.1.2 q) (fun _ _ hx => hx.from st.no) fun _ _ hx => hx.from st.no
    | false => exact wpAny_mono (hel U tf (d.step st) hm.2 q) (fun _ _ hx => hx.from st.no) fun _ _ hx => hx.from st.no
theorem assign_road {tg x : Expr} {pos : Pos} {Q : Flow → Shared → Prop} {E : Value → Shared → Prop} (hs : swapsWith x (some tg) pos.line env = pure false) (hw : swappedStores [tg] x env = pure none) (ht : assignEach [tg] env = [(false, assign tg env)])
    (h : wpAny C.M A (eval x env) (fun v s₁ => wpAny C.M A (assign tg env v) (fun _ s₂ => Q .next s₂) E s₁) E s) : wpAny C.M A (exec (.Assign [tg] x pos) env) Q E s := by
  rw [arm_exec_Assign]
  refine wpAny_bind (wpAny_standAt ?_)
  show wpAny C.M A (swapsWith x (some tg) pos.line env >>= _) _ _ _
  rw [hs]
  refine wpAny_bind (wpAny_pure ?_)
  simp only [Bool.false_eq_true, if_false]
  refine wpAny_bind (wpAny_mono h (fun v s₁ h₁ => ?_) fun _ _ hx => hx)
  rw [hw, ht]
  refine wpAny_bind (wpAny_pure ?_)
  show wpAny C.M A (assign tg env v >>= fun _ => pure Flow.next) _ _ _
  exact wpAny_bind (wpAny_mono h₁ (fun _ _ h₂ => wpAny_pure h₂) fun _ _ hx => hx)
theorem swapped_no {e : Ex} {tg x : Expr} (hm : matchE S e x = true) (hc : isTup e = false ∨ ∀ ts k p, tg ≠ .Tuple ts k p) (hl : ∀ ts p, tg ≠ .List ts p) : swappedStores [tg] x env = pure none := by
  have key : ∀ ts k p, tg = .Tuple ts k p → swappedStores [tg] x env = pure none := fun ts k p ht => by
    subst ht
    rcases hc with hc | hc
    · cases x with
      | Tuple _ _ _ => cases e <;> first | exact absurd hm Bool.false_ne_true | exact absurd hc.symm Bool.false_ne_true
      | _ => rfl
    · exact absurd rfl (hc ts k p)
  cases tg with
  | Tuple ts k p => exact key ts k p rfl
  | List ts p => exact absurd rfl (hl ts p)
  | _ => rfl
theorem each_one {t : Tg} {tg : Expr} (hm : matchT S t tg = true) : assignEach [tg] env = [(false, assign tg env)] ∧ (∀ ts p, tg ≠ .List ts p) ∧ (tgOne t = true → ∀ ts k p, tg ≠ .Tuple ts k p) := by
  cases t with
  | one i => exact nmME hm fun _ _ _ => ⟨rfl, fun _ _ q => (by cases q), fun _ _ _ _ q => (by cases q)⟩
  | many is => exact tuME hm fun _ _ _ _ => ⟨rfl, fun _ _ q => (by cases q), fun q => (by cases q)⟩

theorem st_assign {t : Tg} {e : Ex} : StP C (.assign t e) := by
  intro k md Φ S x env A ρ σ s N R X U tf d hm h
  dsimp only [S_expr, S_assign, S_setattr, S_setitem, S_ret, S_pass, S_raise, S_iff, S_whil, S_for, S_tryx] at h
  refine sasME hm ?_
  intro ts x pos hm
  refine l1E hm ?_
  intro tg hm
  · simp only [Bool.and_eq_true, Bool.or_eq_true, Bool.not_eq_true'] at hm
    refine lift fun gg back => ?_
    refine ob11 hm ?_
    clear hm
    intro hT hE hor
    refine ob8 h ?_
    clear h
    intro htg h
    refine ob22 (each_one (env := env) hT) ?_
    intro e1 e2 e3
    refine back ?_
    clear back gg
    have plain : swapsWith x (some tg) pos.line env = pure false → wpAny C.M A (exec (.Assign [tg] x pos) env) (PostS C S env σ s N R) (PostXS C S env σ s X) s := fun hsw => by
      refine assign_road hsw (swapped_no hE ?_ e2) e1 (evS d ((all_e e).1 (U.sur md) d hE h) fun v V σ₁ s₁ q hv st => ?_)
      · rcases hor with ho | ho
        · exact .inr (e3 ho)
        · exact .inl ho.1
      · refine ob5 (onSome_elim q) ?_
        intro ρ' hb q
        exact assign_ok (P := Own env) (U.sur md) (d.step st) hT hv hb htg (fun id i _ _ a ha => ha.own) fun s₂ st₂ d₂ => ⟨ρ', σ₁, q, st.no.trans st₂, d₂.l, d₂.len⟩
    cases hc : isComp e with
    | false => exact plain (swaps_no hE hc)
    | true =>
      rcases hor with ho | ho
      · cases e with
        | comp bs elt tt it cond =>
          refine ob36 (comp_shape hE) ?_
          intro x tg' y ifs scope pos' ee114
          subst ee114
          · cases t with
            | many _ => cases ho
            | one i =>
              have hT : (nmM tg fun id => S.own id i) = true := hT
              obtain ⟨id, p, rfl, hT⟩ : ∃ id p, tg = .Name id p ∧ S.own id i = true := by
                refine nmME hT ?_
                intro id p hT
                exact ⟨id, p, rfl, hT⟩
              · 
                have hsb : ∃ b, swapsWith (.ListComp x [⟨tg', y, ifs, 0⟩] scope pos') (some (.Name id p)) pos.line env = pure b := ⟨_, rfl⟩
                refine ob6 hsb ?_
                clear hsb
                intro b hsb
                cases b with
                | false => exact plain hsb
                | true =>
                  rw [exec_Assign_Name_used id p _ pos hsb]
                  refine wpAny_bind (wpAny_standAt (wpAny_bind ?_))
                  show wpAny C.M A (comprehension (.ListComp x [⟨tg', y, ifs, 0⟩] scope pos') scope env y.pos (newList []) false (eval y env) (some (assign (.Name id p) env)) >>= fun _ => pure ()) _ _ _
                  refine wpAny_bind (comp_core (QQ := fun _ s' => wpAny C.M A (pure () : Sem Unit) (fun _ s₁ => wpAny C.M A (pure Flow.next) (PostS C S env σ s N R) (PostXS C S env σ s X) s₁) (PostXS C S env σ s X) s') (all_e it).2.2 (all_e elt).1 (all_o cond).2 (U.sur md) d hE h (fun _ _ hx => px_of d (.refl d.r) hx) fun acc L s' hc => ?_)
                  refine lift fun gg back => ?_
                  obtain ⟨σ', q, st, ⟨m, hm⟩, hn, hb, hl⟩ := hc
                  refine ob5 (onSome_elim q) ?_
                  intro ρ' hbb q
                  refine back ?_
                  clear back gg
                  simp only [bindTg, Option.some.injEq] at hbb
                  subst hbb
                  refine wpAny_assign_Name (store_dyn (U.sur md) (d.step st) hT .ref fun s₂ st₂ d₂ => ?_)
                  have hmc := hm
                  refine lift fun gg back => ?_
                  obtain ⟨o, es, ep, ho', hd', hr'⟩ := hmc
                  refine back ?_
                  clear back gg
                  have hLno : ¬ OwnAt env id L := fun hx => absurd (d.below L hx.own) (Nat.not_lt.mpr hl)
                  have hm2 : s₂.heap.Ns L m := ns_kept hm ho' (st₂.h.keep L o ho' fun z => z.elim (fun z => z hn) hLno)
                  refine ⟨m, hm2, fun h' hs' => wpAny_pure (wpAny_pure ?_)⟩
                  have hmc2 := hm2
                  refine lift fun gg back => ?_
                  obtain ⟨o2, es2, ep2, ho2, hd2, _⟩ := hmc2
                  refine back ?_
                  clear back gg
                  have st3 : Step C (· = L) σ' s₂ σ' { s₂ with heap := h' } := Step.oneBut (t := s₂.toks) st₂.rel hs' hn hb rfl ho2 fun ⟨_, _, _, z⟩ => (by rw [hd2] at z; cases z)
                  have tot : Step C (fun a => Own env a ∨ s.heap.objs.size ≤ a) σ s σ' { s₂ with heap := h' } := (st.no.trans (st₂.mono fun a ha => .inl ha.own)).trans (st3.mono fun a ha => .inr (ha ▸ hl))
                  exact ⟨_, σ', q, tot.old, d₂.l.keep st3 fun a ha hx => absurd (d.below a ha) (Nat.not_lt.mpr (hx ▸ hl)), d₂.len⟩
        | _ => cases hc
      · rw [ho.2] at hc; cases hc
theorem st_setattr {o e : Ex} {name : String} : StP C (.setattr o name e) := by
  intro k md Φ S x env A ρ σ s N R X U tf d hm h
  dsimp only [S_expr, S_assign, S_setattr, S_setitem, S_ret, S_pass, S_raise, S_iff, S_whil, S_for, S_tryx] at h
  refine sasME hm ?_
  intro ts y pos hm
  refine l1E hm ?_
  intro tg hm
  refine atME hm ?_
  intro x id p hm
  · simp only [Bool.and_eq_true, decide_eq_true_eq] at hm
    refine ob11 hm ?_
    clear hm
    intro ee115
    subst ee115
    intro h1 h2
    refine assign_road (by cases y <;> rfl) (swapped_no h2 (.inr fun _ _ _ q => by cases q) fun _ _ q => by cases q) rfl (evS d ((all_e e).1 (U.sur md) d h2 h) fun v V σ₁ s₁ q hv st => ?_)
    rw [arm_assign_Attribute]
    refine wpAny_bind (wpAny_holding (evS2 d st ((all_e o).1 (U.sur md) (d.step st) h1 q) fun u V' σ₂ s₂ q hu st₂ st' => wpAny_bind (wpAny_standAt (wpAny_bind (wpAny_holding ?_)))))
    refine wpAny_mono (setattr_ok U.X st'.rel hu (st₂.vr hv) (fun c => (U.ca md).fld c name) q) (fun _ s₃ h₃ => wpAny_release' ?_) fun _ _ hx => hx
    refine ob5 h₃ ?_
    clear h₃
    intro σ₃ q st₃
    exact ⟨ρ, σ₃, q, (st'.trans st₃).no, d.l.step (st'.trans st₃), d.len⟩
theorem st_setitem {o i e : Ex} : StP C (.setitem o i e) := by
  intro k md Φ S x env A ρ σ s N R X U tf d hm h
  dsimp only [S_expr, S_assign, S_setattr, S_setitem, S_ret, S_pass, S_raise, S_iff, S_whil, S_for, S_tryx] at h
  refine sasME hm ?_
  intro ts z pos hm
  refine l1E hm ?_
  intro tg hm
  refine suME hm ?_
  intro x y p hm
  · simp only [Bool.and_eq_true] at hm
    refine ob11 hm ?_
    clear hm
    intro h1 h2 h3
    refine assign_road (by cases z <;> rfl) (swapped_no h3 (.inr fun _ _ _ q => by cases q) fun _ _ q => by cases q) rfl (evS d ((all_e e).1 (U.sur md) d h3 h) fun v V σ₁ s₁ q hv st => ?_)
    rw [arm_assign_Subscript]
    refine wpAny_bind (wpAny_holding (evS2 d st ((all_e o).1 (U.sur md) (d.step st) h1 q) fun u Vu σ₂ s₂ q hu st₂ st' => wpAny_bind (wpAny_holding (evS2 d st' ((all_e i).1 (U.sur md) (d.step st') h2 q) fun w Vw σ₃ s₃ q hw st₃ st'' => wpAny_bind (wpAny_standAt (wpAny_bind (wpAny_holding ?_)))))))
    have hu8 : A.units + 8 < cLine := by have := cline d; omega
    refine wpAny_mono (setitem_ok hu8 st''.rel (st₃.vr hu) hw (st₃.vr (st₂.vr hv)) q) (fun _ s₄ h₄ => wpAny_release' ?_) fun _ _ hx => hx
    refine ob5 h₄ ?_
    clear h₄
    intro σ₄ q st₄
    exact ⟨ρ, σ₄, q, (st''.trans st₄).no, d.l.step (st''.trans st₄), d.len⟩
end
end Mine.Internal
end

section
set_option linter.unusedVariables false
namespace Mine.Internal
open PySem PySem.W PySem.Calls PyProof.Rows
section
variable {C : Cx} {k : Nat} {md : Bool} {Φ : Bool → Calls} {S : Sc} {env : Env} {A : Around} {ρ : Loc} {σ σ₁ : Store} {s s₁ : Shared} {N : Loc → Store → Prop} {R : V → Store → Prop} {X : XL}

theorem forLoop_any {RR : Result → Shared → Prop} {target : Expr} {it : Value} {body : List Stmt} (I : Nat → Shared → Prop)
    (turn : ∀ n s, I n s → wpAny C.M A (pyNext it) (fun r s₁ => match r with
      | none => RR (.ok .next) s₁
      | some v => wpAny C.M A (letOwnedTupleGo target it v) (fun _ s₁ => wpAny C.M A (assign target env v) (fun _ s₂ => wpAny C.M A (execs body env) (fun f s₃ => match f with
          | .next | .cont => ∃ m, m < n ∧ I m s₃
          | .brk => RR (.ok .next) s₃
          | .ret v => RR (.ok (.ret v)) s₃) (notedBy C.M A env fun e s' => RR (.error e) s') s₂) (fun _ _ => False) s₁) (fun _ _ => False) s₁) (fun _ _ => False) s)
    (n : Nat) (h : I n s) : codeAny C.M A (.forLoop target it body [] env) RR s := by
  refine codeAny_loop' rfl I (fun n s hI => ?_) n h
  show wpAny _ _ ((forTurn target it body [] env).onRaise (fun x => do noteFrame x env; theTreesLotGoes x)) _ _ s
  refine wpAny_noted ?_
  simp only [forTurn]
  refine wpAny_bind (wpAny_standAt (wpAny_bind (wpAny_onRaise (wpAny_mono (turn n s hI) (fun r s₁ h₁ => ?_) fun _ _ h' => h'.elim))))
  cases r with
  | none => exact wpAny_pure (.inr ⟨rfl, codeAny_block (wpAny_execs_nil h₁)⟩)
  | some v =>
    refine wpAny_bind (wpAny_mono h₁ (fun _ s₁ h₁ => ?_) fun _ _ h' => h'.elim)
    refine wpAny_bind (wpAny_mono h₁ (fun _ s₂ h₂ => wpAny_bind (wpAny_mono h₂ (fun f s₃ h₃ => ?_) fun _ _ h' => h')) fun _ _ h' => h'.elim)
    cases f with
    | next => exact wpAny_pure (.inl ⟨rfl, h₃⟩)
    | cont => exact wpAny_pure (.inl ⟨rfl, h₃⟩)
    | brk => exact wpAny_pure h₃
    | ret v => exact wpAny_pure h₃

theorem st_for {t : Tg} {it : Ex} {body : Sts} (hb : SsP C body) : StP C (.for t it body) := by
  intro k md Φ S x env A ρ σ s N R X U tf d hm h
  dsimp only [S_expr, S_assign, S_setattr, S_setitem, S_ret, S_pass, S_raise, S_iff, S_whil, S_for, S_tryx] at h
  refine sfoME hm ?_
  intro tg y b o pos hm
  refine l0E hm ?_
  intro hm
  · simp only [Bool.and_eq_true] at hm
    refine ob30 hm ?_
    clear hm
    intro hT h1 hitg h2
    refine ob8 h ?_
    clear h
    intro hmd h
    refine wpAny_For ?_ (fun v => folded_of h1 v)
    refine wpAny_mono ((all_e it).2.2 (U.sur md) d h1 hmd h) (fun v s₁ h₁ => wpAny_mono h₁ (fun v s₂ h₂ => ?_) fun _ _ hx => px_of d (.refl d.r) hx) fun _ _ hx => px_of d (.refl d.r) hx
    refine lift fun gg back => ?_
    obtain ⟨ow, I, wr, items, chk, St, Mid, σ₂, rfl, W, hst, hold, hwr, st, q, how⟩ := h₂
    refine back ?_
    clear back gg
    have htg : ow = true → ∃ elts k pos, tg = .Tuple elts k pos := fun ho => by
      refine ob6 (how ho) ?_
      intro e' ee116
      subst ee116
      cases t with
      | one i => simp [itTg] at hitg
      | many is =>
        refine tuME hT ?_
        intro xs kk p _
        exact ⟨_, _, _, rfl⟩
    have hOwr : ∀ a, Own env a → ¬ a ∈ wr := fun a ha hb => absurd (d.below a ha) (Nat.not_lt.mpr (hwr a hb))
    refine forLoop_any (fun n s' => ∃ i ρ' σ', n = items.length - i ∧ i ≤ items.length ∧ St i s'.heap ∧ Hold C wr σ' s'.heap ∧ Step C (fun a => Own env a ∨ s.heap.objs.size ≤ a) σ s σ' s' ∧ Dyn C k md S A env ρ' σ' s' ∧
      forV chk (fun v ρ σ K => onSome (bindTg t v ρ) fun ρ' => wpSs Φ md body ρ' σ K R X) N (items.drop i) ρ' σ') ?_ items.length ⟨0, ρ, σ₂, by omega, Nat.zero_le _, hst, hold, st.no, d.step st, q⟩
    clear q hst hold st how
    intro n s' zz12
    refine ob37 zz12 ?_
    clear zz12
    intro i ρ' σ' ee117
    subst ee117
    intro hi hst hold tot d' q
    by_cases hlt : i < items.length
    · rw [List.drop_eq_getElem_cons hlt] at q
      simp only [forV] at q
      refine ob8 q ?_
      clear q
      intro hc q
      refine ob5 (onSome_elim q) ?_
      intro ρ₁ hbd q
      refine W.next hlt hst d'.r hold hc htg fun v s₁ hgo => hgo _ _ fun s₂ hv stw hst' hold' => ?_
      have d2 : Dyn C k md S A env ρ' σ' s₂ := d'.apart (n := s.heap.objs.size) stw d.a.low (fun a ha => hwr a ha) hOwr
      refine assign_ok (P := Own env) (U.sur md) d2 hT hv hbd (by cases t <;> first | trivial | exact hmd) (fun id i _ _ a ha => ha.own) fun s₃ st3 d3 => ?_
      have tot3 : Step C (fun a => Own env a ∨ s.heap.objs.size ≤ a) σ s σ' s₃ := (tot.trans (stw.mono fun a ha => .inr (hwr a ha))).trans (st3.mono fun a ha => .inl ha)
      refine ob8 (hold'.step st3 fun b hb ha => hOwr b ha hb) ?_
      intro hold3 kp3
      refine wpAny_mono (hb U tf d3 h2 q) (fun f s₄ h₄ => ?_) fun _ _ hx => noted_back U tf d (hx.from tot3.old)
      cases f with
      | next =>
        refine lift fun gg back => ?_
        obtain ⟨ρ₄, σ₄, q, st4, l4, hl4⟩ := h₄
        refine ob8 (hold3.step st4 fun b hb ha => hOwr b ha hb) ?_
        intro hold4 kp4
        refine back ?_
        clear back gg
        exact ⟨items.length - (i + 1), by omega, i + 1, ρ₄, σ₄, rfl, hlt, W.frame _ _ _ (W.frame _ _ _ hst' st3.h.tup kp3) st4.h.tup kp4, hold4, tot3.trans (st4.mono fun a ha => .inl ha), d3.next st4 l4 hl4, q⟩
      | ret v => exact h₄.from tot3.old
      | _ => exact h₄.elim
    · have hi' : i = items.length := by omega
      subst hi'
      rw [List.drop_length] at q
      simp only [forV] at q
      refine W.stop hst d'.r hold q.1 fun s₁ stw => ?_
      have d2 : Dyn C k md S A env ρ' σ' s₁ := d'.apart (n := s.heap.objs.size) stw d.a.low (fun a ha => hwr a ha) hOwr
      exact ⟨ρ', σ', q.2, (tot.trans (stw.mono fun a ha => .inr (hwr a ha))).old, d2.l, d2.len⟩

theorem st_raise {c msg : String} : StP C (.raise c msg) := by
  intro k md Φ S x env A ρ σ s N R X U tf d hm h
  dsimp only [S_expr, S_assign, S_setattr, S_setitem, S_ret, S_pass, S_raise, S_iff, S_whil, S_for, S_tryx] at h
  refine sraME hm ?_
  intro o c' pos hm
  refine o0E hm ?_
  intro hm
  refine o1E hm ?_
  intro x hm
  refine ncME hm ?_
  intro id np xs cpos hm
  refine l1E hm ?_
  intro y hm
  refine cME hm ?_
  intro cc kk mp hm
  cases cc <;> first | exact absurd hm Bool.false_ne_true | skip
  rename_i m
  · refine ob11 h ?_
    clear h
    intro hmd hc h
    refine ob38 (U.I.own c hc) ?_
    intro Cl B newId initId bm hcl FB O
    have O' := O.keeps d.r.stays
    refine ob39 O'.obj ?_
    intro tl Nn nm q bs hdct sn sub ab col dd k0 k1 k2 k3 k5 mN hC hN hni T
    refine wpAny_dead (wpAny_Raise_call_subT (C := Cl) (nm := nm) (q := q) (N := Nn) (bs := bs) (bm := tl) (hdct := hdct) (sn := sn) (sub := sub) (ab := ab) (col := col) (dd := dd) (k0 := k0) (k1 := k1) (k2 := k2) (k3 := k3) (k5 := k5)
      FB (mN := mN) (T.hasType FB.hasBase) (d.a.handled hmd) (by rfl) hni (glb_ok (U.sur md) d.r hm O.bound ⟨rfl, ?_⟩))
    refine evalArgs_plain (spliced_cons (wpAny_Constant_str (k := kk) (pos := mp) (spliced_nil ⟨rfl, by show 1 ≤ sizeLine; decide, hC, hN, T, fun h' e hx dead => ?_⟩)))
    refine ob10 hx.there ?_
    intro t he hte htu
    have big : s.heap.objs.size ≤ e := by
      by_cases hlt : e < s.heap.objs.size
      · have := dead.dead e hlt hx.new
        rw [show ({ s with heap := h', toks := s.toks + 1 } : Shared).heap = h' from rfl] at this
        rw [he] at this; cases this
      · exact Nat.not_lt.mp hlt
    have st : Step C No σ s σ { s with heap := h', toks := s.toks + 1 } := .grow d.r hx.keeps dead.size
    have hn := d.r.none_of_ge big
    exact ⟨e, c, ρ, σ, rfl, h e hn, st.no, d.l.step st, d.len, ⟨Cl, _, _, ⟨hcl, hc⟩, he, ⟨rfl, rfl⟩, rfl, by simp, big, .inl (by simp)⟩, hn⟩

theorem handlers_as {e : Value} {n : Str} {b₀ : Stmt} {body : List Stmt} {pos : Pos} {RR : Result → Shared → Prop}
    (h : wpAny C.M A (setFlight e none) (fun _ s₁ => wpAny C.M A (storeName env n e) (fun _ s₂ => wpAny C.M A (execs (b₀ :: body) env) (fun f s₃ => RR (.ok f) s₃) (fun _ _ => False) s₂) (fun _ _ => False) s₁) (fun _ _ => False) s) :
    codeAny C.M A (.handlers e [.ExceptHandler none (some n) (b₀ :: body) pos] env) RR s := by
  refine codeAny_of_tree ?_
  show wpAny _ A (do return Fin.done (← (handleWith e env [.ExceptHandler none (some n) (b₀ :: body) pos]).onRaise (fun x => do noteFrame x env; theTreesLotGoes x))) _ _ s
  refine wpAny_bind (wpAny_noted ?_)
  unfold handleWith
  refine wpAny_bind (wpAny_standAt (wpAny_bind (wpAny_mono h (fun _ s₁ h₁ => ?_) fun _ _ x => x.elim)))
  refine wpAny_bind (wpAny_bindName (wpAny_mono h₁ (fun _ s₂ h₂ => ?_) fun _ _ x => x.elim))
  refine wpAny_bind (wpAny_attempt (wpAny_mono h₂ (fun f s₃ h₃ => ?_) fun _ _ x => x.elim))
  exact wpAny_pure (wpAny_pure h₃)

theorem Dyn.adopt {n : Nat} {e : Addr} {o : AO} (d : Dyn C k md S A env ρ σ s) (r : Rel C (σ.upd e o) s.heap) (hO : ∀ a, Own env a → a ≠ e) (low : Low A n) (hn : n ≤ e) : Dyn C k md S A env ρ (σ.upd e o) s := by
  refine ⟨⟨?_, d.a.handled, d.a.depth, d.a.units⟩, r, ⟨d.l.holds, d.l.locals, ⟨?_, d.l.lnew.2⟩, fun x c hc => ?_, d.l.apart⟩, d.len⟩
  · refine lift fun gg back => ?_
    obtain ⟨l, hl, hf, hfn⟩ := d.a.frames
    refine back ?_
    clear back gg
    exact ⟨l, hl, hf, fun L hL => ⟨by rw [upd_ne (Nat.ne_of_lt (Nat.lt_of_lt_of_le (low l hl L hL) hn))]; exact (hfn L hL).1, (hfn L hL).2⟩⟩
  · rw [upd_ne (hO _ (.inl rfl))]; exact d.l.lnew.1
  · refine ob22 (d.l.cells x c hc) ?_
    intro h1 h2 h3
    exact ⟨h1, by rw [upd_ne (hO _ (.inr ⟨x, hc⟩))]; exact h2, h3⟩

theorem Dyn.marked {v : Value} (d : Dyn C k md S A env ρ σ s) : Dyn C k false S (A.mark (some v)) env ρ σ s := ⟨⟨d.a.frames, fun q => (by cases q), d.a.depth, d.a.units⟩, d.r, d.l, d.len⟩

theorem Dyn.unmark {v : Option Value} (d : Dyn C k false S (A.mark v) env ρ σ s) : Dyn C k false S A env ρ σ s := ⟨⟨d.a.frames, fun q => (by cases q), d.a.depth, d.a.units⟩, d.r, d.l, d.len⟩

noncomputable def HsP (C : Cx) (hs : Hs) : Prop := ∀ {k : Nat} {Φ : Bool → Calls} {S : Sc} {xs : List ExceptHandler} {env : Env} {A : Around} {ρ ρ₀ : Loc} {σ σ₀ : Store} {s s₀ : Shared} {N : Loc → Store → Prop} {R : V → Store → Prop} {X : XL} {e : Addr} {c : String},
  SurS C k Φ S env → TopFr A env → Dyn C k true S A env ρ₀ σ₀ s₀ → Dyn C k true S A env ρ σ s → Step C (fun a => Own env a ∨ s₀.heap.objs.size ≤ a) σ₀ s₀ σ s → FlyT C s₀.heap s.heap e c → c ∈ excNames → σ e = none →
    matchHs S hs xs = true → wpHs Φ hs c e ρ σ N R X → wpAny C.M A (handleBy (.ref e) env xs) (PostS C S env σ₀ s₀ N R) (PostXS C S env σ₀ s₀ X) s

theorem hs_nil : HsP C .nil := by
  intro k Φ S xs env A ρ ρ₀ σ σ₀ s s₀ N R X e c U tf d₀ d tot ft hc hn hm h
  dsimp only [H_nil, H_cons] at h
  refine l0E hm ?_
  intro hm
  · refine wpAny_handleBy_nil ?_
    unfold PySem.passOn
    refine lift fun gg back => ?_
    obtain ⟨Cl, oe, vs, T, oT, ts, a1, a2, a3, a4, a5, a6, b1, b2, b3, b4, b5, b6, b7⟩ := id ft
    refine back ?_
    clear back gg
    refine wpAny_bind (wpAny_field a2 a4 b1 ?_)
    rw [if_neg (show ¬ ((Value.ref T == Value.none) = true) from by simp)]
    refine wpAny_bind (setFlight_ok (h₀ := s₀.heap) d.r d₀.r.size ft fun s₁ st₁ ft₁ => ?_)
    refine wpAny_throw ?_
    have hlow : ∀ a, Own env a → ¬ (s₀.heap.objs.size ≤ a) := fun a ha => Nat.not_le.mpr (d₀.below a ha)
    exact ⟨e, c, ρ, σ, rfl, h, (tot.trans (st₁.mono fun a ha => .inr ha)).old, d.l.keep st₁ hlow, d.len, ft₁.fly, hn⟩
theorem find_skip {α : Type} {P : α → Bool} : ∀ {l : List α} {i : Nat}, (∀ a, l[i]? = some a → P a = false) → (l.eraseIdx i).find? P = l.find? P
  | [], _, _ => rfl
  | a :: l, 0, h => by rw [List.eraseIdx_cons_zero, List.find?_cons, h a rfl]
  | a :: l, i + 1, h => by
    rw [List.eraseIdx_cons_succ, List.find?_cons, List.find?_cons, find_skip (l := l) (i := i) fun b hb => h b hb]
/-- a name is taken out: the others stay -/
theorem nsDel_ok {E : Value → Shared → Prop} {a : Addr} {m : Str → Option Value} {name : Str} {Q : Bool → Shared → Prop} (hn : s.heap.Ns a m) (hin : (m name).isSome = true)
    (hQ : ∀ h' m', h'.Ns a m' → (∀ x, x ≠ name → m' x = m x) → Heap.SameBut a s.heap h' → Q true { s with heap := h' }) : wpAny C.M A (nsDel a name) Q E s := by
  refine lift fun gg back => ?_
  obtain ⟨o, es, ep, ho, hd, hk, hm⟩ := id hn
  refine back ?_
  clear back gg
  have hany : es.any (·.refKey) = false := by
    rw [Array.any_eq_false']; intro e he; obtain ⟨n, t, h⟩ := hk e he; simp [DictEntry.refKey, h]
  have hidx : ∃ i, es.findIdx? (·.key.isStr name) = some i := by
    rw [← hm name] at hin
    unfold nsFind at hin
    rw [findBy_of_findIdx?] at hin
    cases e : es.findIdx? (fun e => e.key.isStr name) with
    | some i => exact ⟨i, rfl⟩
    | none => rw [e] at hin; cases hin
  refine ob6 hidx ?_
  clear hidx
  intro i hi
  have hsome : es.any (·.key.isStr name) = true := by
    refine ob5 (Array.findIdx?_eq_some_iff_getElem.mp hi) ?_
    intro hlt h1 _
    exact Array.any_eq_true.mpr ⟨i, hlt, h1⟩
  have hhas : nsHas name o = pure true := by
    rw [nsHas_eq]; unfold nsHasByArray; rw [hd]
    show (if (es.any fun x => x.key.isStr name) = true then _ else _) = _
    rw [if_pos hsome]
  unfold nsDel
  refine wpAny_bind (wpAny_loadPart ho ?_)
  rw [hhas]
  refine wpAny_bind (wpAny_pure ?_)
  rw [if_pos rfl]
  refine wpAny_bind (wpAny_updatePart ho (wpAny_pure ?_))
  refine lift fun gg back => ?_
  obtain ⟨cl, d, dt, sl⟩ := o
  refine back ?_
  clear back gg
  subst hd
  refine hQ _ (nsFind (es.eraseIdxIfInBounds i)) ⟨_, _, ep + 1, Heap.get?_update_self _ ho (by simp only [Obj.dropName_eq, Obj.dropNameByArray, hi] <;> rfl), (by simp only [Obj.dropName_eq, Obj.dropNameByArray, hi] <;> rfl), hk.erase i, fun _ => rfl⟩ (fun x hx => ?_) (Heap.SameBut.update ..)
  rw [← hm x]
  rcases es with ⟨l⟩
  simp only [nsFind, findBy, List.eraseIdxIfInBounds_toArray, List.find?_toArray, List.findIdx?_toArray] at hi ⊢
  rw [find_skip]
  intro en hen
  refine ob5 (List.findIdx?_eq_some_iff_getElem.mp hi) ?_
  intro hlt h1 _
  rw [List.getElem?_eq_getElem hlt] at hen
  cases hen
  cases e : (l[i].key.isStr x) with
  | false => rfl
  | true => exact absurd (Value.isStr_inj _ _ _ e h1) hx
theorem unbind_ok {E : Value → Shared → Prop} {x : Nat} {n : Str} {pos : Pos} {v : Option Value} {Q : Unit → Shared → Prop} (U : SurS C k Φ S env) (d : Dyn C k false S (A.mark v) env ρ σ s) (hown : S.own n x = true) (hloc : S.names.lookup n = some .local)
    (h : ∀ s', Step C (Own env) σ s σ s' → LR C σ s'.heap env S.nm (ρ.set x none) → Q () s') : wpAny C.M A (do bindName env n .none; unbindBehindTheSuite env n pos) Q E s := by
  refine wpAny_bind (wpAny_bindName (store_dyn (v := .none) (U.sur false) d.unmark hown .none fun s₄ st₄ d₄ => ?_))
  unfold unbindBehindTheSuite
  refine wpAny_onRaise ?_
  refine ob10 (Sc.own_elim hown) ?_
  intro y ee118
  subst ee118
  intro hyn _
  have hi : x < ρ.length := by rw [d.len]; exact U.ev.nm.2 y x hyn
  have hh := d₄.l.holds y x .none hyn (by rw [Loc.get_set_self hi])
  have hkn : env.kindOf (Str.ofString y) = some .local := by rw [U.ev.kindOf]; exact hloc
  unfold Holds at hh
  rw [hkn] at hh
  refine ob3 hh ?_
  clear hh
  intro m u hm hmu _
  unfold unbindName deleteName
  refine wpAny_bind (wpAny_point (wpAny_bind ?_))
  simp only [hkn, U.ev.kind]
  refine wpAny_bind (m := nsDel env.locals (Str.ofString y)) (nsDel_ok hm (by rw [hmu]; rfl) fun h' m' hn' hmm hs' => ?_)
  refine wpAny_pure (wpAny_point ?_)
  refine lift fun gg back => ?_
  obtain ⟨o, es, ep, ho, hd, _⟩ := id hm
  refine back ?_
  clear back gg
  have st5 : Step C (Own env) σ s₄ σ { s₄ with heap := h' } := Step.oneBut (t := s₄.toks) st₄.rel hs' d₄.l.lnew.1 d₄.l.lnew.2 (.inl rfl) ho fun ⟨_, _, _, z⟩ => (by rw [hd] at z; cases z)
  have hcell : ∀ c w, s₄.heap.IsCell c w → h'.IsCell c w := fun c w hw => hw.sameBut hs' fun q => by
    refine lift fun gg back => ?_
    obtain ⟨ow, how, hdw⟩ := hw
    refine back ?_
    clear back gg
    rw [q, ho] at how; cases how; rw [hd] at hdw; cases hdw
  refine h _ ((st₄.mono fun a ha => ha.own).trans st5) ⟨fun z i w hz hw => ?_, ⟨m', hn'⟩, d₄.l.lnew, fun z cc hcc => ?_, d₄.l.apart⟩
  · by_cases e : i = x
    · subst e
      rw [Loc.get_set_self hi] at hw; cases hw
    · rw [Loc.get_set_ne e] at hw
      refine (d₄.l.holds z i w hz (by rw [Loc.get_set_ne e]; exact hw)).frame st5.h.tup (fun _ m₁ u₁ h1 h2 => ?_) fun c u _ hc => hcell c u hc
      rw [← ns_unique hm h1] at h2
      refine ⟨m', hn', ?_⟩
      rw [hmm _ fun q => ?_]
      · exact h2
      · have := ofString_inj q
        subst this
        rw [hyn] at hz; cases hz; exact e rfl
  · refine ob7 (d₄.l.cells z cc hcc) ?_
    intro w hw r2
    exact ⟨⟨w, hcell cc w hw⟩, r2⟩
theorem hs_cons {D : String} {x : Nat} {body : Sts} {r : Hs} (hb : SsP C body) (hr : HsP C r) : HsP C (.cons D x body r) := by
  intro k Φ S xs env A ρ ρ₀ σ σ₀ s s₀ N R X e c U tf d₀ d tot ft hc hn hm h
  dsimp only [H_nil, H_cons] at h
  refine lcE hm ?_
  intro hh xs hm
  refine exME hm ?_
  intro hid np n bd pos hm
  refine lcE hm ?_
  intro b₀ bs hm
  · simp only [Bool.and_eq_true, decide_eq_true_eq, beq_iff_eq] at hm
    refine lift fun gg back => ?_
    refine ob28 hm ?_
    clear hm
    intro hD hg hown hloc hbd hrest
    refine ob38 (U.I.own D hD) ?_
    intro Dl _ _ _ _ hDl _ O
    obtain ⟨Cl, oe, vs, T, oT, ts, a1, a2, a3, a4, a5, a6, b1, b2, b3, b4, b5, b6, b7⟩ := id ft
    refine back ?_
    clear back gg
    have hlow : ∀ a, Own env a → ¬ (s₀.heap.objs.size ≤ a) := fun a ha => Nat.not_le.mpr (d₀.below a ha)
    refine wpAny_handleBy_cons (codeAny_handlers_test (glb_ok (A := A.mark (some (.ref e))) (U.sur true) d.r hg O.bound (U.I.excm hc hD d.r.stays a1.1 hDl a2 a3.1 a4 ?_))) (by intro q; cases q)
    by_cases hcd : c = D
    · rw [if_pos hcd] at h
      rw [decide_eq_true hcd]
      refine handlers_as (setFlight_ok (h₀ := s₀.heap) d.r d₀.r.size ft fun s₁ st₁ ft₁ => ?_)
      have tot1 : Step C (fun a => Own env a ∨ s₀.heap.objs.size ≤ a) σ₀ s₀ σ s₁ := tot.trans (st₁.mono fun a ha => .inr ha)
      refine lift fun gg back => ?_
      obtain ⟨Cl', oe', vs', _, _, _, c1, c2, c3, c4, _⟩ := id ft₁
      refine back ?_
      clear back gg
      have tot1' : Step C (fun a => Own env a ∨ s₀.heap.objs.size ≤ a) σ₀ s₀ (σ.upd e (.exc c)) s₁ := tot1.adopt (o := .exc c) a6 hn ⟨Cl', oe', vs', c1.1, c2, c3, c4⟩ (Nat.le_trans d₀.r.size a6)
      have dm : Dyn C k true S A env ρ σ s₁ := d.apart (n := s₀.heap.objs.size) st₁ d₀.a.low (fun a ha => ha) hlow
      have da : Dyn C k true S A env ρ (σ.upd e (.exc c)) s₁ := dm.adopt (n := s₀.heap.objs.size) tot1'.rel (fun a ha => Nat.ne_of_lt (Nat.lt_of_lt_of_le (d₀.below a ha) a6)) d₀.a.low a6
      have dk := da.marked (v := .ref e)
      refine store_dyn (U.sur false) dk hown .ref fun s₂ st₂ d₂ => ?_
      refine wpAny_mono (hb U tf d₂ hbd h) (fun f s₃ h₃ => ?_) fun _ _ hx => (by obtain ⟨_, _, _, _, _, f, _⟩ := hx; exact f)
      have fin : ∀ {σ₃ : Store} {s₃ s₅ : Shared}, Step C (Own env) (σ.upd e (.exc c)) s₂ σ₃ s₃ → Step C (Own env) σ₃ s₃ σ₃ s₅ → Step C (Own env) σ₀ s₀ σ₃ s₅ := fun st₃ st₅ =>
        (((tot1'.trans (st₂.mono fun a ha => .inl ha.own)).trans (st₃.mono fun a ha => .inl ha)).trans (st₅.mono fun a ha => .inl ha)).old
      cases f with
      | next =>
        refine lift fun gg back => ?_
        obtain ⟨ρ₃, σ₃, q, st₃, l₃, hl₃⟩ := h₃
        refine back ?_
        clear back gg
        have d3 : Dyn C k false S (A.mark (some (.ref e))) env ρ₃ σ₃ s₃ := d₂.next st₃ l₃ hl₃
        refine unbind_ok U d3 hown hloc fun s₅ st₅ l₅ => ?_
        exact ⟨_, σ₃, q, fin st₃ st₅, l₅, by rw [List.length_set]; exact hl₃⟩
      | ret v =>
        refine lift fun gg back => ?_
        obtain ⟨V, σ₃, q, hv, st₃, ρ₃, l₃, hl₃⟩ := h₃
        refine back ?_
        clear back gg
        have d3 : Dyn C k false S (A.mark (some (.ref e))) env ρ₃ σ₃ s₃ := d₂.next st₃ l₃ hl₃
        refine unbind_ok U d3 hown hloc fun s₅ st₅ l₅ => ?_
        exact ⟨V, σ₃, q, st₅.vr hv, fin st₃ st₅, _, l₅, by rw [List.length_set]; exact hl₃⟩
      | _ => exact h₃.elim
    · rw [if_neg hcd] at h
      rw [decide_eq_false hcd]
      exact hr U tf d₀ d tot ft hc hn hrest h

theorem st_try {body : Sts} {hs : Hs} (hb : SsP C body) (hh : HsP C hs) : StP C (.tryx body hs) := by
  intro k md Φ S x env A ρ σ s N R X U tf d hm h
  dsimp only [S_expr, S_assign, S_setattr, S_setitem, S_ret, S_pass, S_raise, S_iff, S_whil, S_for, S_tryx] at h
  refine strME hm ?_
  intro b hs' o f pos hm
  refine l0E hm ?_
  intro hm
  refine l0E hm ?_
  intro hm
  · simp only [Bool.and_eq_true, Bool.not_eq_true'] at hm
    refine ob11 hm ?_
    clear hm
    intro h1 h2 h3
    refine ob8 h ?_
    clear h
    intro hmd h
    subst hmd
    cases hs' with
    | nil => cases h3
    | cons h₀ hs' =>
      refine wpAny_Try_except (wpAny_mono (hb U tf d h1 h) (fun f s₁ h₁ => ?_) fun x s₁ h₁ => ?_)
      · cases f with
        | next => exact wpAny_execs_nil h₁
        | ret v => exact h₁
        | _ => exact h₁.elim
      · refine lift fun gg back => ?_
        obtain ⟨e, c, ρ', σ', rfl, q, st, l, hl, fl, n⟩ := h₁
        refine back ?_
        clear back gg
        have d' := d.next st l hl
        obtain ⟨outer, hA⟩ := id tf
        have hlow : ∀ a, Own env a → ¬ (s.heap.objs.size ≤ a) := fun a ha => Nat.not_le.mpr (d.below a ha)
        refine note_ok (h₀ := s.heap) hA U.fr d'.a.frames st.rel d.r.size st.h.size fl n fun s₂ st₂ ft => setFlight_ok (h₀ := s.heap) st₂.rel d.r.size ft fun s₃ st₃ ft₃ => ?_
        have st23 := st₂.trans st₃
        have d3 : Dyn C k true S A env ρ' σ' s₃ := d'.apart (n := s.heap.objs.size) st23 d.a.low (fun a ha => ha) hlow
        have hce : c ∈ excNames := by obtain ⟨_, _, _, hx, _⟩ := fl; exact hx.2
        exact hh U tf d d3 ((st.mono fun a ha => .inl ha).trans (st23.mono fun a ha => .inr ha)) ft₃ hce n h2 q

mutual
theorem all_st : ∀ st : St, StP C st
  | .expr e => st_expr
  | .assign t e => st_assign
  | .setattr o n e => st_setattr
  | .setitem o i e => st_setitem
  | .ret e => st_ret
  | .pass => st_pass
  | .raise c m => st_raise
  | .iff c th el => st_iff (all_ss th) (all_ss el)
  | .whil _ _ => no_s fun _ _ => rfl
  | .for t it b => st_for (all_ss b)
  | .tryx b hs => st_try (all_ss b) (all_hs hs)
theorem all_ss : ∀ ss : Sts, SsP C ss
  | .nil => ss_nil
  | .cons s r => ss_cons (all_st s) (all_ss r)
theorem all_hs : ∀ hs : Hs, HsP C hs
  | .nil => hs_nil
  | .cons D x b r => hs_cons (all_ss b) (all_hs r)
end
end
end Mine.Internal
end

section
set_option linter.unusedVariables false
namespace Mine.Internal
open PySem PySem.W PySem.Calls PyProof.Rows

noncomputable def scOf (F : Fn) (names : List (Str × NameKind)) : Sc := ⟨names, F.names.zipIdx, F.size⟩

/-- what is known of a function's object -/
structure FnOk (C : Cx) (fa : Addr) (F : Fn) : Prop where
  obj : ∃ o fd body, C.base.get? fa = some o ∧ o.data = .func fd ∧ fd.body = .stmts body ∧ fd.globals = mainGlobals ∧ fd.builtins = builtinsNs ∧ fd.closure = [] ∧ fd.scope.kind = .function ∧ fd.scope.isCoroutine = false ∧ fd.scope.isGenerator = false ∧
    C.base.CodeRec fd.code fd.qualname ∧ (∀ xs : List Value, xs.length = F.params.length → bindArgs fd ⟨xs, []⟩ = pure ((F.params.map Str.ofString).zip xs)) ∧ matchSs (scOf F fd.scope.names) F.body body = true ∧
    (∀ x ∈ F.params, fd.scope.names.lookup (Str.ofString x) = some .local ∨ fd.scope.names.lookup (Str.ofString x) = some .cell) ∧ ∀ x, fd.scope.names.lookup x ≠ some .free
  nodup : F.names.Nodup
  size : F.names.length ≤ F.size
  params : F.params <+: F.names

section
variable {C : Cx} {k : Nat} {md : Bool} {A : Around} {σ : Store} {s : Shared}

theorem bindL_other {kd : Str → Option NameKind} {y : Str} : ∀ {bs : List (Str × Value)} {m : Str → Option Value}, y ∉ bs.map (·.1) → bindL kd bs m y = m y
  | [], _, _ => rfl
  | (n, v) :: r, m, h => by
    simp only [List.map_cons, List.mem_cons, not_or] at h
    rw [bindL, bindL_other h.2]
    split
    · exact if_neg h.1
    · rfl
theorem bindL_mem {kd : Str → Option NameKind} {y : Str} {v : Value} (hk : kd y = some .local) : ∀ {bs : List (Str × Value)} {m : Str → Option Value}, (bs.map (·.1)).Nodup → (y, v) ∈ bs → bindL kd bs m y = some v
  | (n, u) :: r, m, hn, h => by
    simp only [List.map_cons, List.nodup_cons] at hn
    rw [bindL]
    rcases List.mem_cons.mp h with e | h
    · cases e
      rw [bindL_other hn.1, if_pos hk, if_pos rfl]
    · exact bindL_mem hk hn.2 h
theorem bindC_other {kd : Str → Option NameKind} {y : Str} : ∀ {bs : List (Str × Value)} {m : Str → Option Value}, y ∉ bs.map (·.1) → bindC kd bs m y = m y
  | [], _, _ => rfl
  | (n, v) :: r, m, h => by
    simp only [List.map_cons, List.mem_cons, not_or] at h
    rw [bindC, bindC_other h.2]
    split
    · rfl
    · exact if_neg h.1
theorem bindC_mem {kd : Str → Option NameKind} {y : Str} {v : Value} (hk : kd y = some .cell) : ∀ {bs : List (Str × Value)} {m : Str → Option Value}, (bs.map (·.1)).Nodup → (y, v) ∈ bs → bindC kd bs m y = some v
  | (n, u) :: r, m, hn, h => by
    simp only [List.map_cons, List.nodup_cons] at hn
    rw [bindC]
    rcases List.mem_cons.mp h with e | h
    · cases e
      rw [bindC_other hn.1, if_neg (by rw [hk]; intro q; cases q), if_pos rfl]
    · exact bindC_mem hk hn.2 h

theorem zipIdx_lookup : ∀ {l : List String} {x : String} {i n : Nat}, (l.zipIdx n).lookup x = some i → n ≤ i ∧ l[i - n]? = some x
  | [], _, _, _, h => by simp at h
  | y :: l, x, i, n, h => by
    rw [List.zipIdx_cons, List.lookup_cons] at h
    cases hb : x == y with
    | true => rw [hb] at h; cases h; simp [beq_iff_eq.mp hb]
    | false =>
      rw [hb] at h
      refine ob8 (zipIdx_lookup h) ?_
      intro h1 h2
      refine ⟨by omega, ?_⟩
      rw [show i - n = (i - (n + 1)) + 1 by omega, List.getElem?_cons_succ]; exact h2
theorem zipIdx_nm {l : List String} {n : Nat} (hn : l.length ≤ n) : NmOk l.zipIdx n := by
  refine ⟨fun x y i hx hy => ?_, fun x i hx => ?_⟩
  · have h1 := (zipIdx_lookup hx).2
    have h2 := (zipIdx_lookup hy).2
    rw [h1] at h2; cases h2; rfl
  · have h1 := (zipIdx_lookup hx).2
    have := (List.getElem?_eq_some_iff.mp h1).1
    omega
theorem ofString_nodup : ∀ {l : List String}, l.Nodup → (l.map Str.ofString).Nodup
  | [], _ => by simp
  | x :: l, h => by
    simp only [List.nodup_cons, List.map_cons] at h ⊢
    refine ⟨fun hm => ?_, ofString_nodup h.2⟩
    refine ob5 (List.mem_map.mp hm) ?_
    intro y hy e
    exact h.1 (ofString_inj e ▸ hy)

theorem run_ok {tab : String → String → Option Fn} {fld : String → String → Bool} {F : Fn} {fa : Addr} {vs : List V} {xs : List Value} {Q : V → Store → Prop} {X : XP} (XC : CxOk C) (XI : CxIs C) (ca : ∀ md, CallsOk C k md (sem tab fld k md)) (FO : FnOk C fa F)
    (a : ARun C (k + 1) md A σ s.heap) (r : Rel C σ s.heap) (hv : VRs s.heap vs xs) (h : wpFn (sem tab fld k) md F vs σ Q X) :
    codeAny C.M A (.call (.ref fa) ⟨xs, []⟩) (fun r s' => match r with | .ok (.ret v) => PostV C σ s Q v s' | .ok _ => False | .error e => PostX C σ s X e s') s := by
  refine lift fun gg back => ?_
  refine ob40 FO.obj ?_
  intro o fd body ho hd hbody hgl hbu hcl hkind hco hgen hcd hbind hmatch hpar hfree
  obtain ⟨hlen, h⟩ := h
  refine back ?_
  clear back gg
  have hxl : xs.length = F.params.length := hv.length.symm.trans hlen
  have hK := r.stays
  have hroom : A.depth < recursionLimit := by have := a.depth; have : (990 : Nat) ≤ recursionLimit := by decide
                                              omega
  refine codeAny_call_function hroom (hK _ _ ho) hd hco hgen hbody (hcd.keeps hK) ?_
  rw [hbind xs hxl]
  refine wpAny_pure ?_
  rw [hgl, hbu, hcl]
  have hbk : ((F.params.map Str.ofString).zip xs).map (·.1) = F.params.map Str.ofString := by
    rw [List.map_fst_zip]; simp; omega
  have hpn : F.params.Nodup := FO.nodup.sublist FO.params.sublist
  refine wpAny_newFunctionEnv_cells hkind (fun x hx => ?_) fun env he s' y => ?_
  · have hx1 : x.1 ∈ F.params.map Str.ofString := hbk ▸ List.mem_map_of_mem (f := (·.1)) hx
    refine ob5 (List.mem_map.mp hx1) ?_
    intro p hp hpe
    rcases hpar p hp with q | q
    · exact .inl (hpe ▸ q)
    · exact .inr ⟨hpe ▸ q, cellsFrom_some _ _ _ (.inl (hpe ▸ q))⟩
  refine ⟨(XC.nolimit.keeps hK).keeps y.toInCall.keep, codeAny_func ?_⟩
  have eloc : env.locals = s.heap.objs.size := by rw [he]; rfl
  have efr : env.frame = some env.locals := by rw [he]; rfl
  have esc : env.scope = fd.scope := by rw [he]; rfl
  have ecl : env.cells = cellsFrom (s.heap.objs.size + 1) fd.scope.names [] := by rw [he]; rfl
  have ES : EnvS (scOf F fd.scope.names) env := by
    refine ⟨⟨by rw [esc]; exact hkind, by rw [he]; rfl, by rw [he]; rfl⟩, by rw [esc]; rfl, zipIdx_nm FO.size, fun x hx => ?_⟩
    rcases hx with hx | hx
    · rw [ecl]; exact cellsFrom_some _ _ _ (.inl hx)
    · exact absurd hx (hfree x)
  refine ob14 y.toInCall.same ?_
  intro h₁ tk ee119
  subst ee119
  have keep := y.toInCall.keep
  have hLlt : env.locals < h₁.objs.size := by
    refine lift fun gg back => ?_
    obtain ⟨oL, _, _, hL, _⟩ := y.toInCall.ns
    refine back ?_
    clear back gg
    exact Heap.lt_size hL
  have st0 : Step C No σ s σ { s with heap := h₁, toks := tk } := .grow r keep (by rw [eloc] at hLlt; exact Nat.le_of_lt hLlt)
  have noLσ : ∀ a, s.heap.objs.size ≤ a → σ a = none ∧ C.base.get? a = none := fun a ha => ⟨r.none_of_ge ha, base_none_of_ge r ha⟩
  have cellAb : ∀ n c, env.cells.lookup n = some c → s.heap.objs.size ≤ c := fun n c hc => by
    have := y.above n c (PySem.mem_of_lookup hc)
    rw [eloc] at this; exact Nat.le_of_lt this
  have hown : ∀ a, Own env a → s.heap.objs.size ≤ a := fun a ha => by
    rcases ha with rfl | ⟨n, hc⟩
    · exact Nat.le_of_eq eloc.symm
    · exact cellAb n a hc
  have hnm : ((F.params.map Str.ofString).zip xs).map (·.1) |>.Nodup := by rw [hbk]; exact ofString_nodup hpn
  have l : LR C σ h₁ env (scOf F fd.scope.names).nm (vs.map some ++ List.replicate (F.size - vs.length) none) := by
    refine ⟨fun x i v hx hv' => ?_, ⟨_, y.toInCall.ns⟩, noLσ _ (Nat.le_of_eq eloc.symm), fun n c hc => ⟨⟨_, y.cell n c hc⟩, noLσ _ (cellAb n c hc)⟩, fun x z c hx hz => PySem.name_of_addr y.apart (PySem.mem_of_lookup hx) (PySem.mem_of_lookup hz)⟩
    have hxi : F.names[i]? = some x := (zipIdx_lookup hx).2
    have hi : i < vs.length := by
      by_cases hlt : i < vs.length
      · exact hlt
      · exfalso
        simp only [Loc.get] at hv'
        rw [List.getElem?_append_right (by simpa using Nat.not_lt.mp hlt), List.getElem?_replicate] at hv'
        split at hv' <;> simp at hv'
    have hvi : vs[i]? = some v := by
      simp only [Loc.get] at hv'
      rw [List.getElem?_append_left (by simpa using hi), List.getElem?_map] at hv'
      cases q : vs[i]? with
      | none => rw [q] at hv'; simp at hv'
      | some w => rw [q] at hv'; simp at hv'; rw [hv']
    refine ob5 (hv.get hvi) ?_
    intro u hu hvu
    have hpi : F.params[i]? = some x := by
      obtain ⟨t, ht⟩ := FO.params
      rw [← ht, List.getElem?_append_left (by omega)] at hxi
      exact hxi
    have hmem : (Str.ofString x, u) ∈ (F.params.map Str.ofString).zip xs := by
      refine List.mem_iff_getElem?.mpr ⟨i, ?_⟩
      rw [List.getElem?_zip_eq_some]
      exact ⟨by rw [List.getElem?_map, hpi]; rfl, hu⟩
    have hpx : x ∈ F.params := List.mem_of_getElem? hpi
    unfold Holds
    rw [ES.kindOf]
    rcases hpar x hpx with q | q
    · rw [show (scOf F fd.scope.names).names.lookup (Str.ofString x) = some .local from q]
      exact ⟨_, u, y.toInCall.ns, bindL_mem (by rw [ES.kindOf]; exact q) hnm hmem, hvu.keep fun b ob e _ => keep b ob e⟩
    · rw [show (scOf F fd.scope.names).names.lookup (Str.ofString x) = some .cell from q]
      refine ob6 (Option.isSome_iff_exists.mp (ES.cells (Str.ofString x) (.inl q))) ?_
      intro c hc
      have hcell := y.cell _ c hc
      rw [bindC_mem (by rw [ES.kindOf]; exact q) hnm hmem] at hcell
      exact ⟨c, u, hc, hcell, hvu.keep fun b ob e _ => keep b ob e⟩
  have hvl : vs.length ≤ F.size := by
    have := FO.params.length_le
    have := FO.size
    omega
  refine lift fun gg back => ?_
  obtain ⟨fl, hfl, hff, hfn⟩ := a.frames
  refine back ?_
  clear back gg
  have d : Dyn C k md (scOf F fd.scope.names) (A.deeper env) env (vs.map some ++ List.replicate (F.size - vs.length) none) σ { s with heap := h₁, toks := tk } := by
    refine ⟨⟨⟨env :: fl, by show A.frames.map _ = _; rw [hfl]; rfl, ?_, fun L hL => ?_⟩, a.handled, ?_, ?_⟩, st0.rel, l, by simp [scOf]; omega⟩
    · refine ⟨by rw [esc, hkind]; decide, ?_, hff.of_keeps fun b ob hb _ => ⟨ob, keep b ob hb, rfl⟩⟩
      refine lift fun gg back => ?_
      obtain ⟨oL, es, ep, hL, hLd, _⟩ := y.toInCall.ns
      refine back ?_
      clear back gg
      exact ⟨env.locals, oL, efr, (noLσ _ (Nat.le_of_eq eloc.symm)).2, hL, fun vs q => by rw [hLd] at q; cases q⟩
    · rw [List.filterMap_cons, efr] at hL
      rcases List.mem_cons.mp hL with rfl | hL
      · refine lift fun gg back => ?_
        obtain ⟨oL, es, ep, hL, hLd, _⟩ := y.toInCall.ns
        refine back ?_
        clear back gg
        exact ⟨(noLσ _ (Nat.le_of_eq eloc.symm)).1, oL, es, ep, hL, hLd⟩
      · refine ob1 (hfn L hL) ?_
        intro z1 o' es n' z2 z3
        exact ⟨z1, o', es, n', keep _ _ z2, z3⟩
    · show A.depth + 1 + 3 * (k + 1) < 990
      have := a.depth; omega
    · show A.units + 3 + 40 * (k + 1) < 9000
      have := a.units; omega
  have U : SurS C k (sem tab fld k) (scOf F fd.scope.names) env := ⟨XC, XI, ca, ES, efr⟩
  have tf : TopFr (A.deeper env) env := ⟨fl, by show A.frames.map _ = _; rw [hfl]; rfl⟩
  refine wpAny_mono (all_ss F.body U tf d hmatch h) (fun f s' hf => ?_) fun x s' hx => ?_
  · cases f with
    | next =>
      refine lift fun gg back => ?_
      obtain ⟨ρ', σ', q, st, _⟩ := hf
      refine back ?_
      clear back gg
      exact ⟨.none, σ', q, .none, (st0.no.trans st).drop hown⟩
    | ret v =>
      refine lift fun gg back => ?_
      obtain ⟨V, σ', q, hv', st, _⟩ := hf
      refine back ?_
      clear back gg
      exact ⟨V, σ', q, hv', (st0.no.trans st).drop hown⟩
    | _ => exact hf.elim
  · refine lift fun gg back => ?_
    obtain ⟨e, c, ρ', σ', rfl, q, st, l', hl', fl', n⟩ := hx
    refine back ?_
    clear back gg
    have d' := d.next st l' hl'
    have tot : Step C (fun a => s.heap.objs.size ≤ a) σ s σ' s' := st0.no.trans (st.mono hown)
    obtain ⟨outer, hA⟩ := tf
    unfold leaving
    refine wpAny_bind (note_ok (h₀ := s.heap) hA efr d'.a.frames st.rel r.size tot.h.size (fl'.older st0.h.size) n fun s₂ st₂ ft => setFlight_ok (h₀ := s.heap) st₂.rel r.size ft fun s₃ st₃ ft₃ => ?_)
    exact ⟨e, c, σ', rfl, q, ((tot.trans st₂).trans st₃).drop fun _ ha => ha, ft₃.fly, n⟩

/-- the functions that a text has -/
structure TabOk (C : Cx) (tab : String → String → Option Fn) (fld : String → String → Bool) : Prop where
  fn : ∀ c f F, tab c f = some F → ∃ a, C.fn c f = some a ∧ FnOk C a F
  fld : ∀ c f, fld c f = true → C.fld c f = true

/-- calls are sound, as deep as one likes -/
theorem calls_ok {tab : String → String → Option Fn} {fld : String → String → Bool} (XC : CxOk C) (XI : CxIs C) (T : TabOk C tab fld) : ∀ (k : Nat) (md : Bool), CallsOk C k md (sem tab fld k md)
  | 0, md => ⟨fun c f h => by
      refine ob6 (Option.isSome_iff_exists.mp h) ?_
      intro F hF
      refine ob5 (T.fn c f F hF) ?_
      intro a ha _
      exact ⟨a, ha⟩, fun c f h => T.fld c f h, fun _ _ _ _ h => h.elim⟩
  | k + 1, md => ⟨fun c f h => by
      refine ob6 (Option.isSome_iff_exists.mp h) ?_
      intro F hF
      refine ob5 (T.fn c f F hF) ?_
      intro a ha _
      exact ⟨a, ha⟩, fun c f h => T.fld c f h, fun {c f a vs xs σ s A Q X} hfa ar r hv h => by
      refine ob5 (onSome_elim h) ?_
      intro F hF h
      refine ob5 (T.fn c f F hF) ?_
      intro a' ha' FO
      rw [hfa] at ha'; cases ha'
      exact run_ok XC XI (calls_ok XC XI T k) FO ar r hv h⟩
end
end Mine.Internal
end

section
set_option linter.unusedVariables false
set_option maxRecDepth 100000
namespace Mine.Internal
open PySem PySem.W PySem.Calls PyProof.Rows

section
variable {prog : Program} {w : World} {A : Around} {E : Value → Shared → Prop} {s : Shared} {K : Frag} {x Cl : Addr} {ox : Obj}

theorem ga_bind (self : Value) : bindSpecial (.builtin "BaseException.__getattribute__") self = pure (.builtin "BaseException.__getattribute__", [self]) := F.excAttr_ValueError.ga.bind self
theorem ga_plain : plainId "BaseException.__getattribute__" = true := by decide +kernel
structure ExcCls (K : Frag) (Cl : Addr) : Prop where
  ga : findIn K (.ref Cl) "__getattribute__" = some (some (.builtin "BaseException.__getattribute__"))
  hk : findIn K (.ref Cl) "__getattr__" = some none
  fd : findObj K Cl none "__class__" = some (.bind (.builtin "getset_descriptor.__get__") (.builtin "object.__class__"))
  base : mroIn K Cl (.type "BaseException") = some true
  obj : mroIn K Cl (.type "object") = some true
  cls : (clsIn K Cl).isSome = true

theorem exc_class {Q : Option Value → Shared → Prop} (Z : ExcCls K Cl) (X : K.In s.heap) (I : InstAt s.heap x ox Cl none) (h : Q (some (.ref Cl)) { s with toks := s.toks + 1 }) : wpAny (model prog w) A (getAttr? (.ref x) "__class__") Q E s := by
  refine lift fun gg back => ?_
  obtain ⟨hh, g, d, t, os⟩ := s
  refine back ?_
  clear back gg
  have L0 := I.type (M := model prog w)
  have L1 := looks_findIn (M := model prog w) X Z.ga
  have L2 := looks_findIn (M := model prog w) X Z.hk
  have L3 := looks_find (M := model prog w) X I Z.fd
  have L4 : Looks (model prog w) hh (isInstance (.ref x) (.type "BaseException")) true := I.type.andThen (looks_mroIn X Z.base)
  have f3 := ga_bind (.ref x)
  unfold getAttr? getAttrBy? getAttrBy
  refine wpAny_bind (wpAny_mkText (wpAny_bind (wpAny_attempt (wpAny_holding (wpAny_bind (L0.at (wpAny_bind (L1.at ?_))))))))
  show wpAny _ _ (getAttrByItsOwn _ _ _ _ _ _) _ _ _
  unfold getAttrByItsOwn hookBefore callGetattribute boundAndCalled
  refine wpAny_bind (L2.at ?_)
  refine wpAny_bind (wpAny_attempt (wpAny_holding ?_))
  show wpAny _ _ (bindSpecial _ _ >>= fun r => call r.1 (r.2 ++ [_])) _ _ _
  rw [f3]
  refine wpAny_bind (wpAny_pure (wpAny_call ?_))
  refine codeAny_call_builtin ga_plain F.entry_bexc_ga (@check_slot (model prog w) _ _ _ "BaseException.__getattribute__" "BaseException" "__getattribute__" (.ref x) [.str "__class__" t] [] _ (by decide +kernel) (by decide +kernel) L4 (F.args_bexc_ga _ _) ?_)
  unfold Builtin.«object.__getattribute__»
  refine wpAny_bind (wpAny_pure (wpAny_bind (wpAny_pure (wpAny_bind (L0.at (wpAny_bind (L3.at ?_)))))))
  show wpAny _ _ (Builtin.ObjectAttr.bindTo _ _ _ _) _ _ _
  unfold Builtin.ObjectAttr.bindTo
  refine wpAny_bind (wpAny_holding (wpAny_call (class_get (s := ⟨hh, g, d, t + 1, os⟩) X I Z.obj ?_)))
  refine wpAny_pure ?_
  show wpAny _ _ (handedOut _) _ _ _
  rw [handedOut_of rfl]
  exact wpAny_pure (wpAny_pure h)

theorem kitx_exc (Z : ExcCls K Cl) : KitX K (.ref x) (.ref Cl) (fun h => InstAt h x ox Cl none) where
  ty := fun _ _ _ I => I.type
  it := fun _ _ X _ => by
    refine ob6 (Option.isSome_iff_exists.mp Z.cls) ?_
    intro cdD hcD
    unfold clsIn at hcD
    split at hcD
    · rename_i c' d' cd' sl' ho
      intro A' Q' E' s' k q
      unfold isType loadHead
      exact wpAny_bind (wpAny_loadPart (k _ _ (X _ _ ho)) (wpAny_pure q))
    · cases hcD
  ne := fun h tp dd its n sl X htp => by
    refine ob6 (Option.isSome_iff_exists.mp Z.cls) ?_
    intro cdD hcD
    refine Bool.eq_false_iff.mpr fun q => ?_
    have e : Cl = tp := Value.ref.inj (beq_iff_eq.mp q)
    subst e
    unfold clsIn at hcD
    split at hcD
    · rename_i c' d' cd' sl' ho
      have z := (X _ _ ho).symm.trans htp
      cases z
    · cases hcD
  ca := fun X I k => exc_class Z X I k

/-- isinstance of an exception object -/
theorem exc_isi {c : Value} {b : Bool} {Q : Value → Shared → Prop} {o : Obj} {vs : Array Value} (Z : ExcCls K Cl) (X : K.In s.heap) (ho : s.heap.get? x = some o) (hc : o.cls = .ref Cl) (hd : o.data = .fields vs) (hdd : o.dict = none) (e : kitOne K (.ref Cl) c = some b) (h : ∀ tk, Q (.bool b) { s with toks := tk }) :
    wpAny (model prog w) A (call (.builtin "isinstance") [.ref x, c]) Q E s :=
  kia_one (kitx_exc (ox := o) Z) X ⟨ho, hc, by unfold notCls; rw [hd], by rw [hdd]; trivial⟩ e (by intro q; cases q) h
end
end Mine.Internal
end

section
set_option linter.unusedVariables false
set_option maxRecDepth 100000
namespace Mine.Internal
open PySem PySem.W PySem.Calls PyProof.Rows

theorem boot_ok : (bNames.all fun p => bootBuiltins (Str.ofString p.1) == some p.2) = true := by kernel_rfl
theorem noName_ok : (bNames.all fun p => decide (Str.ofString p.1 ≠ ("__name__" : Str))) = true := by kernel_rfl

/-- what a text has: classes, functions, fields -/
structure Tabs where
  cls : List (String × Addr)
  fn : List ((String × String) × Addr)
  fld : List (String × String)

noncomputable def isFd (K : Frag) (a : Addr) : Bool := match K.lookup a with | some ⟨_, _, .func _, _⟩ => true | _ => false
noncomputable def fdOf (K : Frag) (a : Addr) : FuncData := match K.lookup a with | some ⟨_, _, .func fd, _⟩ => fd | _ => default
noncomputable def clsOkB (K : Frag) (Cl : Addr) : Bool := plainGet K Cl ("x" : Str) && findIn K (.ref Cl) "__setattr__" == some (some (.builtin "object.__setattr__")) && plainOver K Cl && hasDictIn K Cl
noncomputable def excB (K : Frag) (Cl : Addr) : Bool := findIn K (.ref Cl) "__getattribute__" == some (some (.builtin "BaseException.__getattribute__")) && findIn K (.ref Cl) "__getattr__" == some none &&
  (match findObj K Cl none "__class__" with | some (.bind g a) => g == .builtin "getset_descriptor.__get__" && a == .builtin "object.__class__" | _ => false) && mroIn K Cl (.type "BaseException") == some true && mroIn K Cl (.type "object") == some true && (clsIn K Cl).isSome &&
  instIn K (.ref Cl) (.type "tuple") == some false && excIn K Cl [.type "ValueError", .type "Exception", .type "BaseException", .type "object"] "ValueError.__new__"
noncomputable def clsVT (T : Tabs) (D : String) : Option Value := if D = "ValueError" then some (.type "ValueError") else (T.cls.lookup D).map .ref
noncomputable def topCheck (K : Frag) (T : Tabs) : Bool :=
  bNames.all (fun p => nsIn K mainGlobals (Str.ofString p.1) == some none) &&
  (match nsIn K mainGlobals "MOST_PLACES" with | some (some (.int i _)) => i == 40 | _ => false) &&
  T.cls.all (fun p => p.1 != "" && nsIn K mainGlobals (Str.ofString p.1) == some (some (.ref p.2))) &&
  T.fn.all (fun p => isFd K p.2 && if p.1.1 == "" then nsIn K mainGlobals (Str.ofString p.1.2) == some (some (.ref p.2)) else match T.cls.lookup p.1.1 with
    | some Cl => clsOkB K Cl && findIn K (.ref Cl) (Str.ofString p.1.2) == some (some (.ref p.2)) && isFn K (.ref p.2) && typeIn K (.ref p.2) == some (.type "function") && (p.1.2 != "__init__" || (keepIn K (.ref Cl) && makesIn K Cl))
    | none => false) &&
  T.fld.all (fun p => match T.cls.lookup p.1 with | some Cl => clsOkB K Cl && findIn K (.ref Cl) (Str.ofString p.2) == some none | none => false) &&
  excNames.all (fun c => match T.cls.lookup c with
    | some Cl => excB K Cl && excNames.all (fun D => match T.cls.lookup D with | some Dl => subIn K (.ref Cl) (.ref Dl) == some (decide (c = D)) | none => false) &&
        ("ValueError" :: "NetError" :: excNames).all (fun D => match clsVT T D with | some v => kitOne K (.ref Cl) v == some (excSub c D) | none => false)
    | none => false)

noncomputable def cxOf (prog : Program) (w : World) (base : Heap) (K : Frag) (T : Tabs) (mg mb : Str → Option Value) : Cx :=
  ⟨prog, w, base, fun c => T.cls.lookup c, fun c f => T.fn.lookup (c, f), fun c f => T.fld.contains (c, f), K, mg, mb⟩

section
variable {prog : Program} {w : World} {base : Heap} {K : Frag} {T : Tabs} {mg mb : Str → Option Value}

theorem lookup_memP {α β : Type} [BEq α] [LawfulBEq α] : ∀ {l : List (α × β)} {x : α} {y : β}, l.lookup x = some y → (x, y) ∈ l
  | (a, b) :: r, x, y, h => by
    rw [List.lookup_cons] at h
    cases hb : x == a with
    | true => rw [hb] at h; cases h; rw [beq_iff_eq.mp hb]; exact List.mem_cons_self
    | false => rw [hb] at h; exact List.mem_cons_of_mem _ (lookup_memP h)

structure TopOk (K : Frag) (T : Tabs) : Prop where
  bn : ∀ x v, (x, v) ∈ bNames → nsIn K mainGlobals (Str.ofString x) = some none
  most : ∃ t, nsIn K mainGlobals "MOST_PLACES" = some (some (.int 40 t))
  cls : ∀ c a, (c, a) ∈ T.cls → c ≠ "" ∧ nsIn K mainGlobals (Str.ofString c) = some (some (.ref a))
  fn : ∀ c f a, ((c, f), a) ∈ T.fn → isFd K a = true ∧ (c = "" → nsIn K mainGlobals (Str.ofString f) = some (some (.ref a))) ∧ (c ≠ "" → ∃ Cl, T.cls.lookup c = some Cl ∧ clsOkB K Cl = true ∧ findIn K (.ref Cl) (Str.ofString f) = some (some (.ref a)) ∧
    isFn K (.ref a) = true ∧ typeIn K (.ref a) = some (.type "function") ∧ (f = "__init__" → keepIn K (.ref Cl) = true ∧ makesIn K Cl = true))
  fld : ∀ c f, (c, f) ∈ T.fld → ∃ Cl, T.cls.lookup c = some Cl ∧ clsOkB K Cl = true ∧ findIn K (.ref Cl) (Str.ofString f) = some none
  exc : ∀ c ∈ excNames, ∃ Cl, T.cls.lookup c = some Cl ∧ excB K Cl = true ∧ (∀ D ∈ excNames, ∃ Dl, T.cls.lookup D = some Dl ∧ subIn K (.ref Cl) (.ref Dl) = some (decide (c = D))) ∧
    ∀ D ∈ "ValueError" :: "NetError" :: excNames, ∃ v, clsVT T D = some v ∧ kitOne K (.ref Cl) v = some (excSub c D)

theorem topOk_of (h : topCheck K T = true) : TopOk K T := by
  unfold topCheck at h
  simp only [Bool.and_eq_true] at h
  refine ob28 h ?_
  clear h
  intro h1 h2 h3 h4 h5 h6
  refine ⟨fun x v hx => ?_, ?_, fun c a hc => ?_, fun c f a hf => ?_, fun c f hf => ?_, fun c hc => ?_⟩
  · exact beq_iff_eq.mp (List.all_eq_true.mp h1 _ hx)
  · split at h2
    · rename_i i t e; rw [beq_iff_eq.mp h2] at e; exact ⟨t, e⟩
    · cases h2
  · have := List.all_eq_true.mp h3 _ hc
    simp only [Bool.and_eq_true, bne_iff_ne, beq_iff_eq] at this
    exact this
  · have := List.all_eq_true.mp h4 _ hf
    simp only [Bool.and_eq_true] at this
    refine ob8 this ?_
    clear this
    intro z1 z2
    refine ⟨z1, fun hc => ?_, fun hc => ?_⟩
    · rw [if_pos (by simpa using hc)] at z2; exact beq_iff_eq.mp z2
    · rw [if_neg (by simpa using hc)] at z2
      split at z2
      · rename_i Cl hCl
        simp only [Bool.and_eq_true, Bool.or_eq_true, bne_iff_ne, beq_iff_eq] at z2
        refine ob26 z2 ?_
        clear z2
        intro y1 y2 y3 y4 y5
        exact ⟨Cl, hCl, y1, y2, y3, y4, fun e => y5.elim (fun n => absurd e n) id⟩
      · cases z2
  · have := List.all_eq_true.mp h5 _ hf
    dsimp only at this
    split at this
    · rename_i Cl hCl
      simp only [Bool.and_eq_true, beq_iff_eq] at this
      exact ⟨Cl, hCl, this.1, this.2⟩
    · cases this
  · have := List.all_eq_true.mp h6 _ hc
    split at this
    · rename_i Cl hCl
      simp only [Bool.and_eq_true] at this
      refine ob11 this ?_
      clear this
      intro y1 y2 y3
      refine ⟨Cl, hCl, y1, fun D hD => ?_, fun D hD => ?_⟩
      · have := List.all_eq_true.mp y2 _ hD
        split at this
        · rename_i Dl hDl; exact ⟨Dl, hDl, beq_iff_eq.mp this⟩
        · cases this
      · have := List.all_eq_true.mp y3 _ hD
        split at this
        · rename_i v hv; exact ⟨v, hv, beq_iff_eq.mp this⟩
        · cases this
    · cases this

theorem isFd_at (X : K.In base) {a : Addr} (h : isFd K a = true) : ∃ o, base.get? a = some o ∧ o.data = .func (fdOf K a) := by
  unfold isFd at h
  split at h
  · rename_i e
    refine ⟨_, X _ _ e, ?_⟩
    unfold fdOf; rw [e]
  · cases h
theorem clsOk_of {Cl : Addr} (h : clsOkB K Cl = true) : ClsOk K Cl := by
  unfold clsOkB at h
  simp only [Bool.and_eq_true, beq_iff_eq] at h
  exact ⟨h.1.1.1, h.1.1.2, h.1.2, h.2⟩
theorem excCls_of {Cl : Addr} (h : excB K Cl = true) : ExcCls K Cl ∧ instIn K (.ref Cl) (.type "tuple") = some false ∧ excIn K Cl [.type "ValueError", .type "Exception", .type "BaseException", .type "object"] "ValueError.__new__" = true := by
  unfold excB at h
  simp only [Bool.and_eq_true, beq_iff_eq] at h
  refine ob35 h ?_
  clear h
  intro h1 h2 h3 h4 h5 h6 h7 h8
  refine ⟨⟨h1, h2, ?_, h4, h5, h6⟩, h7, h8⟩
  split at h3
  · rename_i g a e
    simp only [Bool.and_eq_true, beq_iff_eq] at h3
    rw [e, h3.1, h3.2]
  · cases h3

theorem cxOk_of {p : Program} {loose : List Str} (X : K.In base) (R : TopRead p loose mg mb base) (h : topCheck K T = true) : CxOk (cxOf prog w base K T mg mb) := by
  have O := topOk_of h
  refine ⟨X, R.g, R.b, R.nolimit, fun x v hx => ⟨mg_none_of X R.g (O.bn x v hx), ?_⟩, fun x i hx => ?_, ?_, fun c Cl hc => ?_, fun f a hf => ?_, fun c fa hf hc => ?_, fun c name fa Cl hf hc hcl => ?_, fun c name Cl hf hcl => ?_⟩
  · have h1 := List.all_eq_true.mp boot_ok _ hx
    have h2 := List.all_eq_true.mp noName_ok _ hx
    show mb _ = _
    rw [R.builtins _ (of_decide_eq_true h2)]
    exact beq_iff_eq.mp h1
  · unfold globs at hx
    split at hx
    · cases hx
      refine ob6 O.most ?_
      intro t ht
      exact ⟨t, mg_of X R.g ht⟩
    · cases hx
  · show T.cls.lookup "" = none
    cases q : T.cls.lookup "" with
    | none => rfl
    | some a => exact absurd rfl (O.cls _ _ (lookup_memP q)).1
  · exact mg_of X R.g (O.cls _ _ (lookup_memP hc)).2
  · refine ob22 (O.fn _ _ _ (lookup_memP hf)) ?_
    intro h1 h2 _
    refine ob5 (isFd_at X h1) ?_
    intro o ho hd
    exact ⟨mg_of X R.g (h2 rfl), o, _, ho, hd⟩
  · refine lift fun gg back => ?_
    refine ob22 (O.fn _ _ _ (lookup_memP hf)) ?_
    intro h1 _ h3
    refine ob41 (h3 hc) ?_
    intro Cl y1 y2 y3 y4 y5 y6
    refine ob8 (y6 rfl) ?_
    intro z1 z2
    refine back ?_
    clear back gg
    exact ⟨Cl, y1, z1, z2, y3, y5⟩
  · refine ob22 (O.fn _ _ _ (lookup_memP hf)) ?_
    intro h1 _ h3
    refine ob41 (h3 hc) ?_
    intro Cl' y1 y2 y3 y4 y5 y6
    have : Cl' = Cl := Option.some.inj (y1.symm.trans hcl)
    subst this
    refine ob5 (isFd_at X h1) ?_
    intro o ho hd
    exact ⟨clsOk_of y2, y3, y4, o, _, ho, hd⟩
  · have hm : (c, name) ∈ T.fld := by simpa [cxOf] using hf
    refine ob10 (O.fld _ _ hm) ?_
    intro Cl' y1 y2 y3
    have : Cl' = Cl := Option.some.inj (y1.symm.trans hcl)
    subst this
    exact ⟨clsOk_of y2, y3⟩

theorem excm_ok {A : Around} {s : Shared} {a Cl Dl : Addr} {o : Obj} {b : Bool} {Q : Bool → Shared → Prop} {E : Value → Shared → Prop} (X : K.In s.heap) (ZD : ExcCls K Dl) (ht : instIn K (.ref Dl) (.type "tuple") = some false)
    (ho : s.heap.get? a = some o) (hc : o.cls = .ref Cl) (hs : subIn K (.ref Cl) (.ref Dl) = some b) (q : Q b s) : wpAny (model prog w) A (excMatches (.ref a) (.ref Dl)) Q E s := by
  refine lift fun gg back => ?_
  obtain ⟨hh, g, d, t, os⟩ := s
  refine back ?_
  clear back gg
  have L1 := looks_instIn (M := model prog w) X ht
  have L2 : Looks (model prog w) hh (isType (.ref Dl)) true := by
    refine ob6 (Option.isSome_iff_exists.mp ZD.cls) ?_
    intro cdD hcD
    unfold clsIn at hcD
    split at hcD
    · rename_i c' d' cd' sl' ho
      intro A' Q' E' s' k q
      unfold isType loadHead
      exact wpAny_bind (wpAny_loadPart (k _ _ (X _ _ ho)) (wpAny_pure q))
    · cases hcD
  have L3 := looks_mroIn (M := model prog w) X ZD.base
  have L4 : Looks (model prog w) hh (typeOf (.ref a)) (.ref Cl) := hc ▸ (Looks.ld ho).andThen .now
  have L5 := looks_subIn (M := model prog w) X hs
  unfold excMatches isExcClass
  refine wpAny_bind (L1.at ?_)
  simp only [Bool.false_eq_true, if_false]
  refine wpAny_bind (wpAny_pure ?_)
  simp only [List.forIn_cons, List.forIn_nil]
  refine wpAny_bind (wpAny_bind (wpAny_bind (wpAny_bind (L2.at ?_))))
  simp only [if_true]
  refine L3.at ?_
  simp only [Bool.not_true, Bool.false_eq_true, if_false]
  refine wpAny_pure (wpAny_pure (wpAny_bind (L4.at (wpAny_bind (wpAny_bind (wpAny_bind (L5.at ?_)))))))
  cases b with
  | true => exact wpAny_pure (wpAny_pure (wpAny_pure q))
  | false => exact wpAny_pure (wpAny_pure (wpAny_pure q))

theorem cxIs_of {p : Program} {loose : List Str} (X : K.In base) (R : TopRead p loose mg mb base) (h : topCheck K T = true) : CxIs (cxOf prog w base K T mg mb) := by
  have O := topOk_of h
  refine ⟨fun {c D vD A s a Cl o vs Q E} hc hin hD hst hcl ho hoc hdd hod hq => ?_, fun D vD hD => ?_, fun c hc => ?_, fun {c D A s a Cl Dl o vs Q E} hc hD hst hcl hDl ho hoc hod hq => ?_, fun D hD => ?_⟩
  · refine ob2 (O.exc c hc) ?_
    intro Cl' y1 y2 _ y4
    have : Cl' = Cl := Option.some.inj (y1.symm.trans hcl)
    subst this
    have hv : clsVT T D = some vD := hD
    refine ob5 (y4 D hin) ?_
    intro v hv' hk
    rw [hv] at hv'; cases hv'
    exact exc_isi (excCls_of y2).1 (X.keeps hst) ho hoc hod hdd hk hq
  · by_cases hv : D = "ValueError"
    · subst hv
      have : some (Value.type "ValueError") = some vD := hD
      cases this
      exact .inr ⟨rfl, rfl⟩
    · have hD' : (T.cls.lookup D).map Value.ref = some vD := by
        have : clsV (cxOf prog w base K T mg mb) D = some vD := hD
        unfold clsV at this
        rw [if_neg hv] at this
        exact this
      refine ob5 (Option.map_eq_some_iff.mp hD') ?_
      intro a ha ee120
      subst ee120
      exact .inl (mg_of X R.g (O.cls _ _ (lookup_memP ha)).2)
  · refine ob10 (O.exc c hc) ?_
    intro Cl y1 y2 _
    exact ⟨Cl, _, _, _, _, y1, F.excBase_ValueError, own_of_in X R (O.cls _ _ (lookup_memP y1)).2 (excCls_of y2).2.2⟩
  · refine ob2 (O.exc c hc) ?_
    intro Cl' y1 y2 y3 _
    have : Cl' = Cl := Option.some.inj (y1.symm.trans hcl)
    subst this
    refine ob5 (y3 D hD) ?_
    intro Dl' z1 z2
    have : Dl' = Dl := Option.some.inj (z1.symm.trans hDl)
    subst this
    refine ob10 (O.exc D hD) ?_
    intro Dl2 w1 w2 _
    have : Dl2 = Dl' := Option.some.inj (w1.symm.trans z1)
    subst this
    exact excm_ok (X.keeps hst) (excCls_of w2).1 (excCls_of w2).2.1 ho hoc z2 hq
  · refine ob2 (O.exc "BadNet" (by decide)) ?_
    intro _ _ _ _ y4
    refine ob5 (y4 D hD) ?_
    intro v hv _
    exact ⟨v, hv⟩

/-- a function's object fits its form -/
noncomputable def fnCheck (K : Frag) (a : Addr) (F : Fn) : Bool := match fdOf K a with
  | fd => match fd.body with
    | .stmts body => isFd K a && fd.globals == mainGlobals && fd.builtins == builtinsNs && fd.closure.isEmpty && fd.scope.kind == .function && !fd.scope.isCoroutine && !fd.scope.isGenerator && codeIn K fd.code fd.qualname &&
        matchSs (scOf F fd.scope.names) F.body body && F.params.all (fun x => fd.scope.names.lookup (Str.ofString x) == some .local || fd.scope.names.lookup (Str.ofString x) == some .cell) && fd.scope.names.all (fun p => p.2 != .free) &&
        decide F.names.Nodup && decide (F.names.length ≤ F.size) && decide (F.params <+: F.names)
    | _ => false
theorem fnOk_of {C : Cx} {a : Addr} {F : Fn} (X : K.In C.base) (h : fnCheck K a F = true) (hb : ∀ xs : List Value, xs.length = F.params.length → bindArgs (fdOf K a) ⟨xs, []⟩ = pure ((F.params.map Str.ofString).zip xs)) : FnOk C a F := by
  unfold fnCheck at h
  dsimp only at h
  split at h
  · rename_i body hbody
    simp only [Bool.and_eq_true, beq_iff_eq, Bool.not_eq_true', decide_eq_true_eq, List.isEmpty_iff] at h
    refine ob42 h ?_
    clear h
    intro h1 h2 h3 h4 h5 h6 h7 h8 h9 h10 h11 h12 h13 h14
    refine ob5 (isFd_at X h1) ?_
    intro o ho hd
    refine ⟨⟨o, _, body, ho, hd, hbody, h2, h3, h4, h5, h6, h7, codeRec_of X h8, hb, h9, fun x hx => ?_, fun x hx => ?_⟩, h12, h13, h14⟩
    · have := List.all_eq_true.mp h10 x hx
      simpa using this
    · have := List.all_eq_true.mp h11 _ (PySem.mem_of_lookup hx)
      simp at this
  · cases h
end
end Mine.Internal
end

section
set_option maxRecDepth 100000
namespace Mine.Internal
open PySem PySem.W PySem.Calls PyProof.Rows

/-- plain parameters, by place alone -/
noncomputable def plainPar (fd : FuncData) (ps : List String) : Bool := fd.params.posonlyargs.isEmpty && (fd.params.args.map (·.arg) == ps.map Str.ofString) && fd.params.vararg.isNone && fd.params.kwonlyargs.isEmpty && fd.params.kwarg.isNone && (match fd.defaults with | .none => true | _ => false) && decide ((ps.map Str.ofString).Nodup)

theorem lookup_zip {ns : List Str} {xs : List Value} (h : xs.length = ns.length) {n : Str} (hn : n ∈ ns) : ((ns.zip xs).lookup n).isSome = true := by
  induction ns generalizing xs with
  | nil => cases hn
  | cons m ns ih =>
    cases xs with
    | nil => simp at h
    | cons x xs =>
      rw [List.zip_cons_cons, List.lookup_cons]
      cases e : n == m with
      | true => rfl
      | false =>
        rcases List.mem_cons.mp hn with rfl | hn
        · rw [beq_self_eq_true] at e; cases e
        · exact ih (by simpa using h) hn
theorem fm_congr {α β : Type} {f g : α → Option β} : ∀ {l : List α}, (∀ a ∈ l, f a = g a) → l.filterMap f = l.filterMap g
  | [], _ => rfl
  | a :: l, h => by rw [List.filterMap_cons, List.filterMap_cons, h a List.mem_cons_self, fm_congr fun b hb => h b (List.mem_cons_of_mem _ hb)]
theorem zip_back {ns : List Str} {xs : List Value} (hn : ns.Nodup) (h : xs.length = ns.length) : ns.filterMap (fun n => ((ns.zip xs).lookup n).map (n, ·)) = ns.zip xs := by
  induction ns generalizing xs with
  | nil => rfl
  | cons m ns ih =>
    cases xs with
    | nil => simp at h
    | cons x xs =>
      have hm := (List.nodup_cons.mp hn).1
      rw [List.zip_cons_cons, List.filterMap_cons]
      simp only [List.lookup_cons, beq_self_eq_true, Option.map_some]
      congr 1
      refine (fm_congr ?_).trans (ih (List.nodup_cons.mp hn).2 (by simpa using h))
      intro n hnm
      have : (n == m) = false := by
        cases e : n == m with
        | false => rfl
        | true => rw [beq_iff_eq] at e; subst e; exact absurd hnm hm
      rw [this]
theorem bind_ok {fd : FuncData} {ps : List String} (hp : plainPar fd ps = true) (xs : List Value) (hx : xs.length = ps.length) : bindArgs fd ⟨xs, []⟩ = pure ((ps.map Str.ofString).zip xs) := by
  refine lift fun gg back => ?_
  obtain ⟨name, qn, ⟨po, as, va, ko, kd, kw, df⟩, body, scope, gl, cl, defs, kwd, doc, pm, an, cd, ct, bl⟩ := fd
  refine back ?_
  clear back gg
  simp only [plainPar, Bool.and_eq_true, List.isEmpty_iff, beq_iff_eq, Option.isNone_iff_eq_none, decide_eq_true_eq] at hp
  refine ob34 hp ?_
  clear hp
  intro ee121
  subst ee121
  intro hn ee122
  subst ee122
  intro ee123
  subst ee123
  intro ee124
  subst ee124
  intro hd hnd
  have hd : defs = .none := by cases defs <;> first | rfl | cases hd
  subst hd
  have hl : xs.length = (ps.map Str.ofString).length := by simpa using hx
  have miss : (as.map (·.arg)).filter (fun n => (((as.map (·.arg)).zip xs).lookup n).isNone) = [] := by
    rw [hn, List.filter_eq_nil_iff]
    intro n hm
    have := lookup_zip hl hm
    simp [Option.isNone_iff_eq_none, Option.isSome_iff_ne_none] at this ⊢
    exact this
  have hgt : ¬ (xs.length > (as.map (·.arg)).length) := by rw [hn, hl]; exact Nat.lt_irrefl _
  have hb : (as.map (·.arg)).filterMap (fun n => (((as.map (·.arg)).zip xs).lookup n).map (n, ·)) = (ps.map Str.ofString).zip xs := by
    rw [hn]
    exact zip_back hnd hl
  have hdrop : (as.map (·.arg)).drop ((as.map (·.arg)).length - 0) = [] := by simp
  have hns : notAStandIn (Value.none) = (pure () : Sem Unit) := by rfl
  unfold bindArgs
  simp only [seqItems?, List.map_nil, List.nil_append, hgt, hns, pure_bind, List.forIn_nil, Option.getD_none, List.length_nil, List.drop_nil, Nat.sub_zero, List.take_length, miss, List.append_nil, hb, Option.isNone_none, Bool.and_true, decide_false, Bool.false_eq_true, if_false, List.isEmpty_nil, Bool.not_true, List.zip_nil_right]
end Mine.Internal
end

section
set_option maxRecDepth 100000
namespace Mine.Internal
open PySem PySem.W PySem.Calls PyProof.Rows

noncomputable def forceK (h : Heap) (k : Frag → Bool) : List Addr → Frag → Bool
  | [], acc => k acc
  | a :: as, acc => match h.get? a with
    | some o => forceK h k as ((a, o) :: acc)
    | none => forceK h k as acc
theorem forceK_in {h : Heap} {k : Frag → Bool} : ∀ {as : List Addr} {acc : Frag}, forceK h k as acc = true → acc.In h → ∃ K : Frag, K.In h ∧ k K = true
  | [], acc, e, i => ⟨acc, i, e⟩
  | a :: as, acc, e, i => by
    cases ho : h.get? a with
    | none =>
      simp only [forceK, ho] at e
      exact forceK_in e i
    | some o =>
      simp only [forceK, ho] at e
      refine forceK_in e ?_
      intro b p hp
      rw [List.lookup_cons] at hp
      cases e' : b == a with
      | true => rw [e'] at hp; cases hp; rw [beq_iff_eq.mp e']; exact ho
      | false => rw [e'] at hp; exact i b p hp

/-- every function of the text stands as its own form says -/
noncomputable def fnsCheck (T : Tabs) (fns : List ((String × String) × Fn)) (K : Frag) : Bool := fns.all fun p => match T.fn.lookup p.1 with
  | some a => fnCheck K a p.2 && plainPar (fdOf K a) p.2.params
  | none => false
noncomputable def allCheck (T : Tabs) (fns : List ((String × String) × Fn)) (law : Addr) (K : Frag) : Bool := topCheck K T && fnsCheck T fns K && (nsIn K mainGlobals (Str.ofString "law") == some (some (.ref law)))
noncomputable def obsK (T : Tabs) (fns : List ((String × String) × Fn)) (law : Addr) (n : Nat) (s : Shared) : Bool := forceK s.heap (allCheck T fns law) (List.range n) []
noncomputable def saysK (T : Tabs) (fns : List ((String × String) × Fn)) (law : Addr) (h : Heap) : Prop := ∃ K : Frag, K.In h ∧ allCheck T fns law K = true
theorem saysK_of {T : Tabs} {fns : List ((String × String) × Fn)} {law : Addr} {n : Nat} {s : Shared} (e : obsK T fns law n s = true) : saysK T fns law s.heap := forceK_in e (fun _ _ hp => by cases hp)
theorem saysK_keeps {T : Tabs} {fns : List ((String × String) × Fn)} {law : Addr} {h h' : Heap} (y : saysK T fns law h) (k : ∀ b o, h.get? b = some o → h'.get? b = some o) : saysK T fns law h' := let ⟨K, i, e⟩ := y; ⟨K, i.keeps k, e⟩

theorem tabOkK {T : Tabs} {fns : List ((String × String) × Fn)} {fld : String → String → Bool} {prog : Program} {w : World} {base : Heap} {K : Frag} {mg mb : Str → Option Value} (X : K.In base) (h : fnsCheck T fns K = true) (hf : ∀ c f, fld c f = true → T.fld.contains (c, f) = true) :
    TabOk (cxOf prog w base K T mg mb) (fun c f => fns.lookup (c, f)) fld := by
  refine ⟨fun c f F e => ?_, fun c f e => hf c f e⟩
  have hm := List.all_eq_true.mp h _ (lookup_memP e)
  dsimp only at hm
  split at hm
  · rename_i a ha
    simp only [Bool.and_eq_true] at hm
    exact ⟨a, ha, fnOk_of X hm.1 fun xs hx => bind_ok hm.2 xs hx⟩
  · cases hm
end Mine.Internal
end

section
set_option maxRecDepth 100000
namespace Mine.Internal
open PySem PySem.W PySem.Calls PyProof.Rows

/-- the end of the top may be looked at more than once -/
theorem left_of {p q : Program} {loose : List Str} {Xt : Shared → Bool} {Yf : Shared → Bool} {N : Nat} (a : ∀ w, (openEnds treeTable p w N).map (fun s => openSeen q loose (importedModules p.main.body) Xt true s) = some (openGood q loose))
    (b : ∀ w, (openEnds treeTable p w N).map Yf = some true) : LeftO p q loose Xt Yf (fun _ => true) N := fun w => by
  refine ob5 (Option.map_eq_some_iff.mp (a w)) ?_
  intro s e h
  have hb := b w
  rw [e] at hb ⊢
  have hb' : Yf s = true := Option.some.inj hb
  rw [Option.map_some, h, hb']
theorem both_of_ends {p : Program} {Y Z : Shared → Bool} {N : Nat} (a : ∀ w, (openEnds treeTable p w N).map Y = some true) (b : ∀ w, (openEnds treeTable p w N).map Z = some true) : ∀ w, (openEnds treeTable p w N).map (fun s => Y s && Z s) = some true := fun w => by
  refine ob5 (Option.map_eq_some_iff.mp (a w)) ?_
  intro s e h
  have hb := b w
  rw [e] at hb ⊢
  have hb' : Z s = true := Option.some.inj hb
  rw [Option.map_some, h, hb']; rfl
theorem forceK_and {h : Heap} {k j : Frag → Bool} : ∀ {as : List Addr} {acc : Frag}, (forceK h k as acc && forceK h j as acc) = forceK h (fun K => k K && j K) as acc
  | [], acc => rfl
  | a :: as, acc => by
    cases e : h.get? a with
    | none => simp only [forceK, e]; exact forceK_and
    | some o => simp only [forceK, e]; exact forceK_and
/-- the checks, in two parts -/
noncomputable def obs1 (T : Tabs) (fns : List ((String × String) × Fn)) (law : Addr) (n i : Nat) (s : Shared) : Bool := forceK s.heap (fun K => topCheck K T && fnsCheck T (fns.take i) K && (nsIn K mainGlobals (Str.ofString "law") == some (some (.ref law)))) (List.range n) []
noncomputable def obs2 (T : Tabs) (fns : List ((String × String) × Fn)) (n i : Nat) (s : Shared) : Bool := forceK s.heap (fnsCheck T (fns.drop i)) (List.range n) []
theorem obs_of {T : Tabs} {fns : List ((String × String) × Fn)} {law : Addr} {n i : Nat} : (fun s => obs1 T fns law n i s && obs2 T fns n i s) = obsK T fns law n := by
  funext s
  unfold obs1 obs2 obsK
  rw [forceK_and]
  congr 1
  funext K
  have : fnsCheck T fns K = (fnsCheck T (fns.take i) K && fnsCheck T (fns.drop i) K) := by
    unfold fnsCheck
    rw [← List.all_append, List.take_append_drop]
  unfold allCheck
  rw [this]
  cases topCheck K T <;> cases fnsCheck T (fns.take i) K <;> cases fnsCheck T (fns.drop i) K <;> cases (nsIn K mainGlobals (Str.ofString "law") == some (some (.ref law))) <;> rfl
end Mine.Internal
end

section
namespace Mine.Internal
open PySem
noncomputable def F_is_place : Fn := ⟨["thing", "size"], ["thing", "size"], 2,
  .cons (.ret (.bool true (.cons (.isin (.var 0) .int) (.cons (.not (.isin (.var 0) .bool)) (.cons (.cmp2 .LtE .Lt (.int 0) (.var 0) (.var 1)) .nil))))) (
  .nil)⟩

noncomputable def F_is_tie : Fn := ⟨["thing", "size"], ["thing", "size"], 2,
  .cons (.iff (.bool false (.cons (.not (.isin (.var 0) .tuple)) (.cons (.cmp .NotEq (.b1 .len (.var 0)) (.int 2)) .nil))) (.cons (.ret (.ff)) (
    .nil)) (.nil)) (
  .cons (.ret (.bool true (.cons (.call "is_place" (.cons (.idx (.var 0) (.int 0)) (.cons (.var 1) .nil))) (.cons (.call "is_place" (.cons (.idx (.var 0) (.int 1)) (.cons (.var 1) .nil))) (.cons (.cmp .Lt (.idx (.var 0) (.int 0)) (.idx (.var 0) (.int 1))) .nil))))) (
  .nil))⟩

noncomputable def T_Net_init_1 : Sts := .cons (.setitem (.var 3) (.var 4) (.tt)) (
  .cons (.expr (.m1 (.idx (.attr (.var 0) "rows") (.idx (.var 4) (.int 0))) .append (.idx (.var 4) (.int 1)))) (
  .cons (.expr (.m1 (.idx (.attr (.var 0) "rows") (.idx (.var 4) (.int 1))) .append (.idx (.var 4) (.int 0)))) (
  .nil)))

noncomputable def L_Net_init_1 : Sts := .cons (.iff (.bool false (.cons (.not (.call "is_tie" (.cons (.var 4) (.cons (.var 1) .nil)))) (.cons (.cmp .In (.var 4) (.var 3)) .nil))) (.cons (.raise "BadNet" "no tie, or one that is told twice") (
    .nil)) (.nil)) (
  T_Net_init_1)

noncomputable def T_Net_init_2 : Sts := .cons (.setattr (.var 0) "rows" (.comp [("row", 6)] (.b1 .sorted (.var 6)) (.one 6) (.attr (.var 0) "rows") .none)) (
  .nil)

noncomputable def T_Net_init_3 : Sts := .cons (.assign (.one 3) (.dict0)) (
  .cons (.for (.one 4) (.var 2) (L_Net_init_1)) (
  T_Net_init_2))

noncomputable def T_Net_init_4 : Sts := .cons (.setattr (.var 0) "size" (.var 1)) (
  .cons (.setattr (.var 0) "rows" (.comp [("place", 5)] (.list (.nil)) (.one 5) (.range1 (.var 1)) .none)) (
  T_Net_init_3))

noncomputable def F_Net_init : Fn := ⟨["self", "size", "ties"], ["self", "size", "ties", "seen", "tie"], 7,
  .cons (.iff (.bool false (.cons (.not (.call "is_place" (.cons (.var 1) (.cons (.bin .Add (.glob "MOST_PLACES") (.int 1)) .nil)))) (.cons (.cmp .Lt (.var 1) (.int 1)) (.cons (.not (.isin (.var 2) .list)) .nil)))) (.cons (.raise "BadNet" "no net") (
    .nil)) (.nil)) (
  T_Net_init_4)⟩

noncomputable def L_Net_ties_1 : Sts := .cons (.iff (.cmp .Lt (.var 2) (.var 3)) (.cons (.expr (.m1 (.var 1) .append (.tuple (.cons (.var 2) (.cons (.var 3) .nil))))) (
    .nil)) (.nil)) (
  .nil)

noncomputable def L_Net_ties_2 : Sts := .cons (.for (.one 3) (.idx (.attr (.var 0) "rows") (.var 2)) (L_Net_ties_1)) (
  .nil)

noncomputable def T_Net_ties_1 : Sts := .cons (.ret (.var 1)) (
  .nil)

noncomputable def F_Net_ties : Fn := ⟨["self"], ["self", "found", "place", "other"], 4,
  .cons (.assign (.one 1) (.list (.nil))) (
  .cons (.for (.one 2) (.range1 (.attr (.var 0) "size")) (L_Net_ties_2)) (
  T_Net_ties_1))⟩

noncomputable def T_Net_beside_1 : Sts := .cons (.ret (.b1 .list (.idx (.attr (.var 0) "rows") (.var 1)))) (
  .nil)

noncomputable def F_Net_beside : Fn := ⟨["self", "place"], ["self", "place"], 2,
  .cons (.iff (.not (.call "is_place" (.cons (.var 1) (.cons (.attr (.var 0) "size") .nil)))) (.cons (.raise "NoPlace" "no such place") (
    .nil)) (.nil)) (
  T_Net_beside_1)⟩

noncomputable def T_mates_1 : Sts := .cons (.iff (.bool false (.cons (.cmp .GtE (.idx (.var 2) (.idx (.var 3) (.int 0))) (.int 0)) (.cons (.cmp .GtE (.idx (.var 2) (.idx (.var 3) (.int 1))) (.int 0)) .nil))) (.cons (.raise "BadPairs" "a place in two pairs") (
    .nil)) (.nil)) (
  .cons (.setitem (.var 2) (.idx (.var 3) (.int 0)) (.idx (.var 3) (.int 1))) (
  .cons (.setitem (.var 2) (.idx (.var 3) (.int 1)) (.idx (.var 3) (.int 0))) (
  .nil)))

noncomputable def L_mates_1 : Sts := .cons (.iff (.bool false (.cons (.not (.call "is_tie" (.cons (.var 3) (.cons (.attr (.var 0) "size") .nil)))) (.cons (.cmp .NotIn (.idx (.var 3) (.int 1)) (.idx (.attr (.var 0) "rows") (.idx (.var 3) (.int 0)))) .nil))) (.cons (.raise "BadPairs" "a pair that is no tie") (
    .nil)) (.nil)) (
  T_mates_1)

noncomputable def T_mates_2 : Sts := .cons (.ret (.var 2)) (
  .nil)

noncomputable def T_mates_3 : Sts := .cons (.for (.one 3) (.var 1) (L_mates_1)) (
  T_mates_2)

noncomputable def F_mates : Fn := ⟨["net", "pairs"], ["net", "pairs", "found", "pair"], 5,
  .cons (.iff (.not (.isin (.var 1) .list)) (.cons (.raise "BadPairs" "no list") (
    .nil)) (.nil)) (
  .cons (.assign (.one 2) (.comp [("place", 4)] (.neg (.int 1)) (.one 4) (.range1 (.attr (.var 0) "size")) .none)) (
  T_mates_3))⟩

noncomputable def F_told : Fn := ⟨["mate"], ["mate"], 2,
  .cons (.ret (.comp [("place", 1)] (.tuple (.cons (.var 1) (.cons (.idx (.var 0) (.var 1)) .nil))) (.one 1) (.range1 (.b1 .len (.var 0))) (.some (.cmp .Gt (.idx (.var 0) (.var 1)) (.var 1))))) (
  .nil)⟩

noncomputable def F_checked : Fn := ⟨["net", "pairs"], ["net", "pairs"], 2,
  .cons (.ret (.call "told" (.cons (.call "mates" (.cons (.var 0) (.cons (.var 1) .nil))) .nil))) (
  .nil)⟩

noncomputable def T_alone_1 : Sts := .cons (.ret (.comp [("place", 3)] (.var 3) (.one 3) (.range1 (.attr (.var 0) "size")) (.some (.cmp .Lt (.idx (.var 2) (.var 3)) (.int 0))))) (
  .nil)

noncomputable def F_alone : Fn := ⟨["net", "pairs"], ["net", "pairs", "mate"], 4,
  .cons (.assign (.one 2) (.call "mates" (.cons (.var 0) (.cons (.var 1) .nil)))) (
  T_alone_1)⟩

noncomputable def L_turned_1 : Sts := .cons (.setitem (.var 3) (.idx (.var 2) (.var 4)) (.idx (.var 2) (.bin .Add (.var 4) (.int 1)))) (
  .cons (.setitem (.var 3) (.idx (.var 2) (.bin .Add (.var 4) (.int 1))) (.idx (.var 2) (.var 4))) (
  .nil))

noncomputable def T_turned_1 : Sts := .cons (.ret (.call "told" (.cons (.var 3) .nil))) (
  .nil)

noncomputable def T_turned_2 : Sts := .cons (.for (.one 4) (.range3 (.int 0) (.b1 .len (.var 2)) (.int 2)) (L_turned_1)) (
  T_turned_1)

noncomputable def T_turned_3 : Sts := .cons (.iff (.not (.call "is_way" (.cons (.var 0) (.cons (.var 3) (.cons (.var 2) .nil))))) (.cons (.raise "BadWay" "no way") (
    .nil)) (.nil)) (
  T_turned_2)

noncomputable def F_turned : Fn := ⟨["net", "pairs", "way"], ["net", "pairs", "way", "mate", "k"], 5,
  .cons (.assign (.one 3) (.call "mates" (.cons (.var 0) (.cons (.var 1) .nil)))) (
  T_turned_3)⟩

noncomputable def T_better_1 : Sts := .cons (.iff (.cmp .GtE (.var 5) (.int 0)) (.cons (.ret (.call "road" (.cons (.var 4) (.cons (.var 5) .nil)))) (
      .nil)) (.nil)) (
    .nil)

noncomputable def T_better_2 : Sts := .cons (.assign (.one 5) (.meth (.var 4) "found" (.nil))) (
    T_better_1)

noncomputable def L_better_1 : Sts := .cons (.iff (.cmp .Lt (.idx (.var 2) (.var 3)) (.int 0)) (.cons (.assign (.one 4) (.make "Search" (.cons (.var 0) (.cons (.var 2) (.cons (.var 3) .nil))))) (
    T_better_2)) (.nil)) (
  .nil)

noncomputable def T_better_3 : Sts := .cons (.ret (.none)) (
  .nil)

noncomputable def T_better_4 : Sts := .cons (.for (.one 3) (.range1 (.attr (.var 0) "size")) (L_better_1)) (
  T_better_3)

noncomputable def F_better : Fn := ⟨["net", "pairs"], ["net", "pairs", "mate", "root", "search", "end"], 6,
  .cons (.assign (.one 2) (.call "mates" (.cons (.var 0) (.cons (.var 1) .nil)))) (
  T_better_4)⟩

noncomputable def F_law_sole : Fn := ⟨["_law_error"], ["_law_error", "_law_many"], 2,
  .cons (.assign (.one 1) (.int 0)) (
  .cons (.assign (.one 1) (.bin .Add (.var 1) (.b1 .int (.isin (.var 0) (.cls "BadNet"))))) (
  .cons (.assign (.one 1) (.bin .Add (.var 1) (.b1 .int (.isin (.var 0) (.cls "NoPlace"))))) (
  .cons (.assign (.one 1) (.bin .Add (.var 1) (.b1 .int (.isin (.var 0) (.cls "BadPairs"))))) (
  .cons (.assign (.one 1) (.bin .Add (.var 1) (.b1 .int (.isin (.var 0) (.cls "BadWay"))))) (
  .cons (.assign (.one 1) (.bin .Add (.var 1) (.b1 .int (.isin (.var 0) (.cls "TieThere"))))) (
  .cons (.assign (.one 1) (.bin .Add (.var 1) (.b1 .int (.isin (.var 0) (.cls "NoTie"))))) (
  .cons (.assign (.one 1) (.bin .Add (.var 1) (.b1 .int (.isin (.var 0) (.cls "OddRing"))))) (
  .cons (.ret (.bool true (.cons (.cmp .Eq (.var 1) (.int 1)) (.cons (.isin (.var 0) (.cls "NetError")) (.cons (.isin (.var 0) (.cls "ValueError")) .nil))))) (
  .nil)))))))))⟩

noncomputable def F_law_whole : Fn := ⟨["_law_found"], ["_law_found"], 1,
  .cons (.ret (.bool true (.cons (.isin (.var 0) .int) (.cons (.not (.isin (.var 0) .bool)) .nil)))) (
  .nil)⟩

noncomputable def F_law_cell_at : Fn := ⟨["_law_script", "_law_k"], ["_law_script", "_law_k"], 2,
  .cons (.iff (.cmp .Lt (.var 1) (.b1 .len (.var 0))) (.cons (.ret (.idx (.var 0) (.var 1))) (
    .nil)) (.nil)) (
  .cons (.ret (.int 0)) (
  .nil))⟩

noncomputable def F_law_tied : Fn := ⟨["_law_kind", "_law_cell", "_law_one", "_law_other", "_law_size"], ["_law_kind", "_law_cell", "_law_one", "_law_other", "_law_size"], 5,
  .cons (.iff (.cmp .Eq (.var 0) (.int 0)) (.cons (.ret (.cmp .Eq (.bin .Mod (.var 1) (.int 3)) (.int 0))) (
    .nil)) (.nil)) (
  .cons (.iff (.cmp .Eq (.var 0) (.int 1)) (.cons (.ret (.bool false (.cons (.cmp .Eq (.var 3) (.bin .Add (.var 2) (.int 1))) (.cons (.bool true (.cons (.cmp .Eq (.var 2) (.int 0)) (.cons (.cmp .Eq (.var 3) (.bin .Sub (.var 4) (.int 1))) .nil))) (.cons (.cmp .Eq (.bin .Mod (.var 1) (.int 11)) (.int 0)) .nil))))) (
    .nil)) (.nil)) (
  .cons (.iff (.cmp .Eq (.var 0) (.int 2)) (.cons (.ret (.bool true (.cons (.cmp .Eq (.bin .Mod (.bin .Add (.var 2) (.var 3)) (.int 2)) (.int 1)) (.cons (.cmp .Eq (.bin .Mod (.var 1) (.int 2)) (.int 0)) .nil)))) (
    .nil)) (.nil)) (
  .cons (.iff (.cmp .Eq (.var 0) (.int 3)) (.cons (.ret (.bool false (.cons (.bool true (.cons (.cmp .Lt (.var 2) (.int 2)) (.cons (.cmp .Gt (.bin .Mod (.var 1) (.int 3)) (.int 0)) .nil))) (.cons (.bool true (.cons (.cmp .Gt (.var 2) (.int 1)) (.cons (.cmp .Eq (.bin .FloorDiv (.bin .Sub (.var 2) (.int 2)) (.int 3)) (.bin .FloorDiv (.bin .Sub (.var 3) (.int 2)) (.int 3))) .nil))) .nil)))) (
    .nil)) (.nil)) (
  .cons (.ret (.cmp .Gt (.bin .Mod (.var 1) (.int 4)) (.int 0))) (
  .nil)))))⟩

noncomputable def T_law_ties_by_1 : Sts := .cons (.iff (.call "_law_tied" (.cons (.var 2) (.cons (.bin .FloorDiv (.var 7) (.bin .Add (.int 1) (.bin .Mod (.var 4) (.int 3)))) (.cons (.var 4) (.cons (.var 5) (.cons (.var 1) .nil)))))) (.cons (.expr (.m1 (.var 3) .append (.tuple (.cons (.var 4) (.cons (.var 5) .nil))))) (
    .nil)) (.nil)) (
  .nil)

noncomputable def L_law_ties_by_1 : Sts := .cons (.assign (.one 6) (.bin .Add (.bin .FloorDiv (.bin .Mult (.var 5) (.bin .Sub (.var 5) (.int 1))) (.int 2)) (.var 4))) (
  .cons (.assign (.one 7) (.bin .Add (.call "_law_cell_at" (.cons (.var 0) (.cons (.bin .Add (.int 3) (.bin .Mod (.var 6) (.int 24))) .nil))) (.bin .Mult (.bin .FloorDiv (.var 6) (.int 24)) (.int 7919)))) (
  T_law_ties_by_1))

noncomputable def L_law_ties_by_2 : Sts := .cons (.for (.one 5) (.range2 (.bin .Add (.var 4) (.int 1)) (.var 1)) (L_law_ties_by_1)) (
  .nil)

noncomputable def T_law_ties_by_2 : Sts := .cons (.ret (.var 3)) (
  .nil)

noncomputable def F_law_ties_by : Fn := ⟨["_law_script", "_law_size", "_law_kind"], ["_law_script", "_law_size", "_law_kind", "_law_found", "_law_one", "_law_other", "_law_at", "_law_cell"], 8,
  .cons (.assign (.one 3) (.list (.nil))) (
  .cons (.for (.one 4) (.range1 (.var 1)) (L_law_ties_by_2)) (
  T_law_ties_by_2))⟩

noncomputable def F_law_size_by : Fn := ⟨["_law_script", "_law_bound"], ["_law_script", "_law_bound"], 2,
  .cons (.ret (.bin .Add (.int 1) (.bin .Mod (.call "_law_cell_at" (.cons (.var 0) (.cons (.int 0) .nil))) (.var 1)))) (
  .nil)⟩

noncomputable def F_law_kind_by : Fn := ⟨["_law_script"], ["_law_script"], 1,
  .cons (.ret (.bin .Mod (.call "_law_cell_at" (.cons (.var 0) (.cons (.int 1) .nil))) (.int 5))) (
  .nil)⟩

noncomputable def F_law_great : Fn := ⟨["_law_script"], ["_law_script"], 1,
  .cons (.ret (.cmp .Eq (.bin .Mod (.bin .FloorDiv (.call "_law_cell_at" (.cons (.var 0) (.cons (.int 0) .nil))) (.int 11)) (.int 9)) (.int 4))) (
  .nil)⟩

noncomputable def T_law_net_by_1 : Sts := .cons (.assign (.one 3) (.bin .Add (.int 1) (.bin .Mult (.int 2) (.bin .Mod (.var 3) (.int 2))))) (
    .nil)

noncomputable def T_law_net_by_2 : Sts := .cons (.ret (.tuple (.cons (.var 2) (.cons (.call "_law_ties_by" (.cons (.var 0) (.cons (.var 2) (.cons (.var 3) .nil)))) .nil)))) (
  .nil)

noncomputable def T_law_net_by_3 : Sts := .cons (.iff (.call "_law_great" (.cons (.var 0) .nil)) (.cons (.assign (.one 2) (.bin .Add (.int 30) (.bin .Mod (.bin .FloorDiv (.call "_law_cell_at" (.cons (.var 0) (.cons (.int 0) .nil))) (.int 99)) (.int 11)))) (
    T_law_net_by_1)) (.nil)) (
  T_law_net_by_2)

noncomputable def T_law_net_by_4 : Sts := .cons (.iff (.cmp .Eq (.bin .Mod (.bin .FloorDiv (.call "_law_cell_at" (.cons (.var 0) (.cons (.int 0) .nil))) (.int 11)) (.int 9)) (.int 6)) (.cons (.assign (.one 2) (.bin .Add (.int 12) (.bin .Mod (.bin .FloorDiv (.call "_law_cell_at" (.cons (.var 0) (.cons (.int 0) .nil))) (.int 99)) (.int 11)))) (
    .nil)) (.nil)) (
  T_law_net_by_3)

noncomputable def T_law_net_by_5 : Sts := .cons (.assign (.one 3) (.call "_law_kind_by" (.cons (.var 0) .nil))) (
  T_law_net_by_4)

noncomputable def F_law_net_by : Fn := ⟨["_law_script", "_law_bound"], ["_law_script", "_law_bound", "_law_size", "_law_kind"], 4,
  .cons (.assign (.one 2) (.call "_law_size_by" (.cons (.var 0) (.cons (.var 1) .nil)))) (
  T_law_net_by_5)⟩

noncomputable def T_law_pairing_by_1 : Sts := .cons (.iff (.bool true (.cons (.cmp .NotIn (.idx (.var 5) (.int 0)) (.var 3)) (.cons (.cmp .NotIn (.idx (.var 5) (.int 1)) (.var 3)) (.cons (.cmp .Gt (.bin .Mod (.call "_law_cell_at" (.cons (.var 0) (.cons (.bin .Add (.int 29) (.bin .Mod (.var 4) (.int 9))) .nil))) (.int 5)) (.int 0)) .nil)))) (.cons (.setitem (.var 3) (.idx (.var 5) (.int 0)) (.tt)) (
    .cons (.setitem (.var 3) (.idx (.var 5) (.int 1)) (.tt)) (
    .cons (.expr (.m1 (.var 2) .append (.var 5))) (
    .nil)))) (.nil)) (
  .nil)

noncomputable def L_law_pairing_by_1 : Sts := .cons (.assign (.one 5) (.idx (.var 1) (.bin .Mod (.bin .Add (.bin .Mult (.var 4) (.int 7)) (.call "_law_cell_at" (.cons (.var 0) (.cons (.int 28) .nil)))) (.b1 .len (.var 1))))) (
  T_law_pairing_by_1)

noncomputable def T_law_pairing_by_2 : Sts := .cons (.ret (.var 2)) (
  .nil)

noncomputable def F_law_pairing_by : Fn := ⟨["_law_script", "_law_ties"], ["_law_script", "_law_ties", "_law_found", "_law_taken", "_law_k", "_law_pair"], 6,
  .cons (.assign (.one 2) (.list (.nil))) (
  .cons (.assign (.one 3) (.dict0)) (
  .cons (.for (.one 4) (.range1 (.b1 .len (.var 1))) (L_law_pairing_by_1)) (
  T_law_pairing_by_2)))⟩

noncomputable def F_law_asked : Fn := ⟨["_law_net", "_law_pairs", "_law_way"], ["_law_net", "_law_pairs", "_law_way"], 3,
  .cons (.iff (.cmp .Eq (.var 2) (.int 0)) (.cons (.expr (.call "checked" (.cons (.var 0) (.cons (.var 1) .nil)))) (
    .nil)) (.cons (.iff (.cmp .Eq (.var 2) (.int 1)) (.cons (.expr (.call "alone" (.cons (.var 0) (.cons (.var 1) .nil)))) (
      .nil)) (.cons (.iff (.cmp .Eq (.var 2) (.int 2)) (.cons (.expr (.call "better" (.cons (.var 0) (.cons (.var 1) .nil)))) (
        .nil)) (.cons (.expr (.call "turned" (.cons (.var 0) (.cons (.var 1) (.cons (.list (.cons (.int 0) .nil)) .nil))))) (
        .nil))) (
      .nil))) (
    .nil))) (
  .nil)⟩

noncomputable def T_law_refused_1 : Sts := .cons (.ret (.ff)) (
    .nil)

noncomputable def L_law_refused_1 : Sts := .cons (.tryx (.cons (.expr (.call "_law_asked" (.cons (.var 0) (.cons (.var 1) (.cons (.var 2) .nil))))) (
    T_law_refused_1)) (.cons "BadPairs" 3 (.cons (.iff (.not (.call "_law_sole" (.cons (.var 3) .nil))) (.cons (.ret (.ff)) (
      .nil)) (.nil)) (
    .nil)) (.nil))) (
  .nil)

noncomputable def T_law_refused_2 : Sts := .cons (.ret (.tt)) (
  .nil)

noncomputable def F_law_refused : Fn := ⟨["_law_net", "_law_pairs"], ["_law_net", "_law_pairs", "_law_way", "_law_error"], 4,
  .cons (.for (.one 2) (.range1 (.int 4)) (L_law_refused_1)) (
  T_law_refused_2)⟩

noncomputable def T_law_wrong_by_1 : Sts := .cons (.ret (.idx (.comp [("_law_tie", 7)] (.var 7) (.one 7) (.var 2) (.some (.bool false (.cons (.cmp .In (.idx (.var 5) (.int 0)) (.var 7)) (.cons (.cmp .In (.idx (.var 5) (.int 1)) (.var 7)) .nil))))) (.bin .Mult (.bin .Mod (.bin .FloorDiv (.var 0) (.int 64)) (.int 2)) (.neg (.int 1))))) (
    .nil)

noncomputable def T_law_wrong_by_2 : Sts := .cons (.ret (.tuple (.cons (.idx (.var 5) (.int 1)) (.cons (.idx (.var 5) (.int 0)) .nil)))) (
    .nil)

noncomputable def T_law_wrong_by_3 : Sts := .cons (.iff (.cmp .NotEq (.var 6) (.list (.nil))) (.cons (.ret (.idx (.var 6) (.bin .Mod (.bin .FloorDiv (.var 0) (.int 4)) (.b1 .len (.var 6))))) (
      .nil)) (.nil)) (
    .nil)

noncomputable def T_law_wrong_by_4 : Sts := .cons (.ret (.idx (.var 4) (.bin .Mod (.bin .FloorDiv (.var 0) (.int 4)) (.int 8)))) (
  .nil)

noncomputable def T_law_wrong_by_5 : Sts := .cons (.iff (.cmp .Eq (.bin .Mod (.var 0) (.int 4)) (.int 3)) (.cons (.assign (.one 6) (.comp [("_law_one", 8)] (.tuple (.cons (.var 8) (.cons (.bin .Sub (.var 1) (.int 1)) .nil))) (.one 8) (.range1 (.bin .Sub (.var 1) (.int 1))) (.some (.cmp .NotIn (.tuple (.cons (.var 8) (.cons (.bin .Sub (.var 1) (.int 1)) .nil))) (.var 2))))) (
    T_law_wrong_by_3)) (.nil)) (
  T_law_wrong_by_4)

noncomputable def T_law_wrong_by_6 : Sts := .cons (.iff (.bool true (.cons (.cmp .Eq (.bin .Mod (.var 0) (.int 4)) (.int 2)) (.cons (.cmp .NotEq (.var 2) (.list .nil)) .nil))) (.cons (.assign (.one 5) (.idx (.var 2) (.bin .Mod (.bin .FloorDiv (.var 0) (.int 4)) (.b1 .len (.var 2))))) (
    T_law_wrong_by_2)) (.nil)) (
  T_law_wrong_by_5)

noncomputable def T_law_wrong_by_7 : Sts := .cons (.iff (.bool true (.cons (.cmp .Eq (.bin .Mod (.var 0) (.int 4)) (.int 1)) (.cons (.cmp .NotEq (.var 3) (.list .nil)) .nil))) (.cons (.assign (.one 5) (.idx (.var 3) (.bin .Mod (.bin .FloorDiv (.var 0) (.int 4)) (.b1 .len (.var 3))))) (
    T_law_wrong_by_1)) (.nil)) (
  T_law_wrong_by_6)

noncomputable def F_law_wrong_by : Fn := ⟨["_law_cell", "_law_size", "_law_ties", "_law_pairs"], ["_law_cell", "_law_size", "_law_ties", "_law_pairs", "_law_some", "_law_one", "_law_apart"], 9,
  .cons (.assign (.one 4) (.list (.cons (.tuple (.cons (.int 0) (.cons (.int 0) .nil))) (.cons (.tuple (.cons (.neg (.int 1)) (.cons (.int 0) .nil))) (.cons (.tuple (.cons (.int 0) (.cons (.var 1) .nil))) (.cons (.list (.cons (.int 0) (.cons (.int 1) .nil))) (.cons (.none) (.cons (.str "01") (.cons (.tuple (.cons (.int 0) (.cons (.tt) .nil))) (.cons (.tuple (.cons (.int 0) .nil)) .nil)))))))))) (
  T_law_wrong_by_7)⟩

noncomputable def T_law_told_of_1 : Sts := .cons (.ret (.cmp .Eq (.var 8) (.b1 .sorted (.var 2)))) (
  .nil)

noncomputable def T_law_told_of_2 : Sts := .cons (.expr (.m1 (.call "checked" (.cons (.var 0) (.cons (.var 8) .nil))) .append (.tuple (.cons (.int 0) (.cons (.int 0) .nil))))) (
  T_law_told_of_1)

noncomputable def T_law_told_of_3 : Sts := .cons (.iff (.bool false (.cons (.cmp .NotEq (.call "checked" (.cons (.var 0) (.cons (.var 3) .nil))) (.var 8)) (.cons (.cmp .NotEq (.var 4) (.bin .Add (.var 8) (.list (.cons (.tuple (.cons (.int 0) (.cons (.int 0) .nil))) .nil)))) .nil))) (.cons (.ret (.ff)) (
    .nil)) (.nil)) (
  T_law_told_of_2)

noncomputable def T_law_told_of_4 : Sts := .cons (.assign (.one 8) (.b1 .sorted (.var 2))) (
  T_law_told_of_3)

noncomputable def T_law_told_of_5 : Sts := .cons (.iff (.bool false (.cons (.cmp .NotEq (.var 3) (.var 2)) (.cons (.cmp .NotEq (.call "alone" (.cons (.var 0) (.cons (.var 3) .nil))) (.var 7)) (.cons (.cmp .NotEq (.var 5) (.bin .Add (.var 7) (.list (.cons (.int 0) .nil)))) .nil)))) (.cons (.ret (.ff)) (
    .nil)) (.nil)) (
  T_law_told_of_4)

noncomputable def T_law_told_of_6 : Sts := .cons (.expr (.m1 (.var 5) .append (.int 0))) (
  T_law_told_of_5)

noncomputable def T_law_told_of_7 : Sts := .cons (.expr (.m1 (.var 4) .append (.tuple (.cons (.int 0) (.cons (.int 0) .nil))))) (
  T_law_told_of_6)

noncomputable def T_law_told_of_8 : Sts := .cons (.iff (.cmp .NotEq (.var 5) (.var 7)) (.cons (.ret (.ff)) (
    .nil)) (.nil)) (
  T_law_told_of_7)

noncomputable def T_law_told_of_9 : Sts := .cons (.assign (.one 7) (.comp [("_law_place", 15)] (.var 15) (.one 15) (.range1 (.var 1)) (.some (.cmp .NotIn (.var 15) (.var 6))))) (
  T_law_told_of_8)

noncomputable def T_law_told_of_10 : Sts := .cons (.assign (.one 6) (.bin .Add (.comp [("_law_one", 11), ("_law_other", 12)] (.var 11) (.many [11, 12]) (.var 2) .none) (.comp [("_law_one", 13), ("_law_other", 14)] (.var 14) (.many [13, 14]) (.var 2) .none))) (
  T_law_told_of_9)

noncomputable def T_law_told_of_11 : Sts := .cons (.iff (.not (.b1 .all (.comp [("_law_place", 10)] (.call "_law_whole" (.cons (.var 10) .nil)) (.one 10) (.var 5) .none))) (.cons (.ret (.ff)) (
    .nil)) (.nil)) (
  T_law_told_of_10)

noncomputable def T_law_told_of_12 : Sts := .cons (.iff (.bool false (.cons (.cmp .NotEq (.var 4) (.b1 .sorted (.var 2))) (.cons (.cmp .NotEq (.var 3) (.var 2)) (.cons (.not (.isin (.var 5) .list)) .nil)))) (.cons (.ret (.ff)) (
    .nil)) (.nil)) (
  T_law_told_of_11)

noncomputable def T_law_told_of_13 : Sts := .cons (.iff (.bool false (.cons (.not (.isin (.var 4) .list)) (.cons (.not (.b1 .all (.comp [("_law_pair", 9)] (.isin (.var 9) .tuple) (.one 9) (.var 4) .none))) .nil))) (.cons (.ret (.ff)) (
    .nil)) (.nil)) (
  T_law_told_of_12)

noncomputable def T_law_told_of_14 : Sts := .cons (.assign (.one 5) (.call "alone" (.cons (.var 0) (.cons (.var 3) .nil)))) (
  T_law_told_of_13)

noncomputable def F_law_told_of : Fn := ⟨["_law_net", "_law_size", "_law_pairs", "_law_handed"], ["_law_net", "_law_size", "_law_pairs", "_law_handed", "_law_found", "_law_left", "_law_in_pairs", "_law_due", "_law_straight"], 16,
  .cons (.assign (.one 4) (.call "checked" (.cons (.var 0) (.cons (.var 3) .nil)))) (
  T_law_told_of_14)⟩

noncomputable def T_law_1 : Sts := .cons (.ret (.call "_law_refused" (.cons (.var 3) (.cons (.idx (.list (.cons (.b1 .tuple (.var 4)) (.cons (.none) (.cons (.int 5) (.cons (.str "") (.cons (.dict0) .nil)))))) (.bin .Mod (.bin .FloorDiv (.call "_law_cell_at" (.cons (.var 0) (.cons (.int 2) .nil))) (.int 2)) (.int 5))) .nil)))) (
    .nil)

noncomputable def T_law_2 : Sts := .cons (.assign (.one 7) (.b1 .list (.var 5))) (
    .cons (.iff (.bool false (.cons (.not (.call "_law_refused" (.cons (.var 3) (.cons (.var 5) .nil)))) (.cons (.cmp .NotEq (.var 5) (.var 7)) .nil))) (.cons (.ret (.ff)) (
      .nil)) (.nil)) (
    T_law_1))

noncomputable def T_law_3 : Sts := .cons (.expr (.insert (.var 5) (.bin .Mod (.bin .FloorDiv (.call "_law_cell_at" (.cons (.var 0) (.cons (.int 2) .nil))) (.int 512)) (.bin .Add (.b1 .len (.var 4)) (.int 1))) (.var 6))) (
    T_law_2)

noncomputable def L_law_1 : Sts := .cons (.expr (.m0 (.var 5) .clear)) (
  .cons (.expr (.m1 (.var 5) .extend (.var 8))) (
  .cons (.iff (.not (.call "_law_told_of" (.cons (.var 3) (.cons (.var 1) (.cons (.var 8) (.cons (.var 5) .nil)))))) (.cons (.ret (.ff)) (
    .nil)) (.nil)) (
  .nil)))

noncomputable def T_law_4 : Sts := .cons (.ret (.cmp .Eq (.meth (.var 3) "ties" (.nil)) (.var 2))) (
  .nil)

noncomputable def T_law_5 : Sts := .cons (.for (.one 8) (.list (.cons (.var 4) (.cons (.list .nil) (.cons (.slice (.var 4) (.some (.int 1)) .none) (.cons (.var 4) .nil))))) (L_law_1)) (
  T_law_4)

noncomputable def T_law_6 : Sts := .cons (.assign (.one 5) (.b1 .list (.var 4))) (
  .cons (.iff (.cmp .Eq (.bin .Mod (.call "_law_cell_at" (.cons (.var 0) (.cons (.int 2) .nil))) (.int 2)) (.int 1)) (.cons (.assign (.one 6) (.call "_law_wrong_by" (.cons (.bin .FloorDiv (.call "_law_cell_at" (.cons (.var 0) (.cons (.int 2) .nil))) (.int 2)) (.cons (.var 1) (.cons (.var 2) (.cons (.var 4) .nil)))))) (
    T_law_3)) (.nil)) (
  T_law_5))

noncomputable def T_law_7 : Sts := .cons (.assign (.one 4) (.call "_law_pairing_by" (.cons (.var 0) (.cons (.var 2) .nil)))) (
  T_law_6)

noncomputable def T_law_8 : Sts := .cons (.assign (.one 3) (.make "Net" (.cons (.var 1) (.cons (.b1 .list (.var 2)) .nil)))) (
  T_law_7)

noncomputable def F_law : Fn := ⟨["_law_script"], ["_law_script", "_law_size", "_law_ties", "_law_net", "_law_pairs", "_law_handed", "_law_wrong", "_law_kept", "_law_row"], 9,
  .cons (.assign (.many [1, 2]) (.call "_law_net_by" (.cons (.var 0) (.cons (.int 11) .nil)))) (
  T_law_8)⟩


noncomputable def fns03 : List ((String × String) × Fn) := [(("", "is_place"), F_is_place), (("", "is_tie"), F_is_tie), (("Net", "__init__"), F_Net_init), (("Net", "ties"), F_Net_ties), (("Net", "beside"), F_Net_beside), (("", "mates"), F_mates), (("", "told"), F_told), (("", "checked"), F_checked), (("", "alone"), F_alone), (("", "turned"), F_turned), (("", "better"), F_better), (("", "_law_sole"), F_law_sole), (("", "_law_whole"), F_law_whole), (("", "_law_cell_at"), F_law_cell_at), (("", "_law_tied"), F_law_tied), (("", "_law_ties_by"), F_law_ties_by), (("", "_law_size_by"), F_law_size_by), (("", "_law_kind_by"), F_law_kind_by), (("", "_law_great"), F_law_great), (("", "_law_net_by"), F_law_net_by), (("", "_law_pairing_by"), F_law_pairing_by), (("", "_law_asked"), F_law_asked), (("", "_law_refused"), F_law_refused), (("", "_law_wrong_by"), F_law_wrong_by), (("", "_law_told_of"), F_law_told_of), (("", "law"), F_law)]
noncomputable def tab03 (c f : String) : Option Fn := fns03.lookup (c, f)
noncomputable def fld03 (c f : String) : Bool := (c == "Net" && f == "size") || (c == "Net" && f == "rows")
end Mine.Internal
end

section
open PySem PySem.W PyProof.Rows
set_option Elab.async false
set_option maxRecDepth 100000
set_option maxHeartbeats 8000000
namespace Mine.Internal
noncomputable def tabs03 : Tabs := ⟨[("NetError", 24), ("BadNet", 37), ("NoPlace", 49), ("BadPairs", 61), ("BadWay", 73), ("TieThere", 85), ("NoTie", 97), ("OddRing", 109), ("Net", 154), ("Search", 244)],
  [(("", "is_place"), 118), (("", "is_tie"), 125), (("Net", "__init__"), 137), (("Net", "ties"), 144), (("Net", "beside"), 151), (("", "mates"), 163), (("", "told"), 168), (("", "checked"), 175), (("", "alone"), 180), (("", "is_way"), 187), (("", "turned"), 194), (("Search", "__init__"), 206), (("Search", "meeting"), 213), (("Search", "marked"), 220), (("Search", "shrink"), 227), (("Search", "step"), 234), (("Search", "found"), 241), (("", "road"), 255), (("", "better"), 262), (("", "_law_sole"), 269), (("", "_law_whole"), 276), (("", "_law_cell_at"), 283), (("", "_law_tied"), 290), (("", "_law_ties_by"), 297), (("", "_law_size_by"), 304), (("", "_law_kind_by"), 311), (("", "_law_great"), 318), (("", "_law_net_by"), 325), (("", "_law_pairing_by"), 332), (("", "_law_asked"), 339), (("", "_law_refused"), 346), (("", "_law_wrong_by"), 351), (("", "_law_told_of"), 356), (("", "law"), 363)],
  [("Net", "size"), ("Net", "rows")]⟩
theorem leftB03 : ∀ w, (openEnds treeTable PySem.Challenge.pw_uf010024_03 w 6478).map (obs1 tabs03 fns03 363 365 14) = some true := leO fun w os => by kernel_rfl
theorem leftC03 : ∀ w, (openEnds treeTable PySem.Challenge.pw_uf010024_03 w 6478).map (obs2 tabs03 fns03 365 14) = some true := leO fun w os => by kernel_rfl
theorem left03 : LeftO PySem.Challenge.pw_uf010024_03 q03 [] (fun s => xlAt q03 [] s && recOk (RowW.records PySem.Challenge.rw_uf010024_03.row.toRowW) s) (obsK tabs03 fns03 363 365) (fun _ => true) 6478 := by
  refine left_of leftA03 ?_
  have h := both_of_ends leftB03 leftC03
  rw [obs_of] at h
  exact h
noncomputable def sig0 (l : Addr) (ns : List Int) : Store := fun a => if a = l then some (.fixed (ns.map V.int)) else none
theorem fld_ok03 (c f : String) (h : fld03 c f = true) : tabs03.fld.contains (c, f) = true := by
  simp only [fld03, Bool.and_eq_true, beq_iff_eq, Bool.or_eq_true] at h
  rcases h with ⟨rfl, rfl⟩ | ⟨rfl, rfl⟩ <;> rfl
theorem said03 : PySem.Challenge.rw_uf010024_03.wellSaid = true := by decide +kernel
end Mine.Internal
end

section
open PySem PySem.W PyProof.Rows
set_option Elab.async false
set_option maxRecDepth 100000
set_option maxHeartbeats 8000000
namespace Mine.Internal
theorem join03 (hlaw : ∀ (l : Addr) (ns : List Int), ns.length ≤ 63 → (sem tab03 fld03 20 true).run "" "law" [.ref l] (sig0 l ns) (fun v _ => v = .bool true) (fun _ _ _ => False)) : PySem.Challenge.rw_uf010024_03.Holds := by
  refine PySem.W.holds_law said03 fun said => ?_
  refine PySem.W.holds_open (q := q03) (loose := []) (XP := PySem.W.XL q03 []) (YP := fun _ h => saysK tabs03 fns03 363 h) (N := 6478) left03 (fun _ _ e => saysK_of e) (fun _ _ _ y k => saysK_keeps y k) (fun s e => xl_of s (Bool.and_eq_true_iff.mp e).1) PySem.W.XL.keeps (by rfl) (by rfl) (by rfl) (fun s e => recFacts_of (Bool.and_eq_true_iff.mp e).2) (by rfl) said (by decide +kernel) ⟨rfl, rfl, rfl, rfl, rfl, by decide +kernel⟩ ?hw ?hc
  case hw => w_witness2
  intro w s₀ s₁ mg mb G Y fa o pm cd doc dV kV ho hd hcd hD hmg hg args vals as hpre hlay hrd hwl hlo
  refine lift fun gg back => ?_
  obtain ⟨K, KX, KC⟩ := Y
  refine back ?_
  clear back gg
  simp only [allCheck, Bool.and_eq_true, beq_iff_eq] at KC
  refine ob11 KC ?_
  clear KC
  intro KT KF KL
  refine Ground.open G ?_
  intro T B D TE TW
  try (refine guard_noD D (by decide +kernel) ?_; clear D)
  wrow_args hpre hlay hrd hwl hlo
  rename_i ns _ _ _ _ _ _ _ l vs _ hL _ _ _ hI _ hlen _
  refine enter_call ?_
  refine codeAny_mono ?_ (fun _ _ g => GoodW.toG g)
  clear ho hd hcd hD
  have R := topRead_of T
  have CX := cxOk_of (prog := Challenge.rw_uf010024_03.row.prog) (w := w) KX R KT
  have CI := cxIs_of (prog := Challenge.rw_uf010024_03.row.prog) (w := w) KX R KT
  have hfa : fa = 363 := by
    have h1 := mg_of KX R.g KL
    have h2 : mg (Str.ofString "law") = some (.ref fa) := hmg
    rw [h1] at h2; cases h2; rfl
  subst hfa
  have ca := calls_ok CX CI (tabOkK (prog := Challenge.rw_uf010024_03.row.prog) (mg := mg) (mb := mb) (fld := fld03) KX KF fld_ok03) 20 true
  have rel : Rel (cxOf Challenge.rw_uf010024_03.row.prog w s₁.heap K tabs03 mg mb) (sig0 l ns) s₁.heap := by
    refine ⟨fun b o e => e, fun a o h => ?_, fun a o h => ?_, Nat.le_refl _⟩
    · unfold sig0 at h
      split at h
      · rename_i e; cases h; subst e
        exact ⟨vs, hL, ints_of hI, by rw [List.length_map]; unfold szLim; omega⟩
      · cases h
    · unfold sig0 at h
      split at h
      · cases h; exact .inr ⟨_, rfl⟩
      · cases h
  refine codeAny_mono (ca.run (c := "") (f := "law") (s := s₁) (A := callerA) (vs := [.ref l]) rfl ⟨⟨[], rfl, trivial, fun L hL => by cases hL⟩, fun _ => rfl, by decide, by decide⟩ rel (.cons .ref .nil) (hlaw l ns (by omega))) fun r s' hr => ?_
  rcases r with e | f
  · refine lift fun gg back => ?_
    obtain ⟨_, _, _, _, f, _⟩ := hr
    refine back ?_
    clear back gg
    exact f.elim
  · cases f with
    | ret v =>
      refine lift fun gg back => ?_
      obtain ⟨V, σ', rfl, hv, st⟩ := hr
      cases hv.bool_of
      refine back ?_
      clear back gg
      refine ⟨.inl ⟨_, .bool true, [], rfl, fun _ => rfl, .bool true, ?_, fun _ => ⟨.nil, fun _ h => by cases h⟩⟩, st.rel.stays, st.os, st.gens.trans hg⟩
      kernel_rfl
    | _ => exact hr.elim
end Mine.Internal
end

section
set_option linter.unusedVariables false
set_option linter.unusedSimpArgs false
namespace Mine.Internal
open PySem

/-- nothing of the first store is changed -/
noncomputable def Ext (σ σ' : Store) : Prop := ∀ a o, σ a = some o → σ' a = some o
theorem Ext.rfl {σ : Store} : Ext σ σ := fun _ _ h => h
theorem Ext.trans {σ σ' σ'' : Store} (h : Ext σ σ') (g : Ext σ' σ'') : Ext σ σ'' := fun a o e => g a o (h a o e)
theorem Ext.upd {σ σ' : Store} {a : Addr} {o : AO} (h : Ext σ σ') (g : σ a = none) : Ext σ (σ'.upd a o) := by
  intro b p e
  unfold Store.upd
  by_cases hb : b = a
  · subst hb; rw [g] at e; cases e
  · rw [if_neg hb]; exact h b p e
theorem Ext.none {σ σ' : Store} (h : Ext σ σ') {a : Addr} (g : σ' a = none) : σ a = none := by
  cases e : σ a with
  | none => rfl
  | some o => rw [h a o e] at g; cases g
@[simp] theorem updSame {σ : Store} {a : Addr} {o : AO} : (σ.upd a o) a = some o := by simp [Store.upd]
theorem upd_upd {σ : Store} {a : Addr} {o p : AO} : (σ.upd a o).upd a p = σ.upd a p := by funext z; simp [Store.upd]; split <;> rfl
theorem updNe {σ : Store} {a b : Addr} {o : AO} (h : b ≠ a) : (σ.upd a o) b = σ b := by simp [Store.upd, h]

theorem forV_inv {chk : Store → Prop} {B : V → Loc → Store → (Loc → Store → Prop) → Prop} {Q : Loc → Store → Prop} (I : Nat → Loc → Store → Prop)
    {items : List V} {ρ : Loc} {σ : Store} (h0 : I 0 ρ σ) (hc : ∀ k ρ σ, I k ρ σ → chk σ)
    (hs : ∀ k v ρ σ K, items[k]? = some v → I k ρ σ → (∀ ρ' σ', I (k + 1) ρ' σ' → K ρ' σ') → B v ρ σ K)
    (he : ∀ ρ σ, I items.length ρ σ → Q ρ σ) : forV chk B Q items ρ σ := by
  suffices g : ∀ (r : List V) (k : Nat) (ρ : Loc) (σ : Store), items.drop k = r → k ≤ items.length → I k ρ σ → forV chk B Q r ρ σ from g items 0 ρ σ (by simp) (Nat.zero_le _) h0
  intro r
  induction r with
  | nil =>
    intro k ρ σ hd hl hi
    have hk : items.length ≤ k := List.drop_eq_nil_iff.mp hd
    have : k = items.length := by omega
    subst this
    exact ⟨hc _ ρ σ hi, he ρ σ hi⟩
  | cons v r ih =>
    intro k ρ σ hd hl hi
    have hlt : k < items.length := by
      have := congrArg List.length hd
      simp at this; omega
    refine ⟨hc k ρ σ hi, hs k v ρ σ _ ?_ hi fun ρ' σ' hi' => ih (k + 1) ρ' σ' ?_ hlt hi'⟩
    · have := congrArg (fun l : List V => l[0]?) hd
      simpa using this
    · have := congrArg List.tail hd
      simpa [List.tail_drop] using this

theorem compV_inv {chk : Store → Prop} {B : V → Store → (Option V → Store → Prop) → Prop} {Q : V → Store → Prop} (I : Nat → List V → Store → Prop)
    {items : List V} {σ : Store} (h0 : I 0 [] σ) (hc : ∀ k acc σ, I k acc σ → chk σ ∧ acc.length ≤ k) (hl : items.length ≤ szLim)
    (hs : ∀ k v acc σ K, items[k]? = some v → I k acc σ → (∀ x σ', I (k + 1) (match x with | some x => acc ++ [x] | none => acc) σ' → K x σ') → B v σ K)
    (he : ∀ acc σ, I items.length acc σ → ∀ a, σ a = none → Q (.ref a) (σ.upd a (.list acc))) : compV chk B Q items [] σ := by
  suffices g : ∀ (r : List V) (k : Nat) (acc : List V) (σ : Store), items.drop k = r → k ≤ items.length → I k acc σ → compV chk B Q r acc σ from g items 0 [] σ (by simp) (Nat.zero_le _) h0
  intro r
  induction r with
  | nil =>
    intro k acc σ hd hl hi
    have hk : items.length ≤ k := List.drop_eq_nil_iff.mp hd
    have : k = items.length := by omega
    subst this
    exact ⟨(hc _ acc σ hi).1, he acc σ hi⟩
  | cons v r ih =>
    intro k acc σ hd hl' hi
    have hlt : k < items.length := by
      have := congrArg List.length hd
      simp at this; omega
    have := (hc k acc σ hi).2
    refine ⟨(hc k acc σ hi).1, by omega, hs k v acc σ _ ?_ hi fun x σ' hi' => ih (k + 1) _ σ' ?_ hlt hi'⟩
    · have := congrArg (fun l : List V => l[0]?) hd
      simpa using this
    · have := congrArg List.tail hd
      simpa [List.tail_drop] using this

theorem forV_append {chk : Store → Prop} {B : V → Loc → Store → (Loc → Store → Prop) → Prop} {Q : Loc → Store → Prop} {ys : List V}
    (mono : ∀ v ρ σ K K', (∀ ρ σ, K ρ σ → K' ρ σ) → B v ρ σ K → B v ρ σ K') :
    ∀ {xs : List V} {ρ : Loc} {σ : Store}, forV chk B (fun ρ' σ' => forV chk B Q ys ρ' σ') xs ρ σ → forV chk B Q (xs ++ ys) ρ σ
  | [], _, _, h => h.2
  | x :: xs, ρ, σ, h => ⟨h.1, mono _ _ _ _ _ (fun ρ σ g => forV_append mono g) h.2⟩

/-- python's range -/
theorem uptoLen {n : Int} : (upto 0 n 1).length = n.toNat := by simp [upto]
theorem uptoGet {lo hi : Int} {k : Nat} (h : lo + k < hi) : (upto lo hi 1)[k]? = some (lo + k) := by
  have : k < (hi - lo).toNat := by omega
  simp [upto, this]
theorem upto_get' {lo hi x : Int} {k : Nat} (h : (upto lo hi 1)[k]? = some x) : x = lo + k ∧ lo + k < hi := by
  by_cases hk : lo + k < hi
  · rw [uptoGet hk] at h; cases h; exact ⟨rfl, hk⟩
  · have : (upto lo hi 1).length ≤ k := by simp [upto]; omega
    rw [List.getElem?_eq_none this] at h; cases h
theorem upto_length {lo hi : Int} : (upto lo hi 1).length = (hi - lo).toNat := by simp [upto]
theorem upto_getV {lo hi : Int} {k : Nat} {v : V} (h : ((upto lo hi 1).map V.int)[k]? = some v) : v = .int (lo + k) ∧ lo + k < hi := by
  rw [List.getElem?_map] at h
  cases e : (upto lo hi 1)[k]? with
  | none => rw [e] at h; cases h
  | some x => rw [e] at h; cases h; obtain ⟨rfl, g⟩ := upto_get' e; exact ⟨rfl, g⟩

section
variable {σ : Store} {Q : V → Store → Prop} {a b : Int}
@[simp] theorem binV_add : binV .Add (.int a) (.int b) σ Q = Q (.int (a + b)) σ := rfl
@[simp] theorem binV_sub : binV .Sub (.int a) (.int b) σ Q = Q (.int (a - b)) σ := rfl
@[simp] theorem binV_mul : binV .Mult (.int a) (.int b) σ Q = ((a.natAbs < 2 ^ 32 ∧ b.natAbs < 2 ^ 32) ∧ Q (.int (a * b)) σ) := rfl
@[simp] theorem binV_div : binV .FloorDiv (.int a) (.int b) σ Q = ((0 < b ∧ b < 1000000000) ∧ Q (.int (a.fdiv b)) σ) := rfl
@[simp] theorem binV_mod : binV .Mod (.int a) (.int b) σ Q = (0 < b ∧ Q (.int (a.fmod b)) σ) := rfl
@[simp] theorem binV_pow : binV .Pow (.int 10) (.int 9) σ Q = Q (.int 1000000000) σ := by simp [binV, onII]
theorem binV_cat {x y : Addr} {us vs : List V} (hx : σ x = some (.list us)) (hy : σ y = some (.list vs)) (hl : us.length + vs.length ≤ szLim) (h : ∀ z, σ z = none → Q (.ref z) (σ.upd z (.list (us ++ vs)))) : binV .Add (.ref x) (.ref y) σ Q := by
  simp only [binV, onList, hx, hy]
  exact ⟨hl, h⟩
@[simp] theorem cmpV_lt : cmpV σ .Lt (.int a) (.int b) = some (decide (a < b)) := rfl
@[simp] theorem cmpV_le : cmpV σ .LtE (.int a) (.int b) = some (decide (a ≤ b)) := rfl
@[simp] theorem cmpV_gt : cmpV σ .Gt (.int a) (.int b) = some (decide (b < a)) := rfl
@[simp] theorem cmpV_ge : cmpV σ .GtE (.int a) (.int b) = some (decide (b ≤ a)) := rfl
@[simp] theorem cmpV_eq : cmpV σ .Eq (.int a) (.int b) = some (a == b) := rfl
@[simp] theorem cmpV_ne : cmpV σ .NotEq (.int a) (.int b) = some (!(a == b)) := rfl
theorem cmpV_In {u v : V} : cmpV σ .In u v = inV σ u v := rfl
theorem cmpV_NotIn {u v : V} : cmpV σ .NotIn u v = (inV σ u v).map (!·) := rfl
theorem cmpV_Eq {u v : V} : cmpV σ .Eq u v = eqv σ fuel u v := rfl
theorem cmpV_Ne {u v : V} : cmpV σ .NotEq u v = (eqv σ fuel u v).map (!·) := rfl
theorem keyEq_int : keyEq (.int a) (.int b) = (a == b) := rfl
theorem keyEq_pr {c d : Int} : keyEq (.tup [.int a, .int b]) (.tup [.int c, .int d]) = (a == c && b == d) := rfl
@[simp] theorem truthy_bool {r : Bool} : truthy σ (.bool r) = some r := rfl
@[simp] theorem truthy_none : truthy σ .none = some false := rfl
end
end Mine.Internal
end

section
set_option linter.unusedVariables false
set_option linter.unusedSimpArgs false
namespace Mine.Internal
open PySem
theorem setitem_of {σ : Store} {Q : Store → Prop} {a : Addr} {vs : List V} {i : Int} {x : V} (h : σ a = some (.list vs)) (h0 : 0 ≤ i) (h1 : i < vs.length) (q : Q (σ.upd a (.list (vs.set i.toNat x)))) : setitemV (.ref a) (.int i) x σ Q := by
  simp only [setitemV, h, onInt_int]
  exact ⟨⟨h0, h1⟩, q⟩
end Mine.Internal
end

section
section
set_option linter.unusedVariables false
set_option linter.unusedSimpArgs false
namespace Mine.Internal
open PySem

theorem run_succ {tab : String → String → Option Fn} {fld : String → String → Bool} {k : Nat} {md : Bool} {c f : String} {F : Fn} {vs : List V} {σ : Store} {Q : V → Store → Prop} {X : XP} (h : tab c f = some F) (w : wpFn (sem tab fld k) md F vs σ Q X) :
    (sem tab fld (k + 1) md).run c f vs σ Q X := by
  show onSome (tab c f) _
  rw [h]; exact w
theorem has03 {k : Nat} {md : Bool} {c f : String} : (sem tab03 fld03 k md).has c f = ((tab03 c f).isSome = true) := by cases k <;> rfl
theorem hfld03 {k : Nat} {md : Bool} {c f : String} : (sem tab03 fld03 k md).fld c f = (fld03 c f = true) := by cases k <;> rfl

noncomputable def isPlaceV : V → Int → Bool
  | .int i, n => decide (0 ≤ i) && decide (i < n)
  | _, _ => false
noncomputable def isTieV : V → Int → Bool
  | .tup [.int a, .int b], n => decide (0 ≤ a) && decide (a < b) && decide (b < n)
  | _, _ => false

section
variable {k : Nat} {md : Bool} {σ : Store} {Q : V → Store → Prop} {X : XP}

theorem ite_of {c : Prop} [Decidable c] {A B : Prop} (h : c → A) (g : ¬ c → B) : if c then A else B := by
  by_cases x : c
  · rw [if_pos x]; exact h x
  · rw [if_neg x]; exact g x
theorem ite_t {c : Prop} [Decidable c] {A B : Prop} (x : c) (h : A) : if c then A else B := by rw [if_pos x]; exact h
theorem ite_f {c : Prop} [Decidable c] {A B : Prop} (x : ¬ c) (h : B) : if c then A else B := by rw [if_neg x]; exact h
theorem onSome_of {α : Type} {o : Option α} {a : α} {K : α → Prop} (e : o = some a) (h : K a) : onSome o K := by rw [e]; exact h
theorem inst_int {v : V} {kd : Kd} (h : kindV σ v = some kd) : isInst σ v .int = isKd kd .int := by show (kindV σ v).bind _ = _; rw [h]; rfl
theorem inst_tuple {v : V} {kd : Kd} (h : kindV σ v = some kd) : isInst σ v .tuple = isKd kd .tuple := by show (kindV σ v).bind _ = _; rw [h]; rfl
theorem ref_kind {a : Addr} {kd : Kd} (h : kindV σ (.ref a) = some kd) : kd = .list ∨ kd = .dict := by
  unfold kindV at h
  dsimp only at h
  split at h
  · cases h; exact .inl rfl
  · cases h; exact .inr rfl
  · cases h

theorem is_place_spec {v : V} {n : Int} (hk : (kindV σ v).isSome = true) (h : Q (.bool (isPlaceV v n)) σ) : (sem tab03 fld03 (k + 1) md).run "" "is_place" [v, .int n] σ Q X := by
  refine run_succ (F := F_is_place) rfl ⟨rfl, ?_⟩
  refine ob6 (Option.isSome_iff_exists.mp hk) ?_
  intro kd hkd
  cases v with
  | int i =>
    refine ite_of (c := decide (0 ≤ i) = true) (fun x => ?_) fun x => ?_
    · rw [show isPlaceV (.int i) n = decide (i < n) from by show (decide (0 ≤ i) && decide (i < n)) = _; rw [x]; rfl] at h
      exact h
    · rw [show isPlaceV (.int i) n = false from by show (decide (0 ≤ i) && decide (i < n)) = _; rw [Bool.not_eq_true _ |>.mp x]; rfl] at h
      exact h
  | ref a =>
    refine onSome_of (inst_int hkd) ?_
    rcases ref_kind hkd with rfl | rfl <;> exact h
  | _ => exact h

theorem whole_spec {v : V} (hk : (kindV σ v).isSome = true) (h : Q (.bool (match v with | .int _ => true | _ => false)) σ) : (sem tab03 fld03 (k + 1) md).run "" "_law_whole" [v] σ Q X := by
  refine run_succ (F := F_law_whole) rfl ⟨rfl, ?_⟩
  refine ob6 (Option.isSome_iff_exists.mp hk) ?_
  intro kd hkd
  cases v with
  | ref a =>
    refine onSome_of (inst_int hkd) ?_
    rcases ref_kind hkd with rfl | rfl <;> exact h
  | _ => exact h

/-- a cell of the script -/
noncomputable def cellAt (ns : List Int) (i : Nat) : Int := ns.getD i 0
theorem cell_spec {l : Addr} {ns : List Int} {i : Nat} (hl : σ l = some (.fixed (ns.map V.int))) (h : Q (.int (cellAt ns i)) σ) : (sem tab03 fld03 (k + 1) md).run "" "_law_cell_at" [.ref l, .int i] σ Q X := by
  refine run_succ (F := F_law_cell_at) rfl ⟨rfl, ?_⟩
  by_cases hi : i < ns.length
  · have h1 : (i : Int) < ns.length := by omega
    have h2 : pyIdx (i : Int) ns.length = some i := by unfold pyIdx; simp [hi]
    have h3 : cellAt ns i = ns[i] := by simp [cellAt, hi]
    rw [h3] at h
    simpa [F_law_cell_at, Ss_nil, Ss_cons, S_expr, S_assign, S_setattr, S_setitem, S_ret, S_pass, S_raise, S_iff, S_whil, S_for, S_tryx, E_none, E_tt, E_ff, E_int, E_str, E_var, E_glob, E_bin, E_neg, E_not, E_cmp, E_cmp2, E_bool, E_call, E_make, E_meth, E_m0, E_m1, E_insert, E_attr, E_idx, E_slice, E_rev, E_list, E_tuple, E_dict0, E_b1, E_min2, E_max2, E_isin, E_dict1, wpE_comp, Loc.get, b1V, onSeq, hl, truthy, cmpV_In, cmpV_NotIn, cmpV_Eq, cmpV_Ne, h1, hi, idxV, h2] using h
  · have h1 : ¬ (i : Int) < ns.length := by omega
    have h3 : cellAt ns i = 0 := by simp [cellAt, hi]
    rw [h3] at h
    simpa [F_law_cell_at, Ss_nil, Ss_cons, S_expr, S_assign, S_setattr, S_setitem, S_ret, S_pass, S_raise, S_iff, S_whil, S_for, S_tryx, E_none, E_tt, E_ff, E_int, E_str, E_var, E_glob, E_bin, E_neg, E_not, E_cmp, E_cmp2, E_bool, E_call, E_make, E_meth, E_m0, E_m1, E_insert, E_attr, E_idx, E_slice, E_rev, E_list, E_tuple, E_dict0, E_b1, E_min2, E_max2, E_isin, E_dict1, wpE_comp, Loc.get, b1V, onSeq, hl, truthy, cmpV_In, cmpV_NotIn, cmpV_Eq, cmpV_Ne, h1, hi] using h

theorem tab_is_place_03 {k : Nat} {md : Bool} : (sem tab03 fld03 (k + 1) md).has "" "is_place" := rfl
theorem tie_no {a b : V} {n : Int} (h : isPlaceV a n = false ∨ isPlaceV b n = false) : isTieV (.tup [a, b]) n = false := by
  cases a with
  | int x => cases b with
    | int y =>
      rw [Bool.eq_false_iff]
      intro e
      simp only [isTieV, isPlaceV, Bool.and_eq_true, Bool.and_eq_false_iff, decide_eq_true_eq, decide_eq_false_iff_not] at e h
      omega
    | _ => rfl
  | _ => rfl
theorem sz2 : 2 ≤ szLim := by decide
theorem tie_size {vs : List V} {n : Int} (h2 : vs.length ≠ 2) : isTieV (.tup vs) n = false := by
  unfold isTieV
  split
  · rename_i e; cases e; exact absurd rfl h2
  · rfl
theorem tie_len {vs : List V} {n : Int} (hlen : vs.length ≤ szLim) (h2 : vs.length ≠ 2) (h : Q (.bool false) σ) : (sem tab03 fld03 (k + 2) md).run "" "is_tie" [.tup vs, .int n] σ Q X := by
  have e : (!((vs.length : Int) == 2)) = true := by
    have : ((vs.length : Int) == 2) = false := by rw [beq_eq_false_iff_ne]; omega
    rw [this]; rfl
  refine run_succ (F := F_is_tie) rfl ⟨rfl, hlen, ?_⟩
  refine ite_t (c := (!((vs.length : Int) == 2)) = true) e ?_
  exact h
theorem tie_two {a b : V} {n : Int} (ka : (kindV σ a).isSome = true) (kb : (kindV σ b).isSome = true) (h : Q (.bool (isTieV (.tup [a, b]) n)) σ) : (sem tab03 fld03 (k + 2) md).run "" "is_tie" [.tup [a, b], .int n] σ Q X := by
  refine run_succ (F := F_is_tie) rfl ⟨rfl, ?_⟩
  refine ⟨sz2, tab_is_place_03, ⟨sz2, ?_⟩⟩
  refine is_place_spec ka ?_
  cases hA : isPlaceV a n with
  | false => rw [tie_no (.inl hA)] at h; exact h
  | true =>
    refine ⟨tab_is_place_03, ⟨sz2, ?_⟩⟩
    refine is_place_spec kb ?_
    cases hB : isPlaceV b n with
    | false => rw [tie_no (.inr hB)] at h; exact h
    | true =>
      cases a with
      | int x => cases b with
        | int y =>
          simp only [isPlaceV, Bool.and_eq_true, decide_eq_true_eq] at hA hB
          have : isTieV (.tup [.int x, .int y]) n = decide (x < y) := by
            show (decide (0 ≤ x) && decide (x < y) && decide (y < n)) = _
            rw [decide_eq_true hA.1, decide_eq_true hB.2, Bool.true_and, Bool.and_true]
          rw [this] at h
          exact ⟨sz2, ⟨sz2, h⟩⟩
        | _ => cases hB
      | _ => cases hA
theorem is_tie_spec {v : V} {n : Int} (hk : (kindV σ v).isSome = true) (hs : ∀ vs, v = .tup vs → vs.length ≤ szLim ∧ ∀ u ∈ vs, (kindV σ u).isSome = true) (h : Q (.bool (isTieV v n)) σ) : (sem tab03 fld03 (k + 2) md).run "" "is_tie" [v, .int n] σ Q X := by
  refine ob6 (Option.isSome_iff_exists.mp hk) ?_
  intro kd hkd
  cases v with
  | tup vs =>
    refine ob8 (hs vs rfl) ?_
    intro hlen hs
    rcases vs with _ | ⟨a, _ | ⟨b, _ | ⟨c, r⟩⟩⟩
    · exact tie_len hlen (by simp) h
    · rw [tie_size (by simp)] at h; exact tie_len hlen (by simp) h
    · exact tie_two (hs a (by simp)) (hs b (by simp)) h
    · rw [tie_size (by simp)] at h; exact tie_len hlen (by simp) h
  | ref a =>
    refine run_succ (F := F_is_tie) rfl ⟨rfl, ?_⟩
    refine onSome_of (inst_tuple hkd) ?_
    rcases ref_kind hkd with rfl | rfl <;> exact h
  | _ => exact run_succ (F := F_is_tie) rfl ⟨rfl, h⟩
end
end Mine.Internal
end

section
set_option linter.unusedVariables false
set_option linter.unusedSimpArgs false
namespace Mine.Internal
open PySem

noncomputable def TieOk (n : Int) (p : Int × Int) : Prop := 0 ≤ p.1 ∧ p.1 < p.2 ∧ p.2 < n
noncomputable def GoodT (n : Int) (T : List (Int × Int)) : Prop := T.Pairwise lexLt ∧ ∀ p ∈ T, TieOk n p

section
variable {k : Nat} {md : Bool} {σ : Store} {Q : V → Store → Prop} {X : XP}

theorem tied_spec {kd c a b n : Int} (h : ∀ r, Q (.bool r) σ) : (sem tab03 fld03 (k + 1) md).run "" "_law_tied" [.int kd, .int c, .int a, .int b, .int n] σ Q X := by
  refine run_succ (F := F_law_tied) rfl ⟨rfl, ?_⟩
  refine ite_of (c := (kd == 0) = true) (fun _ => ⟨by decide, h _⟩) fun _ => ?_
  refine ite_of (c := (kd == 1) = true) (fun _ => ?_) fun _ => ?_
  · refine ite_of (c := (b == a + 1) = false) (fun _ => ?_) (fun _ => h _)
    refine ite_of (c := (a == 0) = true) (fun _ => ?_) (fun _ => ?_)
    · refine ite_of (c := (b == n - 1) = false) (fun _ => ⟨by decide, h _⟩) (fun _ => h _)
    · refine ite_of (c := (a == 0) = false) (fun _ => ⟨by decide, h _⟩) (fun _ => h _)
  refine ite_of (c := (kd == 2) = true) (fun _ => ?_) fun _ => ?_
  · exact ⟨by decide, ite_of (c := ((a + b).fmod 2 == 1) = true) (fun _ => ⟨by decide, h _⟩) (fun _ => h _)⟩
  refine ite_of (c := (kd == 3) = true) (fun _ => ?_) fun _ => ⟨by decide, h _⟩
  have last : ∀ r : Bool, (if r = false then (if decide (1 < a) = true then ((0 : Int) < 3 ∧ (3 : Int) < 1000000000) ∧ ((0 : Int) < 3 ∧ (3 : Int) < 1000000000) ∧ Q (.bool ((a - 2).fdiv 3 == (b - 2).fdiv 3)) σ else Q (.bool (decide (1 < a))) σ) else Q (.bool r) σ) := fun r =>
    ite_of (fun _ => ite_of (fun _ => ⟨by decide, by decide, h _⟩) fun _ => h _) fun _ => h _
  refine ite_of (c := decide (a < 2) = true) (fun _ => ⟨by decide, last _⟩) fun _ => last _

theorem cell_any {l : Addr} {ns : List Int} {i : Int} (hl : σ l = some (.fixed (ns.map V.int))) (hi : 0 ≤ i) (h : ∀ c, Q (.int c) σ) : (sem tab03 fld03 (k + 1) md).run "" "_law_cell_at" [.ref l, .int i] σ Q X := by
  refine ob6 (Int.eq_ofNat_of_zero_le hi) ?_
  intro j ee125
  subst ee125
  exact cell_spec hl (h _)

theorem tb_tied : (tab03 "" "_law_tied").isSome = true := rfl
theorem tb_cell : (tab03 "" "_law_cell_at").isSome = true := rfl

theorem ties_by_spec {l : Addr} {ns : List Int} {n kd : Int} (hl : σ l = some (.fixed (ns.map V.int))) (hn : 0 ≤ n) (hn' : n ≤ 40)
    (h : ∀ T a, σ a = none → GoodT n T → T.length ≤ 1600 → Q (.ref a) (σ.upd a (.list (T.map pr)))) :
    (sem tab03 fld03 (k + 2) true).run "" "_law_ties_by" [.ref l, .int n, .int kd] σ Q X := by
  refine run_succ (F := F_law_ties_by) rfl ⟨rfl, ?_⟩
  simp [F_law_ties_by, Ss_nil, Ss_cons, S_expr, S_assign, S_setattr, S_setitem, S_ret, S_pass, S_raise, S_iff, S_whil, S_for, S_tryx, E_none, E_tt, E_ff, E_int, E_str, E_var, E_glob, E_bin, E_neg, E_not, E_cmp, E_cmp2, E_bool, E_call, E_make, E_meth, E_m0, E_m1, E_insert, E_attr, E_idx, E_slice, E_rev, E_list, E_tuple, E_dict0, E_b1, E_min2, E_max2, E_isin, E_dict1, wpE_comp, Es_nil, Es_cons, I_r1, I_r2, I_r3, I_en, I_var, I_idx, I_attr, I_list, I_call, I_slice, itR1_int, itR2_int, itR3_int, itEn, Loc.get, tgOk, bindTg, alloc, szLim]
  intro a ha
  refine ⟨by omega, ?_⟩
  refine forV_inv (fun i ρ σ' => ∃ T, GoodT n T ∧ (∀ p ∈ T, p.1 < i) ∧ T.length ≤ 40 * i ∧ σ' = σ.upd a (.list (T.map pr)) ∧ ∃ t4 t5 t6 t7, ρ = [some (.ref l), some (.int n), some (.int kd), some (.ref a), t4, t5, t6, t7])
    ⟨[], ⟨by simp, by simp⟩, by simp, by simp, by simp, _, _, _, _, rfl⟩ (fun _ _ _ _ => trivial) ?_ ?_
  · intro i v ρ σ' K hv zz13
    refine ob43 zz13 ?_
    clear zz13
    intro T hT hTi hTl ee126
    subst ee126
    intro t4 t5 t6 t7 ee127
    subst ee127
    intro hK
    refine ob8 (upto_getV hv) ?_
    intro ee128
    subst ee128
    intro hxn
    rw [Int.zero_add] at hxn ⊢
    simp [L_law_ties_by_2, Ss_nil, Ss_cons, S_expr, S_assign, S_setattr, S_setitem, S_ret, S_pass, S_raise, S_iff, S_whil, S_for, S_tryx, E_none, E_tt, E_ff, E_int, E_str, E_var, E_glob, E_bin, E_neg, E_not, E_cmp, E_cmp2, E_bool, E_call, E_make, E_meth, E_m0, E_m1, E_insert, E_attr, E_idx, E_slice, E_rev, E_list, E_tuple, E_dict0, E_b1, E_min2, E_max2, E_isin, E_dict1, wpE_comp, Es_nil, Es_cons, I_r1, I_r2, I_r3, I_en, I_var, I_idx, I_attr, I_list, I_call, I_slice, itR1_int, itR2_int, itR3_int, itEn, Loc.get, bindTg]
    refine ⟨by omega, ?_⟩
    refine forV_inv (fun j ρ σ' => ∃ T, GoodT n T ∧ (∀ p ∈ T, p.1 < i ∨ (p.1 = i ∧ p.2 < i + 1 + j)) ∧ T.length ≤ 40 * i + j ∧ σ' = σ.upd a (.list (T.map pr)) ∧ ∃ t5 t6 t7, ρ = [some (.ref l), some (.int n), some (.int kd), some (.ref a), some (.int i), t5, t6, t7])
      ⟨T, hT, fun p hp => Or.inl (hTi p hp), by omega, rfl, _, _, _, rfl⟩ (fun _ _ _ _ => trivial) ?_ ?_
    · intro j v ρ σ' K2 hv zz14
      refine ob44 zz14 ?_
      clear zz14
      intro T hT hTi hTl ee129
      subst ee129
      intro t5 t6 t7 ee130
      subst ee130
      intro hK2
      refine ob8 (upto_getV hv) ?_
      intro ee131
      subst ee131
      intro hyn
      have hb : 0 ≤ ((((i : Int) + 1 + j) * ((i : Int) + 1 + j - 1)).fdiv 2 + i) ∧ ((((i : Int) + 1 + j) * ((i : Int) + 1 + j - 1)).fdiv 2 + i) ≤ 1700 := by
        have h1 : ((i : Int) + 1 + j) * ((i : Int) + 1 + j - 1) ≤ 40 * 40 := Int.mul_le_mul (by omega) (by omega) (by omega) (by omega)
        have h2 : 0 ≤ ((i : Int) + 1 + j) * ((i : Int) + 1 + j - 1) := Int.mul_nonneg (by omega) (by omega)
        generalize ((i : Int) + 1 + j) * ((i : Int) + 1 + j - 1) = w at *
        rw [Int.fdiv_eq_ediv_of_nonneg _ (by omega)]
        omega
      simp [L_law_ties_by_1, Ss_nil, Ss_cons, S_expr, S_assign, S_setattr, S_setitem, S_ret, S_pass, S_raise, S_iff, S_whil, S_for, S_tryx, E_none, E_tt, E_ff, E_int, E_str, E_var, E_glob, E_bin, E_neg, E_not, E_cmp, E_cmp2, E_bool, E_call, E_make, E_meth, E_m0, E_m1, E_insert, E_attr, E_idx, E_slice, E_rev, E_list, E_tuple, E_dict0, E_b1, E_min2, E_max2, E_isin, E_dict1, wpE_comp, Es_nil, Es_cons, I_r1, I_r2, I_r3, I_en, I_var, I_idx, I_attr, I_list, I_call, I_slice, itR1_int, itR2_int, itR3_int, itEn, Loc.get, bindTg, tgOk, has03, tb_cell]
      generalize ((((i : Int) + 1 + j) * ((i : Int) + 1 + j - 1)).fdiv 2 + i) = w at *
      refine ⟨by omega, cell_any (ns := ns) ?_ ?_ ?_⟩
      · rw [updNe (by rintro rfl; rw [hl] at ha; cases ha)]; exact hl
      · rw [Int.fmod_eq_emod_of_nonneg _ (by omega)]; omega
      · intro c
        refine ⟨by rw [Int.fdiv_eq_ediv_of_nonneg _ (by omega)]; omega, ?_⟩
        generalize w.fdiv 24 = w'
        simp [T_law_ties_by_1, Ss_nil, Ss_cons, S_expr, S_assign, S_setattr, S_setitem, S_ret, S_pass, S_raise, S_iff, S_whil, S_for, S_tryx, E_none, E_tt, E_ff, E_int, E_str, E_var, E_glob, E_bin, E_neg, E_not, E_cmp, E_cmp2, E_bool, E_call, E_make, E_meth, E_m0, E_m1, E_insert, E_attr, E_idx, E_slice, E_rev, E_list, E_tuple, E_dict0, E_b1, E_min2, E_max2, E_isin, E_dict1, wpE_comp, Es_nil, Es_cons, Loc.get, has03, tb_tied]
        have h3 : 0 < 1 + (i : Int).fmod 3 ∧ 1 + (i : Int).fmod 3 < 1000000000 := by
          rw [Int.fmod_eq_emod_of_nonneg _ (by omega)]; omega
        refine ⟨h3, tied_spec ?_⟩
        intro r
        cases r with
        | false =>
          simp
          refine hK2 _ _ ⟨T, hT, ?_, by omega, rfl, _, _, _, rfl⟩
          intro p hp
          have := hTi p hp
          omega
        | true =>
          simp [onList, szLim, m1V]
          refine ⟨by omega, hK2 _ _ ⟨T ++ [((i : Int), (i : Int) + 1 + j)], ⟨?_, ?_⟩, ?_, ?_, ?_, _, _, _, rfl⟩⟩
          · refine List.pairwise_append.mpr ⟨hT.1, by simp, ?_⟩
            intro p hp q hq
            simp at hq; subst hq
            have := hTi p hp
            unfold lexLt; simp only; omega
          · intro p hp
            rcases List.mem_append.mp hp with hp | hp
            · exact hT.2 p hp
            · simp at hp; subst hp; unfold TieOk; simp only; omega
          · intro p hp
            rcases List.mem_append.mp hp with hp | hp
            · have := hTi p hp; omega
            · rw [List.mem_singleton] at hp; subst hp; exact Or.inr ⟨rfl, show (i : Int) + 1 + j < (i : Int) + 1 + ((j + 1 : Nat) : Int) by omega⟩
          · simp; omega
          · funext z; simp [Store.upd, pr]; split <;> rfl
    · intro ρ σ' zz15
      refine ob44 zz15 ?_
      clear zz15
      intro T hT hTi hTl ee132
      subst ee132
      intro t5 t6 t7 ee133
      subst ee133
      refine hK _ _ ⟨T, hT, ?_, ?_, rfl, _, _, _, _, rfl⟩
      · intro p hp
        have := hTi p hp
        omega
      · simp [upto_length] at hTl
        omega
  · intro ρ σ' zz16
    refine ob43 zz16 ?_
    clear zz16
    intro T hT hTi hTl ee134
    subst ee134
    intro t4 t5 t6 t7 ee135
    subst ee135
    simp [T_law_ties_by_2, Ss_nil, Ss_cons, S_expr, S_assign, S_setattr, S_setitem, S_ret, S_pass, S_raise, S_iff, S_whil, S_for, S_tryx, E_none, E_tt, E_ff, E_int, E_str, E_var, E_glob, E_bin, E_neg, E_not, E_cmp, E_cmp2, E_bool, E_call, E_make, E_meth, E_m0, E_m1, E_insert, E_attr, E_idx, E_slice, E_rev, E_list, E_tuple, E_dict0, E_b1, E_min2, E_max2, E_isin, E_dict1, wpE_comp, Loc.get]
    refine h T a ha hT ?_
    simp [upto_length] at hTl
    omega
end
end Mine.Internal
end

section
set_option linter.unusedVariables false
set_option linter.unusedSimpArgs false
namespace Mine.Internal
open PySem
section
variable {k : Nat} {md : Bool} {σ : Store} {Q : V → Store → Prop} {X : XP}
theorem tb_size : (tab03 "" "_law_size_by").isSome = true := rfl
theorem tb_kind : (tab03 "" "_law_kind_by").isSome = true := rfl
theorem tb_great : (tab03 "" "_law_great").isSome = true := rfl
theorem tb_ties_by : (tab03 "" "_law_ties_by").isSome = true := rfl
theorem fmod_bd {a b : Int} (h : 0 < b) : 0 ≤ a.fmod b ∧ a.fmod b < b := ⟨Int.fmod_nonneg_of_pos a h, Int.fmod_lt_of_pos a h⟩

theorem size_by_spec {l : Addr} {ns : List Int} {m : Int} (hl : σ l = some (.fixed (ns.map V.int))) (hm : 0 < m) (h : ∀ n, 1 ≤ n → n ≤ m → Q (.int n) σ) : (sem tab03 fld03 (k + 2) md).run "" "_law_size_by" [.ref l, .int m] σ Q X := by
  refine run_succ (F := F_law_size_by) rfl ⟨rfl, ?_⟩
  simp [F_law_size_by, Ss_nil, Ss_cons, S_expr, S_assign, S_setattr, S_setitem, S_ret, S_pass, S_raise, S_iff, S_whil, S_for, S_tryx, E_none, E_tt, E_ff, E_int, E_str, E_var, E_glob, E_bin, E_neg, E_not, E_cmp, E_cmp2, E_bool, E_call, E_make, E_meth, E_m0, E_m1, E_insert, E_attr, E_idx, E_slice, E_rev, E_list, E_tuple, E_dict0, E_b1, E_min2, E_max2, E_isin, E_dict1, wpE_comp, Es_nil, Es_cons, Loc.get, has03, tb_cell]
  refine cell_any (ns := ns) hl (by omega) fun c => ?_
  have := fmod_bd (a := c) hm
  exact ⟨hm, h _ (by omega) (by omega)⟩
theorem kind_by_spec {l : Addr} {ns : List Int} (hl : σ l = some (.fixed (ns.map V.int))) (h : ∀ n, Q (.int n) σ) : (sem tab03 fld03 (k + 2) md).run "" "_law_kind_by" [.ref l] σ Q X := by
  refine run_succ (F := F_law_kind_by) rfl ⟨rfl, ?_⟩
  simp [F_law_kind_by, Ss_nil, Ss_cons, S_expr, S_assign, S_setattr, S_setitem, S_ret, S_pass, S_raise, S_iff, S_whil, S_for, S_tryx, E_none, E_tt, E_ff, E_int, E_str, E_var, E_glob, E_bin, E_neg, E_not, E_cmp, E_cmp2, E_bool, E_call, E_make, E_meth, E_m0, E_m1, E_insert, E_attr, E_idx, E_slice, E_rev, E_list, E_tuple, E_dict0, E_b1, E_min2, E_max2, E_isin, E_dict1, wpE_comp, Es_nil, Es_cons, Loc.get, has03, tb_cell]
  exact cell_any (ns := ns) hl (by omega) fun c => ⟨by omega, h _⟩
theorem great_spec {l : Addr} {ns : List Int} (hl : σ l = some (.fixed (ns.map V.int))) (h : ∀ r, Q (.bool r) σ) : (sem tab03 fld03 (k + 2) md).run "" "_law_great" [.ref l] σ Q X := by
  refine run_succ (F := F_law_great) rfl ⟨rfl, ?_⟩
  simp [F_law_great, Ss_nil, Ss_cons, S_expr, S_assign, S_setattr, S_setitem, S_ret, S_pass, S_raise, S_iff, S_whil, S_for, S_tryx, E_none, E_tt, E_ff, E_int, E_str, E_var, E_glob, E_bin, E_neg, E_not, E_cmp, E_cmp2, E_bool, E_call, E_make, E_meth, E_m0, E_m1, E_insert, E_attr, E_idx, E_slice, E_rev, E_list, E_tuple, E_dict0, E_b1, E_min2, E_max2, E_isin, E_dict1, wpE_comp, Es_nil, Es_cons, Loc.get, has03, tb_cell]
  refine cell_any (ns := ns) hl (by omega) fun c => ?_
  simp
  exact h _

theorem net_by_2 {l : Addr} {ns : List Int} {m : Int} {N Y} (hl : σ l = some (.fixed (ns.map V.int)))
    (h : ∀ n T a, 1 ≤ n → n ≤ 40 → σ a = none → GoodT n T → T.length ≤ 1600 → Q (.tup [.int n, .ref a]) (σ.upd a (.list (T.map pr)))) {n kd : Int} (h1 : 1 ≤ n) (h2 : n ≤ 40) :
    wpSs (sem tab03 fld03 (k + 2)) true T_law_net_by_2 [some (.ref l), some (.int m), some (.int n), some (.int kd)] σ N Q Y := by
  simp [T_law_net_by_2, Ss_nil, Ss_cons, S_expr, S_assign, S_setattr, S_setitem, S_ret, S_pass, S_raise, S_iff, S_whil, S_for, S_tryx, E_none, E_tt, E_ff, E_int, E_str, E_var, E_glob, E_bin, E_neg, E_not, E_cmp, E_cmp2, E_bool, E_call, E_make, E_meth, E_m0, E_m1, E_insert, E_attr, E_idx, E_slice, E_rev, E_list, E_tuple, E_dict0, E_b1, E_min2, E_max2, E_isin, E_dict1, wpE_comp, Es_nil, Es_cons, Loc.get, has03, tb_ties_by, szLim]
  exact ties_by_spec hl (by omega) h2 fun T a ha hT hTl => h n T a h1 h2 ha hT hTl
theorem net_by_3 {l : Addr} {ns : List Int} {m : Int} {N Y} (hl : σ l = some (.fixed (ns.map V.int)))
    (h : ∀ n T a, 1 ≤ n → n ≤ 40 → σ a = none → GoodT n T → T.length ≤ 1600 → Q (.tup [.int n, .ref a]) (σ.upd a (.list (T.map pr)))) {n kd : Int} (h1 : 1 ≤ n) (h2 : n ≤ 40) :
    wpSs (sem tab03 fld03 (k + 2)) true T_law_net_by_3 [some (.ref l), some (.int m), some (.int n), some (.int kd)] σ N Q Y := by
  simp [T_law_net_by_3, T_law_net_by_1, Ss_nil, Ss_cons, S_expr, S_assign, S_setattr, S_setitem, S_ret, S_pass, S_raise, S_iff, S_whil, S_for, S_tryx, E_none, E_tt, E_ff, E_int, E_str, E_var, E_glob, E_bin, E_neg, E_not, E_cmp, E_cmp2, E_bool, E_call, E_make, E_meth, E_m0, E_m1, E_insert, E_attr, E_idx, E_slice, E_rev, E_list, E_tuple, E_dict0, E_b1, E_min2, E_max2, E_isin, E_dict1, wpE_comp, Es_nil, Es_cons, Loc.get, has03, tb_great, tb_cell, tgOk, bindTg]
  refine great_spec hl fun r => ?_
  cases r with
  | false => simpa using net_by_2 hl h h1 h2
  | true =>
    simp
    refine cell_any (ns := ns) hl (by omega) fun c => ?_
    have := fmod_bd (a := c.fdiv 99) (b := 11) (by omega)
    have := fmod_bd (a := kd) (b := 2) (by omega)
    simp
    exact ⟨by omega, net_by_2 hl h (by omega) (by omega)⟩
theorem net_by_spec {l : Addr} {ns : List Int} {m : Int} (hl : σ l = some (.fixed (ns.map V.int))) (hm : 0 < m) (hm' : m ≤ 40)
    (h : ∀ n T a, 1 ≤ n → n ≤ 40 → σ a = none → GoodT n T → T.length ≤ 1600 → Q (.tup [.int n, .ref a]) (σ.upd a (.list (T.map pr)))) :
    (sem tab03 fld03 (k + 3) true).run "" "_law_net_by" [.ref l, .int m] σ Q X := by
  refine run_succ (F := F_law_net_by) rfl ⟨rfl, ?_⟩
  simp [F_law_net_by, Ss_nil, Ss_cons, S_expr, S_assign, S_setattr, S_setitem, S_ret, S_pass, S_raise, S_iff, S_whil, S_for, S_tryx, E_none, E_tt, E_ff, E_int, E_str, E_var, E_glob, E_bin, E_neg, E_not, E_cmp, E_cmp2, E_bool, E_call, E_make, E_meth, E_m0, E_m1, E_insert, E_attr, E_idx, E_slice, E_rev, E_list, E_tuple, E_dict0, E_b1, E_min2, E_max2, E_isin, E_dict1, wpE_comp, Es_nil, Es_cons, Loc.get, has03, tb_size, tgOk, bindTg]
  refine size_by_spec hl hm fun n h1 h2 => ?_
  simp [T_law_net_by_5, Ss_nil, Ss_cons, S_expr, S_assign, S_setattr, S_setitem, S_ret, S_pass, S_raise, S_iff, S_whil, S_for, S_tryx, E_none, E_tt, E_ff, E_int, E_str, E_var, E_glob, E_bin, E_neg, E_not, E_cmp, E_cmp2, E_bool, E_call, E_make, E_meth, E_m0, E_m1, E_insert, E_attr, E_idx, E_slice, E_rev, E_list, E_tuple, E_dict0, E_b1, E_min2, E_max2, E_isin, E_dict1, wpE_comp, Es_nil, Es_cons, Loc.get, has03, tb_kind, tgOk, bindTg]
  refine kind_by_spec hl fun kd => ?_
  simp [T_law_net_by_4, Ss_nil, Ss_cons, S_expr, S_assign, S_setattr, S_setitem, S_ret, S_pass, S_raise, S_iff, S_whil, S_for, S_tryx, E_none, E_tt, E_ff, E_int, E_str, E_var, E_glob, E_bin, E_neg, E_not, E_cmp, E_cmp2, E_bool, E_call, E_make, E_meth, E_m0, E_m1, E_insert, E_attr, E_idx, E_slice, E_rev, E_list, E_tuple, E_dict0, E_b1, E_min2, E_max2, E_isin, E_dict1, wpE_comp, Es_nil, Es_cons, Loc.get, has03, tb_cell, tgOk, bindTg]
  refine cell_any (ns := ns) hl (by omega) fun c => ?_
  simp
  split
  · refine cell_any (ns := ns) hl (by omega) fun c => ?_
    have := fmod_bd (a := c.fdiv 99) (b := 11) (by omega)
    simp
    exact net_by_3 hl h (by omega) (by omega)
  · exact net_by_3 hl h (by omega) (by omega)
end
end Mine.Internal
end

section
set_option linter.unusedVariables false
set_option linter.unusedSimpArgs false
namespace Mine.Internal
open PySem

/-- who stands beside i, in the order told -/
noncomputable def nb1 (i : Int) (p : Int × Int) : List Int := (if p.1 = i then [p.2] else []) ++ (if p.2 = i then [p.1] else [])
noncomputable def nb (H : List (Int × Int)) (i : Int) : List Int := H.flatMap (nb1 i)
theorem mem_nb1 {i x : Int} {p : Int × Int} : x ∈ nb1 i p ↔ p = (i, x) ∨ p = (x, i) := by
  obtain ⟨a, b⟩ := p
  simp [nb1]
  constructor
  · rintro (⟨h1, h2⟩ | ⟨h1, h2⟩)
    · exact Or.inl ⟨h1, h2.symm⟩
    · exact Or.inr ⟨h2.symm, h1⟩
  · rintro (⟨h1, h2⟩ | ⟨h1, h2⟩)
    · exact Or.inl ⟨h1, h2.symm⟩
    · exact Or.inr ⟨h2, h1.symm⟩
theorem mem_nb {H : List (Int × Int)} {i x : Int} : x ∈ nb H i ↔ (i, x) ∈ H ∨ (x, i) ∈ H := by
  simp [nb, mem_nb1]
  constructor
  · rintro ⟨a, b, h, h' | h'⟩ <;> obtain ⟨rfl, rfl⟩ := h'
    · exact Or.inl h
    · exact Or.inr h
  · rintro (h | h)
    · exact ⟨_, _, h, Or.inl ⟨rfl, rfl⟩⟩
    · exact ⟨_, _, h, Or.inr ⟨rfl, rfl⟩⟩
theorem nb_append {H T : List (Int × Int)} {i : Int} : nb (H ++ T) i = nb H i ++ nb T i := by simp [nb]

theorem nb_nodup {n : Int} {H : List (Int × Int)} {i : Int} (hn : H.Nodup) (ht : ∀ p ∈ H, TieOk n p) : (nb H i).Nodup := by
  induction H with
  | nil => simp [nb]
  | cons p H ih =>
    have h1 := ih (List.nodup_cons.mp hn).2 (fun q hq => ht q (List.mem_cons_of_mem _ hq))
    have h2 := (List.nodup_cons.mp hn).1
    have h3 := ht p (List.mem_cons_self ..)
    show (nb1 i p ++ nb H i).Nodup
    refine List.nodup_append.mpr ⟨?_, h1, ?_⟩
    · obtain ⟨a, b⟩ := p
      unfold TieOk at h3
      simp only at h3
      simp only [nb1]
      split <;> split <;> simp
      omega
    · intro x hx y hy e
      subst e
      rw [mem_nb1] at hx
      rw [mem_nb] at hy
      rcases hx with rfl | rfl <;> rcases hy with hy | hy
      · exact h2 hy
      · have := ht _ (List.mem_cons_of_mem _ hy); unfold TieOk at this h3; simp only at this h3; omega
      · have := ht _ (List.mem_cons_of_mem _ hy); unfold TieOk at this h3; simp only at this h3; omega
      · exact h2 hy

theorem nodup_len {m : Nat} : ∀ {l : List Int}, l.Nodup → (∀ x ∈ l, 0 ≤ x ∧ x < m) → l.length ≤ m := by
  induction m with
  | zero =>
    intro l _ h
    cases l with
    | nil => simp
    | cons a l => have := h a (List.mem_cons_self ..); omega
  | succ m ih =>
    intro l hn h
    have h1 := ih (hn.erase (m : Int)) (fun x hx => by
      have hx' := (hn.mem_erase_iff).mp hx
      have := h x hx'.2
      have := hx'.1
      omega)
    by_cases hm : (m : Int) ∈ l
    · rw [List.length_erase_of_mem hm] at h1; omega
    · rw [List.erase_of_not_mem hm] at h1; omega
theorem nb_len {n : Int} {H : List (Int × Int)} {i : Int} (hn : H.Nodup) (ht : ∀ p ∈ H, TieOk n p) (h0 : 0 ≤ n) (h40 : n ≤ 40) : (nb H i).length ≤ 40 := by
  refine nodup_len (nb_nodup hn ht) fun x hx => ?_
  rcases mem_nb.mp hx with h | h
  · have := ht _ h; unfold TieOk at this; simp only at this; omega
  · have := ht _ h; unfold TieOk at this; simp only at this; omega

noncomputable def sortI (l : List Int) : List Int := l.mergeSort (fun a b => decide (a ≤ b))
theorem sortI_perm (l : List Int) : (sortI l).Perm l := List.mergeSort_perm _ _
theorem sortI_sorted (l : List Int) : (sortI l).Pairwise (· ≤ ·) := by
  have := List.pairwise_mergeSort (le := fun a b : Int => decide (a ≤ b)) (by simp; omega) (by simp; omega) l
  simpa [sortI] using this
theorem ints?_map (l : List Int) : ints? (l.map V.int) = some l := by
  induction l with
  | nil => rfl
  | cons a l ih => simp [ints?, ih]
theorem sortedV_ints {l : List Int} (h : l.length < 64) : sortedV (l.map V.int) = some ((sortI l).map V.int) := by
  simp [sortedV, h, ints?_map, sortI]
end Mine.Internal
end

section
set_option linter.unusedVariables false
set_option linter.unusedSimpArgs false
namespace Mine.Internal
open PySem

/-- all but d is as it was -/
noncomputable def Frm (d : Addr) (σ σ' : Store) : Prop := ∀ a o, a ≠ d → σ a = some o → σ' a = some o
theorem Frm.trans {d : Addr} {σ σ' σ'' : Store} (h : Frm d σ σ') (g : Frm d σ' σ'') : Frm d σ σ'' := fun a o n e => g a o n (h a o n e)
theorem Frm.ext {d : Addr} {σ σ' σ'' : Store} (h : Frm d σ σ') (g : Ext σ' σ'') : Frm d σ σ'' := fun a o n e => g a o (h a o n e)
theorem Frm.upd {d : Addr} {σ σ' : Store} {o : AO} (h : Frm d σ σ') : Frm d σ (σ'.upd d o) := fun a p n e => by rw [updNe n]; exact h a p n e
theorem Frm.none {d a : Addr} {σ σ' : Store} (h : Frm d σ σ') (n : a ≠ d) (g : σ' a = none) : σ a = none := by
  cases e : σ a with
  | none => rfl
  | some o => rw [h a o n e] at g; cases g

/-- the rows of a net -/
structure Rows (σ : Store) (r : Addr) (rs : List Addr) (n : Nat) (f : Nat → List Int) : Prop where
  top : σ r = some (.list (rs.map V.ref))
  len : rs.length = n
  nod : rs.Nodup
  row : ∀ i a, rs[i]? = some a → σ a = some (.list ((f i).map V.int))

section
variable {k : Nat} {σ : Store} {Q : V → Store → Prop} {X : XP}

/-- fresh empty rows -/
theorem rows_new {n : Nat} (hn : n ≤ 1000) {items : List V} (hi : items.length = n) {σ : Store} {B : V → Store → (Option V → Store → Prop) → Prop} {Q : V → Store → Prop}
    (hB : ∀ v σ K, (∀ a, σ a = none → K (some (.ref a)) (σ.upd a (.list []))) → B v σ K)
    (h : ∀ r rs σ', Ext σ σ' → σ r = none → (∀ a ∈ rs, σ a = none) → r ∉ rs → Rows σ' r rs n (fun _ => []) → Q (.ref r) σ') :
    compV (fun _ => True) B Q items [] σ := by
  refine compV_inv (fun i acc σ' => ∃ rs, acc = rs.map V.ref ∧ rs.length = i ∧ rs.Nodup ∧ Ext σ σ' ∧ ∀ a ∈ rs, σ a = none ∧ σ' a = some (.list []))
    ⟨[], by simp, by simp, by simp, Ext.rfl, by simp⟩ ?_ (by unfold szLim; omega) ?_ ?_
  · intro i acc σ' zz17
    refine ob10 zz17 ?_
    clear zz17
    intro rs ee136
    subst ee136
    intro h1 _
    simp [h1]
  · intro i v acc σ' K hv zz18
    refine ob25 zz18 ?_
    clear zz18
    intro rs ee137
    subst ee137
    intro h1 h2 h3 h4
    intro hK
    refine hB v σ' K fun a ha => hK _ _ ⟨rs ++ [a], by simp, by simp [h1], ?_, h3.upd (h3.none ha), ?_⟩
    · refine List.nodup_append.mpr ⟨h2, by simp, ?_⟩
      intro x hx y hy e
      simp at hy; subst hy; subst e
      rw [(h4 x hx).2] at ha; cases ha
    · intro x hx
      rcases List.mem_append.mp hx with hx' | hx
      · refine ob8 (h4 x hx') ?_
        intro g1 g2
        refine ⟨g1, ?_⟩
        rw [updNe (by rintro rfl; rw [g2] at ha; cases ha)]
        exact g2
      · simp at hx; subst hx
        exact ⟨h3.none ha, updSame⟩
  · intro acc σ' zz19
    refine ob25 zz19 ?_
    clear zz19
    intro rs ee138
    subst ee138
    intro h1 h2 h3 h4
    intro r hr
    have hnot : r ∉ rs := fun hm => by rw [(h4 r hm).2] at hr; cases hr
    refine h r rs _ (h3.upd (h3.none hr)) (h3.none hr) (fun a ha => (h4 a ha).1) hnot ⟨updSame, by omega, h2, ?_⟩
    intro i a ha
    have hm : a ∈ rs := List.mem_of_getElem? ha
    rw [updNe (by rintro rfl; exact hnot hm)]
    simpa using (h4 a hm).2

theorem Rows.congr {σ : Store} {r : Addr} {rs : List Addr} {n : Nat} {f g : Nat → List Int} (h : Rows σ r rs n f) (e : ∀ i, i < n → f i = g i) : Rows σ r rs n g := by
  refine ⟨h.top, h.len, h.nod, fun i a ha => ?_⟩
  have hi : i < n := by
    rw [← h.len]
    rcases Nat.lt_or_ge i rs.length with g | g
    · exact g
    · rw [List.getElem?_eq_none g] at ha; cases ha
  rw [← e i hi]; exact h.row i a ha
/-- rows stand where nothing of them is changed -/
theorem Rows.keep {σ σ' : Store} {r : Addr} {rs : List Addr} {n : Nat} {f : Nat → List Int} (h : Rows σ r rs n f) (e : ∀ a, a = r ∨ a ∈ rs → σ' a = σ a) : Rows σ' r rs n f :=
  ⟨by rw [e r (Or.inl rfl)]; exact h.top, h.len, h.nod, fun i a ha => by rw [e a (Or.inr (List.mem_of_getElem? ha))]; exact h.row i a ha⟩
theorem Rows.put {σ : Store} {r : Addr} {rs : List Addr} {n : Nat} {f : Nat → List Int} (h : Rows σ r rs n f) (hr : r ∉ rs) {i : Nat} {a : Addr} (ha : rs[i]? = some a) (l : List Int) :
    Rows (σ.upd a (.list (l.map V.int))) r rs n (fun j => if j = i then l else f j) := by
  have hm := List.mem_of_getElem? ha
  refine ⟨?_, h.len, h.nod, fun j b hb => ?_⟩
  · rw [updNe (by rintro rfl; exact hr hm)]; exact h.top
  · by_cases hj : j = i
    · subst hj; rw [ha] at hb; cases hb; simp
    · have hab : b ≠ a := by
        rintro rfl
        have hi : i < rs.length := by
          rcases Nat.lt_or_ge i rs.length with g | g
          · exact g
          · rw [List.getElem?_eq_none g] at ha; cases ha
        exact hj ((List.getElem?_inj hi h.nod).mp (ha.trans hb.symm)).symm
      rw [updNe hab, if_neg hj]; exact h.row j b hb

theorem attr_of {F : String → String → Prop} {x d : Addr} {c name : String} {fs : List (String × V)} {v : V} {K : V → Prop} (hx : σ x = some (.inst c d)) (hd : σ d = some (.ns fs)) (hF : F c name) (hl : fs.lookup name = some v) (h : K v) : attrV F (.ref x) name σ K := by
  simp only [attrV, onInst, hx, hd]
  refine ⟨hF, ?_⟩
  rw [hl]; exact h
theorem idx_of {a : Addr} {vs : List V} {i : Int} {v : V} {K : V → Prop} (ha : σ a = some (.list vs)) (hi : 0 ≤ i) (hv : vs[i.toNat]? = some v) (h : K v) : idxV (.ref a) (.int i) σ K := by
  have hlt : i.toNat < vs.length := by
    rcases Nat.lt_or_ge i.toNat vs.length with g | g
    · exact g
    · rw [List.getElem?_eq_none g] at hv; cases hv
  have : pyIdx i vs.length = some i.toNat := by simp [pyIdx, hi, hlt]
  simp only [idxV, onSeq, ha, onInt_int, this, onSome_some, hv]
  exact h
theorem idx_tup {vs : List V} {i : Int} {v : V} {K : V → Prop} (hl : vs.length ≤ szLim) (hi : 0 ≤ i) (hv : vs[i.toNat]? = some v) (h : K v) : idxV (.tup vs) (.int i) σ K := by
  have hlt : i.toNat < vs.length := by
    rcases Nat.lt_or_ge i.toNat vs.length with g | g
    · exact g
    · rw [List.getElem?_eq_none g] at hv; cases hv
  have : pyIdx i vs.length = some i.toNat := by simp [pyIdx, hi, hlt]
  simp only [idxV, onSeq, onInt_int, this, onSome_some, hv]
  exact ⟨hl, h⟩
theorem append_of {a : Addr} {vs : List V} {x : V} (ha : σ a = some (.list vs)) (hl : vs.length < szLim) (h : Q .none (σ.upd a (.list (vs ++ [x])))) : m1V .append (.ref a) x σ Q := by
  simp only [m1V, onList, ha]; exact ⟨hl, h⟩
theorem idx_pr0 {p : Int × Int} {K : V → Prop} (h : K (.int p.1)) : idxV (pr p) (.int 0) σ K := idx_tup (by simp [szLim]) (by omega) rfl h
theorem idx_pr1 {p : Int × Int} {K : V → Prop} (h : K (.int p.2)) : idxV (pr p) (.int 1) σ K := idx_tup (by simp [szLim]) (by omega) rfl h

theorem keysOk_pr {D : List (Int × Int)} : keysOk (D.map pr) = true := by
  have : (D.map pr).all isPairV = true := by simp [pr, isPairV]
  simp [keysOk, this]
theorem hasKey_pr {D : List (Int × Int)} {p : Int × Int} : hasKey (pr p) (D.map pr) = decide (p ∈ D) := by
  induction D with
  | nil => rfl
  | cons q D ih =>
    have : hasKey (pr p) ((q :: D).map pr) = (keyEq (pr q) (pr p) || hasKey (pr p) (D.map pr)) := rfl
    rw [this, ih]
    refine lift fun gg back => ?_
    obtain ⟨a, b⟩ := p
    obtain ⟨c, d⟩ := q
    refine back ?_
    clear back gg
    rw [Bool.eq_iff_iff]
    simp [keyEq_int, keyEq_pr, pr]
    constructor
    · rintro (⟨rfl, rfl⟩ | h)
      · exact Or.inl ⟨rfl, rfl⟩
      · exact Or.inr h
    · rintro (⟨rfl, rfl⟩ | h)
      · exact Or.inl ⟨rfl, rfl⟩
      · exact Or.inr h
theorem fldN {md : Bool} : (sem tab03 fld03 k md).fld "Net" "rows" := by rw [hfld03]; rfl
theorem fldS {md : Bool} : (sem tab03 fld03 k md).fld "Net" "size" := by rw [hfld03]; rfl
end
end Mine.Internal
end

section
set_option linter.unusedVariables false
set_option linter.unusedSimpArgs false
namespace Mine.Internal
open PySem
section
variable {k : Nat} {σ : Store} {Q : V → Store → Prop} {X : XP}
theorem nb_put {D : List (Int × Int)} {p : Int × Int} {i : Int} (h : p.1 ≠ p.2) : nb (D ++ [p]) i = if i = p.1 then nb D i ++ [p.2] else if i = p.2 then nb D i ++ [p.1] else nb D i := by
  rw [nb_append]
  have : nb [p] i = nb1 i p := by simp [nb]
  rw [this]
  unfold nb1
  by_cases h1 : i = p.1
  · subst h1
    have h2 : ¬ (p.2 = p.1) := fun e => h e.symm
    simp [h2]
  · by_cases h2 : i = p.2
    · subst h2; simp [h, h1]
    · have h3 : ¬ (p.1 = i) := fun e => h1 e.symm
      have h4 : ¬ (p.2 = i) := fun e => h2 e.symm
      simp [h1, h2, h3, h4]

/-- one tie is put into the rows -/
theorem init_put {x d r s w : Addr} {rs : List Addr} {n : Int} {D : List (Int × Int)} {p : Int × Int} {t5 t6 : Option V} {N R Y}
    (hx : σ x = some (.inst "Net" d)) (hd : σ d = some (.ns [("size", .int n), ("rows", .ref r)])) (hs : σ s = some (.dict (D.map pr)))
    (hR : Rows σ r rs n.toNat (fun i => nb D i)) (hr : r ∉ rs) (hxs : x ≠ s) (hds : d ≠ s) (hxr : x ∉ rs) (hdr : d ∉ rs) (hrs : r ≠ s) (hsr : s ∉ rs)
    (hD : D.length ≤ 2000) (hl : ∀ i, (nb D i).length ≤ 40) (hp : TieOk n p) (hpD : p ∉ D)
    (hN : ∀ σ', (∀ a, a ≠ s → a ∉ rs → σ' a = σ a) → σ' s = some (.dict ((D ++ [p]).map pr)) → Rows σ' r rs n.toNat (fun i => nb (D ++ [p]) i) →
      N [some (.ref x), some (.int n), some (.ref w), some (.ref s), some (pr p), t5, t6] σ') :
    wpSs (sem tab03 fld03 k) true T_Net_init_1 [some (.ref x), some (.int n), some (.ref w), some (.ref s), some (pr p), t5, t6] σ N R Y := by
  refine lift fun gg back => ?_
  obtain ⟨h0, h1, h2⟩ := hp
  refine back ?_
  clear back gg
  have ha : p.1.toNat < rs.length := by rw [hR.len]; omega
  have hb : p.2.toNat < rs.length := by rw [hR.len]; omega
  obtain ⟨a, ha⟩ : ∃ a, rs[p.1.toNat]? = some a := ⟨_, List.getElem?_eq_getElem ha⟩
  obtain ⟨b, hb⟩ : ∃ a, rs[p.2.toNat]? = some a := ⟨_, List.getElem?_eq_getElem hb⟩
  have hma := List.mem_of_getElem? ha
  have hmb := List.mem_of_getElem? hb
  have ne {z : Addr} (h : z ∉ rs) {y : Addr} (g : y ∈ rs) : z ≠ y := by rintro rfl; exact h g
  have hnk : putKey (pr p) (D.map pr) = (D ++ [p]).map pr := by simp [putKey, hasKey_pr, hpD]
  have hko : keysOk (pr p :: D.map pr) = true := keysOk_pr (D := p :: D)
  simp only [T_Net_init_1, Ss_nil, Ss_cons, S_expr, S_assign, S_setattr, S_setitem, S_ret, S_pass, S_raise, S_iff, S_whil, S_for, S_tryx, E_none, E_tt, E_ff, E_int, E_str, E_var, E_glob, E_bin, E_neg, E_not, E_cmp, E_cmp2, E_bool, E_call, E_make, E_meth, E_m0, E_m1, E_insert, E_attr, E_idx, E_slice, E_rev, E_list, E_tuple, E_dict0, E_b1, E_min2, E_max2, E_isin, E_dict1, wpE_comp, Loc.get, setitemV, hs, List.getElem?_cons_zero, List.getElem?_cons_succ, Option.join_some, onSome_some]
  refine ⟨⟨hko, by simp [szLim]; omega, trivial⟩, ?_⟩
  rw [hnk]
  have hR1 : Rows (σ.upd s (.dict ((D ++ [p]).map pr))) r rs n.toNat (fun i => nb D i) := hR.keep fun z hz => by
    rw [updNe]
    rintro rfl
    rcases hz with rfl | hz
    · exact hrs rfl
    · exact hsr hz
  refine attr_of (by rw [updNe hxs]; exact hx) (by rw [updNe hds]; exact hd) fldN rfl ?_
  refine idx_pr0 (idx_of hR1.top h0 (by rw [List.getElem?_map, ha]; rfl) ?_)
  refine onList_of (hR1.row _ _ ha) (idx_pr1 (append_of (hR1.row _ _ ha) ?_ ⟨rfl, ?_⟩))
  · have := hl p.1.toNat; rw [List.length_map]; unfold szLim; omega
  have e1 : (nb D ↑p.1.toNat).map V.int ++ [V.int p.2] = (nb D ↑p.1.toNat ++ [p.2]).map V.int := by simp
  rw [e1]
  have hR2 := hR1.put hr ha (nb D ↑p.1.toNat ++ [p.2])
  refine attr_of (by rw [updNe (ne hxr hma), updNe hxs]; exact hx) (by rw [updNe (ne hdr hma), updNe hds]; exact hd) fldN rfl ?_
  refine idx_pr1 (idx_of hR2.top (by omega) (by rw [List.getElem?_map, hb]; rfl) ?_)
  have h5 : p.2.toNat ≠ p.1.toNat := by omega
  have hrow := hR2.row _ _ hb
  simp only [if_neg h5] at hrow
  refine onList_of hrow (idx_pr0 (append_of hrow ?_ ⟨rfl, ?_⟩))
  · have := hl p.2.toNat; rw [List.length_map]; unfold szLim; omega
  have e2 : (nb D ↑p.2.toNat).map V.int ++ [V.int p.1] = (nb D ↑p.2.toNat ++ [p.1]).map V.int := by simp
  rw [e2]
  have hR3 := hR2.put hr hb (nb D ↑p.2.toNat ++ [p.1])
  refine hN _ ?_ ?_ ?_
  · intro z hz hz'
    rw [updNe (ne hz' hmb), updNe (ne hz' hma), updNe hz]
  · rw [updNe (ne hsr hmb), updNe (ne hsr hma)]; exact updSame
  · refine hR3.congr fun i hi => ?_
    rw [nb_put (by omega)]
    by_cases g1 : i = p.1.toNat
    · subst g1
      rw [if_neg (fun e => h5 e.symm), if_pos rfl, if_pos (by omega)]
    · by_cases g2 : i = p.2.toNat
      · subst g2
        rw [if_pos rfl, if_neg (by omega), if_pos (by omega)]
      · rw [if_neg g2, if_neg g1, if_neg (by omega), if_neg (by omega)]
end
end Mine.Internal
end

section
set_option linter.unusedVariables false
set_option linter.unusedSimpArgs false
namespace Mine.Internal
open PySem
section
variable {k : Nat} {σ : Store} {Q : V → Store → Prop} {X : XP}
theorem tb_is_tie : (tab03 "" "is_tie").isSome = true := rfl
theorem tb_is_place : (tab03 "" "is_place").isSome = true := rfl
theorem isTie_pr {n : Int} {p : Int × Int} (h : TieOk n p) : isTieV (pr p) n = true := by
  refine lift fun gg back => ?_
  obtain ⟨h0, h1, h2⟩ := h
  refine back ?_
  clear back gg
  simp [isTieV, pr, h0, h1, h2]
noncomputable def KindsOk (σ : Store) (b : V) : Prop := (kindV σ b).isSome = true ∧ ∀ vs, b = .tup vs → vs.length ≤ szLim ∧ ∀ u ∈ vs, (kindV σ u).isSome = true
noncomputable def BadB (d : Addr) (σ : Store) (n : Int) (H : List (Int × Int)) (b : V) : Prop :=
  (isTieV b n = false ∧ ∀ σ', Frm d σ σ' → KindsOk σ' b) ∨ ∃ p ∈ H, b = pr p
theorem kindsOk_pr {p : Int × Int} : KindsOk σ (pr p) := ⟨rfl, by
  rintro vs h
  cases h
  refine ⟨by simp [szLim], ?_⟩
  intro u hu
  simp at hu
  rcases hu with rfl | rfl <;> rfl⟩

/-- one turn of the loop over the ties told -/
theorem init_turn_ok {x d r s w : Addr} {rs : List Addr} {n : Int} {D : List (Int × Int)} {p : Int × Int} {t5 t6 : Option V} {N R Y}
    (hx : σ x = some (.inst "Net" d)) (hd : σ d = some (.ns [("size", .int n), ("rows", .ref r)])) (hs : σ s = some (.dict (D.map pr)))
    (hR : Rows σ r rs n.toNat (fun i => nb D i)) (hr : r ∉ rs) (hxs : x ≠ s) (hds : d ≠ s) (hxr : x ∉ rs) (hdr : d ∉ rs) (hrs : r ≠ s) (hsr : s ∉ rs)
    (hD : D.length ≤ 2000) (hl : ∀ i, (nb D i).length ≤ 40) (hp : TieOk n p) (hpD : p ∉ D)
    (hN : ∀ σ', (∀ a, a ≠ s → a ∉ rs → σ' a = σ a) → σ' s = some (.dict ((D ++ [p]).map pr)) → Rows σ' r rs n.toNat (fun i => nb (D ++ [p]) i) →
      N [some (.ref x), some (.int n), some (.ref w), some (.ref s), some (pr p), t5, t6] σ') :
    wpSs (sem tab03 fld03 (k + 2)) true L_Net_init_1 [some (.ref x), some (.int n), some (.ref w), some (.ref s), some (pr p), t5, t6] σ N R Y := by
  have hko : keysOk (pr p :: D.map pr) = true := keysOk_pr (D := p :: D)
  simp only [L_Net_init_1, Ss_nil, Ss_cons, S_expr, S_assign, S_setattr, S_setitem, S_ret, S_pass, S_raise, S_iff, S_whil, S_for, S_tryx, E_none, E_tt, E_ff, E_int, E_str, E_var, E_glob, E_bin, E_neg, E_not, E_cmp, E_cmp2, E_bool, E_call, E_make, E_meth, E_m0, E_m1, E_insert, E_attr, E_idx, E_slice, E_rev, E_list, E_tuple, E_dict0, E_b1, E_min2, E_max2, E_isin, E_dict1, wpE_comp, Es_nil, Es_cons, B_one, B_cons, Loc.get, List.getElem?_cons_zero, List.getElem?_cons_succ, Option.join_some, onSome_some, has03, tb_is_tie, true_and]
  refine is_tie_spec kindsOk_pr.1 kindsOk_pr.2 ?_
  rw [isTie_pr hp]
  simp only [truthy_bool, onSome_some, Bool.not_true, Bool.false_eq_true, if_true, cmpV_In, cmpV_NotIn, cmpV_Eq, cmpV_Ne, inV, hs, hko, hasKey_pr, hpD, decide_false, if_false]
  exact init_put hx hd hs hR hr hxs hds hxr hdr hrs hsr hD hl hp hpD hN

theorem init_turn_bad {x d s w : Addr} {n : Int} {D : List (Int × Int)} {b : V} {t5 t6 : Option V} {N R Y}
    (hs : σ s = some (.dict (D.map pr))) (hk : KindsOk σ b) (hb : isTieV b n = false ∨ ∃ p ∈ D, b = pr p)
    (hY : ∀ a ρ, σ a = none → Y "BadNet" a ρ σ) :
    wpSs (sem tab03 fld03 (k + 2)) true L_Net_init_1 [some (.ref x), some (.int n), some (.ref w), some (.ref s), some b, t5, t6] σ N R Y := by
  simp only [L_Net_init_1, Ss_nil, Ss_cons, S_expr, S_assign, S_setattr, S_setitem, S_ret, S_pass, S_raise, S_iff, S_whil, S_for, S_tryx, E_none, E_tt, E_ff, E_int, E_str, E_var, E_glob, E_bin, E_neg, E_not, E_cmp, E_cmp2, E_bool, E_call, E_make, E_meth, E_m0, E_m1, E_insert, E_attr, E_idx, E_slice, E_rev, E_list, E_tuple, E_dict0, E_b1, E_min2, E_max2, E_isin, E_dict1, wpE_comp, Es_nil, Es_cons, B_one, B_cons, Loc.get, List.getElem?_cons_zero, List.getElem?_cons_succ, Option.join_some, onSome_some, has03, tb_is_tie, true_and]
  refine is_tie_spec hk.1 hk.2 ?_
  cases e : isTieV b n with
  | false =>
    simp only [truthy_bool, onSome_some, Bool.not_false, if_true, Bool.true_eq_false, if_false]
    exact ⟨by decide, fun a ha => hY a _ ha⟩
  | true =>
    rcases hb with hb | ⟨p, hp, rfl⟩
    · rw [e] at hb; cases hb
    have hko : keysOk (pr p :: D.map pr) = true := keysOk_pr (D := p :: D)
    simp only [truthy_bool, onSome_some, Bool.not_true, Bool.false_eq_true, if_true, cmpV_In, cmpV_NotIn, cmpV_Eq, cmpV_Ne, inV, hs, hko, hasKey_pr, hp, decide_true, if_false]
    exact ⟨by decide, fun a ha => hY a _ ha⟩

/-- the rows are put in order -/
theorem init_sort {x d r s w : Addr} {rs : List Addr} {n : Int} {H : List (Int × Int)} {t4 t5 t6 : Option V} {R Y} {N : Loc → Store → Prop}
    (hx : σ x = some (.inst "Net" d)) (hd : σ d = some (.ns [("size", .int n), ("rows", .ref r)])) (hxd : x ≠ d)
    (hR : Rows σ r rs n.toNat (fun i => nb H i)) (hdr : d ∉ rs) (hrd : r ≠ d) (hn : n ≤ 40) (hl : ∀ i, (nb H i).length ≤ 40)
    (hN : ∀ σ' r' rs' ρ, Frm d σ σ' → σ' d = some (.ns [("size", .int n), ("rows", .ref r')]) → Rows σ' r' rs' n.toNat (fun i => sortI (nb H i)) → σ r' = none → (∀ a ∈ rs', σ a = none) → r' ∉ rs' → N ρ σ') :
    wpSs (sem tab03 fld03 k) true T_Net_init_2 [some (.ref x), some (.int n), some (.ref w), some (.ref s), t4, t5, t6] σ N R Y := by
  simp only [T_Net_init_2, Ss_nil, Ss_cons, S_expr, S_assign, S_setattr, S_setitem, S_ret, S_pass, S_raise, S_iff, S_whil, S_for, S_tryx, E_none, E_tt, E_ff, E_int, E_str, E_var, E_glob, E_bin, E_neg, E_not, E_cmp, E_cmp2, E_bool, E_call, E_make, E_meth, E_m0, E_m1, E_insert, E_attr, E_idx, E_slice, E_rev, E_list, E_tuple, E_dict0, E_b1, E_min2, E_max2, E_isin, E_dict1, wpE_comp, I_r1, I_r2, I_r3, I_en, I_var, I_idx, I_attr, I_list, I_call, I_slice, itR1_int, itR2_int, itR3_int, itEn, Loc.get, List.getElem?_cons_zero, List.getElem?_cons_succ, Option.join_some, onSome_some, true_and, C_none, C_some, if_true, bindTg, List.set_cons_succ, List.set_cons_zero]
  refine attr_of hx hd fldN rfl ?_
  simp only [iterV]
  refine onList_of hR.top ?_
  have key : ∀ (j : Nat) a, rs[j]? = some a → σ a = some (.list ((nb H j).map V.int)) := fun j a h => hR.row j a h
  refine compV_inv (fun i acc σ' => ∃ rs', acc = rs'.map V.ref ∧ rs'.length = i ∧ rs'.Nodup ∧ Ext σ σ' ∧ (∀ a ∈ rs', σ a = none) ∧ ∀ (j : Nat) a, rs'[j]? = some a → σ' a = some (.list ((sortI (nb H j)).map V.int)))
    ⟨[], by simp, by simp, by simp, Ext.rfl, by simp, by simp⟩ ?_ (by rw [List.length_map, hR.len]; unfold szLim; omega) ?_ ?_
  · intro i acc σ' zz20
    refine ob25 zz20 ?_
    clear zz20
    intro rs' ee139
    subst ee139
    intro h1 _ h3 _
    exact ⟨h3 _ _ hR.top, by simp [h1]⟩
  · intro i v acc σ' K hv zz21
    refine ob41 zz21 ?_
    clear zz21
    intro rs' ee140
    subst ee140
    intro h1 h2 h3 h4 h5
    intro hK
    rw [List.getElem?_map] at hv
    refine ob5 (Option.map_eq_some_iff.mp hv) ?_
    intro a ha ee141
    subst ee141
    have hrow := h3 _ _ (key i a ha)
    simp only [b1V]
    refine Or.inl (onSrc_list hrow ?_)
    rw [sortedV_ints (by have := hl i; omega)]
    intro b hb
    refine hK _ _ ⟨rs' ++ [b], by simp, by simp [h1], ?_, h3.upd (h3.none hb), ?_, ?_⟩
    · refine List.nodup_append.mpr ⟨h2, by simp, ?_⟩
      intro y hy z hz e
      rw [List.mem_singleton] at hz; subst hz; subst e
      refine lift fun gg back => ?_
      obtain ⟨j, hj, hj'⟩ := List.mem_iff_getElem.mp hy
      refine back ?_
      clear back gg
      have := h5 j y (by rw [List.getElem?_eq_getElem hj, hj'])
      rw [hb] at this; cases this
    · intro y hy
      rcases List.mem_append.mp hy with hy | hy
      · exact h4 y hy
      · rw [List.mem_singleton] at hy; subst hy; exact h3.none hb
    · intro j y hy
      by_cases hj : j < rs'.length
      · rw [List.getElem?_append_left hj] at hy
        have := h5 j y hy
        rw [updNe (by rintro rfl; rw [hb] at this; cases this)]
        exact this
      · rw [List.getElem?_append_right (by omega)] at hy
        have hji : j = i := by
          rcases Nat.lt_or_ge (j - rs'.length) 1 with g | g
          · omega
          · rw [List.getElem?_eq_none (by simpa using g)] at hy; cases hy
        subst hji
        rw [h1, Nat.sub_self] at hy
        cases hy
        exact updSame
  · intro acc σ' zz22
    refine ob41 zz22 ?_
    clear zz22
    intro rs' ee142
    subst ee142
    intro h1 h2 h3 h4 h5
    intro r' hr'
    have hrd' : r' ≠ d := by rintro rfl; rw [h3 _ _ hd] at hr'; cases hr'
    have hrx' : r' ≠ x := by rintro rfl; rw [h3 _ _ hx] at hr'; cases hr'
    have hnot : r' ∉ rs' := fun hm => by
      refine lift fun gg back => ?_
      obtain ⟨j, hj, hj'⟩ := List.mem_iff_getElem.mp hm
      refine back ?_
      clear back gg
      have := h5 j r' (by rw [List.getElem?_eq_getElem hj, hj'])
      rw [hr'] at this; cases this
    have hdn : ∀ a ∈ rs', a ≠ d := fun a ha e => by subst e; rw [h4 _ ha] at hd; cases hd
    simp only [setattrV]
    refine onInst_of (c := "Net") (d := d) (fs := [("size", .int n), ("rows", .ref r)]) (by rw [updNe hrx'.symm]; exact h3 _ _ hx) (by rw [updNe hrd'.symm]; exact h3 _ _ hd) ⟨⟨fldN, by simp⟩, ?_⟩
    refine hN _ r' rs' _ ?_ ?_ ⟨?_, ?_, h2, ?_⟩ (h3.none hr') h4 hnot
    · exact Frm.upd (fun a o _ e => (h3.upd (h3.none hr')) a o e)
    · rw [updSame]; rfl
    · rw [updNe hrd', updSame]
    · rw [h1, List.length_map, hR.len]
    · intro i a ha
      have hm := List.mem_of_getElem? ha
      rw [updNe (hdn a hm), updNe (by rintro rfl; exact hnot hm)]
      exact h5 i a ha
end
end Mine.Internal
end

section
set_option linter.unusedVariables false
set_option linter.unusedSimpArgs false
namespace Mine.Internal
open PySem
section
variable {k : Nat} {σ : Store} {Q : V → Store → Prop} {X : XP}

theorem isPlace_int {i n : Int} (h : 0 ≤ i) (h' : i < n) : isPlaceV (.int i) n = true := by simp [isPlaceV, h, h']

theorem init_spec {x d w : Addr} {n : Int} {H : List (Int × Int)} {rest : List V} (hx : σ x = some (.inst "Net" d)) (hd : σ d = some (.ns [])) (hxd : x ≠ d)
    (hw : σ w = some (.list (H.map pr ++ rest))) (h1 : 1 ≤ n) (h2 : n ≤ 40) (hH : H.Nodup) (hT : ∀ p ∈ H, TieOk n p) (hlen : H.length ≤ 2000)
    (hbad : ∀ b r, rest = b :: r → BadB d σ n H b)
    (hQ : rest = [] → ∀ σ' r rs, Frm d σ σ' → σ' d = some (.ns [("size", .int n), ("rows", .ref r)]) → Rows σ' r rs n.toNat (fun i => sortI (nb H i)) → σ r = none → (∀ a ∈ rs, σ a = none) → r ∉ rs → Q .none σ')
    (hX : rest ≠ [] → ∀ a σ', Frm d σ σ' → σ' a = none → X "BadNet" a σ') :
    (sem tab03 fld03 (k + 3) true).run "Net" "__init__" [.ref x, .int n, .ref w] σ Q X := by
  refine run_succ (F := F_Net_init) rfl ⟨rfl, ?_⟩
  simp [F_Net_init, Ss_nil, Ss_cons, S_expr, S_assign, S_setattr, S_setitem, S_ret, S_pass, S_raise, S_iff, S_whil, S_for, S_tryx, E_none, E_tt, E_ff, E_int, E_str, E_var, E_glob, E_bin, E_neg, E_not, E_cmp, E_cmp2, E_bool, E_call, E_make, E_meth, E_m0, E_m1, E_insert, E_attr, E_idx, E_slice, E_rev, E_list, E_tuple, E_dict0, E_b1, E_min2, E_max2, E_isin, E_dict1, wpE_comp, Es_nil, Es_cons, B_one, B_cons, Loc.get, has03, tb_is_place, globs]
  refine is_place_spec rfl ?_
  rw [isPlace_int (by omega) (by omega)]
  have hlt : ¬ n < 1 := by omega
  simp [hlt, isInst, kindV, hw, isKd]
  simp only [T_Net_init_4, Ss_nil, Ss_cons, S_expr, S_assign, S_setattr, S_setitem, S_ret, S_pass, S_raise, S_iff, S_whil, S_for, S_tryx, E_none, E_tt, E_ff, E_int, E_str, E_var, E_glob, E_bin, E_neg, E_not, E_cmp, E_cmp2, E_bool, E_call, E_make, E_meth, E_m0, E_m1, E_insert, E_attr, E_idx, E_slice, E_rev, E_list, E_tuple, E_dict0, E_b1, E_min2, E_max2, E_isin, E_dict1, wpE_comp, Es_nil, Es_cons, I_r1, I_r2, I_r3, I_en, I_var, I_idx, I_attr, I_list, I_call, I_slice, itR1_int, itR2_int, itR3_int, itEn, Loc.get, List.getElem?_cons_zero, List.getElem?_cons_succ, Option.join_some, onSome_some, true_and, C_none, C_some, if_true, bindTg, setattrV, onInt_int]
  refine onInst_of hx hd ⟨⟨fldS, by simp⟩, ⟨by omega, by omega⟩, ?_⟩
  refine rows_new (n := n.toNat) (by omega) (by simp [uptoLen]) ?_ ?_
  · intro v σ' K h
    exact ⟨by simp [szLim], h⟩
  intro r rs σ2 hE hr hrs hrr hR
  have hxr : x ∉ rs := fun h => by have := hrs _ h; rw [updNe hxd, hx] at this; cases this
  have hdr : d ∉ rs := fun h => by have := hrs _ h; rw [updSame] at this; cases this
  have hrd : r ≠ d := by rintro rfl; rw [updSame] at hr; cases hr
  have hrx : r ≠ x := by rintro rfl; rw [updNe hxd, hx] at hr; cases hr
  have hx2 : σ2 x = some (.inst "Net" d) := hE _ _ (by rw [updNe hxd]; exact hx)
  have hd2 : σ2 d = some (.ns [("size", .int n)]) := hE _ _ updSame
  refine onInst_of hx2 hd2 ⟨⟨fldN, by simp⟩, ?_⟩
  have ep : putF "rows" (V.ref r) [("size", V.int n)] = [("size", .int n), ("rows", .ref r)] := by simp [putF]
  rw [ep]
  simp only [T_Net_init_3, Ss_nil, Ss_cons, S_expr, S_assign, S_setattr, S_setitem, S_ret, S_pass, S_raise, S_iff, S_whil, S_for, S_tryx, E_none, E_tt, E_ff, E_int, E_str, E_var, E_glob, E_bin, E_neg, E_not, E_cmp, E_cmp2, E_bool, E_call, E_make, E_meth, E_m0, E_m1, E_insert, E_attr, E_idx, E_slice, E_rev, E_list, E_tuple, E_dict0, E_b1, E_min2, E_max2, E_isin, E_dict1, wpE_comp, Es_nil, Es_cons, I_r1, I_r2, I_r3, I_en, I_var, I_idx, I_attr, I_list, I_call, I_slice, itR1_int, itR2_int, itR3_int, itEn, Loc.get, List.getElem?_cons_zero, List.getElem?_cons_succ, Option.join_some, onSome_some, true_and, bindTg, tgOk, alloc]
  intro s hs
  have hsd : s ≠ d := by rintro rfl; rw [updSame] at hs; cases hs
  rw [updNe hsd] at hs
  have hsx : s ≠ x := by rintro rfl; rw [hx2] at hs; cases hs
  have hsr : s ≠ r := by rintro rfl; rw [hR.top] at hs; cases hs
  have hsrs : s ∉ rs := fun h => by
    refine lift fun gg back => ?_
    obtain ⟨j, hj, hj'⟩ := List.mem_iff_getElem.mp h
    refine back ?_
    clear back gg
    have := hR.row j s (by rw [List.getElem?_eq_getElem hj, hj'])
    rw [hs] at this; cases this
  have hwd : w ≠ d := by rintro rfl; rw [hd] at hw; cases hw
  have hw2 : σ2 w = some (.list (H.map pr ++ rest)) := hE _ _ (by rw [updNe hwd]; exact hw)
  have hws : w ≠ s := by rintro rfl; rw [hw2] at hs; cases hs
  have hwr : w ≠ r := by rintro rfl; rw [updNe hwd, hw] at hr; cases hr
  have hwrs : w ∉ rs := fun h => by have := hrs _ h; rw [updNe hwd, hw] at this; cases this
  have frs : ∀ a, a ≠ d → (a = s ∨ a ∈ rs) → σ a = none := by
    intro a had h
    rcases h with rfl | h
    · have := hE.none hs
      rwa [updNe had] at this
    · have := hrs _ h
      rwa [updNe had] at this
  simp only [List.set_cons_succ, List.set_cons_zero, List.map_cons, List.map_nil, List.length_cons, List.length_nil, List.cons_append, List.nil_append, List.replicate, iterV, Nat.reduceAdd, Nat.reduceSub, List.getElem?_cons_zero, List.getElem?_cons_succ, Option.join_some, onSome_some]
  refine onList_of (by rw [updNe hws, updNe hwd]; exact hw2) ?_
  have hFrm : Frm d σ ((σ2.upd d (.ns [("size", .int n), ("rows", .ref r)])).upd s (.dict [])) := by
    intro a o had e
    have has : a ≠ s := by rintro rfl; rw [frs _ had (Or.inl rfl)] at e; cases e
    rw [updNe has, updNe had]
    exact hE _ _ (by rw [updNe had]; exact e)
  refine forV_inv (fun j ρ σ' => j ≤ H.length ∧ σ' s = some (.dict ((H.take j).map pr)) ∧ Rows σ' r rs n.toNat (fun i => nb (H.take j) i) ∧
      (∀ a, a ≠ s → a ∉ rs → σ' a = ((σ2.upd d (.ns [("size", .int n), ("rows", .ref r)])).upd s (.dict [])) a) ∧ ∃ t4 t5 t6, ρ = [some (.ref x), some (.int n), some (.ref w), some (.ref s), t4, t5, t6])
    ⟨by omega, by simp, ?_, by simp, _, _, _, rfl⟩ ?_ ?_ ?_
  · refine (hR.congr (fun i _ => by simp [nb])).keep ?_
    intro a ha
    rcases ha with rfl | ha
    · rw [updNe hsr.symm, updNe hrd]
    · rw [updNe (by rintro rfl; exact hsrs ha), updNe (by rintro rfl; exact hdr ha)]
  · intro j ρ σ' zz23
    refine ob45 zz23 ?_
    clear zz23
    intro _ _ _ h _
    rw [h w hws hwrs, updNe hws, updNe hwd]; exact hw2
  · intro j v ρ σ' K hv zz24
    refine ob46 zz24 ?_
    clear zz24
    intro hj hs' hR' hfr t4 t5 t6 ee143
    subst ee143
    intro hK
    have hF' : Frm d σ σ' := by
      intro a o had e
      rw [hfr a (by rintro rfl; rw [frs _ had (Or.inl rfl)] at e; cases e) (fun h => by rw [frs _ had (Or.inr h)] at e; cases e)]
      exact hFrm a o had e
    simp only [List.set_cons_succ, List.set_cons_zero, onSome_some]
    by_cases hjl : j < H.length
    · rw [List.getElem?_append_left (by simpa using hjl), List.getElem?_map, List.getElem?_eq_getElem hjl] at hv
      cases hv
      have htake : H.take (j + 1) = H.take j ++ [H[j]] := by rw [List.take_succ_eq_append_getElem hjl]
      have hsub : ∀ q ∈ H.take j, q ∈ H := fun q hq => List.mem_of_mem_take hq
      refine init_turn_ok (d := d) (r := r) (rs := rs) (D := H.take j) ?_ ?_ hs' hR' hrr hsx.symm hsd.symm hxr hdr hsr.symm hsrs (by simp; omega) ?_ (hT _ (List.getElem_mem hjl)) ?_ ?_
      · rw [hfr x hsx.symm hxr, updNe hsx.symm, updNe hxd]; exact hx2
      · rw [hfr d hsd.symm hdr, updNe hsd.symm, updSame]
      · exact fun i => nb_len (n := n) (hH.sublist (List.take_sublist ..)) (fun q hq => hT q (hsub q hq)) (by omega) h2
      · intro hm
        have h5 := hH.sublist (List.take_sublist (j + 1) H)
        rw [htake, List.nodup_append] at h5
        exact h5.2.2 _ hm _ (by simp) rfl
      · intro σ'' g1 g2 g3
        refine hK _ _ ⟨hjl, by rw [htake]; exact g2, by rw [htake]; exact g3, ?_, _, _, _, rfl⟩
        intro a ha ha'
        rw [g1 a ha ha']; exact hfr a ha ha'
    · have hjH : j = H.length := by omega
      subst hjH
      rw [List.getElem?_append_right (by simp), List.length_map, Nat.sub_self] at hv
      cases hrest : rest with
      | nil => rw [hrest] at hv; cases hv
      | cons b r' =>
        rw [hrest] at hv
        cases hv
        have hne : rest ≠ [] := by rw [hrest]; simp
        have hb := hbad _ _ hrest
        rw [List.take_length] at hs'
        refine init_turn_bad (d := d) hs' ?_ ?_ ?_
        · rcases hb with ⟨_, hb⟩ | ⟨p, hp, rfl⟩
          · exact hb _ hF'
          · exact kindsOk_pr
        · rcases hb with ⟨hb, _⟩ | hb
          · exact Or.inl hb
          · exact Or.inr hb
        · intro a ρ ha
          exact hX hne a σ' hF' ha
  · intro ρ σ' zz25
    refine ob46 zz25 ?_
    clear zz25
    intro hj hs' hR' hfr t4 t5 t6 ee144
    subst ee144
    have hrest : rest = [] := by
      cases rest with
      | nil => rfl
      | cons b r' => simp at hj; omega
    subst hrest
    have el : (H.map pr ++ ([] : List V)).length = H.length := by simp
    rw [el, List.take_length] at hR'
    have hF' : Frm d σ σ' := by
      intro a o had e
      rw [hfr a (by rintro rfl; rw [frs _ had (Or.inl rfl)] at e; cases e) (fun h => by rw [frs _ had (Or.inr h)] at e; cases e)]
      exact hFrm a o had e
    refine init_sort (d := d) (r := r) (rs := rs) (H := H) ?_ ?_ hxd hR' hdr hrd h2 ?_ ?_
    · rw [hfr x hsx.symm hxr, updNe hsx.symm, updNe hxd]; exact hx2
    · rw [hfr d hsd.symm hdr, updNe hsd.symm, updSame]
    · exact fun i => nb_len (n := n) hH hT (by omega) h2
    · intro σ'' r' rs' ρ g1 g2 g3 g4 g5 g6
      have hdn : σ' d ≠ none := by rw [hfr d hsd.symm hdr, updNe hsd.symm, updSame]; simp
      refine hQ rfl σ'' r' rs' (hF'.trans g1) g2 g3 (hF'.none ?_ g4) (fun a ha => hF'.none ?_ (g5 a ha)) g6
      · rintro rfl; exact hdn g4
      · rintro rfl; exact hdn (g5 _ ha)

end
end Mine.Internal
end

section
set_option linter.unusedVariables false
set_option linter.unusedSimpArgs false
namespace Mine.Internal
open PySem

/-- the ties that stand in the rows -/
noncomputable def tiesRow (H : List (Int × Int)) (i : Nat) : List (Int × Int) := ((sortI (nb H i)).filter (fun x => decide ((i : Int) < x))).map (fun x => ((i : Int), x))
noncomputable def tiesUp (H : List (Int × Int)) (n : Nat) : List (Int × Int) := (List.range n).flatMap (tiesRow H)
theorem tiesUp_succ {H : List (Int × Int)} {n : Nat} : tiesUp H (n + 1) = tiesUp H n ++ tiesRow H n := by
  simp [tiesUp, List.range_succ]
theorem lexLt_nodup {T : List (Int × Int)} (h : T.Pairwise lexLt) : T.Nodup := h.imp (by
  intro zz26
  obtain ⟨a, b⟩ := zz26
  intro zz27
  obtain ⟨c, d⟩ := zz27
  intro h e
  cases e
  unfold lexLt at h; simp only at h; omega)
theorem sortI_nodup {l : List Int} (h : l.Nodup) : (sortI l).Nodup := (sortI_perm l).nodup_iff.mpr h
theorem sortI_strict {l : List Int} (h : l.Nodup) : (sortI l).Pairwise (· < ·) := by
  have h1 := sortI_sorted l
  have h2 := sortI_nodup h
  exact (h1.and h2).imp (by rintro a b ⟨x, y⟩; have : a ≠ b := y; omega)
theorem tiesRow_sorted {n : Int} {H : List (Int × Int)} {i : Nat} (hn : H.Nodup) (ht : ∀ p ∈ H, TieOk n p) : (tiesRow H i).Pairwise lexLt := by
  unfold tiesRow
  rw [List.pairwise_map]
  exact ((sortI_strict (nb_nodup hn ht)).filter _).imp (by intro a b h; exact Or.inr ⟨rfl, h⟩)
theorem mem_tiesRow {H : List (Int × Int)} {i : Nat} {p : Int × Int} : p ∈ tiesRow H i ↔ p.1 = i ∧ (i : Int) < p.2 ∧ p.2 ∈ nb H i := by
  unfold tiesRow
  simp only [List.mem_map, List.mem_filter, (sortI_perm _).mem_iff, decide_eq_true_eq]
  constructor
  · intro zz28
    refine ob47 zz28 ?_
    clear zz28
    intro x h1 h2 ee145
    subst ee145
    exact ⟨rfl, h2, h1⟩
  · intro zz29
    refine ob22 zz29 ?_
    clear zz29
    intro h1 h2 h3
    exact ⟨p.2, ⟨h3, h2⟩, by rw [← h1]⟩
theorem tiesUp_sorted {n : Int} {H : List (Int × Int)} {m : Nat} (hn : H.Nodup) (ht : ∀ p ∈ H, TieOk n p) : (tiesUp H m).Pairwise lexLt := by
  unfold tiesUp
  rw [List.pairwise_flatMap]
  refine ⟨fun i _ => tiesRow_sorted hn ht, ?_⟩
  refine List.pairwise_lt_range.imp ?_
  intro a b hab x hx y hy
  have h1 := (mem_tiesRow.mp hx).1
  have h2 := (mem_tiesRow.mp hy).1
  exact Or.inl (by omega)
theorem tiesUp_eq {n : Int} {H T : List (Int × Int)} (hT : GoodT n T) (hp : T.Perm H) : tiesUp H n.toNat = T := by
  have hTn := lexLt_nodup hT.1
  have hHn : H.Nodup := hp.nodup_iff.mp hTn
  have ht : ∀ p ∈ H, TieOk n p := fun p h => hT.2 p (hp.mem_iff.mpr h)
  have h1 := tiesUp_sorted (m := n.toNat) hHn ht
  have h2 : (tiesUp H n.toNat).Perm T := by
    rw [List.perm_ext_iff_of_nodup (lexLt_nodup h1) hTn]
    intro p
    simp only [tiesUp, List.mem_flatMap, List.mem_range, mem_tiesRow, mem_nb]
    constructor
    · rintro ⟨i, hi, h1, h2, h3 | h3⟩
      · rw [← h1] at h3; exact hp.mem_iff.mpr h3
      · have := ht _ h3; unfold TieOk at this; simp only at this; omega
    · intro h
      have h5 := hT.2 p h
      unfold TieOk at h5
      have h6 := hp.mem_iff.mp h
      refine ⟨p.1.toNat, by omega, by omega, by omega, Or.inl ?_⟩
      rw [show ((p.1.toNat : Nat) : Int) = p.1 by omega]
      exact h6
  exact List.Perm.eq_of_pairwise (fun a b _ _ x y => by unfold lexLt at x y; omega) h1 hT.1 h2

/-- a net that stands -/
structure NetAt (σ : Store) (x d r : Addr) (rs : List Addr) (n : Int) (H : List (Int × Int)) : Prop where
  top : σ x = some (.inst "Net" d)
  dic : σ d = some (.ns [("size", .int n), ("rows", .ref r)])
  rows : Rows σ r rs n.toNat (fun i => sortI (nb H i))
  lo : 1 ≤ n
  hi : n ≤ 40
  nod : H.Nodup
  ok : ∀ p ∈ H, TieOk n p
theorem Rows.ext {σ σ' : Store} {r : Addr} {rs : List Addr} {n : Nat} {f : Nat → List Int} (h : Rows σ r rs n f) (e : Ext σ σ') : Rows σ' r rs n f :=
  ⟨e _ _ h.top, h.len, h.nod, fun i a ha => e _ _ (h.row i a ha)⟩
theorem NetAt.ext {σ σ' : Store} {x d r : Addr} {rs : List Addr} {n : Int} {H : List (Int × Int)} (h : NetAt σ x d r rs n H) (e : Ext σ σ') : NetAt σ' x d r rs n H :=
  ⟨e _ _ h.top, e _ _ h.dic, h.rows.ext e, h.lo, h.hi, h.nod, h.ok⟩
theorem NetAt.upd {σ : Store} {x d r : Addr} {rs : List Addr} {n : Int} {H : List (Int × Int)} (h : NetAt σ x d r rs n H) {a : Addr} (ha : σ a = none) {o : AO} : NetAt (σ.upd a o) x d r rs n H :=
  h.ext (Ext.rfl.upd ha)
theorem NetAt.rowAt {σ : Store} {x d r : Addr} {rs : List Addr} {n : Int} {H : List (Int × Int)} (h : NetAt σ x d r rs n H) {i : Nat} (hi : (i : Int) < n) :
    ∃ a, rs[i]? = some a ∧ σ a = some (.list ((sortI (nb H i)).map V.int)) := by
  have : i < rs.length := by rw [h.rows.len]; omega
  exact ⟨_, List.getElem?_eq_getElem this, h.rows.row i _ (List.getElem?_eq_getElem this)⟩
theorem NetAt.rowLen {σ : Store} {x d r : Addr} {rs : List Addr} {n : Int} {H : List (Int × Int)} (h : NetAt σ x d r rs n H) (i : Int) : (sortI (nb H i)).length ≤ 40 := by
  rw [(sortI_perm _).length_eq]
  exact nb_len h.nod h.ok (by have := h.lo; omega) h.hi

section
variable {k : Nat} {md : Bool} {σ : Store} {Q : V → Store → Prop} {X : XP}

theorem ties_spec {x d r : Addr} {rs : List Addr} {n : Int} {H : List (Int × Int)} (h : NetAt σ x d r rs n H)
    (hQ : ∀ b, σ b = none → Q (.ref b) (σ.upd b (.list ((tiesUp H n.toNat).map pr)))) : (sem tab03 fld03 (k + 1) true).run "Net" "ties" [.ref x] σ Q X := by
  refine run_succ (F := F_Net_ties) rfl ⟨rfl, ?_⟩
  simp [F_Net_ties, Ss_nil, Ss_cons, S_expr, S_assign, S_setattr, S_setitem, S_ret, S_pass, S_raise, S_iff, S_whil, S_for, S_tryx, E_none, E_tt, E_ff, E_int, E_str, E_var, E_glob, E_bin, E_neg, E_not, E_cmp, E_cmp2, E_bool, E_call, E_make, E_meth, E_m0, E_m1, E_insert, E_attr, E_idx, E_slice, E_rev, E_list, E_tuple, E_dict0, E_b1, E_min2, E_max2, E_isin, E_dict1, wpE_comp, Es_nil, Es_cons, I_r1, I_r2, I_r3, I_en, I_var, I_idx, I_attr, I_list, I_call, I_slice, itR1_int, itR2_int, itR3_int, itEn, Loc.get, tgOk, bindTg, alloc, szLim]
  intro b hb
  have hxb : x ≠ b := by rintro rfl; rw [h.top] at hb; cases hb
  have hdb : d ≠ b := by rintro rfl; rw [h.dic] at hb; cases hb
  have hlo := h.lo
  have hhi := h.hi
  refine attr_of (h.upd hb).top (h.upd hb).dic fldS rfl ?_
  refine ⟨by omega, ?_⟩
  refine forV_inv (fun i ρ σ' => (tiesUp H i).length ≤ 40 * i ∧ σ' = σ.upd b (.list ((tiesUp H i).map pr)) ∧ ∃ t2 t3, ρ = [some (.ref x), some (.ref b), t2, t3])
    ⟨by simp [tiesUp], by simp [tiesUp], _, _, rfl⟩ (fun _ _ _ _ => trivial) ?_ ?_
  · intro i v ρ σ' K hv zz30
    refine ob48 zz30 ?_
    clear zz30
    intro hl ee146
    subst ee146
    intro t2 t3 ee147
    subst ee147
    intro hK
    refine ob8 (upto_getV hv) ?_
    intro ee148
    subst ee148
    intro hxn
    rw [Int.zero_add] at hxn ⊢
    simp [L_Net_ties_2, Ss_nil, Ss_cons, S_expr, S_assign, S_setattr, S_setitem, S_ret, S_pass, S_raise, S_iff, S_whil, S_for, S_tryx, E_none, E_tt, E_ff, E_int, E_str, E_var, E_glob, E_bin, E_neg, E_not, E_cmp, E_cmp2, E_bool, E_call, E_make, E_meth, E_m0, E_m1, E_insert, E_attr, E_idx, E_slice, E_rev, E_list, E_tuple, E_dict0, E_b1, E_min2, E_max2, E_isin, E_dict1, wpE_comp, Es_nil, Es_cons, I_r1, I_r2, I_r3, I_en, I_var, I_idx, I_attr, I_list, I_call, I_slice, itR1_int, itR2_int, itR3_int, itEn, Loc.get, bindTg]
    have hN := h.upd hb (o := .list ((tiesUp H i).map pr))
    refine attr_of hN.top hN.dic fldN rfl ?_
    refine ob5 (h.rowAt hxn) ?_
    intro a ha ha'
    have hab : a ≠ b := by rintro rfl; rw [hb] at ha'; cases ha'
    have hlen := h.rowLen i
    refine idx_of hN.rows.top (by omega) (by rw [List.getElem?_map]; simp [ha]; rfl) ?_
    simp only [iterV]
    refine onList_of (by rw [updNe hab]; exact ha') ?_
    refine forV_inv (fun j ρ σ' => σ' = σ.upd b (.list ((tiesUp H i ++ (((sortI (nb H i)).take j).filter (fun x => decide ((i : Int) < x))).map (fun x => ((i : Int), x))).map pr)) ∧ ∃ t3, ρ = [some (.ref x), some (.ref b), some (.int i), t3])
      ⟨by simp, _, rfl⟩ ?_ ?_ ?_
    · intro j ρ σ' zz31
      refine ob8 zz31 ?_
      clear zz31
      intro ee149
      subst ee149
      intro _
      rw [updNe hab]; exact ha'
    · intro j v ρ σ' K2 hv zz32
      refine ob49 zz32 ?_
      clear zz32
      intro ee150
      subst ee150
      intro t3 ee151
      subst ee151
      intro hK2
      rw [List.getElem?_map] at hv
      refine ob5 (Option.map_eq_some_iff.mp hv) ?_
      intro y hy ee152
      subst ee152
      have hj : j < (sortI (nb H i)).length := by
        rcases Nat.lt_or_ge j (sortI (nb H i)).length with g | g
        · exact g
        · rw [List.getElem?_eq_none g] at hy; cases hy
      rw [List.getElem?_eq_getElem hj] at hy
      cases hy
      have htake := List.take_succ_eq_append_getElem hj
      simp [L_Net_ties_1, Ss_nil, Ss_cons, S_expr, S_assign, S_setattr, S_setitem, S_ret, S_pass, S_raise, S_iff, S_whil, S_for, S_tryx, E_none, E_tt, E_ff, E_int, E_str, E_var, E_glob, E_bin, E_neg, E_not, E_cmp, E_cmp2, E_bool, E_call, E_make, E_meth, E_m0, E_m1, E_insert, E_attr, E_idx, E_slice, E_rev, E_list, E_tuple, E_dict0, E_b1, E_min2, E_max2, E_isin, E_dict1, wpE_comp, Es_nil, Es_cons, Loc.get, bindTg]
      by_cases hlt : (i : Int) < (sortI (nb H i))[j]
      · rw [if_pos hlt]
        refine onList_of updSame ⟨by simp [szLim], append_of updSame ?_ ⟨rfl, hK2 _ _ ⟨?_, _, rfl⟩⟩⟩
        · have : (((sortI (nb H i)).take j).filter (fun x => decide ((i : Int) < x))).length ≤ 40 := by
            refine Nat.le_trans (List.length_filter_le _ _) ?_
            rw [List.length_take]; omega
          simp only [List.length_append, List.length_map]
          unfold szLim
          omega
        · rw [upd_upd, htake]
          simp only [List.filter_append, List.filter_cons, hlt, decide_true, if_true, List.filter_nil, List.map_append, List.map_cons, List.map_nil, List.append_assoc, List.map_map]
          rfl
      · rw [if_neg hlt]
        refine hK2 _ _ ⟨?_, _, rfl⟩
        rw [htake]
        simp only [List.filter_append, List.filter_cons, hlt, decide_false, Bool.false_eq_true, if_false, List.filter_nil, List.append_nil, List.map_append, List.map_map]
    · intro ρ σ' zz33
      refine ob49 zz33 ?_
      clear zz33
      intro ee153
      subst ee153
      intro t3 ee154
      subst ee154
      have e : (((sortI (nb H i)).take ((sortI (nb H i)).map V.int).length).filter (fun x => decide ((i : Int) < x))).map (fun x => ((i : Int), x)) = tiesRow H i := by
        rw [List.length_map, List.take_length]; rfl
      rw [e, ← tiesUp_succ]
      refine hK _ _ ⟨?_, rfl, _, _, rfl⟩
      rw [tiesUp_succ, List.length_append]
      have : (tiesRow H i).length ≤ 40 := by
        unfold tiesRow
        rw [List.length_map]
        exact Nat.le_trans (List.length_filter_le _ _) hlen
      omega
  · intro ρ σ' zz34
    refine ob48 zz34 ?_
    clear zz34
    intro hl ee155
    subst ee155
    intro t2 t3 ee156
    subst ee156
    simp [T_Net_ties_1, Ss_nil, Ss_cons, S_expr, S_assign, S_setattr, S_setitem, S_ret, S_pass, S_raise, S_iff, S_whil, S_for, S_tryx, E_none, E_tt, E_ff, E_int, E_str, E_var, E_glob, E_bin, E_neg, E_not, E_cmp, E_cmp2, E_bool, E_call, E_make, E_meth, E_m0, E_m1, E_insert, E_attr, E_idx, E_slice, E_rev, E_list, E_tuple, E_dict0, E_b1, E_min2, E_max2, E_isin, E_dict1, wpE_comp, Loc.get, uptoLen]
    exact hQ b hb

noncomputable def soleN (c : String) : Int := 0 + (if excSub c "BadNet" then 1 else 0) + (if excSub c "NoPlace" then 1 else 0) + (if excSub c "BadPairs" then 1 else 0) + (if excSub c "BadWay" then 1 else 0) + (if excSub c "TieThere" then 1 else 0) + (if excSub c "NoTie" then 1 else 0) + (if excSub c "OddRing" then 1 else 0)
theorem soleN_one : ∀ c ∈ excNames, (soleN c == 1) = true := by decide
theorem sole_spec {a : Addr} {c : String} (ha : σ a = some (.exc c)) (hc : c ∈ excNames) (h : Q (.bool true) σ) : (sem tab03 fld03 (k + 1) md).run "" "_law_sole" [.ref a] σ Q X := by
  have hI : ∀ C, isInst σ (.ref a) (.cls C) = some (excSub c C) := fun C => by
    show (match σ a with | some (.exc c) => if c ∈ excNames then some (excSub c C) else none | _ => none) = _
    rw [ha]
    show (if c ∈ excNames then some (excSub c C) else none) = _
    rw [if_pos hc]
  refine run_succ (F := F_law_sole) rfl ⟨rfl, trivial, trivial, ?_⟩
  refine onSome_of (hI "BadNet") ⟨trivial, ?_⟩
  refine onSome_of (hI "NoPlace") ⟨trivial, ?_⟩
  refine onSome_of (hI "BadPairs") ⟨trivial, ?_⟩
  refine onSome_of (hI "BadWay") ⟨trivial, ?_⟩
  refine onSome_of (hI "TieThere") ⟨trivial, ?_⟩
  refine onSome_of (hI "NoTie") ⟨trivial, ?_⟩
  refine onSome_of (hI "OddRing") ?_
  refine ite_t (c := (soleN c == 1) = true) (soleN_one c hc) ?_
  refine onSome_of (hI "NetError") ?_
  have h1 : excSub c "NetError" = true := by unfold excSub; rw [show ("NetError" == "NetError") = true from rfl, Bool.or_true, Bool.true_or]
  rw [h1]
  show onSome (isInst σ (.ref a) (.cls "ValueError")) _
  refine onSome_of (hI "ValueError") ?_
  have h2 : excSub c "ValueError" = true := by unfold excSub; rw [show ("ValueError" == "ValueError") = true from rfl, Bool.or_true]
  rw [h2]
  exact h
end
end Mine.Internal
end

section
set_option linter.unusedVariables false
set_option linter.unusedSimpArgs false
namespace Mine.Internal
open PySem

theorem comp_pure {chk : Store → Prop} {B : V → Store → (Option V → Store → Prop) → Prop} {Q : V → Store → Prop} {items : List V} {σ : Store} (f : V → Option V)
    (hc : chk σ) (hl : items.length ≤ szLim) (hB : ∀ v ∈ items, ∀ K : Option V → Store → Prop, K (f v) σ → B v σ K)
    (h : ∀ a, σ a = none → Q (.ref a) (σ.upd a (.list (items.filterMap f)))) : compV chk B Q items [] σ := by
  refine compV_inv (fun i acc σ' => i ≤ items.length ∧ σ' = σ ∧ acc = (items.take i).filterMap f) ⟨by omega, rfl, by simp⟩ ?_ hl ?_ ?_
  · intro i acc σ' zz35
    refine ob22 zz35 ?_
    clear zz35
    intro hi ee157
    subst ee157
    intro ee158
    subst ee158
    refine ⟨hc, Nat.le_trans (List.length_filterMap_le ..) ?_⟩
    rw [List.length_take]; omega
  · intro i v acc σ' K hv zz36
    refine ob22 zz36 ?_
    clear zz36
    intro hi ee159
    subst ee159
    intro ee160
    subst ee160
    intro hK
    have hil : i < items.length := by
      rcases Nat.lt_or_ge i items.length with g | g
      · exact g
      · rw [List.getElem?_eq_none g] at hv; cases hv
    rw [List.getElem?_eq_getElem hil] at hv
    cases hv
    refine hB _ (List.getElem_mem hil) K (hK _ _ ⟨hil, rfl, ?_⟩)
    rw [List.take_succ_eq_append_getElem hil, List.filterMap_append]
    cases e : f items[i] <;> simp [e]
  · intro acc σ' zz37
    refine ob22 zz37 ?_
    clear zz37
    intro hi ee161
    subst ee161
    intro ee162
    subst ee162
    intro a ha
    rw [List.take_length]
    exact h a ha

theorem eqList_refl {f : V → V → Option Bool} {vs : List V} (h : ∀ v ∈ vs, f v v = some true) : eqList f vs vs = some true := by
  induction vs with
  | nil => rfl
  | cons v vs ih =>
    simp only [eqList, h v (List.mem_cons_self ..), ih (fun u hu => h u (List.mem_cons_of_mem _ hu)), Bool.and_self]
theorem eqv_int {σ : Store} {m : Nat} {i : Int} : eqv σ m (.int i) (.int i) = some true := by
  cases m <;> exact congrArg some (beq_self_eq_true i)
theorem eqv_pr {σ : Store} {m : Nat} {p : Int × Int} : eqv σ (m + 1) (pr p) (pr p) = some true :=
  eqList_refl (f := eqv σ m) (vs := [.int p.1, .int p.2]) (by intro v hv; simp at hv; rcases hv with rfl | rfl <;> exact eqv_int)
theorem eqv_refs {σ : Store} {m : Nat} {a b : Addr} {us vs : List V} (ha : σ a = some (.list us)) (hb : σ b = some (.list vs)) : eqv σ (m + 1) (.ref a) (.ref b) = if us.length = vs.length then eqList (eqv σ m) us vs else some false := by
  show ((asL (σ a)).bind fun us => (asL (σ b)).bind fun vs => if us.length = vs.length then eqList (eqv σ m) us vs else some false) = _
  rw [ha, hb]; rfl
theorem eqv_list {σ : Store} {m : Nat} {a b : Addr} {vs : List V} (ha : σ a = some (.list vs)) (hb : σ b = some (.list vs)) (h : ∀ v ∈ vs, eqv σ m v v = some true) : eqv σ (m + 1) (.ref a) (.ref b) = some true := by
  rw [eqv_refs ha hb, if_pos rfl]
  exact eqList_refl h
theorem eqv_ints {σ : Store} {a b : Addr} {l : List Int} (ha : σ a = some (.list (l.map V.int))) (hb : σ b = some (.list (l.map V.int))) : eqv σ fuel (.ref a) (.ref b) = some true :=
  eqv_list ha hb fun v hv => by obtain ⟨i, _, rfl⟩ := List.mem_map.mp hv; exact eqv_int
theorem eqv_prs {σ : Store} {a b : Addr} {l : List (Int × Int)} (ha : σ a = some (.list (l.map pr))) (hb : σ b = some (.list (l.map pr))) : eqv σ fuel (.ref a) (.ref b) = some true :=
  eqv_list ha hb fun v hv => by obtain ⟨i, _, rfl⟩ := List.mem_map.mp hv; exact eqv_pr
theorem eqv_nil {σ : Store} {a b : Addr} {vs : List V} (ha : σ a = some (.list vs)) (hb : σ b = some (.list [])) : eqv σ fuel (.ref a) (.ref b) = some vs.isEmpty := by
  show eqv σ (5 + 1) _ _ = _
  rw [eqv_refs ha hb]
  cases vs with
  | nil => rfl
  | cons v vs => rw [if_neg (by simp)]; rfl
section
variable {k : Nat} {md : Bool} {σ : Store} {Q : V → Store → Prop} {X : XP}
theorem tb_init : (tab03 "Net" "__init__").isSome = true := rfl
theorem tb_ties : (tab03 "Net" "ties").isSome = true := rfl
theorem tb_sole : (tab03 "" "_law_sole").isSome = true := rfl
theorem tb_whole : (tab03 "" "_law_whole").isSome = true := rfl

theorem ext_make {σ σ' : Store} {x d : Addr} {o p : AO} (hx : σ x = none) (hd : σ d = none) (h : Frm d ((σ.upd d o).upd x p) σ') : Ext σ σ' := by
  intro a q e
  have h1 : a ≠ d := by rintro rfl; rw [hd] at e; cases e
  have h2 : a ≠ x := by rintro rfl; rw [hx] at e; cases e
  exact h a q h1 (by rw [updNe h2, updNe h1]; exact e)
end
end Mine.Internal
end
end

section
set_option linter.unusedVariables false
set_option linter.unusedSimpArgs false
namespace Mine.Internal
open PySem

/-- a list of ints told by a function -/
noncomputable def ilist (n : Nat) (M : Int → Int) : List V := (List.range n).map fun i : Nat => V.int (M (i : Int))
theorem ilist_len {n : Nat} {M : Int → Int} : (ilist n M).length = n := by simp [ilist]
theorem ilist_get {n : Nat} {M : Int → Int} {i : Int} (h0 : 0 ≤ i) (h : i < n) : (ilist n M)[i.toNat]? = some (.int (M i)) := by
  have h1 : i.toNat < n := by omega
  have h2 : (i.toNat : Int) = i := by omega
  simp [ilist, h1, h2]
theorem ilist_set {n : Nat} {M : Int → Int} {j v : Int} (h0 : 0 ≤ j) : (ilist n M).set j.toNat (.int v) = ilist n (fun i => if i = j then v else M i) := by
  apply List.ext_getElem
  · simp [ilist]
  · intro i h1 h2
    simp only [ilist, List.length_set, List.length_map, List.length_range] at h1
    simp only [List.getElem_set, ilist, List.getElem_map, List.getElem_range]
    by_cases e : j.toNat = i
    · have : (i : Int) = j := by omega
      simp [e, this]
    · have : (i : Int) ≠ j := by omega
      simp [e, this]

/-- whom each place is paired with -/
noncomputable def mt : List (Int × Int) → Int → Int
  | [] => fun _ => -1
  | p :: r => fun i => if i = p.2 then p.1 else if i = p.1 then p.2 else mt r i
abbrev Touch (p q : Int × Int) : Prop := p.1 = q.1 ∨ p.1 = q.2 ∨ p.2 = q.1 ∨ p.2 = q.2
theorem Touch.symm {p q : Int × Int} (h : Touch p q) : Touch q p := by unfold Touch at h ⊢; omega
noncomputable def Disj (P : List (Int × Int)) : Prop := P.Pairwise fun p q => ¬ Touch p q
theorem Disj.rev {P : List (Int × Int)} (h : Disj P) : Disj P.reverse := by
  unfold Disj
  rw [List.pairwise_reverse]
  exact h.imp fun g e => g e.symm
theorem mt_in {n : Int} : ∀ {R : List (Int × Int)}, (∀ p ∈ R, TieOk n p) → Disj R → ∀ p ∈ R, mt R p.1 = p.2 ∧ mt R p.2 = p.1
  | [], _, _, p, hp => by cases hp
  | q :: r, ht, hd, p, hp => by
    have hd' := List.pairwise_cons.mp hd
    rcases List.mem_cons.mp hp with rfl | hp
    · have := ht p (List.mem_cons_self ..)
      unfold TieOk at this
      have h1 : ¬ p.1 = p.2 := by omega
      simp [mt, h1]
    · have h1 := hd'.1 p hp
      unfold Touch at h1
      have h2 : ¬ p.1 = q.2 := by omega
      have h3 : ¬ p.1 = q.1 := by omega
      have h4 : ¬ p.2 = q.2 := by omega
      have h5 : ¬ p.2 = q.1 := by omega
      have ih := mt_in (fun p hp => ht p (List.mem_cons_of_mem _ hp)) hd'.2 p hp
      simp [mt, h2, h3, h4, h5, ih]
theorem mt_out : ∀ {R : List (Int × Int)} {i : Int}, (∀ p ∈ R, p.1 ≠ i ∧ p.2 ≠ i) → mt R i = -1
  | [], _, _ => rfl
  | q :: r, i, h => by
    have h1 := h q (List.mem_cons_self ..)
    have h2 : ¬ i = q.2 := fun e => h1.2 e.symm
    have h3 : ¬ i = q.1 := fun e => h1.1 e.symm
    simp only [mt, h2, h3, if_false]
    exact mt_out fun p hp => h p (List.mem_cons_of_mem _ hp)
/-- paired, or alone -/
theorem mt_cases {n : Int} {R : List (Int × Int)} (ht : ∀ p ∈ R, TieOk n p) (hd : Disj R) (i : Int) : (∃ p ∈ R, (p.1 = i ∧ mt R i = p.2) ∨ (p.2 = i ∧ mt R i = p.1)) ∨ ((∀ p ∈ R, p.1 ≠ i ∧ p.2 ≠ i) ∧ mt R i = -1) := by
  by_cases h : ∃ p ∈ R, p.1 = i ∨ p.2 = i
  · refine ob5 h ?_
    clear h
    intro p hp h
    have h1 := mt_in ht hd p hp
    rcases h with rfl | rfl
    · exact .inl ⟨p, hp, .inl ⟨rfl, h1.1⟩⟩
    · exact .inl ⟨p, hp, .inr ⟨rfl, h1.2⟩⟩
  · have h' : ∀ p ∈ R, p.1 ≠ i ∧ p.2 ≠ i := fun p hp => ⟨fun e => h ⟨p, hp, .inl e⟩, fun e => h ⟨p, hp, .inr e⟩⟩
    exact .inr ⟨h', mt_out h'⟩

theorem keysOk_int {D : List Int} : keysOk (D.map V.int) = true := by
  have : (D.map V.int).all isIntV = true := by simp [isIntV]
  simp [keysOk, this]
theorem hasKey_int {D : List Int} {p : Int} : hasKey (.int p) (D.map V.int) = decide (p ∈ D) := by
  induction D with
  | nil => rfl
  | cons q D ih =>
    have : hasKey (.int p) ((q :: D).map V.int) = (keyEq (.int q) (.int p) || hasKey (.int p) (D.map V.int)) := rfl
    rw [this, ih, keyEq_int]
    by_cases e : q = p
    · subst e; simp
    · have : ¬ p = q := fun h => e h.symm
      simp [e, this]
theorem putKey_int {D : List Int} {p : Int} : putKey (.int p) (D.map V.int) = (if p ∈ D then D else D ++ [p]).map V.int := by
  unfold putKey
  rw [hasKey_int]
  by_cases e : p ∈ D <;> simp [e]
theorem memV_ints {σ : Store} {x : Int} {l : List Int} : memV σ (.int x) (l.map V.int) = some (decide (x ∈ l)) := by
  induction l with
  | nil => rfl
  | cons y l ih =>
    have : memV σ (.int x) ((y :: l).map V.int) = (match eqv σ fuel (.int y) (.int x), memV σ (.int x) (l.map V.int) with | some a, some b => some (a || b) | _, _ => none) := rfl
    rw [this, ih]
    have h : eqv σ fuel (.int y) (.int x) = some (y == x) := rfl
    rw [h]
    by_cases e : y = x
    · subst e; simp
    · have : ¬ x = y := fun h => e h.symm
      simp [e, this]
theorem in_dict {σ : Store} {a : Addr} {D : List Int} {x : Int} (h : σ a = some (.dict (D.map V.int))) : inV σ (.int x) (.ref a) = some (decide (x ∈ D)) := by
  have hk : keysOk (V.int x :: D.map V.int) = true := keysOk_int (D := x :: D)
  simp only [inV, h, hk, if_true, hasKey_int]
theorem in_list {σ : Store} {a : Addr} {l : List Int} {x : Int} (h : σ a = some (.list (l.map V.int))) : inV σ (.int x) (.ref a) = some (decide (x ∈ l)) := by
  simp only [inV, h, memV_ints]
theorem setkey_of {σ : Store} {Q : Store → Prop} {a : Addr} {D : List Int} {p : Int} (h : σ a = some (.dict (D.map V.int))) (hl : D.length < szLim) (q : Q (σ.upd a (.dict ((if p ∈ D then D else D ++ [p]).map V.int)))) : setitemV (.ref a) (.int p) (.bool true) σ Q := by
  have hk : keysOk (V.int p :: D.map V.int) = true := keysOk_int (D := p :: D)
  simp only [setitemV, h]
  refine ⟨⟨hk, by rw [List.length_map]; exact hl, trivial⟩, ?_⟩
  rw [putKey_int]; exact q
theorem get_pr {l : List (Int × Int)} {i : Nat} {v : V} (h : (l.map pr)[i]? = some v) : ∃ (hi : i < l.length), v = pr l[i] := by
  rw [List.getElem?_map] at h
  refine ob5 (Option.map_eq_some_iff.mp h) ?_
  intro y hy ee163
  subst ee163
  refine ob6 (List.getElem?_eq_some_iff.mp hy) ?_
  intro hi ee164
  subst ee164
  exact ⟨hi, rfl⟩

/-- an item at which the pairs are refused -/
noncomputable def BadP (σ : Store) (n : Int) (T P : List (Int × Int)) (b : V) : Prop :=
  (isTieV b n = false ∧ ∀ σ', Ext σ σ' → KindsOk σ' b) ∨ ∃ p, b = pr p ∧ TieOk n p ∧ (p ∉ T ∨ ∃ q ∈ P, Touch q p)

section
variable {k : Nat} {σ : Store} {Q : V → Store → Prop} {X : XP}
theorem tb_mates : (tab03 "" "mates").isSome = true := rfl
theorem tb_told : (tab03 "" "told").isSome = true := rfl
theorem tb_checked : (tab03 "" "checked").isSome = true := rfl

theorem mem_row {T : List (Int × Int)} {n : Int} {p : Int × Int} (ht : ∀ p ∈ T, TieOk n p) (hp : TieOk n p) : p.2 ∈ sortI (nb T p.1) ↔ p ∈ T := by
  rw [(sortI_perm _).mem_iff, mem_nb]
  constructor
  · rintro (h | h)
    · exact h
    · have := ht _ h; unfold TieOk at this hp; simp only at this; omega
  · exact Or.inl

/-- a turn as far as the row -/
theorem mates_tie {x d r l f : Addr} {rs : List Addr} {n : Int} {T : List (Int × Int)} {p : Int × Int} {t4 : Option V} {R Y} {N : Loc → Store → Prop}
    (h : NetAt σ x d r rs n T) (hp : TieOk n p)
    (hno : p ∉ T → ∀ a, σ a = none → Y "BadPairs" a [some (.ref x), some (.ref l), some (.ref f), some (pr p), t4] σ)
    (hgo : p ∈ T → wpSs (sem tab03 fld03 (k + 2)) true T_mates_1 [some (.ref x), some (.ref l), some (.ref f), some (pr p), t4] σ N R Y) :
    wpSs (sem tab03 fld03 (k + 2)) true L_mates_1 [some (.ref x), some (.ref l), some (.ref f), some (pr p), t4] σ N R Y := by
  have hp' := hp
  unfold TieOk at hp'
  simp only [L_mates_1, Ss_nil, Ss_cons, S_expr, S_assign, S_setattr, S_setitem, S_ret, S_pass, S_raise, S_iff, S_whil, S_for, S_tryx, E_none, E_tt, E_ff, E_int, E_str, E_var, E_glob, E_bin, E_neg, E_not, E_cmp, E_cmp2, E_bool, E_call, E_make, E_meth, E_m0, E_m1, E_insert, E_attr, E_idx, E_slice, E_rev, E_list, E_tuple, E_dict0, E_b1, E_min2, E_max2, E_isin, E_dict1, wpE_comp, Es_nil, Es_cons, B_one, B_cons, I_r1, I_r2, I_r3, I_en, I_var, I_idx, I_attr, I_list, I_call, I_slice, itR1_int, itR2_int, itR3_int, itEn, C_none, C_some, O_none, O_some, Loc.get, List.getElem?_cons_zero, List.getElem?_cons_succ, Option.join_some, onSome_some, tgOk, true_and, bindTg, List.set_cons_succ, List.set_cons_zero, onInt_int, has03, tb_is_tie]
  refine attr_of h.top h.dic fldS rfl ?_
  refine is_tie_spec kindsOk_pr.1 kindsOk_pr.2 ?_
  rw [isTie_pr hp]
  simp only [truthy_bool, onSome_some, Bool.not_true, if_true]
  refine idx_pr1 (attr_of h.top h.dic fldN rfl (idx_pr0 ?_))
  refine ob5 (h.rowAt (i := p.1.toNat) (by omega)) ?_
  intro a ha ha'
  have e : ((p.1.toNat : Nat) : Int) = p.1 := by omega
  rw [e] at ha'
  refine idx_of h.rows.top hp'.1 (by rw [List.getElem?_map, ha]; rfl) ?_
  by_cases hpT : p ∈ T
  · have h1 := (mem_row h.ok hp).mpr hpT
    simp only [cmpV_NotIn, in_list ha', h1, decide_true, Option.map_some, Bool.not_true, onSome_some, truthy_bool, Bool.false_eq_true, if_false]
    exact hgo hpT
  · have h1 : ¬ p.2 ∈ sortI (nb T p.1) := fun g => hpT ((mem_row h.ok hp).mp g)
    simp only [cmpV_NotIn, in_list ha', h1, decide_false, Option.map_some, Bool.not_false, onSome_some, truthy_bool, if_true]
    exact ⟨by decide, hno hpT⟩

theorem mates_turn {x d r l f : Addr} {rs : List Addr} {n : Int} {T : List (Int × Int)} {p : Int × Int} {t4 : Option V} {R Y} {N : Loc → Store → Prop} {M : Int → Int}
    (h : NetAt σ x d r rs n T) (hf : σ f = some (.list (ilist n.toNat M))) (hp : TieOk n p)
    (hno : (p ∉ T ∨ 0 ≤ M p.1 ∨ 0 ≤ M p.2) → ∀ a, σ a = none → Y "BadPairs" a [some (.ref x), some (.ref l), some (.ref f), some (pr p), t4] σ)
    (hgo : p ∈ T → M p.1 < 0 → M p.2 < 0 → N [some (.ref x), some (.ref l), some (.ref f), some (pr p), t4] (σ.upd f (.list (ilist n.toNat fun i => if i = p.2 then p.1 else if i = p.1 then p.2 else M i)))) :
    wpSs (sem tab03 fld03 (k + 2)) true L_mates_1 [some (.ref x), some (.ref l), some (.ref f), some (pr p), t4] σ N R Y := by
  refine mates_tie h hp (fun g => hno (.inl g)) fun hpT => ?_
  have hp' := hp
  unfold TieOk at hp'
  have h0 := hp'.1
  have h1 : p.1 < n.toNat := by omega
  have h2 : 0 ≤ p.2 := by omega
  have h3 : p.2 < n.toNat := by omega
  simp only [T_mates_1, Ss_nil, Ss_cons, S_expr, S_assign, S_setattr, S_setitem, S_ret, S_pass, S_raise, S_iff, S_whil, S_for, S_tryx, E_none, E_tt, E_ff, E_int, E_str, E_var, E_glob, E_bin, E_neg, E_not, E_cmp, E_cmp2, E_bool, E_call, E_make, E_meth, E_m0, E_m1, E_insert, E_attr, E_idx, E_slice, E_rev, E_list, E_tuple, E_dict0, E_b1, E_min2, E_max2, E_isin, E_dict1, wpE_comp, Es_nil, Es_cons, B_one, B_cons, I_r1, I_r2, I_r3, I_en, I_var, I_idx, I_attr, I_list, I_call, I_slice, itR1_int, itR2_int, itR3_int, itEn, C_none, C_some, O_none, O_some, Loc.get, List.getElem?_cons_zero, List.getElem?_cons_succ, Option.join_some, onSome_some, tgOk, true_and, bindTg, List.set_cons_succ, List.set_cons_zero, onInt_int]
  refine idx_pr0 (idx_of hf h0 (ilist_get h0 h1) ?_)
  by_cases g1 : 0 ≤ M p.1
  · simp only [cmpV_ge, g1, decide_true, onSome_some, truthy_bool, Bool.true_eq_false, if_false, if_true]
    exact ⟨by decide, hno (.inr (.inl g1))⟩
  simp only [cmpV_ge, g1, decide_false, onSome_some, truthy_bool, if_true]
  refine idx_pr1 (idx_of hf h2 (ilist_get h2 h3) ?_)
  by_cases g2 : 0 ≤ M p.2
  · simp only [cmpV_ge, g2, decide_true, onSome_some, truthy_bool, if_true]
    exact ⟨by decide, hno (.inr (.inr g2))⟩
  simp only [cmpV_ge, g2, decide_false, onSome_some, truthy_bool, Bool.false_eq_true, if_false]
  refine idx_pr1 (idx_pr0 (setitem_of hf h0 (by rw [ilist_len]; exact h1) ?_))
  rw [ilist_set h0]
  refine idx_pr0 (idx_pr1 (setitem_of updSame h2 (by rw [ilist_len]; exact h3) ?_))
  rw [ilist_set h2, upd_upd]
  exact hgo hpT (by omega) (by omega)

theorem mates_spec {x d r l : Addr} {rs : List Addr} {n : Int} {T P : List (Int × Int)} {rest : List V} (h : NetAt σ x d r rs n T) (hl : σ l = some (.list (P.map pr ++ rest))) (hs : ∀ p ∈ P, p ∈ T) (hd : Disj P)
    (hbad : ∀ b r', rest = b :: r' → BadP σ n T P b)
    (hX : rest ≠ [] → ∀ a σ', Ext σ σ' → σ' a = none → X "BadPairs" a σ')
    (hQ : rest = [] → ∀ f, σ f = none → Q (.ref f) (σ.upd f (.list (ilist n.toNat (mt P.reverse))))) :
    (sem tab03 fld03 (k + 3) true).run "" "mates" [.ref x, .ref l] σ Q X := by
  have hlo := h.lo
  have hhi := h.hi
  refine run_succ (F := F_mates) rfl ⟨rfl, ?_⟩
  have hkd : kindV σ (.ref l) = some .list := by simp only [kindV, hl]
  have hki : isInst σ (.ref l) .list = some true := by show (kindV σ (.ref l)).bind _ = _; rw [hkd]; rfl
  simp only [F_mates, Ss_nil, Ss_cons, S_expr, S_assign, S_setattr, S_setitem, S_ret, S_pass, S_raise, S_iff, S_whil, S_for, S_tryx, E_none, E_tt, E_ff, E_int, E_str, E_var, E_glob, E_bin, E_neg, E_not, E_cmp, E_cmp2, E_bool, E_call, E_make, E_meth, E_m0, E_m1, E_insert, E_attr, E_idx, E_slice, E_rev, E_list, E_tuple, E_dict0, E_b1, E_min2, E_max2, E_isin, E_dict1, wpE_comp, Es_nil, Es_cons, B_one, B_cons, I_r1, I_r2, I_r3, I_en, I_var, I_idx, I_attr, I_list, I_call, I_slice, itR1_int, itR2_int, itR3_int, itEn, C_none, C_some, O_none, O_some, List.map_cons, List.map_nil, List.length_cons, List.length_nil, List.cons_append, List.nil_append, List.replicate, Nat.reduceAdd, Nat.reduceSub, Loc.get, List.getElem?_cons_zero, List.getElem?_cons_succ, Option.join_some, onSome_some, tgOk, true_and, bindTg, List.set_cons_succ, List.set_cons_zero, onInt_int, hki, truthy_bool, Bool.not_true, Bool.false_eq_true, if_false]
  refine attr_of h.top h.dic fldS rfl ?_
  refine ⟨by omega, ?_⟩
  refine comp_pure (fun _ => some (.int (-1))) trivial (by rw [List.length_map, uptoLen]; unfold szLim; omega) (fun v hv K hK => hK) ?_
  intro f hf
  have e0 : ((upto 0 n 1).map V.int).filterMap (fun _ => some (V.int (-1))) = ilist n.toNat (mt []) := by
    apply List.ext_getElem?
    intro i
    simp only [List.filterMap_eq_map', List.getElem?_map, ilist, mt]
    by_cases hi : i < n.toNat
    · have h1 : (0 : Int) + i < n := by omega
      rw [uptoGet h1]; simp [hi]
    · have h1 : (upto 0 n 1).length ≤ i := by rw [uptoLen]; omega
      rw [List.getElem?_eq_none h1]; simp [hi]
  rw [e0]
  have hlf : l ≠ f := by rintro rfl; rw [hl] at hf; cases hf
  simp only [T_mates_3, Ss_nil, Ss_cons, S_expr, S_assign, S_setattr, S_setitem, S_ret, S_pass, S_raise, S_iff, S_whil, S_for, S_tryx, E_none, E_tt, E_ff, E_int, E_str, E_var, E_glob, E_bin, E_neg, E_not, E_cmp, E_cmp2, E_bool, E_call, E_make, E_meth, E_m0, E_m1, E_insert, E_attr, E_idx, E_slice, E_rev, E_list, E_tuple, E_dict0, E_b1, E_min2, E_max2, E_isin, E_dict1, wpE_comp, Es_nil, Es_cons, B_one, B_cons, I_r1, I_r2, I_r3, I_en, I_var, I_idx, I_attr, I_list, I_call, I_slice, itR1_int, itR2_int, itR3_int, itEn, C_none, C_some, O_none, O_some, Loc.get, List.getElem?_cons_zero, List.getElem?_cons_succ, Option.join_some, onSome_some, tgOk, true_and, bindTg, List.set_cons_succ, List.set_cons_zero, onInt_int, iterV]
  refine onList_of (by rw [updNe hlf]; exact hl) ?_
  refine forV_inv (fun j ρ σ' => j ≤ P.length ∧ σ' = σ.upd f (.list (ilist n.toNat (mt (P.take j).reverse))) ∧ ∃ t3, ρ = [some (.ref x), some (.ref l), some (.ref f), t3, none])
    ⟨by omega, by simp, _, rfl⟩ ?_ ?_ ?_
  · intro j ρ σ' zz38
    refine ob22 zz38 ?_
    clear zz38
    intro _ ee165
    subst ee165
    intro _
    rw [updNe hlf]; exact hl
  · intro j v ρ σ' K hv zz39
    refine ob50 zz39 ?_
    clear zz39
    intro hj ee166
    subst ee166
    intro t3 ee167
    subst ee167
    intro hK
    have hE := (Ext.rfl (σ := σ)).upd (o := .list (ilist n.toNat (mt (P.take j).reverse))) hf
    have hN := h.ext hE
    have hT' : ∀ p ∈ (P.take j).reverse, TieOk n p := fun p hp => h.ok p (hs p (List.mem_of_mem_take (List.mem_reverse.mp hp)))
    have hD' : Disj (P.take j).reverse := Disj.rev (hd.sublist (List.take_sublist j P))
    simp only [bindTg, onSome_some, List.set_cons_succ, List.set_cons_zero]
    by_cases hjl : j < P.length
    · rw [List.getElem?_append_left (by simpa using hjl)] at hv
      refine ob6 (get_pr hv) ?_
      intro _ ee168
      subst ee168
      have htake := List.take_succ_eq_append_getElem hjl
      have hpP := List.getElem_mem hjl
      have hfree : ∀ q ∈ (P.take j).reverse, ¬ Touch q P[j] := by
        intro q hq
        have h1 : Disj (P.take (j + 1)) := hd.sublist (List.take_sublist _ P)
        rw [htake] at h1
        exact (List.pairwise_append.mp h1).2.2 q (List.mem_reverse.mp hq) _ (by simp)
      have m1 : mt (P.take j).reverse P[j].1 = -1 := mt_out fun q hq => by have := hfree q hq; unfold Touch at this; omega
      have m2 : mt (P.take j).reverse P[j].2 = -1 := mt_out fun q hq => by have := hfree q hq; unfold Touch at this; omega
      refine mates_turn hN updSame (h.ok _ (hs _ hpP)) ?_ ?_
      · rintro (g | g | g)
        · exact absurd (hs _ hpP) g
        · omega
        · omega
      · intro _ _ _
        refine hK _ _ ⟨hjl, ?_, _, rfl⟩
        rw [upd_upd, htake, List.reverse_append]
        rfl
    · have hjP : j = P.length := by omega
      subst hjP
      rw [List.getElem?_append_right (by simp), List.length_map, Nat.sub_self] at hv
      cases hrest : rest with
      | nil => rw [hrest] at hv; cases hv
      | cons b r' =>
        rw [hrest] at hv
        cases hv
        have hne : rest ≠ [] := by rw [hrest]; simp
        rcases hbad _ _ hrest with ⟨hb1, hb2⟩ | ⟨p, rfl, hpo, hb⟩
        · simp only [L_mates_1, Ss_nil, Ss_cons, S_expr, S_assign, S_setattr, S_setitem, S_ret, S_pass, S_raise, S_iff, S_whil, S_for, S_tryx, E_none, E_tt, E_ff, E_int, E_str, E_var, E_glob, E_bin, E_neg, E_not, E_cmp, E_cmp2, E_bool, E_call, E_make, E_meth, E_m0, E_m1, E_insert, E_attr, E_idx, E_slice, E_rev, E_list, E_tuple, E_dict0, E_b1, E_min2, E_max2, E_isin, E_dict1, wpE_comp, Es_nil, Es_cons, B_one, B_cons, I_r1, I_r2, I_r3, I_en, I_var, I_idx, I_attr, I_list, I_call, I_slice, itR1_int, itR2_int, itR3_int, itEn, C_none, C_some, O_none, O_some, Loc.get, List.getElem?_cons_zero, List.getElem?_cons_succ, Option.join_some, onSome_some, tgOk, true_and, bindTg, List.set_cons_succ, List.set_cons_zero, onInt_int, has03, tb_is_tie]
          refine attr_of hN.top hN.dic fldS rfl ?_
          refine is_tie_spec (hb2 _ hE).1 (hb2 _ hE).2 ?_
          rw [hb1]
          simp only [truthy_bool, onSome_some, Bool.not_false, Bool.true_eq_false, if_false, if_true]
          exact ⟨by decide, fun a ha => hX hne a _ hE ha⟩
        · refine mates_turn hN updSame hpo (fun _ a ha => hX hne a _ hE ha) ?_
          intro hpT g1 g2
          exfalso
          rcases hb with hb | ⟨q, hq, hb⟩
          · exact hb hpT
          · rw [List.take_length] at g1 g2 hT' hD'
            have hq' := hT' q (List.mem_reverse.mpr hq)
            have h1 := mt_in hT' hD' q (List.mem_reverse.mpr hq)
            unfold TieOk at hq'
            unfold Touch at hb
            rcases hb with e | e | e | e
            · rw [← e] at g1; omega
            · rw [← e] at g2; omega
            · rw [← e] at g1; omega
            · rw [← e] at g2; omega
  · intro ρ σ' zz40
    refine ob50 zz40 ?_
    clear zz40
    intro hj ee169
    subst ee169
    intro t3 ee170
    subst ee170
    have hrest : rest = [] := by
      cases rest with
      | nil => rfl
      | cons b r' => simp at hj; omega
    subst hrest
    have el : (P.map pr ++ ([] : List V)).length = P.length := by simp
    rw [el, List.take_length]
    simp only [T_mates_2, Ss_nil, Ss_cons, S_expr, S_assign, S_setattr, S_setitem, S_ret, S_pass, S_raise, S_iff, S_whil, S_for, S_tryx, E_none, E_tt, E_ff, E_int, E_str, E_var, E_glob, E_bin, E_neg, E_not, E_cmp, E_cmp2, E_bool, E_call, E_make, E_meth, E_m0, E_m1, E_insert, E_attr, E_idx, E_slice, E_rev, E_list, E_tuple, E_dict0, E_b1, E_min2, E_max2, E_isin, E_dict1, wpE_comp, Es_nil, Es_cons, B_one, B_cons, I_r1, I_r2, I_r3, I_en, I_var, I_idx, I_attr, I_list, I_call, I_slice, itR1_int, itR2_int, itR3_int, itEn, C_none, C_some, O_none, O_some, Loc.get, List.getElem?_cons_zero, List.getElem?_cons_succ, Option.join_some, onSome_some, tgOk, true_and, bindTg, List.set_cons_succ, List.set_cons_zero, onInt_int]
    exact hQ rfl f hf

theorem mates_nolist {x : V} {v : V} {kd : Kd} (hk : kindV σ v = some kd) (hk' : kd ≠ .list) (hX : ∀ a, σ a = none → X "BadPairs" a σ) : (sem tab03 fld03 (k + 1) true).run "" "mates" [x, v] σ Q X := by
  refine run_succ (F := F_mates) rfl ⟨rfl, ?_⟩
  have hki : isInst σ v .list = some false := by
    show (kindV σ v).bind _ = _
    rw [hk]
    cases kd <;> first | rfl | exact absurd rfl hk'
  simp only [F_mates, Ss_nil, Ss_cons, S_expr, S_assign, S_setattr, S_setitem, S_ret, S_pass, S_raise, S_iff, S_whil, S_for, S_tryx, E_none, E_tt, E_ff, E_int, E_str, E_var, E_glob, E_bin, E_neg, E_not, E_cmp, E_cmp2, E_bool, E_call, E_make, E_meth, E_m0, E_m1, E_insert, E_attr, E_idx, E_slice, E_rev, E_list, E_tuple, E_dict0, E_b1, E_min2, E_max2, E_isin, E_dict1, wpE_comp, Es_nil, Es_cons, B_one, B_cons, I_r1, I_r2, I_r3, I_en, I_var, I_idx, I_attr, I_list, I_call, I_slice, itR1_int, itR2_int, itR3_int, itEn, C_none, C_some, O_none, O_some, List.map_cons, List.map_nil, List.length_cons, List.length_nil, List.cons_append, List.nil_append, List.replicate, Nat.reduceAdd, Nat.reduceSub, Loc.get, List.getElem?_cons_zero, List.getElem?_cons_succ, Option.join_some, onSome_some, tgOk, true_and, bindTg, List.set_cons_succ, List.set_cons_zero, onInt_int, hki, truthy_bool, Bool.not_false, if_true]
  exact ⟨by decide, hX⟩

/-- a comprehension over a range -/
theorem comp_range {chk : Store → Prop} {B : V → Store → (Option V → Store → Prop) → Prop} {n : Int} (g : Int → Option V) (hc : chk σ) (hn : n ≤ 1000) (hB : ∀ i : Int, 0 ≤ i → i < n → ∀ K : Option V → Store → Prop, K (g i) σ → B (.int i) σ K)
    (h : ∀ a, σ a = none → Q (.ref a) (σ.upd a (.list ((List.range n.toNat).filterMap fun i : Nat => g i)))) : compV chk B Q ((upto 0 n 1).map V.int) [] σ := by
  refine comp_pure (fun v => match v with | .int i => g i | _ => none) hc (by rw [List.length_map, uptoLen]; unfold szLim; omega) ?_ ?_
  · intro v hv K hK
    refine ob5 (List.mem_map.mp hv) ?_
    intro i hi ee171
    subst ee171
    refine ob6 (List.mem_iff_getElem?.mp hi) ?_
    intro j hj
    have hi0 := upto_get' hj
    exact hB i (by omega) (by omega) K hK
  · intro a ha
    have e : ((upto 0 n 1).map V.int).filterMap (fun v => match v with | .int i => g i | _ => none) = (List.range n.toNat).filterMap fun i : Nat => g i := by
      have : upto 0 n 1 = (List.range n.toNat).map fun i : Nat => (i : Int) := by
        unfold upto; simp
      rw [this, List.map_map, List.filterMap_map]
      rfl
    rw [e]; exact h a ha

/-- the pairs that a list of mates tells -/
noncomputable def toldL (n : Nat) (M : Int → Int) : List (Int × Int) := (List.range n).filterMap fun i : Nat => if (i : Int) < M i then some ((i : Int), M i) else none
theorem toldL_len {n : Nat} {M : Int → Int} : (toldL n M).length ≤ n := by
  refine Nat.le_trans (List.length_filterMap_le ..) ?_
  rw [List.length_range]; exact Nat.le_refl _
theorem told_spec {m : Addr} {n : Nat} {M : Int → Int} (hm : σ m = some (.list (ilist n M))) (hn : n ≤ 1000) (hQ : ∀ b, σ b = none → Q (.ref b) (σ.upd b (.list ((toldL n M).map pr)))) : (sem tab03 fld03 (k + 1) true).run "" "told" [.ref m] σ Q X := by
  refine run_succ (F := F_told) rfl ⟨rfl, ?_⟩
  simp only [F_told, Ss_nil, Ss_cons, S_expr, S_assign, S_setattr, S_setitem, S_ret, S_pass, S_raise, S_iff, S_whil, S_for, S_tryx, E_none, E_tt, E_ff, E_int, E_str, E_var, E_glob, E_bin, E_neg, E_not, E_cmp, E_cmp2, E_bool, E_call, E_make, E_meth, E_m0, E_m1, E_insert, E_attr, E_idx, E_slice, E_rev, E_list, E_tuple, E_dict0, E_b1, E_min2, E_max2, E_isin, E_dict1, wpE_comp, Es_nil, Es_cons, B_one, B_cons, I_r1, I_r2, I_r3, I_en, I_var, I_idx, I_attr, I_list, I_call, I_slice, itR1_int, itR2_int, itR3_int, itEn, C_none, C_some, O_none, O_some, List.map_cons, List.map_nil, List.length_cons, List.length_nil, List.cons_append, List.nil_append, List.replicate, Nat.reduceAdd, Nat.reduceSub, Loc.get, List.getElem?_cons_zero, List.getElem?_cons_succ, Option.join_some, onSome_some, tgOk, true_and, bindTg, List.set_cons_succ, List.set_cons_zero, onInt_int, b1V, onSeq, hm, ilist_len]
  refine ⟨by omega, ?_⟩
  refine comp_range (fun i => if i < M i then some (pr (i, M i)) else none) trivial (by omega) ?_ ?_
  · intro i h0 h1 K hK
    refine idx_of hm h0 (ilist_get h0 h1) ?_
    simp only [cmpV_gt, onSome_some, truthy_bool]
    by_cases g : i < M i
    · rw [if_pos g] at hK
      simp only [g, decide_true, if_true]
      exact idx_of hm h0 (ilist_get h0 h1) ⟨by decide, hK⟩
    · rw [if_neg g] at hK
      simp only [g, decide_false, Bool.false_eq_true, if_false]
      exact hK
  · intro a ha
    have e : ((List.range (n : Int).toNat).filterMap fun i : Nat => if (i : Int) < M i then some (pr ((i : Int), M i)) else none) = (toldL n M).map pr := by
      unfold toldL
      rw [List.map_filterMap, show ((n : Int)).toNat = n by omega]
      congr 1
      funext i
      split <;> rfl
    rw [e]; exact hQ a ha

theorem checked_spec {x d r l : Addr} {rs : List Addr} {n : Int} {T P : List (Int × Int)} (h : NetAt σ x d r rs n T) (hl : σ l = some (.list (P.map pr))) (hs : ∀ p ∈ P, p ∈ T) (hd : Disj P)
    (hQ : ∀ σ' b, Ext σ σ' → σ b = none → σ' b = some (.list ((toldL n.toNat (mt P.reverse)).map pr)) → Q (.ref b) σ') : (sem tab03 fld03 (k + 4) true).run "" "checked" [.ref x, .ref l] σ Q X := by
  have hhi := h.hi
  refine run_succ (F := F_checked) rfl ⟨rfl, ?_⟩
  simp only [F_checked, Ss_nil, Ss_cons, S_expr, S_assign, S_setattr, S_setitem, S_ret, S_pass, S_raise, S_iff, S_whil, S_for, S_tryx, E_none, E_tt, E_ff, E_int, E_str, E_var, E_glob, E_bin, E_neg, E_not, E_cmp, E_cmp2, E_bool, E_call, E_make, E_meth, E_m0, E_m1, E_insert, E_attr, E_idx, E_slice, E_rev, E_list, E_tuple, E_dict0, E_b1, E_min2, E_max2, E_isin, E_dict1, wpE_comp, Es_nil, Es_cons, B_one, B_cons, I_r1, I_r2, I_r3, I_en, I_var, I_idx, I_attr, I_list, I_call, I_slice, itR1_int, itR2_int, itR3_int, itEn, C_none, C_some, O_none, O_some, List.map_cons, List.map_nil, List.length_cons, List.length_nil, List.cons_append, List.nil_append, List.replicate, Nat.reduceAdd, Nat.reduceSub, Loc.get, List.getElem?_cons_zero, List.getElem?_cons_succ, Option.join_some, onSome_some, tgOk, true_and, bindTg, List.set_cons_succ, List.set_cons_zero, onInt_int, has03, tb_told, tb_mates]
  refine mates_spec (rest := []) h (by rw [List.append_nil]; exact hl) hs hd (by intro b r' e; cases e) (by simp) fun _ f hf => ?_
  have hE := (Ext.rfl (σ := σ)).upd (o := .list (ilist n.toNat (mt P.reverse))) hf
  refine told_spec updSame (by omega) fun b hb => ?_
  exact hQ _ b (hE.upd (hE.none hb)) (hE.none hb) updSame

noncomputable def places (P : List (Int × Int)) : List Int := P.map (·.1) ++ P.map (·.2)
noncomputable def aloneL (n : Nat) (P : List (Int × Int)) : List Int := (List.range n).filterMap fun i : Nat => if (i : Int) ∈ places P then none else some (i : Int)
theorem mem_places {P : List (Int × Int)} {i : Int} : i ∈ places P ↔ ∃ p ∈ P, p.1 = i ∨ p.2 = i := by
  unfold places
  simp only [List.mem_append, List.mem_map]
  constructor
  · rintro (⟨p, hp, e⟩ | ⟨p, hp, e⟩)
    · exact ⟨p, hp, .inl e⟩
    · exact ⟨p, hp, .inr e⟩
  · rintro ⟨p, hp, e | e⟩
    · exact .inl ⟨p, hp, e⟩
    · exact .inr ⟨p, hp, e⟩
theorem mt_neg {n : Int} {P : List (Int × Int)} (ht : ∀ p ∈ P, TieOk n p) (hd : Disj P) (i : Int) : mt P.reverse i < 0 ↔ i ∉ places P := by
  rw [mem_places]
  rcases mt_cases (fun p hp => ht p (List.mem_reverse.mp hp)) hd.rev i with ⟨p, hp, h⟩ | ⟨h, e⟩
  · have hp := List.mem_reverse.mp hp
    have ho := ht p hp
    unfold TieOk at ho
    constructor
    · intro g; omega
    · intro g; exact absurd ⟨p, hp, by omega⟩ g
  · constructor
    · intro _ z
      refine ob5 z ?_
      clear z
      intro p hp g
      have := h p (List.mem_reverse.mpr hp)
      omega
    · intro _; omega
theorem aloneL_len {n : Nat} {P : List (Int × Int)} : (aloneL n P).length ≤ n := by
  refine Nat.le_trans (List.length_filterMap_le ..) ?_
  rw [List.length_range]; exact Nat.le_refl _
theorem told_sorted {n : Nat} {M : Int → Int} : (toldL n M).Pairwise lexLt := by
  unfold toldL
  refine List.Pairwise.filterMap _ ?_ (List.pairwise_lt_range (n := n))
  intro i j hij p hp q hq
  split at hp
  · cases hp
    split at hq
    · cases hq
      exact .inl (by simp only; omega)
    · cases hq
  · cases hp
theorem mem_told {n : Int} {P : List (Int × Int)} (ht : ∀ p ∈ P, TieOk n p) (hd : Disj P) (q : Int × Int) : q ∈ toldL n.toNat (mt P.reverse) ↔ q ∈ P := by
  have ht' : ∀ p ∈ P.reverse, TieOk n p := fun p hp => ht p (List.mem_reverse.mp hp)
  unfold toldL
  simp only [List.mem_filterMap, List.mem_range]
  constructor
  · intro zz41
    refine ob5 zz41 ?_
    clear zz41
    intro i hi h
    split at h
    · cases h
      rename_i g
      rcases mt_cases ht' hd.rev i with ⟨p, hp, ⟨e1, e2⟩ | ⟨e1, e2⟩⟩ | ⟨_, e⟩
      · rw [e2, ← e1]; exact List.mem_reverse.mp hp
      · have := ht' p hp; unfold TieOk at this; omega
      · omega
    · cases h
  · intro hq
    have ho := ht q hq
    unfold TieOk at ho
    have h1 := (mt_in ht' hd.rev q (List.mem_reverse.mpr hq)).1
    have e : ((q.1.toNat : Nat) : Int) = q.1 := by omega
    refine ⟨q.1.toNat, by omega, ?_⟩
    rw [e, h1, if_pos ho.2.1]
theorem disj_nodup {P : List (Int × Int)} (hd : Disj P) : P.Nodup := hd.imp fun {a b} h e => h (by subst e; exact .inl rfl)
theorem told_perm {n : Int} {P : List (Int × Int)} (ht : ∀ p ∈ P, TieOk n p) (hd : Disj P) : (toldL n.toNat (mt P.reverse)).Perm P := by
  rw [List.perm_ext_iff_of_nodup (lexLt_nodup told_sorted) (disj_nodup hd)]
  exact mem_told ht hd
theorem told_eq {n : Int} {P qs : List (Int × Int)} (ht : ∀ p ∈ P, TieOk n p) (hd : Disj P) (hp : qs.Perm P) (hs : qs.Pairwise lexLt) : qs = toldL n.toNat (mt P.reverse) :=
  List.Perm.eq_of_pairwise (fun a b _ _ x y => by unfold lexLt at x y; omega) hs told_sorted (hp.trans (told_perm ht hd).symm)
theorem disj_len {n : Int} {P : List (Int × Int)} (ht : ∀ p ∈ P, TieOk n p) (hd : Disj P) (h0 : 0 ≤ n) (hn : n ≤ 40) : P.length ≤ 40 := by
  rw [← (told_perm ht hd).length_eq]
  have := toldL_len (n := n.toNat) (M := mt P.reverse)
  omega
theorem sortP_of {md : Bool} {l : Addr} {n : Int} {P : List (Int × Int)} (hl : σ l = some (.list (P.map pr))) (ht : ∀ p ∈ P, TieOk n p) (hd : Disj P) (h0 : 0 ≤ n) (hn : n ≤ 40)
    (hQ : ∀ b, σ b = none → Q (.ref b) (σ.upd b (.list ((toldL n.toNat (mt P.reverse)).map pr)))) : b1V md .sorted (.ref l) σ Q := by
  simp only [b1V]
  have := disj_len ht hd h0 hn
  refine .inr (onList_of hl ⟨P, ⟨rfl, disj_nodup hd, by omega⟩, fun qs hp hs => ?_⟩)
  rw [told_eq ht hd hp hs]
  exact hQ

theorem alone_spec {x d r l : Addr} {rs : List Addr} {n : Int} {T P : List (Int × Int)} (h : NetAt σ x d r rs n T) (hl : σ l = some (.list (P.map pr))) (hs : ∀ p ∈ P, p ∈ T) (hd : Disj P)
    (hQ : ∀ σ' b, Ext σ σ' → σ b = none → σ' b = some (.list ((aloneL n.toNat P).map V.int)) → Q (.ref b) σ') : (sem tab03 fld03 (k + 4) true).run "" "alone" [.ref x, .ref l] σ Q X := by
  have hlo := h.lo
  have hhi := h.hi
  have hok : ∀ p ∈ P, TieOk n p := fun p hp => h.ok p (hs p hp)
  refine run_succ (F := F_alone) rfl ⟨rfl, ?_⟩
  simp only [F_alone, Ss_nil, Ss_cons, S_expr, S_assign, S_setattr, S_setitem, S_ret, S_pass, S_raise, S_iff, S_whil, S_for, S_tryx, E_none, E_tt, E_ff, E_int, E_str, E_var, E_glob, E_bin, E_neg, E_not, E_cmp, E_cmp2, E_bool, E_call, E_make, E_meth, E_m0, E_m1, E_insert, E_attr, E_idx, E_slice, E_rev, E_list, E_tuple, E_dict0, E_b1, E_min2, E_max2, E_isin, E_dict1, wpE_comp, Es_nil, Es_cons, B_one, B_cons, I_r1, I_r2, I_r3, I_en, I_var, I_idx, I_attr, I_list, I_call, I_slice, itR1_int, itR2_int, itR3_int, itEn, C_none, C_some, O_none, O_some, List.map_cons, List.map_nil, List.length_cons, List.length_nil, List.cons_append, List.nil_append, List.replicate, Nat.reduceAdd, Nat.reduceSub, Loc.get, List.getElem?_cons_zero, List.getElem?_cons_succ, Option.join_some, onSome_some, tgOk, true_and, bindTg, List.set_cons_succ, List.set_cons_zero, onInt_int, has03, tb_mates]
  refine mates_spec (rest := []) h (by rw [List.append_nil]; exact hl) hs hd (by intro b r' e; cases e) (by simp) fun _ f hf => ?_
  have hE := (Ext.rfl (σ := σ)).upd (o := .list (ilist n.toNat (mt P.reverse))) hf
  have hf1 : (σ.upd f (.list (ilist n.toNat (mt P.reverse)))) f = some (.list (ilist n.toNat (mt P.reverse))) := updSame
  have hN := h.ext hE
  generalize σ.upd f (.list (ilist n.toNat (mt P.reverse))) = σ1 at *
  simp only [T_alone_1, Ss_nil, Ss_cons, S_expr, S_assign, S_setattr, S_setitem, S_ret, S_pass, S_raise, S_iff, S_whil, S_for, S_tryx, E_none, E_tt, E_ff, E_int, E_str, E_var, E_glob, E_bin, E_neg, E_not, E_cmp, E_cmp2, E_bool, E_call, E_make, E_meth, E_m0, E_m1, E_insert, E_attr, E_idx, E_slice, E_rev, E_list, E_tuple, E_dict0, E_b1, E_min2, E_max2, E_isin, E_dict1, wpE_comp, Es_nil, Es_cons, B_one, B_cons, I_r1, I_r2, I_r3, I_en, I_var, I_idx, I_attr, I_list, I_call, I_slice, itR1_int, itR2_int, itR3_int, itEn, C_none, C_some, O_none, O_some, Loc.get, List.getElem?_cons_zero, List.getElem?_cons_succ, Option.join_some, onSome_some, tgOk, true_and, bindTg, List.set_cons_succ, List.set_cons_zero, onInt_int]
  refine attr_of hN.top hN.dic fldS rfl ?_
  refine ⟨by omega, ?_⟩
  refine comp_range (fun i => if i ∈ places P then none else some (.int i)) trivial (by omega) ?_ ?_
  · intro i i0 i1 K hK
    refine idx_of hf1 i0 (ilist_get i0 (by omega)) ?_
    have hiff := mt_neg hok hd i
    simp only [cmpV_lt, onSome_some, truthy_bool]
    by_cases g : i ∈ places P
    · rw [if_pos g] at hK
      have g' : ¬ mt P.reverse i < 0 := fun e => hiff.mp e g
      simp only [g', decide_false, Bool.false_eq_true, if_false]
      exact hK
    · rw [if_neg g] at hK
      have g' : mt P.reverse i < 0 := hiff.mpr g
      simp only [g', decide_true, if_true]
      exact hK
  · intro a ha
    have e : ((List.range n.toNat).filterMap fun i : Nat => if (i : Int) ∈ places P then none else some (V.int (i : Int))) = (aloneL n.toNat P).map V.int := by
      unfold aloneL
      rw [List.map_filterMap]
      congr 1
      funext i
      split <;> rfl
    rw [e]
    exact hQ _ a (hE.upd (hE.none ha)) (hE.none ha) updSame
end
end Mine.Internal
end

section
set_option linter.unusedVariables false
set_option linter.unusedSimpArgs false
namespace Mine.Internal
open PySem
section
variable {k : Nat} {σ : Store} {Q : V → Store → Prop} {X : XP}
theorem tb_alone : (tab03 "" "alone").isSome = true := rfl
theorem tb_better : (tab03 "" "better").isSome = true := rfl
theorem tb_turned : (tab03 "" "turned").isSome = true := rfl
theorem tb_asked : (tab03 "" "_law_asked").isSome = true := rfl
theorem tb_refused : (tab03 "" "_law_refused").isSome = true := rfl

/-- what mates refuses -/
noncomputable def Rej (σ : Store) (x : Addr) (v : V) : Prop := ∀ (k : Nat) (σ' : Store) (Q : V → Store → Prop) (X : XP), Ext σ σ' → (∀ a σ'', Ext σ' σ'' → σ'' a = none → X "BadPairs" a σ'') → (sem tab03 fld03 (k + 3) true).run "" "mates" [.ref x, v] σ' Q X

theorem asked_rej {x : Addr} {v : V} {w : Int} (h : Rej σ x v) (hX : ∀ a σ'', Ext σ σ'' → σ'' a = none → X "BadPairs" a σ'') : (sem tab03 fld03 (k + 5) true).run "" "_law_asked" [.ref x, v, .int w] σ Q X := by
  refine run_succ (F := F_law_asked) rfl ⟨rfl, ?_⟩
  simp only [F_law_asked, Ss_nil, Ss_cons, S_expr, S_assign, S_setattr, S_setitem, S_ret, S_pass, S_raise, S_iff, S_whil, S_for, S_tryx, E_none, E_tt, E_ff, E_int, E_str, E_var, E_glob, E_bin, E_neg, E_not, E_cmp, E_cmp2, E_bool, E_call, E_make, E_meth, E_m0, E_m1, E_insert, E_attr, E_idx, E_slice, E_rev, E_list, E_tuple, E_dict0, E_b1, E_min2, E_max2, E_isin, E_dict1, wpE_comp, Es_nil, Es_cons, B_one, B_cons, I_r1, I_r2, I_r3, I_en, I_var, I_idx, I_attr, I_list, I_call, I_slice, itR1_int, itR2_int, itR3_int, itEn, C_none, C_some, O_none, O_some, List.map_cons, List.map_nil, List.length_cons, List.length_nil, List.cons_append, List.nil_append, List.replicate, Nat.reduceAdd, Nat.reduceSub, Loc.get, List.getElem?_cons_zero, List.getElem?_cons_succ, Option.join_some, onSome_some, tgOk, true_and, bindTg, List.set_cons_succ, List.set_cons_zero, onInt_int, has03, tb_checked, tb_alone, tb_better, tb_turned, cmpV_eq, truthy_bool]
  split
  · refine run_succ (F := F_checked) rfl ⟨rfl, ?_⟩
    simp only [F_checked, Ss_nil, Ss_cons, S_expr, S_assign, S_setattr, S_setitem, S_ret, S_pass, S_raise, S_iff, S_whil, S_for, S_tryx, E_none, E_tt, E_ff, E_int, E_str, E_var, E_glob, E_bin, E_neg, E_not, E_cmp, E_cmp2, E_bool, E_call, E_make, E_meth, E_m0, E_m1, E_insert, E_attr, E_idx, E_slice, E_rev, E_list, E_tuple, E_dict0, E_b1, E_min2, E_max2, E_isin, E_dict1, wpE_comp, Es_nil, Es_cons, B_one, B_cons, I_r1, I_r2, I_r3, I_en, I_var, I_idx, I_attr, I_list, I_call, I_slice, itR1_int, itR2_int, itR3_int, itEn, C_none, C_some, O_none, O_some, List.map_cons, List.map_nil, List.length_cons, List.length_nil, List.cons_append, List.nil_append, List.replicate, Nat.reduceAdd, Nat.reduceSub, Loc.get, List.getElem?_cons_zero, List.getElem?_cons_succ, Option.join_some, onSome_some, tgOk, true_and, bindTg, List.set_cons_succ, List.set_cons_zero, onInt_int, has03, tb_told, tb_mates]
    exact h k σ _ _ Ext.rfl hX
  split
  · refine run_succ (F := F_alone) rfl ⟨rfl, ?_⟩
    simp only [F_alone, Ss_nil, Ss_cons, S_expr, S_assign, S_setattr, S_setitem, S_ret, S_pass, S_raise, S_iff, S_whil, S_for, S_tryx, E_none, E_tt, E_ff, E_int, E_str, E_var, E_glob, E_bin, E_neg, E_not, E_cmp, E_cmp2, E_bool, E_call, E_make, E_meth, E_m0, E_m1, E_insert, E_attr, E_idx, E_slice, E_rev, E_list, E_tuple, E_dict0, E_b1, E_min2, E_max2, E_isin, E_dict1, wpE_comp, Es_nil, Es_cons, B_one, B_cons, I_r1, I_r2, I_r3, I_en, I_var, I_idx, I_attr, I_list, I_call, I_slice, itR1_int, itR2_int, itR3_int, itEn, C_none, C_some, O_none, O_some, List.map_cons, List.map_nil, List.length_cons, List.length_nil, List.cons_append, List.nil_append, List.replicate, Nat.reduceAdd, Nat.reduceSub, Loc.get, List.getElem?_cons_zero, List.getElem?_cons_succ, Option.join_some, onSome_some, tgOk, true_and, bindTg, List.set_cons_succ, List.set_cons_zero, onInt_int, has03, tb_mates]
    exact h k σ _ _ Ext.rfl hX
  split
  · refine run_succ (F := F_better) rfl ⟨rfl, ?_⟩
    simp only [F_better, Ss_nil, Ss_cons, S_expr, S_assign, S_setattr, S_setitem, S_ret, S_pass, S_raise, S_iff, S_whil, S_for, S_tryx, E_none, E_tt, E_ff, E_int, E_str, E_var, E_glob, E_bin, E_neg, E_not, E_cmp, E_cmp2, E_bool, E_call, E_make, E_meth, E_m0, E_m1, E_insert, E_attr, E_idx, E_slice, E_rev, E_list, E_tuple, E_dict0, E_b1, E_min2, E_max2, E_isin, E_dict1, wpE_comp, Es_nil, Es_cons, B_one, B_cons, I_r1, I_r2, I_r3, I_en, I_var, I_idx, I_attr, I_list, I_call, I_slice, itR1_int, itR2_int, itR3_int, itEn, C_none, C_some, O_none, O_some, List.map_cons, List.map_nil, List.length_cons, List.length_nil, List.cons_append, List.nil_append, List.replicate, Nat.reduceAdd, Nat.reduceSub, Loc.get, List.getElem?_cons_zero, List.getElem?_cons_succ, Option.join_some, onSome_some, tgOk, true_and, bindTg, List.set_cons_succ, List.set_cons_zero, onInt_int, has03, tb_mates]
    exact h k σ _ _ Ext.rfl hX
  · refine ⟨by decide, ?_⟩
    intro a ha
    refine run_succ (F := F_turned) rfl ⟨rfl, ?_⟩
    simp only [F_turned, Ss_nil, Ss_cons, S_expr, S_assign, S_setattr, S_setitem, S_ret, S_pass, S_raise, S_iff, S_whil, S_for, S_tryx, E_none, E_tt, E_ff, E_int, E_str, E_var, E_glob, E_bin, E_neg, E_not, E_cmp, E_cmp2, E_bool, E_call, E_make, E_meth, E_m0, E_m1, E_insert, E_attr, E_idx, E_slice, E_rev, E_list, E_tuple, E_dict0, E_b1, E_min2, E_max2, E_isin, E_dict1, wpE_comp, Es_nil, Es_cons, B_one, B_cons, I_r1, I_r2, I_r3, I_en, I_var, I_idx, I_attr, I_list, I_call, I_slice, itR1_int, itR2_int, itR3_int, itEn, C_none, C_some, O_none, O_some, List.map_cons, List.map_nil, List.length_cons, List.length_nil, List.cons_append, List.nil_append, List.replicate, Nat.reduceAdd, Nat.reduceSub, Loc.get, List.getElem?_cons_zero, List.getElem?_cons_succ, Option.join_some, onSome_some, tgOk, true_and, bindTg, List.set_cons_succ, List.set_cons_zero, onInt_int, has03, tb_mates]
    have hE := (Ext.rfl (σ := σ)).upd (o := .list [.int 0]) ha
    exact h k _ _ _ hE fun b σ'' hb => hX b σ'' (hE.trans hb)

theorem refused_spec {x : Addr} {v : V} (h : Rej σ x v) (hQ : ∀ σ', Ext σ σ' → Q (.bool true) σ') : (sem tab03 fld03 (k + 6) true).run "" "_law_refused" [.ref x, v] σ Q X := by
  refine run_succ (F := F_law_refused) rfl ⟨rfl, ?_⟩
  simp only [F_law_refused, Ss_nil, Ss_cons, S_expr, S_assign, S_setattr, S_setitem, S_ret, S_pass, S_raise, S_iff, S_whil, S_for, S_tryx, E_none, E_tt, E_ff, E_int, E_str, E_var, E_glob, E_bin, E_neg, E_not, E_cmp, E_cmp2, E_bool, E_call, E_make, E_meth, E_m0, E_m1, E_insert, E_attr, E_idx, E_slice, E_rev, E_list, E_tuple, E_dict0, E_b1, E_min2, E_max2, E_isin, E_dict1, wpE_comp, Es_nil, Es_cons, B_one, B_cons, I_r1, I_r2, I_r3, I_en, I_var, I_idx, I_attr, I_list, I_call, I_slice, itR1_int, itR2_int, itR3_int, itEn, C_none, C_some, O_none, O_some, List.map_cons, List.map_nil, List.length_cons, List.length_nil, List.cons_append, List.nil_append, List.replicate, Nat.reduceAdd, Nat.reduceSub, Loc.get, List.getElem?_cons_zero, List.getElem?_cons_succ, Option.join_some, onSome_some, tgOk, true_and, bindTg, List.set_cons_succ, List.set_cons_zero, onInt_int]
  refine ⟨by decide, ?_⟩
  refine forV_inv (fun j ρ σ' => Ext σ σ' ∧ ∃ t2, ρ = [some (.ref x), some v, t2, none]) ⟨Ext.rfl, _, rfl⟩ (fun _ _ _ _ => trivial) ?_ ?_
  · intro j u ρ σ' K hu zz42
    refine ob49 zz42 ?_
    clear zz42
    intro hE t2 ee172
    subst ee172
    intro hK
    refine ob8 (upto_getV hu) ?_
    intro ee173
    subst ee173
    intro _
    simp only [L_law_refused_1, Ss_nil, Ss_cons, S_expr, S_assign, S_setattr, S_setitem, S_ret, S_pass, S_raise, S_iff, S_whil, S_for, S_tryx, E_none, E_tt, E_ff, E_int, E_str, E_var, E_glob, E_bin, E_neg, E_not, E_cmp, E_cmp2, E_bool, E_call, E_make, E_meth, E_m0, E_m1, E_insert, E_attr, E_idx, E_slice, E_rev, E_list, E_tuple, E_dict0, E_b1, E_min2, E_max2, E_isin, E_dict1, wpE_comp, Es_nil, Es_cons, B_one, B_cons, I_r1, I_r2, I_r3, I_en, I_var, I_idx, I_attr, I_list, I_call, I_slice, itR1_int, itR2_int, itR3_int, itEn, C_none, C_some, O_none, O_some, Loc.get, List.getElem?_cons_zero, List.getElem?_cons_succ, Option.join_some, onSome_some, tgOk, true_and, bindTg, List.set_cons_succ, List.set_cons_zero, onInt_int, H_nil, H_cons, has03, tb_asked, tb_sole, if_true]
    refine asked_rej (fun k σ'' Q X e => h k σ'' Q X (hE.trans e)) ?_
    intro a σ'' hE' ha
    refine sole_spec (c := "BadPairs") updSame (by decide) ?_
    simp only [onSome_some, truthy_bool, Bool.not_true, Bool.false_eq_true, if_false]
    exact hK _ _ ⟨(hE.trans hE').upd ((hE.trans hE').none ha), _, rfl⟩
  · intro ρ σ' zz43
    refine ob49 zz43 ?_
    clear zz43
    intro hE t2 ee174
    subst ee174
    exact hQ σ' hE

theorem rej_kind {x : Addr} {v : V} {kd : Kd} (h : ∀ σ', Ext σ σ' → kindV σ' v = some kd) (hk : kd ≠ .list) : Rej σ x v := fun k σ' Q X e hX => mates_nolist (h σ' e) hk fun a ha => hX a σ' Ext.rfl ha

theorem rej_pairs {x d r l : Addr} {rs : List Addr} {n : Int} {T P : List (Int × Int)} {b : V} {rest : List V} (h : NetAt σ x d r rs n T) (hl : σ l = some (.list (P.map pr ++ b :: rest))) (hs : ∀ p ∈ P, p ∈ T) (hd : Disj P)
    (hb : BadP σ n T P b) : Rej σ x (.ref l) := by
  intro k σ' Q X e hX
  refine mates_spec (rest := b :: rest) (h.ext e) (e _ _ hl) hs hd ?_ (fun _ a σ'' g => hX a σ'' g) (by simp)
  intro b' r' e'
  cases e'
  rcases hb with ⟨h1, h2⟩ | h1
  · exact .inl ⟨h1, fun σ'' g => h2 σ'' (e.trans g)⟩
  · exact .inr h1

/-- where pairs first touch -/
theorem split_bad (L : List (Int × Int)) : ∀ (m : Nat), m = L.length → ¬ Disj L → ∃ P b R, L = P ++ b :: R ∧ Disj P ∧ ∃ q ∈ P, Touch q b := by
  intro m
  induction m generalizing L with
  | zero => intro e h; cases L with
    | nil => exact absurd List.Pairwise.nil h
    | cons a l => cases e
  | succ m ih =>
    intro e h
    rcases List.eq_nil_or_concat L with rfl | ⟨L', x, rfl⟩
    · cases e
    rw [List.concat_eq_append] at h e ⊢
    rw [List.length_append] at e
    by_cases g : Disj L'
    · refine ⟨L', x, [], rfl, g, Classical.byContradiction fun hn => h ?_⟩
      refine List.pairwise_append.mpr ⟨g, List.pairwise_singleton .., ?_⟩
      intro q hq y hy t
      rw [List.mem_singleton] at hy
      subst hy
      exact hn ⟨q, hq, t⟩
    · refine ob13 (ih L' (by simpa using e) g) ?_
      intro P b R ee175
      subst ee175
      intro h1 h2
      exact ⟨P, b, R ++ [x], by simp, h1, h2⟩

theorem rej_wrong {x d r l : Addr} {rs : List Addr} {n : Int} {T P : List (Int × Int)} {b : V} {i : Nat} (h : NetAt σ x d r rs n T) (hl : σ l = some (.list ((P.map pr).take i ++ b :: (P.map pr).drop i))) (hs : ∀ p ∈ P, p ∈ T) (hd : Disj P)
    (hb : BadP σ n T P b) : Rej σ x (.ref l) := by
  have hs1 : ∀ p ∈ P.take i, p ∈ T := fun p hp => hs p (List.mem_of_mem_take hp)
  have hd1 : Disj (P.take i) := hd.sublist (List.take_sublist _ _)
  rw [← List.map_take, ← List.map_drop] at hl
  rcases hb with hb | ⟨p, rfl, hp, hb⟩
  · exact rej_pairs h hl hs1 hd1 (.inl hb)
  by_cases hpT : p ∈ T
  · have hb' : ∃ q ∈ P, Touch q p := hb.resolve_left fun g => g hpT
    refine ob5 hb' ?_
    clear hb'
    intro q hq ht
    have hnd : ¬ Disj (P.take i ++ p :: P.drop i) := by
      intro g
      have g' := List.pairwise_append.mp g
      rw [← List.take_append_drop i P] at hq
      rcases List.mem_append.mp hq with hq | hq
      · exact g'.2.2 q hq p (List.mem_cons_self ..) ht
      · exact (List.pairwise_cons.mp g'.2.1).1 q hq ht.symm
    refine ob13 (split_bad _ _ rfl hnd) ?_
    intro P' b' R e h1 h2
    have hall : ∀ q ∈ P.take i ++ p :: P.drop i, q ∈ T := by
      intro q hq
      rcases List.mem_append.mp hq with hq | hq
      · exact hs1 q hq
      · rcases List.mem_cons.mp hq with rfl | hq
        · exact hpT
        · exact hs q (List.mem_of_mem_drop hq)
    rw [← List.map_cons, ← List.map_append, e, List.map_append, List.map_cons] at hl
    rw [e] at hall
    exact rej_pairs h hl (fun q hq => hall q (List.mem_append_left _ hq)) h1 (.inr ⟨b', rfl, h.ok _ (hall b' (by simp)), .inr h2⟩)
  · exact rej_pairs h hl hs1 hd1 (.inr ⟨p, rfl, hp, .inl hpT⟩)
end
end Mine.Internal
end

section
set_option linter.unusedVariables false
set_option linter.unusedSimpArgs false
namespace Mine.Internal
open PySem
section
variable {k : Nat} {σ : Store} {Q : V → Store → Prop} {X : XP}

theorem mem_of_idx {α : Type} {vs : List α} {i : Int} (h0 : 0 ≤ i) (h1 : i < vs.length) : ∃ v, vs[i.toNat]? = some v ∧ v ∈ vs := by
  have : i.toNat < vs.length := by omega
  exact ⟨_, List.getElem?_eq_getElem this, List.getElem_mem this⟩

theorem pairing_turn {l t f g : Addr} {ns : List Int} {P : List (Int × Int)} {D : List Int} {j : Nat} {p : Int × Int} {σ0 : Store} {R Y} {N : Loc → Store → Prop}
    (hE : Ext σ0 σ) (hf0 : σ0 f = none) (hg0 : σ0 g = none) (hfg : f ≠ g) (hl : σ0 l = some (.fixed (ns.map V.int))) (hf : σ f = some (.list (P.map pr))) (hg : σ g = some (.dict (D.map V.int)))
    (hD : ∀ i, i ∈ D ↔ i ∈ places P) (hDl : D.length ≤ 2 * j) (hPl : P.length ≤ j) (hj : j ≤ 1600)
    (hno : N [some (.ref l), some (.ref t), some (.ref f), some (.ref g), some (.int j), some (pr p)] σ)
    (hyes : ∀ σ' (D' : List Int), Ext σ0 σ' → σ' f = some (.list ((P ++ [p]).map pr)) → σ' g = some (.dict (D'.map V.int)) → (∀ i, i ∈ D' ↔ i ∈ places (P ++ [p])) → D'.length ≤ 2 * (j + 1) → (∀ q ∈ P, ¬ Touch q p) → N [some (.ref l), some (.ref t), some (.ref f), some (.ref g), some (.int j), some (pr p)] σ') :
    wpSs (sem tab03 fld03 (k + 1)) true T_law_pairing_by_1 [some (.ref l), some (.ref t), some (.ref f), some (.ref g), some (.int j), some (pr p)] σ N R Y := by
  simp only [T_law_pairing_by_1, Ss_nil, Ss_cons, S_expr, S_assign, S_setattr, S_setitem, S_ret, S_pass, S_raise, S_iff, S_whil, S_for, S_tryx, E_none, E_tt, E_ff, E_int, E_str, E_var, E_glob, E_bin, E_neg, E_not, E_cmp, E_cmp2, E_bool, E_call, E_make, E_meth, E_m0, E_m1, E_insert, E_attr, E_idx, E_slice, E_rev, E_list, E_tuple, E_dict0, E_b1, E_min2, E_max2, E_isin, E_dict1, wpE_comp, Es_nil, Es_cons, B_one, B_cons, I_r1, I_r2, I_r3, I_en, I_var, I_idx, I_attr, I_list, I_call, I_slice, itR1_int, itR2_int, itR3_int, itEn, C_none, C_some, O_none, O_some, Loc.get, List.getElem?_cons_zero, List.getElem?_cons_succ, Option.join_some, onSome_some, tgOk, true_and, bindTg, List.set_cons_succ, List.set_cons_zero, onInt_int, has03, tb_cell, cmpV_NotIn]
  refine idx_pr0 ?_
  rw [in_dict hg]
  by_cases h1 : p.1 ∈ D
  · simp only [h1, decide_true, Option.map_some, Bool.not_true, onSome_some, truthy_bool, Bool.false_eq_true, if_false]
    exact hno
  simp only [h1, decide_false, Option.map_some, Bool.not_false, onSome_some, truthy_bool, if_true]
  refine idx_pr1 ?_
  rw [in_dict hg]
  by_cases h2 : p.2 ∈ D
  · simp only [h2, decide_true, Option.map_some, Bool.not_true, onSome_some, truthy_bool, Bool.false_eq_true, if_false]
    exact hno
  simp only [h2, decide_false, Option.map_some, Bool.not_false, onSome_some, truthy_bool, if_true, binV_mod, binV_add]
  have hm := fmod_bd (a := (j : Int)) (b := 9) (by omega)
  refine ⟨by omega, cell_any (ns := ns) (hE _ _ hl) (by omega) fun c => ⟨by omega, ?_⟩⟩
  simp only [cmpV_gt, onSome_some, truthy_bool]
  split
  · refine idx_pr0 (setkey_of hg (by unfold szLim; omega) ?_)
    rw [if_neg h1]
    refine idx_pr1 (setkey_of updSame (by rw [List.length_append, List.length_singleton]; unfold szLim; omega) ?_)
    rw [upd_upd]
    refine onList_of (by rw [updNe hfg]; exact hf) (append_of (by rw [updNe hfg]; exact hf) (by rw [List.length_map]; unfold szLim; omega) ⟨rfl, ?_⟩)
    refine hyes _ (if p.2 ∈ D ++ [p.1] then D ++ [p.1] else D ++ [p.1] ++ [p.2]) ((hE.upd hg0).upd hf0) ?_ ?_ ?_ ?_ ?_
    · rw [updSame, List.map_append]; rfl
    · rw [updNe hfg.symm, updSame]
    · intro i
      have : i ∈ (if p.2 ∈ D ++ [p.1] then D ++ [p.1] else D ++ [p.1] ++ [p.2]) ↔ i ∈ D ∨ i = p.1 ∨ i = p.2 := by
        split
        · rename_i h3
          constructor
          · intro h
            rcases List.mem_append.mp h with h | h
            · exact .inl h
            · rw [List.mem_singleton] at h; exact .inr (.inl h)
          · rintro (h | h | h)
            · simp [h]
            · simp [h]
            · rw [h]; exact h3
        · simp
      rw [this, hD i, mem_places, mem_places]
      constructor
      · rintro (⟨q, hq, h⟩ | h)
        · exact ⟨q, List.mem_append_left _ hq, h⟩
        · exact ⟨p, by simp, by omega⟩
      · intro zz44
        refine ob5 zz44 ?_
        clear zz44
        intro q hq h
        rcases List.mem_append.mp hq with hq | hq
        · exact .inl ⟨q, hq, h⟩
        · rw [List.mem_singleton] at hq; subst hq; exact .inr (by omega)
    · split
      · rw [List.length_append, List.length_singleton]; omega
      · rw [List.length_append, List.length_append, List.length_singleton, List.length_singleton]; omega
    · intro q hq ht
      have a1 : ∀ i, i ∉ D → ∀ q ∈ P, q.1 ≠ i ∧ q.2 ≠ i := fun i hi q hq => ⟨fun e => hi ((hD i).mpr (mem_places.mpr ⟨q, hq, .inl e⟩)), fun e => hi ((hD i).mpr (mem_places.mpr ⟨q, hq, .inr e⟩))⟩
      have b1 := a1 _ h1 q hq
      have b2 := a1 _ h2 q hq
      unfold Touch at ht
      omega
  · exact hno

theorem pairing_spec {l t : Addr} {ns : List Int} {T : List (Int × Int)} (hl : σ l = some (.fixed (ns.map V.int))) (ht : σ t = some (.list (T.map pr))) (hTl : T.length ≤ 1600)
    (hQ : ∀ (P : List (Int × Int)) σ' f, Ext σ σ' → σ f = none → σ' f = some (.list (P.map pr)) → (∀ p ∈ P, p ∈ T) → Disj P → Q (.ref f) σ') : (sem tab03 fld03 (k + 2) true).run "" "_law_pairing_by" [.ref l, .ref t] σ Q X := by
  refine run_succ (F := F_law_pairing_by) rfl ⟨rfl, ?_⟩
  simp only [F_law_pairing_by, Ss_nil, Ss_cons, S_expr, S_assign, S_setattr, S_setitem, S_ret, S_pass, S_raise, S_iff, S_whil, S_for, S_tryx, E_none, E_tt, E_ff, E_int, E_str, E_var, E_glob, E_bin, E_neg, E_not, E_cmp, E_cmp2, E_bool, E_call, E_make, E_meth, E_m0, E_m1, E_insert, E_attr, E_idx, E_slice, E_rev, E_list, E_tuple, E_dict0, E_b1, E_min2, E_max2, E_isin, E_dict1, wpE_comp, Es_nil, Es_cons, B_one, B_cons, I_r1, I_r2, I_r3, I_en, I_var, I_idx, I_attr, I_list, I_call, I_slice, itR1_int, itR2_int, itR3_int, itEn, C_none, C_some, O_none, O_some, List.map_cons, List.map_nil, List.length_cons, List.length_nil, List.cons_append, List.nil_append, List.replicate, Nat.reduceAdd, Nat.reduceSub, Loc.get, List.getElem?_cons_zero, List.getElem?_cons_succ, Option.join_some, onSome_some, tgOk, true_and, bindTg, List.set_cons_succ, List.set_cons_zero, onInt_int, b1V]
  refine ⟨by decide, ?_⟩
  intro f hf g hg
  have hgf : g ≠ f := by rintro rfl; rw [updSame] at hg; cases hg
  have hg0 : σ g = none := by rwa [updNe hgf] at hg
  have hE := ((Ext.rfl (σ := σ)).upd (o := .list []) hf).upd (o := .dict []) hg0
  simp only [List.set_cons_succ, List.set_cons_zero, List.getElem?_cons_zero, List.getElem?_cons_succ, Option.join_some, onSome_some, onSeq, hE _ _ ht, List.length_map, itR1_int]
  refine ⟨by omega, ?_⟩
  refine forV_inv (fun j ρ σ' => ∃ P D t4 t5, Ext σ σ' ∧ σ' f = some (.list (P.map pr)) ∧ σ' g = some (.dict (D.map V.int)) ∧ (∀ i, i ∈ D ↔ i ∈ places P) ∧ D.length ≤ 2 * j ∧ P.length ≤ j ∧ (∀ p ∈ P, p ∈ T) ∧ Disj P ∧
      ρ = [some (.ref l), some (.ref t), some (.ref f), some (.ref g), t4, t5])
    ⟨[], [], none, none, hE, by rw [updNe hgf.symm, updSame]; rfl, updSame, by simp [places], by simp, by simp, by simp, .nil, rfl⟩ (fun _ _ _ _ => trivial) ?_ ?_
  · intro j v ρ σ' K hv zz45
    refine ob51 zz45 ?_
    clear zz45
    intro P D t4 t5 h1 h2 h3 h4 h5 h6 h7 h8 ee176
    subst ee176
    intro hK
    refine ob8 (upto_getV hv) ?_
    intro ee177
    subst ee177
    intro hj
    rw [Int.zero_add] at hj ⊢
    simp only [L_law_pairing_by_1, Ss_nil, Ss_cons, S_expr, S_assign, S_setattr, S_setitem, S_ret, S_pass, S_raise, S_iff, S_whil, S_for, S_tryx, E_none, E_tt, E_ff, E_int, E_str, E_var, E_glob, E_bin, E_neg, E_not, E_cmp, E_cmp2, E_bool, E_call, E_make, E_meth, E_m0, E_m1, E_insert, E_attr, E_idx, E_slice, E_rev, E_list, E_tuple, E_dict0, E_b1, E_min2, E_max2, E_isin, E_dict1, wpE_comp, Es_nil, Es_cons, B_one, B_cons, I_r1, I_r2, I_r3, I_en, I_var, I_idx, I_attr, I_list, I_call, I_slice, itR1_int, itR2_int, itR3_int, itEn, C_none, C_some, O_none, O_some, Loc.get, List.getElem?_cons_zero, List.getElem?_cons_succ, Option.join_some, onSome_some, tgOk, true_and, bindTg, List.set_cons_succ, List.set_cons_zero, onInt_int, has03, tb_cell, binV_mul, b1V]
    refine ⟨by omega, cell_any (ns := ns) (h1 _ _ hl) (by omega) fun c => ?_⟩
    simp only [binV_add, onSeq, h1 _ _ ht, List.length_map, binV_mod]
    refine ⟨by omega, ?_⟩
    have hm := fmod_bd (a := (j : Int) * 7 + c) (b := T.length) (by omega)
    refine ob5 (mem_of_idx hm.1 hm.2) ?_
    intro p hp hpT
    refine idx_of (h1 _ _ ht) hm.1 (by rw [List.getElem?_map, hp]; rfl) ?_
    refine pairing_turn (σ0 := σ) (ns := ns) h1 hf hg0 hgf.symm hl h2 h3 h4 h5 h6 (by omega) ?_ ?_
    · exact hK _ _ ⟨P, D, _, _, h1, h2, h3, h4, by omega, by omega, h7, h8, rfl⟩
    · intro σ'' D' g1 g2 g3 g4 g5 g6
      refine hK _ _ ⟨P ++ [p], D', _, _, g1, g2, g3, g4, g5, by rw [List.length_append, List.length_singleton]; omega, ?_, ?_, rfl⟩
      · intro q hq
        rcases List.mem_append.mp hq with hq | hq
        · exact h7 q hq
        · rw [List.mem_singleton] at hq; subst hq; exact hpT
      · refine List.pairwise_append.mpr ⟨h8, List.pairwise_singleton .., ?_⟩
        intro q hq y hy
        rw [List.mem_singleton] at hy
        subst hy
        exact g6 q hq
  · intro ρ σ' zz46
    refine ob51 zz46 ?_
    clear zz46
    intro P D t4 t5 h1 h2 h3 h4 h5 h6 h7 h8 ee178
    subst ee178
    simp only [T_law_pairing_by_2, Ss_nil, Ss_cons, S_expr, S_assign, S_setattr, S_setitem, S_ret, S_pass, S_raise, S_iff, S_whil, S_for, S_tryx, E_none, E_tt, E_ff, E_int, E_str, E_var, E_glob, E_bin, E_neg, E_not, E_cmp, E_cmp2, E_bool, E_call, E_make, E_meth, E_m0, E_m1, E_insert, E_attr, E_idx, E_slice, E_rev, E_list, E_tuple, E_dict0, E_b1, E_min2, E_max2, E_isin, E_dict1, wpE_comp, Es_nil, Es_cons, B_one, B_cons, I_r1, I_r2, I_r3, I_en, I_var, I_idx, I_attr, I_list, I_call, I_slice, itR1_int, itR2_int, itR3_int, itEn, C_none, C_some, O_none, O_some, Loc.get, List.getElem?_cons_zero, List.getElem?_cons_succ, Option.join_some, onSome_some, tgOk, true_and, bindTg, List.set_cons_succ, List.set_cons_zero, onInt_int]
    exact hQ P σ' f h1 hf h2 h7 h8
end
end Mine.Internal
end

section
set_option linter.unusedVariables false
set_option linter.unusedSimpArgs false
namespace Mine.Internal
open PySem
theorem memV_prs {σ : Store} {q : Int × Int} {l : List (Int × Int)} : memV σ (pr q) (l.map pr) = some (decide (q ∈ l)) := by
  induction l with
  | nil => rfl
  | cons y l ih =>
    have : memV σ (pr q) ((y :: l).map pr) = (match eqv σ fuel (pr y) (pr q), memV σ (pr q) (l.map pr) with | some a, some b => some (a || b) | _, _ => none) := rfl
    rw [this, ih]
    have h : eqv σ fuel (pr y) (pr q) = some ((y.1 == q.1) && ((y.2 == q.2) && true)) := rfl
    rw [h]
    have : (y = q) = (y.1 = q.1 ∧ y.2 = q.2) := by rw [Prod.ext_iff]
    by_cases e : y = q
    · subst e; simp
    · have h2 : ¬ q = y := fun h => e h.symm
      have h3 : (y.1 == q.1 && (y.2 == q.2 && true)) = false := by
        rw [this] at e
        rw [Bool.and_true, Bool.eq_false_iff]
        intro g
        simp only [Bool.and_eq_true, beq_iff_eq] at g
        exact e g
      rw [h3]
      simp [h2]
section
variable {k : Nat} {σ : Store} {Q : V → Store → Prop} {X : XP}

theorem idx_end {a : Addr} {vs : List V} {i : Int} {K : V → Prop} (ha : σ a = some (.list vs)) (hne : vs ≠ []) (hi : i = 0 ∨ i = -1) (h : ∀ v ∈ vs, K v) : idxV (.ref a) (.int i) σ K := by
  have hpos : 0 < vs.length := List.length_pos_iff.mpr hne
  simp only [idxV, onSeq, ha, onInt_int]
  rcases hi with rfl | rfl
  · have : pyIdx 0 vs.length = some 0 := by unfold pyIdx; simp [hpos]
    rw [this]
    show onSome vs[0]? K
    exact onSome_of (List.getElem?_eq_getElem hpos) (h _ (List.getElem_mem _))
  · have : pyIdx (-1) vs.length = some (vs.length - 1) := by
      unfold pyIdx
      rw [if_neg (by omega), if_pos (by omega)]
      congr 1
      omega
    rw [this]
    have h1 : vs.length - 1 < vs.length := by omega
    show onSome vs[vs.length - 1]? K
    exact onSome_of (List.getElem?_eq_getElem h1) (h _ (List.getElem_mem _))

/-- the store without one object -/
noncomputable def Store.del (σ : Store) (h : Addr) : Store := fun a => if a = h then none else σ a
theorem del_same {σ : Store} {h : Addr} : σ.del h h = none := by simp [Store.del]
theorem del_ne {σ : Store} {h a : Addr} (e : a ≠ h) : σ.del h a = σ a := by simp [Store.del, e]
theorem del_ext {σ : Store} {h : Addr} : Ext (σ.del h) σ := by
  intro a o e
  by_cases g : a = h
  · subst g; rw [del_same] at e; cases e
  · rwa [del_ne g] at e
theorem ext_del {σ σ' : Store} {h : Addr} (e : Ext σ σ') (n : σ h = none) : Ext σ (σ'.del h) := by
  intro a o g
  have : a ≠ h := by rintro rfl; rw [n] at g; cases g
  rw [del_ne this]; exact e a o g
theorem del_del {σ σ' : Store} {h : Addr} (e : Ext σ σ') : Ext (σ.del h) (σ'.del h) := ext_del (fun a o g => e a o (del_ext a o g)) del_same

/-- a thing that is like itself, now and later -/
noncomputable def Same (σ : Store) (w : V) : Prop := ∀ σ', Ext σ σ' → eqv σ' 5 w w = some true
noncomputable def someL (n : Int) (r : Addr) : List V := [pr (0, 0), pr (-1, 0), pr (0, n), .ref r, .none, .str (Str.ofString "01"), .tup [.int 0, .bool true], .tup [.int 0]]

theorem some_bad {n : Int} {T P : List (Int × Int)} {r : Addr} (hr : σ r = some (.list [.int 0, .int 1])) {w : V} (hw : w ∈ someL n r) : BadP σ n T P w ∧ Same σ w := by
  have hk : ∀ σ', Ext σ σ' → kindV σ' (.ref r) = some .list := fun σ' e => by simp only [kindV, e _ _ hr]
  unfold someL at hw
  simp only [List.mem_cons, List.not_mem_nil, or_false] at hw
  rcases hw with rfl | rfl | rfl | rfl | rfl | rfl | rfl | rfl
  · exact ⟨.inl ⟨rfl, fun σ' _ => kindsOk_pr⟩, fun σ' _ => eqv_pr⟩
  · exact ⟨.inl ⟨rfl, fun σ' _ => kindsOk_pr⟩, fun σ' _ => eqv_pr⟩
  · refine ⟨.inl ⟨?_, fun σ' _ => kindsOk_pr⟩, fun σ' _ => eqv_pr⟩
    simp [pr, isTieV]
  · refine ⟨.inl ⟨rfl, fun σ' e => ⟨by rw [hk σ' e]; rfl, by intro vs g; cases g⟩⟩, fun σ' e => ?_⟩
    exact eqv_list (e _ _ hr) (e _ _ hr) fun v hv => by
      simp only [List.mem_cons, List.not_mem_nil, or_false] at hv
      rcases hv with rfl | rfl <;> exact eqv_int
  · exact ⟨.inl ⟨rfl, fun σ' _ => ⟨rfl, by intro vs g; cases g⟩⟩, fun σ' _ => rfl⟩
  · exact ⟨.inl ⟨rfl, fun σ' _ => ⟨rfl, by intro vs g; cases g⟩⟩, fun σ' _ => congrArg some (beq_self_eq_true _)⟩
  · refine ⟨.inl ⟨rfl, fun σ' _ => ⟨rfl, ?_⟩⟩, fun σ' _ => rfl⟩
    intro vs g
    cases g
    refine ⟨by decide, fun u hu => ?_⟩
    simp only [List.mem_cons, List.not_mem_nil, or_false] at hu
    rcases hu with rfl | rfl <;> rfl
  · refine ⟨.inl ⟨rfl, fun σ' _ => ⟨rfl, ?_⟩⟩, fun σ' _ => rfl⟩
    intro vs g
    cases g
    refine ⟨by decide, fun u hu => ?_⟩
    simp only [List.mem_cons, List.not_mem_nil, or_false] at hu
    rcases hu with rfl; rfl

theorem wrong_last {n c : Int} {T P : List (Int × Int)} {s r z : Addr} {t2 t3 t5 t6 t7 t8 : Option V} {N Y} (hs : σ s = some (.list (someL n r))) (hr : σ r = some (.list [.int 0, .int 1])) (hz : r ≠ z)
    (hQ : ∀ w, BadP (σ.del z) n T P w → Same (σ.del z) w → Q w σ) :
    wpSs (sem tab03 fld03 k) true T_law_wrong_by_4 [some (.int c), some (.int n), t2, t3, some (.ref s), t5, t6, t7, t8] σ N Q Y := by
  simp only [T_law_wrong_by_4, Ss_nil, Ss_cons, S_expr, S_assign, S_setattr, S_setitem, S_ret, S_pass, S_raise, S_iff, S_whil, S_for, S_tryx, E_none, E_tt, E_ff, E_int, E_str, E_var, E_glob, E_bin, E_neg, E_not, E_cmp, E_cmp2, E_bool, E_call, E_make, E_meth, E_m0, E_m1, E_insert, E_attr, E_idx, E_slice, E_rev, E_list, E_tuple, E_dict0, E_b1, E_min2, E_max2, E_isin, E_dict1, wpE_comp, Es_nil, Es_cons, B_one, B_cons, I_r1, I_r2, I_r3, I_en, I_var, I_idx, I_attr, I_list, I_call, I_slice, itR1_int, itR2_int, itR3_int, itEn, C_none, C_some, O_none, O_some, Loc.get, List.getElem?_cons_zero, List.getElem?_cons_succ, Option.join_some, onSome_some, tgOk, true_and, bindTg, List.set_cons_succ, List.set_cons_zero, onInt_int, binV_div, binV_mod]
  refine ⟨by omega, by omega, ?_⟩
  have hm := fmod_bd (a := c.fdiv 4) (b := 8) (by omega)
  refine ob5 (mem_of_idx (vs := someL n r) hm.1 hm.2) ?_
  intro v hv hvm
  have := some_bad (n := n) (T := T) (P := P) (σ := σ.del z) (by rw [del_ne hz]; exact hr) hvm
  exact idx_of hs hm.1 hv (hQ v this.1 this.2)

theorem same_pr {p : Int × Int} : Same σ (pr p) := fun σ' _ => eqv_pr

end
end Mine.Internal
end

section
set_option linter.unusedVariables false
set_option linter.unusedSimpArgs false
namespace Mine.Internal
open PySem
section
variable {k : Nat} {σ : Store} {Q : V → Store → Prop} {X : XP}

theorem in_pr {σ : Store} {i : Int} {p : Int × Int} : inV σ (.int i) (pr p) = some (decide (i ∈ [p.1, p.2])) := memV_ints (σ := σ) (l := [p.1, p.2])

/-- what stands when a wrong thing is sought -/
structure Wr (σ : Store) (n : Int) (T P : List (Int × Int)) (t q s r z : Addr) : Prop where
  ht : σ t = some (.list (T.map pr))
  hq : σ q = some (.list (P.map pr))
  hs : σ s = some (.list (someL n r))
  hr : σ r = some (.list [.int 0, .int 1])
  lo : 1 ≤ n
  hi : n ≤ 40
  ok : ∀ p ∈ T, TieOk n p
  sub : ∀ p ∈ P, p ∈ T
  len : T.length ≤ 1600
  nz : r ≠ z
theorem Wr.ext {σ σ' : Store} {n : Int} {T P : List (Int × Int)} {t q s r z : Addr} (h : Wr σ n T P t q s r z) (e : Ext σ σ') : Wr σ' n T P t q s r z := ⟨e _ _ h.ht, e _ _ h.hq, e _ _ h.hs, e _ _ h.hr, h.lo, h.hi, h.ok, h.sub, h.len, h.nz⟩

/-- a pair that is no tie of the net -/
theorem wrong_apart {n c : Int} {T P : List (Int × Int)} {t q s r z : Addr} {t5 : Option V} {N Y} (h : Wr σ n T P t q s r z) (hQ : ∀ w σ', Ext σ σ' → BadP (σ'.del z) n T P w → Same (σ'.del z) w → Q w σ') :
    wpSs (sem tab03 fld03 k) true T_law_wrong_by_5 [some (.int c), some (.int n), some (.ref t), some (.ref q), some (.ref s), t5, none, none, none] σ N Q Y := by
  have hlo := h.lo
  have hhi := h.hi
  simp only [T_law_wrong_by_5, Ss_nil, Ss_cons, S_expr, S_assign, S_setattr, S_setitem, S_ret, S_pass, S_raise, S_iff, S_whil, S_for, S_tryx, E_none, E_tt, E_ff, E_int, E_str, E_var, E_glob, E_bin, E_neg, E_not, E_cmp, E_cmp2, E_bool, E_call, E_make, E_meth, E_m0, E_m1, E_insert, E_attr, E_idx, E_slice, E_rev, E_list, E_tuple, E_dict0, E_b1, E_min2, E_max2, E_isin, E_dict1, wpE_comp, Es_nil, Es_cons, B_one, B_cons, I_r1, I_r2, I_r3, I_en, I_var, I_idx, I_attr, I_list, I_call, I_slice, itR1_int, itR2_int, itR3_int, itEn, C_none, C_some, O_none, O_some, Loc.get, List.getElem?_cons_zero, List.getElem?_cons_succ, Option.join_some, onSome_some, tgOk, true_and, bindTg, List.set_cons_succ, List.set_cons_zero, onInt_int, binV_sub, binV_mod, cmpV_eq, truthy_bool]
  refine ⟨by omega, ?_⟩
  refine ite_of (fun _ => ?_) fun _ => wrong_last h.hs h.hr h.nz fun w hb hw => hQ w _ Ext.rfl hb hw
  refine ⟨by omega, ?_⟩
  refine comp_range (fun i => if (i, n - 1) ∈ T then none else some (pr (i, n - 1))) trivial (by omega) ?_ ?_
  · intro i i0 i1 K hK
    refine ⟨sz2, ?_⟩
    have e : inV σ (V.tup [.int i, .int (n - 1)]) (.ref t) = some (decide ((i, n - 1) ∈ T)) := by
      simp only [inV, h.ht]; exact memV_prs (q := (i, n - 1))
    rw [cmpV_NotIn, e]
    by_cases g : (i, n - 1) ∈ T
    · rw [if_pos g] at hK
      simp only [g, decide_true, Option.map_some, Bool.not_true, onSome_some, truthy_bool, Bool.false_eq_true, if_false]
      exact hK
    · rw [if_neg g] at hK
      simp only [g, decide_false, Option.map_some, Bool.not_false, onSome_some, truthy_bool, if_true]
      exact ⟨sz2, hK⟩
  have hall : ∀ v ∈ (List.range (n - 1).toNat).filterMap (fun i : Nat => if ((i : Int), n - 1) ∈ T then none else some (pr ((i : Int), n - 1))), ∃ p, v = pr p ∧ TieOk n p ∧ p ∉ T := by
    intro v hv
    refine ob5 (List.mem_filterMap.mp hv) ?_
    intro i hi e
    rw [List.mem_range] at hi
    split at e
    · cases e
    · cases e
      exact ⟨_, rfl, ⟨by simp only; omega, by simp only; omega, by simp only; omega⟩, by assumption⟩
  generalize (List.range (n - 1).toNat).filterMap (fun i : Nat => if ((i : Int), n - 1) ∈ T then none else some (pr ((i : Int), n - 1))) = L at *
  intro a ha
  have hE := (Ext.rfl (σ := σ)).upd (o := .list L) ha
  have ha1 : (σ.upd a (.list L)) a = some (.list L) := updSame
  generalize σ.upd a (.list L) = σ1 at *
  simp only [T_law_wrong_by_3, Ss_nil, Ss_cons, S_expr, S_assign, S_setattr, S_setitem, S_ret, S_pass, S_raise, S_iff, S_whil, S_for, S_tryx, E_none, E_tt, E_ff, E_int, E_str, E_var, E_glob, E_bin, E_neg, E_not, E_cmp, E_cmp2, E_bool, E_call, E_make, E_meth, E_m0, E_m1, E_insert, E_attr, E_idx, E_slice, E_rev, E_list, E_tuple, E_dict0, E_b1, E_min2, E_max2, E_isin, E_dict1, wpE_comp, Es_nil, Es_cons, B_one, B_cons, I_r1, I_r2, I_r3, I_en, I_var, I_idx, I_attr, I_list, I_call, I_slice, itR1_int, itR2_int, itR3_int, itEn, C_none, C_some, O_none, O_some, Loc.get, List.getElem?_cons_zero, List.getElem?_cons_succ, Option.join_some, onSome_some, tgOk, true_and, bindTg, List.set_cons_succ, List.set_cons_zero, onInt_int, cmpV_Ne]
  refine ⟨by decide, ?_⟩
  intro e he
  have hE2' := (Ext.rfl (σ := σ1)).upd (o := .list []) he
  have hE2 := hE.trans hE2'
  rw [eqv_nil (hE2' _ _ ha1) updSame]
  simp only [Option.map_some, onSome_some, truthy_bool]
  cases L with
  | nil =>
    simp only [List.isEmpty_nil, Bool.not_true, Bool.false_eq_true, if_false]
    exact wrong_last (hE2 _ _ h.hs) (hE2 _ _ h.hr) h.nz fun w hb hw => hQ w _ hE2 hb hw
  | cons v L =>
    simp only [List.isEmpty_cons, Bool.not_false, if_true, b1V, onSeq, hE2' _ _ ha1, binV_div, binV_mod]
    have hpos : 0 < (v :: L).length := by simp
    refine ⟨by omega, by omega, ?_⟩
    have hm := fmod_bd (a := c.fdiv 4) (b := ((v :: L).length : Nat)) (by omega)
    refine ob5 (mem_of_idx (vs := v :: L) hm.1 hm.2) ?_
    intro u hu hum
    refine ob10 (hall u hum) ?_
    intro p ee179
    subst ee179
    intro hp hpT
    exact idx_of (hE2' _ _ ha1) hm.1 hu (hQ _ _ hE2 (.inr ⟨p, rfl, hp, .inl hpT⟩) same_pr)

/-- a tie told from its far end -/
theorem wrong_flip {n c : Int} {T P : List (Int × Int)} {t q s r z : Addr} {N Y} (h : Wr σ n T P t q s r z) (hQ : ∀ w σ', Ext σ σ' → BadP (σ'.del z) n T P w → Same (σ'.del z) w → Q w σ') :
    wpSs (sem tab03 fld03 k) true T_law_wrong_by_6 [some (.int c), some (.int n), some (.ref t), some (.ref q), some (.ref s), none, none, none, none] σ N Q Y := by
  simp only [T_law_wrong_by_6, Ss_nil, Ss_cons, S_expr, S_assign, S_setattr, S_setitem, S_ret, S_pass, S_raise, S_iff, S_whil, S_for, S_tryx, E_none, E_tt, E_ff, E_int, E_str, E_var, E_glob, E_bin, E_neg, E_not, E_cmp, E_cmp2, E_bool, E_call, E_make, E_meth, E_m0, E_m1, E_insert, E_attr, E_idx, E_slice, E_rev, E_list, E_tuple, E_dict0, E_b1, E_min2, E_max2, E_isin, E_dict1, wpE_comp, Es_nil, Es_cons, B_one, B_cons, I_r1, I_r2, I_r3, I_en, I_var, I_idx, I_attr, I_list, I_call, I_slice, itR1_int, itR2_int, itR3_int, itEn, C_none, C_some, O_none, O_some, Loc.get, List.getElem?_cons_zero, List.getElem?_cons_succ, Option.join_some, onSome_some, tgOk, true_and, bindTg, List.set_cons_succ, List.set_cons_zero, onInt_int, binV_mod, cmpV_eq, truthy_bool, cmpV_Ne]
  refine ⟨by omega, ?_⟩
  refine ite_of (fun _ => ⟨by decide, ?_⟩) fun g => ite_f g (wrong_apart h hQ)
  intro e he
  have hE := (Ext.rfl (σ := σ)).upd (o := .list []) he
  have h' := h.ext hE
  rw [eqv_nil h'.ht updSame]
  simp only [Option.map_some, onSome_some, truthy_bool]
  refine ite_of (fun g => ?_) fun _ => wrong_apart h' fun w σ' e' => hQ w σ' (hE.trans e')
  have hpos : 0 < T.length := by
    cases T with
    | nil => cases g
    | cons a l => simp
  simp only [b1V, onSeq, h'.ht, binV_div, binV_mod, List.length_map]
  refine ⟨by omega, by omega, ?_⟩
  have hm := fmod_bd (a := c.fdiv 4) (b := T.length) (by omega)
  refine ob5 (mem_of_idx hm.1 hm.2) ?_
  intro p hp hpT
  refine idx_of h'.ht hm.1 (by rw [List.getElem?_map, hp]; rfl) ?_
  simp only [T_law_wrong_by_2, Ss_nil, Ss_cons, S_expr, S_assign, S_setattr, S_setitem, S_ret, S_pass, S_raise, S_iff, S_whil, S_for, S_tryx, E_none, E_tt, E_ff, E_int, E_str, E_var, E_glob, E_bin, E_neg, E_not, E_cmp, E_cmp2, E_bool, E_call, E_make, E_meth, E_m0, E_m1, E_insert, E_attr, E_idx, E_slice, E_rev, E_list, E_tuple, E_dict0, E_b1, E_min2, E_max2, E_isin, E_dict1, wpE_comp, Es_nil, Es_cons, B_one, B_cons, I_r1, I_r2, I_r3, I_en, I_var, I_idx, I_attr, I_list, I_call, I_slice, itR1_int, itR2_int, itR3_int, itEn, C_none, C_some, O_none, O_some, Loc.get, List.getElem?_cons_zero, List.getElem?_cons_succ, Option.join_some, onSome_some, tgOk, true_and, bindTg, List.set_cons_succ, List.set_cons_zero, onInt_int]
  refine idx_pr1 (idx_pr0 ⟨sz2, ?_⟩)
  refine hQ (pr (p.2, p.1)) _ hE (.inl ⟨?_, fun σ' _ => kindsOk_pr⟩) same_pr
  have := h.ok p hpT
  unfold TieOk at this
  have h1 : ¬ p.2 < p.1 := by omega
  simp [pr, isTieV, h1]

/-- a tie that touches a pair -/
theorem wrong_touch {n c : Int} {T P : List (Int × Int)} {t q s r z : Addr} {N Y} (h : Wr σ n T P t q s r z) (hQ : ∀ w σ', Ext σ σ' → BadP (σ'.del z) n T P w → Same (σ'.del z) w → Q w σ') :
    wpSs (sem tab03 fld03 k) true T_law_wrong_by_7 [some (.int c), some (.int n), some (.ref t), some (.ref q), some (.ref s), none, none, none, none] σ N Q Y := by
  have hTl := h.len
  simp only [T_law_wrong_by_7, Ss_nil, Ss_cons, S_expr, S_assign, S_setattr, S_setitem, S_ret, S_pass, S_raise, S_iff, S_whil, S_for, S_tryx, E_none, E_tt, E_ff, E_int, E_str, E_var, E_glob, E_bin, E_neg, E_not, E_cmp, E_cmp2, E_bool, E_call, E_make, E_meth, E_m0, E_m1, E_insert, E_attr, E_idx, E_slice, E_rev, E_list, E_tuple, E_dict0, E_b1, E_min2, E_max2, E_isin, E_dict1, wpE_comp, Es_nil, Es_cons, B_one, B_cons, I_r1, I_r2, I_r3, I_en, I_var, I_idx, I_attr, I_list, I_call, I_slice, itR1_int, itR2_int, itR3_int, itEn, C_none, C_some, O_none, O_some, Loc.get, List.getElem?_cons_zero, List.getElem?_cons_succ, Option.join_some, onSome_some, tgOk, true_and, bindTg, List.set_cons_succ, List.set_cons_zero, onInt_int, binV_mod, cmpV_eq, truthy_bool, cmpV_Ne]
  refine ⟨by omega, ?_⟩
  refine ite_of (fun _ => ⟨by decide, ?_⟩) fun g => ite_f g (wrong_flip h hQ)
  intro e he
  have hE := (Ext.rfl (σ := σ)).upd (o := .list []) he
  have h' := h.ext hE
  rw [eqv_nil h'.hq updSame]
  simp only [Option.map_some, onSome_some, truthy_bool]
  refine ite_of (fun g => ?_) fun _ => wrong_flip h' fun w σ' e' => hQ w σ' (hE.trans e')
  have hpos : 0 < P.length := by
    cases P with
    | nil => cases g
    | cons a l => simp
  simp only [b1V, onSeq, h'.hq, binV_div, binV_mod, List.length_map]
  refine ⟨by omega, by omega, ?_⟩
  have hm := fmod_bd (a := c.fdiv 4) (b := P.length) (by omega)
  refine ob5 (mem_of_idx hm.1 hm.2) ?_
  intro p hp hpP
  refine idx_of h'.hq hm.1 (by rw [List.getElem?_map, hp]; rfl) ?_
  generalize σ.upd e (.list []) = σ1 at *
  simp only [T_law_wrong_by_1, Ss_nil, Ss_cons, S_expr, S_assign, S_setattr, S_setitem, S_ret, S_pass, S_raise, S_iff, S_whil, S_for, S_tryx, E_none, E_tt, E_ff, E_int, E_str, E_var, E_glob, E_bin, E_neg, E_not, E_cmp, E_cmp2, E_bool, E_call, E_make, E_meth, E_m0, E_m1, E_insert, E_attr, E_idx, E_slice, E_rev, E_list, E_tuple, E_dict0, E_b1, E_min2, E_max2, E_isin, E_dict1, wpE_comp, Es_nil, Es_cons, B_one, B_cons, I_r1, I_r2, I_r3, I_en, I_var, I_idx, I_attr, I_list, I_call, I_slice, itR1_int, itR2_int, itR3_int, itEn, C_none, C_some, O_none, O_some, Loc.get, List.getElem?_cons_zero, List.getElem?_cons_succ, Option.join_some, onSome_some, tgOk, true_and, bindTg, List.set_cons_succ, List.set_cons_zero, onInt_int, iterV]
  refine onList_of h'.ht ?_
  refine comp_pure (fun v => match v with | .tup [.int a, .int b] => if Touch p (a, b) then some (pr (a, b)) else none | _ => none) h'.ht (by rw [List.length_map]; unfold szLim; omega) ?_ ?_
  · intro v hv K hK
    refine ob5 (List.mem_map.mp hv) ?_
    intro u hu ee180
    subst ee180
    refine idx_pr0 ?_
    rw [cmpV_In, in_pr]
    simp only [onSome_some, truthy_bool]
    have hK' : K (if Touch p u then some (pr u) else none) σ1 := hK
    by_cases g1 : p.1 ∈ [u.1, u.2]
    · have gt : Touch p u := by simp only [List.mem_cons, List.not_mem_nil, or_false] at g1; unfold Touch; omega
      rw [if_pos gt] at hK'
      simp only [g1, decide_true, Bool.true_eq_false, if_false, if_true]
      exact hK'
    · simp only [g1, decide_false, if_true]
      refine idx_pr1 ?_
      rw [cmpV_In, in_pr]
      simp only [onSome_some, truthy_bool]
      by_cases g2 : p.2 ∈ [u.1, u.2]
      · have gt : Touch p u := by simp only [List.mem_cons, List.not_mem_nil, or_false] at g2; unfold Touch; omega
        rw [if_pos gt] at hK'
        simp only [g2, decide_true, if_true]
        exact hK'
      · have gt : ¬ Touch p u := by simp only [List.mem_cons, List.not_mem_nil, or_false] at g1 g2; unfold Touch; omega
        rw [if_neg gt] at hK'
        simp only [g2, decide_false, Bool.false_eq_true, if_false]
        exact hK'
  intro a ha
  have hE2' := (Ext.rfl (σ := σ1)).upd (o := .list ((T.map pr).filterMap fun v => match v with | .tup [.int a, .int b] => if Touch p (a, b) then some (pr (a, b)) else none | _ => none)) ha
  have hE2 := hE.trans hE2'
  simp only [binV_div, binV_mod, binV_mul]
  have hm2 := fmod_bd (a := c.fdiv 64) (b := 2) (by omega)
  refine ⟨by omega, by omega, by omega, ?_⟩
  refine idx_end updSame ?_ (by omega) ?_
  · intro g
    have : pr p ∈ (T.map pr).filterMap fun v => match v with | .tup [.int a, .int b] => if Touch p (a, b) then some (pr (a, b)) else none | _ => none := by
      refine List.mem_filterMap.mpr ⟨pr p, List.mem_map_of_mem (h.sub p hpP), ?_⟩
      show (if Touch p (p.1, p.2) then some (pr p) else none) = _
      rw [if_pos (.inl rfl)]
    rw [g] at this
    cases this
  · intro v hv
    refine ob5 (List.mem_filterMap.mp hv) ?_
    intro u0 hu0 e
    refine ob5 (List.mem_map.mp hu0) ?_
    intro u hu ee181
    subst ee181
    have e' : (if Touch p u then some (pr u) else none) = some v := e
    split at e'
    · rename_i gt
      cases e'
      exact hQ _ _ hE2 (.inr ⟨u, rfl, h.ok u hu, .inr ⟨p, hpP, gt⟩⟩) same_pr
    · cases e'

theorem wrong_spec {n c : Int} {T P : List (Int × Int)} {t q z : Addr} (ht : σ t = some (.list (T.map pr))) (hq : σ q = some (.list (P.map pr))) (h1 : 1 ≤ n) (h2 : n ≤ 40) (hok : ∀ p ∈ T, TieOk n p) (hPT : ∀ p ∈ P, p ∈ T) (hTl : T.length ≤ 1600) (hz : σ z ≠ none)
    (hQ : ∀ w σ', Ext σ σ' → BadP (σ'.del z) n T P w → Same (σ'.del z) w → Q w σ') : (sem tab03 fld03 (k + 1) true).run "" "_law_wrong_by" [.int c, .int n, .ref t, .ref q] σ Q X := by
  refine run_succ (F := F_law_wrong_by) rfl ⟨rfl, ?_⟩
  simp only [F_law_wrong_by, Ss_nil, Ss_cons, S_expr, S_assign, S_setattr, S_setitem, S_ret, S_pass, S_raise, S_iff, S_whil, S_for, S_tryx, E_none, E_tt, E_ff, E_int, E_str, E_var, E_glob, E_bin, E_neg, E_not, E_cmp, E_cmp2, E_bool, E_call, E_make, E_meth, E_m0, E_m1, E_insert, E_attr, E_idx, E_slice, E_rev, E_list, E_tuple, E_dict0, E_b1, E_min2, E_max2, E_isin, E_dict1, wpE_comp, Es_nil, Es_cons, B_one, B_cons, I_r1, I_r2, I_r3, I_en, I_var, I_idx, I_attr, I_list, I_call, I_slice, itR1_int, itR2_int, itR3_int, itEn, C_none, C_some, O_none, O_some, List.map_cons, List.map_nil, List.length_cons, List.length_nil, List.cons_append, List.nil_append, List.replicate, Nat.reduceAdd, Nat.reduceSub, Loc.get, List.getElem?_cons_zero, List.getElem?_cons_succ, Option.join_some, onSome_some, tgOk, true_and, bindTg, List.set_cons_succ, List.set_cons_zero, onInt_int]
  refine ⟨sz2, sz2, sz2, sz2, ?_⟩
  intro r hr
  refine ⟨sz2, by decide, by decide, ?_⟩
  intro s hs
  have hrs : r ≠ s := by rintro rfl; rw [updSame] at hs; cases hs
  have hE1 := (Ext.rfl (σ := σ)).upd (o := .list [.int 0, .int 1]) hr
  have hE := hE1.upd (o := .list (someL n r)) (hE1.none hs)
  exact wrong_touch ⟨hE _ _ ht, hE _ _ hq, updSame, by rw [updNe hrs, updSame], h1, h2, hok, hPT, hTl, by rintro rfl; exact hz hr⟩ fun w σ' e => hQ w σ' (hE.trans e)
end
end Mine.Internal
end

section
set_option linter.unusedVariables false
set_option linter.unusedSimpArgs false
namespace Mine.Internal
open PySem
theorem alone_map {n : Nat} {P : List (Int × Int)} : ((List.range n).filterMap fun i : Nat => if (i : Int) ∈ places P then none else some (V.int (i : Int))) = (aloneL n P).map V.int := by
  unfold aloneL
  rw [List.map_filterMap]
  congr 1
  funext i
  split <;> rfl
theorem disj_perm {P S : List (Int × Int)} (h : Disj P) (p : S.Perm P) : Disj S := (p.pairwise_iff (fun {a b} g e => g e.symm)).mpr h

/-- a net, and pairs of it, told and handed -/
structure Tl (σ : Store) (n : Int) (T P : List (Int × Int)) (x d r : Addr) (rs : List Addr) (q hd : Addr) : Prop where
  net : NetAt σ x d r rs n T
  hq : σ q = some (.list (P.map pr))
  hh : σ hd = some (.list (P.map pr))
  sub : ∀ p ∈ P, p ∈ T
  dis : Disj P
section
variable {k : Nat} {σ : Store} {Q : V → Store → Prop} {X : XP} {n : Int} {T P : List (Int × Int)} {x d r : Addr} {rs : List Addr} {q hd : Addr}
theorem Tl.ext {σ' : Store} (h : Tl σ n T P x d r rs q hd) (e : Ext σ σ') : Tl σ' n T P x d r rs q hd := ⟨h.net.ext e, e _ _ h.hq, e _ _ h.hh, h.sub, h.dis⟩
theorem Tl.ok (h : Tl σ n T P x d r rs q hd) : ∀ p ∈ P, TieOk n p := fun p hp => h.net.ok p (h.sub p hp)
theorem Tl.sort (h : Tl σ n T P x d r rs q hd) {md : Bool} (hQ : ∀ b, σ b = none → Q (.ref b) (σ.upd b (.list ((toldL n.toNat (mt P.reverse)).map pr)))) : b1V md .sorted (.ref q) σ Q :=
  sortP_of h.hq h.ok h.dis (by have := h.net.lo; omega) h.net.hi hQ

theorem ok_bools {l : List V} {f : V → Option V} (h : ∀ v ∈ l, f v = some (.bool true)) {a : Addr} (ha : σ a = some (.list (l.filterMap f))) (q : Q (.bool true) σ) : b1V true .all (.ref a) σ Q := by
  obtain ⟨bs, h1, h2⟩ : ∃ bs, bools? (l.filterMap f) = some bs ∧ bs.all id = true := by
    clear ha q
    induction l with
    | nil => exact ⟨[], rfl, rfl⟩
    | cons v l ih =>
      refine ob5 (ih fun u hu => h u (List.mem_cons_of_mem _ hu)) ?_
      intro bs h1 h2
      rw [List.filterMap_cons, h v (List.mem_cons_self ..)]
      exact ⟨true :: bs, by simp [bools?, h1], by simp [h2]⟩
  simp only [b1V, true_and]
  refine onList_of ha ?_
  rw [h1]
  simp only [onSome_some, h2]
  exact q

theorem told_1 {s : Addr} {t4 t5 t6 t7 t9 t10 t11 t12 t13 t14 t15 : Option V} {N Y} (h : Tl σ n T P x d r rs q hd) (hs : σ s = some (.list ((toldL n.toNat (mt P.reverse)).map pr))) (hQ : ∀ σ', Ext σ σ' → Q (.bool true) σ') :
    wpSs (sem tab03 fld03 (k + 4)) true T_law_told_of_2 [some (.ref x), some (.int n), some (.ref q), some (.ref hd), t4, t5, t6, t7, some (.ref s), t9, t10, t11, t12, t13, t14, t15] σ N Q Y := by
  have hp := told_perm h.ok h.dis
  simp only [T_law_told_of_2, Ss_nil, Ss_cons, S_expr, S_assign, S_setattr, S_setitem, S_ret, S_pass, S_raise, S_iff, S_whil, S_for, S_tryx, E_none, E_tt, E_ff, E_int, E_str, E_var, E_glob, E_bin, E_neg, E_not, E_cmp, E_cmp2, E_bool, E_call, E_make, E_meth, E_m0, E_m1, E_insert, E_attr, E_idx, E_slice, E_rev, E_list, E_tuple, E_dict0, E_b1, E_min2, E_max2, E_isin, E_dict1, wpE_comp, Es_nil, Es_cons, B_one, B_cons, I_r1, I_r2, I_r3, I_en, I_var, I_idx, I_attr, I_list, I_call, I_slice, itR1_int, itR2_int, itR3_int, itEn, C_none, C_some, O_none, O_some, Loc.get, List.getElem?_cons_zero, List.getElem?_cons_succ, Option.join_some, onSome_some, tgOk, true_and, bindTg, List.set_cons_succ, List.set_cons_zero, onInt_int, has03, tb_checked]
  refine checked_spec (P := toldL n.toNat (mt P.reverse)) h.net hs (fun p hp' => h.sub p (hp.mem_iff.mp hp')) (disj_perm h.dis hp) ?_
  intro σ1 b hE1 hb0 hb
  refine onList_of hb ⟨sz2, append_of hb ?_ ⟨rfl, ?_⟩⟩
  · have := toldL_len (n := n.toNat) (M := mt (toldL n.toNat (mt P.reverse)).reverse)
    have := h.net.hi
    rw [List.length_map]; unfold szLim; omega
  have hbq : q ≠ b := by rintro rfl; rw [h.hq] at hb0; cases hb0
  have hbs : s ≠ b := by rintro rfl; rw [hs] at hb0; cases hb0
  have hE2 := hE1.upd (o := .list ((toldL n.toNat (mt (toldL n.toNat (mt P.reverse)).reverse)).map pr ++ [V.tup [.int 0, .int 0]])) hb0
  generalize σ1.upd b (.list ((toldL n.toNat (mt (toldL n.toNat (mt P.reverse)).reverse)).map pr ++ [V.tup [.int 0, .int 0]])) = σ2 at *
  simp only [T_law_told_of_1, Ss_nil, Ss_cons, S_expr, S_assign, S_setattr, S_setitem, S_ret, S_pass, S_raise, S_iff, S_whil, S_for, S_tryx, E_none, E_tt, E_ff, E_int, E_str, E_var, E_glob, E_bin, E_neg, E_not, E_cmp, E_cmp2, E_bool, E_call, E_make, E_meth, E_m0, E_m1, E_insert, E_attr, E_idx, E_slice, E_rev, E_list, E_tuple, E_dict0, E_b1, E_min2, E_max2, E_isin, E_dict1, wpE_comp, Es_nil, Es_cons, B_one, B_cons, I_r1, I_r2, I_r3, I_en, I_var, I_idx, I_attr, I_list, I_call, I_slice, itR1_int, itR2_int, itR3_int, itEn, C_none, C_some, O_none, O_some, Loc.get, List.getElem?_cons_zero, List.getElem?_cons_succ, Option.join_some, onSome_some, tgOk, true_and, bindTg, List.set_cons_succ, List.set_cons_zero, onInt_int]
  refine (h.ext hE2).sort fun c hc => ?_
  have hE3 := (Ext.rfl (σ := σ2)).upd (o := .list ((toldL n.toNat (mt P.reverse)).map pr)) hc
  rw [cmpV_Eq, eqv_prs (hE3 _ _ (hE2 _ _ hs)) updSame]
  exact hQ _ (hE2.trans hE3)

theorem cat_prs {s a : Addr} {S : List (Int × Int)} {z : Int × Int} {K : Bool → Store → Prop} (hs : σ s = some (.list (S.map pr))) (ha : σ a = some (.list ((S ++ [z]).map pr))) (hl : S.length ≤ 1000)
    (h : ∀ σ', Ext σ σ' → K false σ') : [pr z].length ≤ szLim ∧ alloc σ (.list [pr z]) fun v σ₁ => binV .Add (.ref s) v σ₁ fun v σ₂ => onSome (cmpV σ₂ .NotEq (.ref a) v) fun b => K b σ₂ := by
  refine ⟨by simp [szLim], ?_⟩
  intro b hb
  have hE1 := (Ext.rfl (σ := σ)).upd (o := .list [pr z]) hb
  refine binV_cat (hE1 _ _ hs) updSame (by rw [List.length_map]; simp [szLim]; omega) ?_
  intro c hc
  have hE2 := hE1.upd (o := .list (S.map pr ++ [pr z])) (hE1.none hc)
  have e : S.map pr ++ [pr z] = (S ++ [z]).map pr := by simp
  rw [cmpV_Ne, eqv_prs (hE2 _ _ ha) (by rw [updSame, e])]
  exact h _ hE2
theorem cat_ints {s a : Addr} {S : List Int} {z : Int} {K : Bool → Store → Prop} (hs : σ s = some (.list (S.map V.int))) (ha : σ a = some (.list ((S ++ [z]).map V.int))) (hl : S.length ≤ 1000)
    (h : ∀ σ', Ext σ σ' → K false σ') : [V.int z].length ≤ szLim ∧ alloc σ (.list [.int z]) fun v σ₁ => binV .Add (.ref s) v σ₁ fun v σ₂ => onSome (cmpV σ₂ .NotEq (.ref a) v) fun b => K b σ₂ := by
  refine ⟨by simp [szLim], ?_⟩
  intro b hb
  have hE1 := (Ext.rfl (σ := σ)).upd (o := .list [V.int z]) hb
  refine binV_cat (hE1 _ _ hs) updSame (by rw [List.length_map]; simp [szLim]; omega) ?_
  intro c hc
  have hE2 := hE1.upd (o := .list (S.map V.int ++ [V.int z])) (hE1.none hc)
  have e : S.map V.int ++ [V.int z] = (S ++ [z]).map V.int := by simp
  rw [cmpV_Ne, eqv_ints (hE2 _ _ ha) (by rw [updSame, e])]
  exact h _ hE2

theorem told_4 {f : Addr} {t5 t6 t7 t8 t9 t10 t11 t12 t13 t14 t15 : Option V} {N Y} (h : Tl σ n T P x d r rs q hd) (hf : σ f = some (.list ((toldL n.toNat (mt P.reverse) ++ [(0, 0)]).map pr))) (hQ : ∀ σ', Ext σ σ' → Q (.bool true) σ') :
    wpSs (sem tab03 fld03 (k + 4)) true T_law_told_of_4 [some (.ref x), some (.int n), some (.ref q), some (.ref hd), some (.ref f), t5, t6, t7, t8, t9, t10, t11, t12, t13, t14, t15] σ N Q Y := by
  simp only [T_law_told_of_4, Ss_nil, Ss_cons, S_expr, S_assign, S_setattr, S_setitem, S_ret, S_pass, S_raise, S_iff, S_whil, S_for, S_tryx, E_none, E_tt, E_ff, E_int, E_str, E_var, E_glob, E_bin, E_neg, E_not, E_cmp, E_cmp2, E_bool, E_call, E_make, E_meth, E_m0, E_m1, E_insert, E_attr, E_idx, E_slice, E_rev, E_list, E_tuple, E_dict0, E_b1, E_min2, E_max2, E_isin, E_dict1, wpE_comp, Es_nil, Es_cons, B_one, B_cons, I_r1, I_r2, I_r3, I_en, I_var, I_idx, I_attr, I_list, I_call, I_slice, itR1_int, itR2_int, itR3_int, itEn, C_none, C_some, O_none, O_some, Loc.get, List.getElem?_cons_zero, List.getElem?_cons_succ, Option.join_some, onSome_some, tgOk, true_and, bindTg, List.set_cons_succ, List.set_cons_zero, onInt_int]
  refine h.sort fun s hs => ?_
  have hE1 := (Ext.rfl (σ := σ)).upd (o := .list ((toldL n.toNat (mt P.reverse)).map pr)) hs
  have hs1 : (σ.upd s (.list ((toldL n.toNat (mt P.reverse)).map pr))) s = some (.list ((toldL n.toNat (mt P.reverse)).map pr)) := updSame
  generalize σ.upd s (.list ((toldL n.toNat (mt P.reverse)).map pr)) = σ1 at *
  simp only [T_law_told_of_3, Ss_nil, Ss_cons, S_expr, S_assign, S_setattr, S_setitem, S_ret, S_pass, S_raise, S_iff, S_whil, S_for, S_tryx, E_none, E_tt, E_ff, E_int, E_str, E_var, E_glob, E_bin, E_neg, E_not, E_cmp, E_cmp2, E_bool, E_call, E_make, E_meth, E_m0, E_m1, E_insert, E_attr, E_idx, E_slice, E_rev, E_list, E_tuple, E_dict0, E_b1, E_min2, E_max2, E_isin, E_dict1, wpE_comp, Es_nil, Es_cons, B_one, B_cons, I_r1, I_r2, I_r3, I_en, I_var, I_idx, I_attr, I_list, I_call, I_slice, itR1_int, itR2_int, itR3_int, itEn, C_none, C_some, O_none, O_some, Loc.get, List.getElem?_cons_zero, List.getElem?_cons_succ, Option.join_some, onSome_some, tgOk, true_and, bindTg, List.set_cons_succ, List.set_cons_zero, onInt_int, has03, tb_checked]
  refine checked_spec (h.ext hE1).net (h.ext hE1).hh h.sub h.dis ?_
  intro σ2 b hE2 hb0 hb
  rw [cmpV_Ne, eqv_prs hb (hE2 _ _ hs1)]
  have hE := hE1.trans hE2
  have hl := toldL_len (n := n.toNat) (M := mt P.reverse)
  have hhi := h.net.hi
  refine ⟨sz2, cat_prs (z := (0, 0)) (hE2 _ _ hs1) (hE _ _ hf) (by omega) fun σ3 hE3 => ?_⟩
  exact told_1 (h.ext (hE.trans hE3)) (hE3 _ _ (hE2 _ _ hs1)) fun σ' e => hQ σ' ((hE.trans hE3).trans e)

theorem told_5 {f a u : Addr} {t6 t8 t9 t10 t11 t12 t13 t14 t15 : Option V} {N Y} (h : Tl σ n T P x d r rs q hd) (hf : σ f = some (.list ((toldL n.toNat (mt P.reverse) ++ [(0, 0)]).map pr)))
    (ha : σ a = some (.list ((aloneL n.toNat P ++ [0]).map V.int))) (hu : σ u = some (.list ((aloneL n.toNat P).map V.int))) (hQ : ∀ σ', Ext σ σ' → Q (.bool true) σ') :
    wpSs (sem tab03 fld03 (k + 4)) true T_law_told_of_5 [some (.ref x), some (.int n), some (.ref q), some (.ref hd), some (.ref f), some (.ref a), t6, some (.ref u), t8, t9, t10, t11, t12, t13, t14, t15] σ N Q Y := by
  simp only [T_law_told_of_5, Ss_nil, Ss_cons, S_expr, S_assign, S_setattr, S_setitem, S_ret, S_pass, S_raise, S_iff, S_whil, S_for, S_tryx, E_none, E_tt, E_ff, E_int, E_str, E_var, E_glob, E_bin, E_neg, E_not, E_cmp, E_cmp2, E_bool, E_call, E_make, E_meth, E_m0, E_m1, E_insert, E_attr, E_idx, E_slice, E_rev, E_list, E_tuple, E_dict0, E_b1, E_min2, E_max2, E_isin, E_dict1, wpE_comp, Es_nil, Es_cons, B_one, B_cons, I_r1, I_r2, I_r3, I_en, I_var, I_idx, I_attr, I_list, I_call, I_slice, itR1_int, itR2_int, itR3_int, itEn, C_none, C_some, O_none, O_some, Loc.get, List.getElem?_cons_zero, List.getElem?_cons_succ, Option.join_some, onSome_some, tgOk, true_and, bindTg, List.set_cons_succ, List.set_cons_zero, onInt_int, has03, tb_alone]
  rw [cmpV_Ne, eqv_prs h.hh h.hq]
  refine alone_spec h.net h.hh h.sub h.dis ?_
  intro σ1 b hE1 hb0 hb
  rw [cmpV_Ne, eqv_ints hb (hE1 _ _ hu)]
  have hl := aloneL_len (n := n.toNat) (P := P)
  have hhi := h.net.hi
  refine cat_ints (z := 0) (hE1 _ _ hu) (hE1 _ _ ha) (by omega) fun σ2 hE2 => ?_
  have hE := hE1.trans hE2
  exact told_4 (h.ext hE) (hE _ _ hf) fun σ' e => hQ σ' (hE.trans e)

theorem told_8 {σ0 : Store} {f a u : Addr} {t6 t8 t9 t10 t11 t12 t13 t14 t15 : Option V} {N Y} (h : Tl σ0 n T P x d r rs q hd) (hE : Ext σ0 σ) (hf0 : σ0 f = none) (ha0 : σ0 a = none) (hu0 : σ0 u = none) (hfa : f ≠ a) (hfu : f ≠ u) (hau : a ≠ u)
    (hf : σ f = some (.list ((toldL n.toNat (mt P.reverse)).map pr))) (ha : σ a = some (.list ((aloneL n.toNat P).map V.int))) (hu : σ u = some (.list ((aloneL n.toNat P).map V.int))) (hQ : ∀ σ', Ext σ0 σ' → Q (.bool true) σ') :
    wpSs (sem tab03 fld03 (k + 4)) true T_law_told_of_8 [some (.ref x), some (.int n), some (.ref q), some (.ref hd), some (.ref f), some (.ref a), t6, some (.ref u), t8, t9, t10, t11, t12, t13, t14, t15] σ N Q Y := by
  simp only [T_law_told_of_8, Ss_nil, Ss_cons, S_expr, S_assign, S_setattr, S_setitem, S_ret, S_pass, S_raise, S_iff, S_whil, S_for, S_tryx, E_none, E_tt, E_ff, E_int, E_str, E_var, E_glob, E_bin, E_neg, E_not, E_cmp, E_cmp2, E_bool, E_call, E_make, E_meth, E_m0, E_m1, E_insert, E_attr, E_idx, E_slice, E_rev, E_list, E_tuple, E_dict0, E_b1, E_min2, E_max2, E_isin, E_dict1, wpE_comp, Es_nil, Es_cons, B_one, B_cons, I_r1, I_r2, I_r3, I_en, I_var, I_idx, I_attr, I_list, I_call, I_slice, itR1_int, itR2_int, itR3_int, itEn, C_none, C_some, O_none, O_some, Loc.get, List.getElem?_cons_zero, List.getElem?_cons_succ, Option.join_some, onSome_some, tgOk, true_and, bindTg, List.set_cons_succ, List.set_cons_zero, onInt_int]
  rw [cmpV_Ne, eqv_ints ha hu]
  have hl := aloneL_len (n := n.toNat) (P := P)
  have hl2 := toldL_len (n := n.toNat) (M := mt P.reverse)
  have hhi := h.net.hi
  simp only [Option.map_some, Bool.not_true, onSome_some, truthy_bool, Bool.false_eq_true, if_false]
  simp only [T_law_told_of_7, Ss_nil, Ss_cons, S_expr, S_assign, S_setattr, S_setitem, S_ret, S_pass, S_raise, S_iff, S_whil, S_for, S_tryx, E_none, E_tt, E_ff, E_int, E_str, E_var, E_glob, E_bin, E_neg, E_not, E_cmp, E_cmp2, E_bool, E_call, E_make, E_meth, E_m0, E_m1, E_insert, E_attr, E_idx, E_slice, E_rev, E_list, E_tuple, E_dict0, E_b1, E_min2, E_max2, E_isin, E_dict1, wpE_comp, Es_nil, Es_cons, B_one, B_cons, I_r1, I_r2, I_r3, I_en, I_var, I_idx, I_attr, I_list, I_call, I_slice, itR1_int, itR2_int, itR3_int, itEn, C_none, C_some, O_none, O_some, Loc.get, List.getElem?_cons_zero, List.getElem?_cons_succ, Option.join_some, onSome_some, tgOk, true_and, bindTg, List.set_cons_succ, List.set_cons_zero, onInt_int]
  refine onList_of hf ⟨sz2, append_of hf (by rw [List.length_map]; unfold szLim; omega) ⟨rfl, ?_⟩⟩
  simp only [T_law_told_of_6, Ss_nil, Ss_cons, S_expr, S_assign, S_setattr, S_setitem, S_ret, S_pass, S_raise, S_iff, S_whil, S_for, S_tryx, E_none, E_tt, E_ff, E_int, E_str, E_var, E_glob, E_bin, E_neg, E_not, E_cmp, E_cmp2, E_bool, E_call, E_make, E_meth, E_m0, E_m1, E_insert, E_attr, E_idx, E_slice, E_rev, E_list, E_tuple, E_dict0, E_b1, E_min2, E_max2, E_isin, E_dict1, wpE_comp, Es_nil, Es_cons, B_one, B_cons, I_r1, I_r2, I_r3, I_en, I_var, I_idx, I_attr, I_list, I_call, I_slice, itR1_int, itR2_int, itR3_int, itEn, C_none, C_some, O_none, O_some, Loc.get, List.getElem?_cons_zero, List.getElem?_cons_succ, Option.join_some, onSome_some, tgOk, true_and, bindTg, List.set_cons_succ, List.set_cons_zero, onInt_int]
  have ha1 : (σ.upd f (.list ((toldL n.toNat (mt P.reverse)).map pr ++ [V.tup [.int 0, .int 0]]))) a = some (.list ((aloneL n.toNat P).map V.int)) := by rw [updNe hfa.symm]; exact ha
  refine onList_of ha1 (append_of ha1 (by rw [List.length_map]; unfold szLim; omega) ⟨rfl, ?_⟩)
  have hE' := (hE.upd (o := .list ((toldL n.toNat (mt P.reverse)).map pr ++ [V.tup [.int 0, .int 0]])) hf0).upd (o := .list ((aloneL n.toNat P).map V.int ++ [.int 0])) ha0
  refine told_5 (h.ext hE') ?_ ?_ ?_ fun σ' e => hQ σ' (hE'.trans e)
  · rw [updNe hfa, updSame, List.map_append]; rfl
  · rw [updSame, List.map_append]; rfl
  · rw [updNe hau.symm, updNe hfu.symm]; exact hu

/-- the places in pairs, and the others -/
theorem told_10 {σ0 : Store} {f a : Addr} {t6 t7 t8 t9 t10 t11 t12 t13 t14 t15 : Option V} {N Y} (h : Tl σ0 n T P x d r rs q hd) (hE : Ext σ0 σ) (hf0 : σ0 f = none) (ha0 : σ0 a = none) (hfa : f ≠ a)
    (hf : σ f = some (.list ((toldL n.toNat (mt P.reverse)).map pr))) (ha : σ a = some (.list ((aloneL n.toNat P).map V.int))) (hQ : ∀ σ', Ext σ0 σ' → Q (.bool true) σ') :
    wpSs (sem tab03 fld03 (k + 4)) true T_law_told_of_10 [some (.ref x), some (.int n), some (.ref q), some (.ref hd), some (.ref f), some (.ref a), t6, t7, t8, t9, t10, t11, t12, t13, t14, t15] σ N Q Y := by
  have hlo := h.net.lo
  have hhi := h.net.hi
  have hPl := disj_len h.ok h.dis (by omega) hhi
  simp only [T_law_told_of_10, Ss_nil, Ss_cons, S_expr, S_assign, S_setattr, S_setitem, S_ret, S_pass, S_raise, S_iff, S_whil, S_for, S_tryx, E_none, E_tt, E_ff, E_int, E_str, E_var, E_glob, E_bin, E_neg, E_not, E_cmp, E_cmp2, E_bool, E_call, E_make, E_meth, E_m0, E_m1, E_insert, E_attr, E_idx, E_slice, E_rev, E_list, E_tuple, E_dict0, E_b1, E_min2, E_max2, E_isin, E_dict1, wpE_comp, Es_nil, Es_cons, B_one, B_cons, I_r1, I_r2, I_r3, I_en, I_var, I_idx, I_attr, I_list, I_call, I_slice, itR1_int, itR2_int, itR3_int, itEn, C_none, C_some, O_none, O_some, Loc.get, List.getElem?_cons_zero, List.getElem?_cons_succ, Option.join_some, onSome_some, tgOk, true_and, bindTg, List.set_cons_succ, List.set_cons_zero, onInt_int, iterV]
  refine onList_of (hE _ _ h.hq) ?_
  refine comp_pure (fun v => match v with | .tup [.int i, .int j] => some (.int i) | _ => none) (hE _ _ h.hq) (by rw [List.length_map]; unfold szLim; omega) ?_ ?_
  · intro v hv K hK
    refine ob5 (List.mem_map.mp hv) ?_
    intro p hp ee182
    subst ee182
    exact hK
  intro b hb
  have e1 : (P.map pr).filterMap (fun v => match v with | .tup [.int i, .int j] => some (V.int i) | _ => none) = (P.map (·.1)).map V.int := by
    rw [List.filterMap_map, List.map_map]
    exact congrFun List.filterMap_eq_map P
  rw [e1]
  have hE1' := (Ext.rfl (σ := σ)).upd (o := .list ((P.map (·.1)).map V.int)) hb
  have hb1 : (σ.upd b (.list ((P.map (·.1)).map V.int))) b = some (.list ((P.map (·.1)).map V.int)) := updSame
  generalize σ.upd b (.list ((P.map (·.1)).map V.int)) = σ1 at *
  have hE1 := hE.trans hE1'
  refine onList_of (hE1 _ _ h.hq) ?_
  refine comp_pure (fun v => match v with | .tup [.int i, .int j] => some (.int j) | _ => none) (hE1 _ _ h.hq) (by rw [List.length_map]; unfold szLim; omega) ?_ ?_
  · intro v hv K hK
    refine ob5 (List.mem_map.mp hv) ?_
    intro p hp ee183
    subst ee183
    exact hK
  intro c hc
  have e2 : (P.map pr).filterMap (fun v => match v with | .tup [.int i, .int j] => some (V.int j) | _ => none) = (P.map (·.2)).map V.int := by
    rw [List.filterMap_map, List.map_map]
    exact congrFun List.filterMap_eq_map P
  rw [e2]
  have hE2' := (Ext.rfl (σ := σ1)).upd (o := .list ((P.map (·.2)).map V.int)) hc
  have hc1 : (σ1.upd c (.list ((P.map (·.2)).map V.int))) c = some (.list ((P.map (·.2)).map V.int)) := updSame
  generalize σ1.upd c (.list ((P.map (·.2)).map V.int)) = σ2 at *
  refine binV_cat (hE2' _ _ hb1) hc1 (by simp [szLim]; omega) ?_
  intro e he
  have hE3' := (Ext.rfl (σ := σ2)).upd (o := .list ((P.map (·.1)).map V.int ++ (P.map (·.2)).map V.int)) he
  have he1 : (σ2.upd e (.list ((P.map (·.1)).map V.int ++ (P.map (·.2)).map V.int))) e = some (.list ((places P).map V.int)) := by rw [updSame]; unfold places; rw [List.map_append]
  generalize σ2.upd e (.list ((P.map (·.1)).map V.int ++ (P.map (·.2)).map V.int)) = σ3 at *
  have hE3'' := hE1'.trans (hE2'.trans hE3')
  have hE3 := hE.trans hE3''
  simp only [T_law_told_of_9, Ss_nil, Ss_cons, S_expr, S_assign, S_setattr, S_setitem, S_ret, S_pass, S_raise, S_iff, S_whil, S_for, S_tryx, E_none, E_tt, E_ff, E_int, E_str, E_var, E_glob, E_bin, E_neg, E_not, E_cmp, E_cmp2, E_bool, E_call, E_make, E_meth, E_m0, E_m1, E_insert, E_attr, E_idx, E_slice, E_rev, E_list, E_tuple, E_dict0, E_b1, E_min2, E_max2, E_isin, E_dict1, wpE_comp, Es_nil, Es_cons, B_one, B_cons, I_r1, I_r2, I_r3, I_en, I_var, I_idx, I_attr, I_list, I_call, I_slice, itR1_int, itR2_int, itR3_int, itEn, C_none, C_some, O_none, O_some, Loc.get, List.getElem?_cons_zero, List.getElem?_cons_succ, Option.join_some, onSome_some, tgOk, true_and, bindTg, List.set_cons_succ, List.set_cons_zero, onInt_int]
  refine ⟨by omega, ?_⟩
  refine comp_range (fun i => if i ∈ places P then none else some (.int i)) trivial (by omega) ?_ ?_
  · intro i i0 i1 K hK
    rw [cmpV_NotIn, in_list he1]
    by_cases g : i ∈ places P
    · rw [if_pos g] at hK
      simp only [g, decide_true, Option.map_some, Bool.not_true, onSome_some, truthy_bool, Bool.false_eq_true, if_false]
      exact hK
    · rw [if_neg g] at hK
      simp only [g, decide_false, Option.map_some, Bool.not_false, onSome_some, truthy_bool, if_true]
      exact hK
  intro u hu
  rw [alone_map]
  have hu3 := hE3.none hu
  have hE4' := (Ext.rfl (σ := σ3)).upd (o := .list ((aloneL n.toNat P).map V.int)) hu
  have hE4 := hE3.trans hE4'
  refine told_8 h hE4 hf0 ha0 hu3 hfa ?_ ?_ (hE4' _ _ (hE3'' _ _ hf)) (hE4' _ _ (hE3'' _ _ ha)) updSame hQ
  · rintro rfl; rw [hE3'' _ _ hf] at hu; cases hu
  · rintro rfl; rw [hE3'' _ _ ha] at hu; cases hu

theorem isl {a : Addr} {vs : List V} (h : σ a = some (.list vs)) : isInst σ (.ref a) .list = some true := by
  have : kindV σ (.ref a) = some .list := by simp only [kindV, h]
  show (kindV σ (.ref a)).bind _ = _
  rw [this]; rfl

theorem told_of_spec (h : Tl σ n T P x d r rs q hd) (hQ : ∀ σ', Ext σ σ' → Q (.bool true) σ') : (sem tab03 fld03 (k + 5) true).run "" "_law_told_of" [.ref x, .int n, .ref q, .ref hd] σ Q X := by
  have hlo := h.net.lo
  have hhi := h.net.hi
  have hl := aloneL_len (n := n.toNat) (P := P)
  have hl2 := toldL_len (n := n.toNat) (M := mt P.reverse)
  refine run_succ (F := F_law_told_of) rfl ⟨rfl, ?_⟩
  simp only [F_law_told_of, Ss_nil, Ss_cons, S_expr, S_assign, S_setattr, S_setitem, S_ret, S_pass, S_raise, S_iff, S_whil, S_for, S_tryx, E_none, E_tt, E_ff, E_int, E_str, E_var, E_glob, E_bin, E_neg, E_not, E_cmp, E_cmp2, E_bool, E_call, E_make, E_meth, E_m0, E_m1, E_insert, E_attr, E_idx, E_slice, E_rev, E_list, E_tuple, E_dict0, E_b1, E_min2, E_max2, E_isin, E_dict1, wpE_comp, Es_nil, Es_cons, B_one, B_cons, I_r1, I_r2, I_r3, I_en, I_var, I_idx, I_attr, I_list, I_call, I_slice, itR1_int, itR2_int, itR3_int, itEn, C_none, C_some, O_none, O_some, List.map_cons, List.map_nil, List.length_cons, List.length_nil, List.cons_append, List.nil_append, List.replicate, Nat.reduceAdd, Nat.reduceSub, Loc.get, List.getElem?_cons_zero, List.getElem?_cons_succ, Option.join_some, onSome_some, tgOk, true_and, bindTg, List.set_cons_succ, List.set_cons_zero, onInt_int, has03, tb_checked]
  refine checked_spec h.net h.hh h.sub h.dis ?_
  intro σ1 f hE1 hf0 hf
  simp only [T_law_told_of_14, Ss_nil, Ss_cons, S_expr, S_assign, S_setattr, S_setitem, S_ret, S_pass, S_raise, S_iff, S_whil, S_for, S_tryx, E_none, E_tt, E_ff, E_int, E_str, E_var, E_glob, E_bin, E_neg, E_not, E_cmp, E_cmp2, E_bool, E_call, E_make, E_meth, E_m0, E_m1, E_insert, E_attr, E_idx, E_slice, E_rev, E_list, E_tuple, E_dict0, E_b1, E_min2, E_max2, E_isin, E_dict1, wpE_comp, Es_nil, Es_cons, B_one, B_cons, I_r1, I_r2, I_r3, I_en, I_var, I_idx, I_attr, I_list, I_call, I_slice, itR1_int, itR2_int, itR3_int, itEn, C_none, C_some, O_none, O_some, Loc.get, List.getElem?_cons_zero, List.getElem?_cons_succ, Option.join_some, onSome_some, tgOk, true_and, bindTg, List.set_cons_succ, List.set_cons_zero, onInt_int, has03, tb_alone]
  refine alone_spec (h.ext hE1).net (h.ext hE1).hh h.sub h.dis ?_
  intro σ2 a hE2 ha0 ha
  have hfa : f ≠ a := by rintro rfl; rw [hf] at ha0; cases ha0
  have ha0' := hE1.none ha0
  have hf2 := hE2 _ _ hf
  have hE := hE1.trans hE2
  simp only [T_law_told_of_13, Ss_nil, Ss_cons, S_expr, S_assign, S_setattr, S_setitem, S_ret, S_pass, S_raise, S_iff, S_whil, S_for, S_tryx, E_none, E_tt, E_ff, E_int, E_str, E_var, E_glob, E_bin, E_neg, E_not, E_cmp, E_cmp2, E_bool, E_call, E_make, E_meth, E_m0, E_m1, E_insert, E_attr, E_idx, E_slice, E_rev, E_list, E_tuple, E_dict0, E_b1, E_min2, E_max2, E_isin, E_dict1, wpE_comp, Es_nil, Es_cons, B_one, B_cons, I_r1, I_r2, I_r3, I_en, I_var, I_idx, I_attr, I_list, I_call, I_slice, itR1_int, itR2_int, itR3_int, itEn, C_none, C_some, O_none, O_some, Loc.get, List.getElem?_cons_zero, List.getElem?_cons_succ, Option.join_some, onSome_some, tgOk, true_and, bindTg, List.set_cons_succ, List.set_cons_zero, onInt_int, isl hf2, truthy_bool, Bool.not_true, if_true, iterV]
  refine onList_of hf2 ?_
  refine comp_pure (fun _ => some (.bool true)) hf2 (by rw [List.length_map]; unfold szLim; omega) ?_ ?_
  · intro v hv K hK
    refine ob5 (List.mem_map.mp hv) ?_
    intro p hp ee184
    subst ee184
    exact hK
  intro b hb
  refine ok_bools (fun _ _ => rfl) updSame ?_
  have hE3' := (Ext.rfl (σ := σ2)).upd (o := .list (((toldL n.toNat (mt P.reverse)).map pr).filterMap fun _ => some (.bool true))) hb
  generalize σ2.upd b (.list (((toldL n.toNat (mt P.reverse)).map pr).filterMap fun _ => some (.bool true))) = σ3 at *
  simp only [truthy_bool, onSome_some, Bool.not_true, Bool.false_eq_true, if_false]
  simp only [T_law_told_of_12, Ss_nil, Ss_cons, S_expr, S_assign, S_setattr, S_setitem, S_ret, S_pass, S_raise, S_iff, S_whil, S_for, S_tryx, E_none, E_tt, E_ff, E_int, E_str, E_var, E_glob, E_bin, E_neg, E_not, E_cmp, E_cmp2, E_bool, E_call, E_make, E_meth, E_m0, E_m1, E_insert, E_attr, E_idx, E_slice, E_rev, E_list, E_tuple, E_dict0, E_b1, E_min2, E_max2, E_isin, E_dict1, wpE_comp, Es_nil, Es_cons, B_one, B_cons, I_r1, I_r2, I_r3, I_en, I_var, I_idx, I_attr, I_list, I_call, I_slice, itR1_int, itR2_int, itR3_int, itEn, C_none, C_some, O_none, O_some, Loc.get, List.getElem?_cons_zero, List.getElem?_cons_succ, Option.join_some, onSome_some, tgOk, true_and, bindTg, List.set_cons_succ, List.set_cons_zero, onInt_int]
  have hE3 := hE.trans hE3'
  refine (h.ext hE3).sort fun c hc => ?_
  have hE4' := (Ext.rfl (σ := σ3)).upd (o := .list ((toldL n.toNat (mt P.reverse)).map pr)) hc
  have hE4 := hE3.trans hE4'
  have hE24 := hE3'.trans hE4'
  rw [cmpV_Ne, eqv_prs (hE24 _ _ hf2) updSame]
  generalize σ3.upd c (.list ((toldL n.toNat (mt P.reverse)).map pr)) = σ4 at *
  simp only [Option.map_some, Bool.not_true, onSome_some, truthy_bool, if_true]
  rw [cmpV_Ne, eqv_prs (h.ext hE4).hh (h.ext hE4).hq]
  simp only [Option.map_some, Bool.not_true, onSome_some, truthy_bool, if_true, isl (hE24 _ _ ha), Bool.false_eq_true, if_false]
  simp only [T_law_told_of_11, Ss_nil, Ss_cons, S_expr, S_assign, S_setattr, S_setitem, S_ret, S_pass, S_raise, S_iff, S_whil, S_for, S_tryx, E_none, E_tt, E_ff, E_int, E_str, E_var, E_glob, E_bin, E_neg, E_not, E_cmp, E_cmp2, E_bool, E_call, E_make, E_meth, E_m0, E_m1, E_insert, E_attr, E_idx, E_slice, E_rev, E_list, E_tuple, E_dict0, E_b1, E_min2, E_max2, E_isin, E_dict1, wpE_comp, Es_nil, Es_cons, B_one, B_cons, I_r1, I_r2, I_r3, I_en, I_var, I_idx, I_attr, I_list, I_call, I_slice, itR1_int, itR2_int, itR3_int, itEn, C_none, C_some, O_none, O_some, Loc.get, List.getElem?_cons_zero, List.getElem?_cons_succ, Option.join_some, onSome_some, tgOk, true_and, bindTg, List.set_cons_succ, List.set_cons_zero, onInt_int, iterV, has03, tb_whole]
  have ha4 := hE24 _ _ ha
  refine onList_of ha4 ?_
  refine comp_pure (fun _ => some (.bool true)) ha4 (by rw [List.length_map]; unfold szLim; omega) ?_ ?_
  · intro v hv K hK
    refine ob5 (List.mem_map.mp hv) ?_
    intro p hp ee185
    subst ee185
    exact whole_spec rfl hK
  intro e he
  refine ok_bools (fun _ _ => rfl) updSame ?_
  have hE5' := (Ext.rfl (σ := σ4)).upd (o := .list (((aloneL n.toNat P).map V.int).filterMap fun _ => some (.bool true))) he
  simp only [truthy_bool, onSome_some, Bool.not_true, Bool.false_eq_true, if_false]
  exact told_10 h (hE4.trans hE5') hf0 ha0' hfa (hE5' _ _ (hE24 _ _ hf2)) (hE5' _ _ ha4) hQ
end
end Mine.Internal
end

section
set_option linter.unusedVariables false
set_option linter.unusedSimpArgs false
namespace Mine.Internal
open PySem
theorem BadP.ext {σ σ' : Store} {n : Int} {T P : List (Int × Int)} {b : V} (h : BadP σ n T P b) (e : Ext σ σ') : BadP σ' n T P b := by
  rcases h with ⟨h1, h2⟩ | h1
  · exact .inl ⟨h1, fun σ'' g => h2 σ'' (e.trans g)⟩
  · exact .inr h1
section
variable {k : Nat} {σ : Store} {Q : V → Store → Prop} {X : XP} {n : Int} {T P : List (Int × Int)} {x d r : Addr} {rs : List Addr} {q hd t l : Addr} {ns : List Int}
theorem tb_net_by : (tab03 "" "_law_net_by").isSome = true := rfl
theorem tb_pairing : (tab03 "" "_law_pairing_by").isSome = true := rfl
theorem tb_wrong : (tab03 "" "_law_wrong_by").isSome = true := rfl
theorem tb_told_of : (tab03 "" "_law_told_of").isSome = true := rfl
theorem clear_of {a : Addr} {vs : List V} (h : σ a = some (.list vs)) (q : Q .none (σ.upd a (.list []))) : m0V .clear (.ref a) σ Q := by
  simp only [m0V]; exact onList_of h q
theorem extend_of {a b : Addr} {vs ws : List V} (h : σ a = some (.list vs)) (g : σ b = some (.list ws)) (hab : a ≠ b) (hl : vs.length + ws.length ≤ szLim) (q : Q .none (σ.upd a (.list (vs ++ ws)))) : m1V .extend (.ref a) (.ref b) σ Q := by
  simp only [m1V]; exact onList_of h (onList_of g ⟨⟨hab, hl⟩, q⟩)
theorem insert_of {a : Addr} {vs : List V} {i : Int} {x : V} (h : σ a = some (.list vs)) (h0 : 0 ≤ i) (h1 : i ≤ vs.length) (hl : vs.length < szLim) (q : Q .none (σ.upd a (.list (vs.take i.toNat ++ x :: vs.drop i.toNat)))) : insertV (.ref a) (.int i) x σ Q := by
  simp only [insertV]; exact onList_of h ⟨⟨h0, h1, hl⟩, q⟩

/-- no list at all -/
theorem law3_1 {t1 t2 t5 t6 t7 t8 : Option V} {N Y} (hq : σ q = some (.list (P.map pr))) (hl : σ l = some (.fixed (ns.map V.int))) (hPl : P.length ≤ 40) (hQ : ∀ σ', Q (.bool true) σ') :
    wpSs (sem tab03 fld03 (k + 6)) true T_law_1 [some (.ref l), t1, t2, some (.ref x), some (.ref q), t5, t6, t7, t8] σ N Q Y := by
  simp only [T_law_1, Ss_nil, Ss_cons, S_expr, S_assign, S_setattr, S_setitem, S_ret, S_pass, S_raise, S_iff, S_whil, S_for, S_tryx, E_none, E_tt, E_ff, E_int, E_str, E_var, E_glob, E_bin, E_neg, E_not, E_cmp, E_cmp2, E_bool, E_call, E_make, E_meth, E_m0, E_m1, E_insert, E_attr, E_idx, E_slice, E_rev, E_list, E_tuple, E_dict0, E_b1, E_min2, E_max2, E_isin, E_dict1, wpE_comp, Es_nil, Es_cons, B_one, B_cons, I_r1, I_r2, I_r3, I_en, I_var, I_idx, I_attr, I_list, I_call, I_slice, itR1_int, itR2_int, itR3_int, itEn, C_none, C_some, O_none, O_some, Loc.get, List.getElem?_cons_zero, List.getElem?_cons_succ, Option.join_some, onSome_some, tgOk, true_and, bindTg, List.set_cons_succ, List.set_cons_zero, onInt_int, has03, tb_refused, tb_cell, b1V]
  refine onList_of hq ⟨by rw [List.length_map]; unfold szLim; omega, ?_⟩
  intro g hg
  have hE1 := (Ext.rfl (σ := σ)).upd (o := .dict []) hg
  have hg1 : (σ.upd g (.dict [])) g = some (.dict []) := updSame
  generalize σ.upd g (.dict []) = σ1 at *
  refine ⟨by simp [szLim], ?_⟩
  intro m hm
  have hE2' := (Ext.rfl (σ := σ1)).upd (o := .list [.tup (P.map pr), .none, .int 5, .str (Str.ofString ""), .ref g]) hm
  have hm1 : (σ1.upd m (.list [.tup (P.map pr), .none, .int 5, .str (Str.ofString ""), .ref g])) m = some (.list [.tup (P.map pr), .none, .int 5, .str (Str.ofString ""), .ref g]) := updSame
  generalize σ1.upd m (.list [.tup (P.map pr), .none, .int 5, .str (Str.ofString ""), .ref g]) = σ2 at *
  refine cell_any (ns := ns) (hE2' _ _ (hE1 _ _ hl)) (by omega) fun c => ?_
  simp only [binV_div, binV_mod]
  refine ⟨by omega, by omega, ?_⟩
  have hb := fmod_bd (a := c.fdiv 2) (b := 5) (by omega)
  refine ob5 (mem_of_idx (vs := [V.tup (P.map pr), .none, .int 5, .str (Str.ofString ""), .ref g]) hb.1 hb.2) ?_
  intro v hv hvm
  refine idx_of hm1 hb.1 hv ?_
  have hk : ∃ kd, kd ≠ Kd.list ∧ ∀ σ', Ext σ2 σ' → kindV σ' v = some kd := by
    simp only [List.mem_cons, List.not_mem_nil, or_false] at hvm
    rcases hvm with rfl | rfl | rfl | rfl | rfl
    · exact ⟨.tuple, by decide, fun _ _ => rfl⟩
    · exact ⟨.none, by decide, fun _ _ => rfl⟩
    · exact ⟨.int, by decide, fun _ _ => rfl⟩
    · exact ⟨.str, by decide, fun _ _ => rfl⟩
    · exact ⟨.dict, by decide, fun σ' e => by simp only [kindV, e _ _ (hE2' _ _ hg1)]⟩
  refine ob5 hk ?_
  clear hk
  intro kd hk1 hk2
  exact refused_spec (rej_kind hk2 hk1) fun σ' _ => hQ σ'

/-- a wrong thing is put among the pairs -/
theorem law3_3 {w : V} {t1 t2 t7 t8 : Option V} {N Y} (h : NetAt (σ.del hd) x d r rs n T) (hq : σ q = some (.list (P.map pr))) (hqh : q ≠ hd) (hh : σ hd = some (.list (P.map pr))) (hl : σ l = some (.fixed (ns.map V.int))) (hlh : l ≠ hd)
    (hs : ∀ p ∈ P, p ∈ T) (hd' : Disj P) (hPl : P.length ≤ 40) (hw : BadP (σ.del hd) n T P w) (hw' : Same (σ.del hd) w) (hQ : ∀ σ', Q (.bool true) σ') :
    wpSs (sem tab03 fld03 (k + 6)) true T_law_3 [some (.ref l), t1, t2, some (.ref x), some (.ref q), some (.ref hd), some w, t7, t8] σ N Q Y := by
  simp only [T_law_3, Ss_nil, Ss_cons, S_expr, S_assign, S_setattr, S_setitem, S_ret, S_pass, S_raise, S_iff, S_whil, S_for, S_tryx, E_none, E_tt, E_ff, E_int, E_str, E_var, E_glob, E_bin, E_neg, E_not, E_cmp, E_cmp2, E_bool, E_call, E_make, E_meth, E_m0, E_m1, E_insert, E_attr, E_idx, E_slice, E_rev, E_list, E_tuple, E_dict0, E_b1, E_min2, E_max2, E_isin, E_dict1, wpE_comp, Es_nil, Es_cons, B_one, B_cons, I_r1, I_r2, I_r3, I_en, I_var, I_idx, I_attr, I_list, I_call, I_slice, itR1_int, itR2_int, itR3_int, itEn, C_none, C_some, O_none, O_some, Loc.get, List.getElem?_cons_zero, List.getElem?_cons_succ, Option.join_some, onSome_some, tgOk, true_and, bindTg, List.set_cons_succ, List.set_cons_zero, onInt_int, has03, tb_cell, b1V]
  refine onList_of hh (cell_any (ns := ns) hl (by omega) fun c => ?_)
  simp only [binV_div, onSeq, hq, binV_add, binV_mod, List.length_map]
  refine ⟨by omega, by omega, ?_⟩
  have hb := fmod_bd (a := c.fdiv 512) (b := (P.length : Int) + 1) (by omega)
  generalize (c.fdiv 512).fmod ((P.length : Int) + 1) = i at *
  refine insert_of hh hb.1 (by rw [List.length_map]; omega) (by rw [List.length_map]; unfold szLim; omega) ⟨rfl, ?_⟩
  have hE1 : Ext (σ.del hd) (σ.upd hd (.list ((P.map pr).take i.toNat ++ w :: (P.map pr).drop i.toNat))) := del_ext.upd del_same
  have hh1 : (σ.upd hd (.list ((P.map pr).take i.toNat ++ w :: (P.map pr).drop i.toNat))) hd = some (.list ((P.map pr).take i.toNat ++ w :: (P.map pr).drop i.toNat)) := updSame
  generalize σ.upd hd (.list ((P.map pr).take i.toNat ++ w :: (P.map pr).drop i.toNat)) = σ1 at *
  have hlen : ((P.map pr).take i.toNat ++ w :: (P.map pr).drop i.toNat).length ≤ 41 := by
    simp only [List.length_append, List.length_cons, List.length_take, List.length_drop, List.length_map]; omega
  simp only [T_law_2, Ss_nil, Ss_cons, S_expr, S_assign, S_setattr, S_setitem, S_ret, S_pass, S_raise, S_iff, S_whil, S_for, S_tryx, E_none, E_tt, E_ff, E_int, E_str, E_var, E_glob, E_bin, E_neg, E_not, E_cmp, E_cmp2, E_bool, E_call, E_make, E_meth, E_m0, E_m1, E_insert, E_attr, E_idx, E_slice, E_rev, E_list, E_tuple, E_dict0, E_b1, E_min2, E_max2, E_isin, E_dict1, wpE_comp, Es_nil, Es_cons, B_one, B_cons, I_r1, I_r2, I_r3, I_en, I_var, I_idx, I_attr, I_list, I_call, I_slice, itR1_int, itR2_int, itR3_int, itEn, C_none, C_some, O_none, O_some, Loc.get, List.getElem?_cons_zero, List.getElem?_cons_succ, Option.join_some, onSome_some, tgOk, true_and, bindTg, List.set_cons_succ, List.set_cons_zero, onInt_int, has03, tb_refused, b1V]
  refine onList_of hh1 ⟨by unfold szLim; omega, ?_⟩
  intro m hm
  have hE2' := (Ext.rfl (σ := σ1)).upd (o := .list ((P.map pr).take i.toNat ++ w :: (P.map pr).drop i.toNat)) hm
  have hm1 : (σ1.upd m (.list ((P.map pr).take i.toNat ++ w :: (P.map pr).drop i.toNat))) m = some (.list ((P.map pr).take i.toNat ++ w :: (P.map pr).drop i.toNat)) := updSame
  generalize σ1.upd m (.list ((P.map pr).take i.toNat ++ w :: (P.map pr).drop i.toNat)) = σ2 at *
  have hE2 := hE1.trans hE2'
  refine refused_spec (rej_wrong (h.ext hE2) (hE2' _ _ hh1) hs hd' (hw.ext hE2)) ?_
  intro σ3 hE3
  have hE := hE2.trans hE3
  simp only [truthy_bool, onSome_some, Bool.not_true, if_true]
  rw [cmpV_Ne, show eqv σ3 fuel (.ref hd) (.ref m) = some true from eqv_list (hE3 _ _ (hE2' _ _ hh1)) (hE3 _ _ hm1) fun v hv => by
    rcases List.mem_append.mp hv with hv | hv
    · refine ob5 (List.mem_map.mp (List.mem_of_mem_take hv)) ?_
      intro p _ ee186
      subst ee186
      exact eqv_pr
    · rcases List.mem_cons.mp hv with rfl | hv
      · exact hw' _ hE
      · refine ob5 (List.mem_map.mp (List.mem_of_mem_drop hv)) ?_
        intro p _ ee187
        subst ee187
        exact eqv_pr]
  simp only [Option.map_some, Bool.not_true, onSome_some, truthy_bool, Bool.false_eq_true, if_false]
  exact law3_1 (hE _ _ (by rw [del_ne hqh]; exact hq)) (hE _ _ (by rw [del_ne hlh]; exact hl)) hPl hQ

/-- the turns with pairs handed -/
theorem law3_5 {t6 t7 t8 : Option V} {N Y} (h : NetAt (σ.del hd) x d r rs n T) (ht : σ t = some (.list (T.map pr))) (hth : t ≠ hd) (hT : GoodT n T) (hq : σ q = some (.list (P.map pr))) (hqh : q ≠ hd) {hc : List (Int × Int)} (hh : σ hd = some (.list (hc.map pr)))
    (hs : ∀ p ∈ P, p ∈ T) (hd' : Disj P) (hPl : P.length ≤ 40) (hQ : ∀ σ', Q (.bool true) σ') :
    wpSs (sem tab03 fld03 (k + 6)) true T_law_5 [some (.ref l), some (.int n), some (.ref t), some (.ref x), some (.ref q), some (.ref hd), t6, t7, t8] σ N Q Y := by
  simp only [T_law_5, Ss_nil, Ss_cons, S_expr, S_assign, S_setattr, S_setitem, S_ret, S_pass, S_raise, S_iff, S_whil, S_for, S_tryx, E_none, E_tt, E_ff, E_int, E_str, E_var, E_glob, E_bin, E_neg, E_not, E_cmp, E_cmp2, E_bool, E_call, E_make, E_meth, E_m0, E_m1, E_insert, E_attr, E_idx, E_slice, E_rev, E_list, E_tuple, E_dict0, E_b1, E_min2, E_max2, E_isin, E_dict1, wpE_comp, Es_nil, Es_cons, B_one, B_cons, I_r1, I_r2, I_r3, I_en, I_var, I_idx, I_attr, I_list, I_call, I_slice, itR1_int, itR2_int, itR3_int, itEn, C_none, C_some, O_none, O_some, Loc.get, List.getElem?_cons_zero, List.getElem?_cons_succ, Option.join_some, onSome_some, tgOk, true_and, bindTg, List.set_cons_succ, List.set_cons_zero, onInt_int]
  refine ⟨by decide, ?_⟩
  intro e he
  have hE1 := (Ext.rfl (σ := σ)).upd (o := .list []) he
  have he1 : (σ.upd e (.list [])) e = some (.list (([] : List (Int × Int)).map pr)) := updSame
  have hhe : hd ≠ e := by rintro rfl; rw [hh] at he; cases he
  generalize σ.upd e (.list []) = σ1 at *
  have esl : pySlice (some 1) none (P.map pr) = (P.drop 1).map pr := by
    cases P with
    | nil => rfl
    | cons a l =>
      have h1 : min (1 : Int).toNat (l.length + 1) = 1 := by show min 1 (l.length + 1) = 1; omega
      simp [pySlice, clampIdx, h1, List.take_of_length_le]
  simp only [sliceV]
  refine onList_of (hE1 _ _ hq) ?_
  simp only [optInt, onSome_some, alloc]
  intro s hs1
  rw [esl]
  have hE2' := (Ext.rfl (σ := σ1)).upd (o := .list ((P.drop 1).map pr)) hs1
  have hs2 : (σ1.upd s (.list ((P.drop 1).map pr))) s = some (.list ((P.drop 1).map pr)) := updSame
  have hhs : hd ≠ s := by rintro rfl; rw [hE1 _ _ hh] at hs1; cases hs1
  generalize σ1.upd s (.list ((P.drop 1).map pr)) = σ2 at *
  refine ⟨by simp [szLim], ?_⟩
  intro m hm
  have hE3' := (Ext.rfl (σ := σ2)).upd (o := .list [.ref q, .ref e, .ref s, .ref q]) hm
  have hm3 : (σ2.upd m (.list [.ref q, .ref e, .ref s, .ref q])) m = some (.list [.ref q, .ref e, .ref s, .ref q]) := updSame
  have hE2 := hE1.trans hE2'
  have hhm : hd ≠ m := by rintro rfl; rw [hE2 _ _ hh] at hm; cases hm
  generalize σ2.upd m (.list [.ref q, .ref e, .ref s, .ref q]) = σ3 at *
  have hE3 := hE2.trans hE3'
  simp only [iterV]
  refine onList_of hm3 ?_
  have hx3 := h.ext (del_del (h := hd) hE3)
  have get : ∀ {a o}, a ≠ hd → σ3 a = some o → (σ3.del hd) a = some o := fun h g => by rw [del_ne h]; exact g
  have rows : ∀ v ∈ [V.ref q, .ref e, .ref s, .ref q], ∃ (a : Addr) (row : List (Int × Int)), v = .ref a ∧ a ≠ hd ∧ (σ3.del hd) a = some (.list (row.map pr)) ∧ row.length ≤ 100 ∧ (∀ p ∈ row, p ∈ T) ∧ Disj row := by
    intro v hv
    simp only [List.mem_cons, List.not_mem_nil, or_false] at hv
    have key : (∃ (a : Addr) (row : List (Int × Int)), V.ref q = .ref a ∧ a ≠ hd ∧ (σ3.del hd) a = some (.list (row.map pr)) ∧ row.length ≤ 100 ∧ (∀ p ∈ row, p ∈ T) ∧ Disj row) :=
      ⟨q, P, rfl, hqh, get hqh (hE3 _ _ hq), by omega, hs, hd'⟩
    rcases hv with rfl | rfl | rfl | rfl
    · exact key
    · exact ⟨e, [], rfl, hhe.symm, get hhe.symm (hE3' _ _ (hE2' _ _ he1)), by simp, by simp, .nil⟩
    · exact ⟨s, P.drop 1, rfl, hhs.symm, get hhs.symm (hE3' _ _ hs2), by rw [List.length_drop]; omega, fun p hp => hs p (List.mem_of_mem_drop hp), hd'.sublist (List.drop_sublist 1 P)⟩
    · exact key
  refine forV_inv (fun j ρ σ' => Ext (σ3.del hd) σ' ∧ (∃ hc : List (Int × Int), σ' hd = some (.list (hc.map pr))) ∧ ∃ t8, ρ = [some (.ref l), some (.int n), some (.ref t), some (.ref x), some (.ref q), some (.ref hd), t6, t7, t8])
    ⟨del_ext, ⟨hc, hE3 _ _ hh⟩, _, rfl⟩ ?_ ?_ ?_
  · intro j ρ σ' zz47
    refine ob8 zz47 ?_
    clear zz47
    intro h1 _
    exact h1 _ _ (get hhm.symm hm3)
  · intro j v ρ σ' K hv zz48
    refine ob52 zz48 ?_
    clear zz48
    intro h1 hc h2 t8 ee188
    subst ee188
    intro hK
    refine ob53 (rows v (List.mem_of_getElem? hv)) ?_
    intro a row ee189
    subst ee189
    intro hah har hrl hrs hrd
    simp only [L_law_1, Ss_nil, Ss_cons, S_expr, S_assign, S_setattr, S_setitem, S_ret, S_pass, S_raise, S_iff, S_whil, S_for, S_tryx, E_none, E_tt, E_ff, E_int, E_str, E_var, E_glob, E_bin, E_neg, E_not, E_cmp, E_cmp2, E_bool, E_call, E_make, E_meth, E_m0, E_m1, E_insert, E_attr, E_idx, E_slice, E_rev, E_list, E_tuple, E_dict0, E_b1, E_min2, E_max2, E_isin, E_dict1, wpE_comp, Es_nil, Es_cons, B_one, B_cons, I_r1, I_r2, I_r3, I_en, I_var, I_idx, I_attr, I_list, I_call, I_slice, itR1_int, itR2_int, itR3_int, itEn, C_none, C_some, O_none, O_some, Loc.get, List.getElem?_cons_zero, List.getElem?_cons_succ, Option.join_some, onSome_some, tgOk, true_and, bindTg, List.set_cons_succ, List.set_cons_zero, onInt_int, has03, tb_told_of]
    refine clear_of h2 ⟨rfl, ?_⟩
    have h3 : (σ'.upd hd (.list [])) hd = some (.list []) := updSame
    refine onList_of h3 (extend_of h3 (by rw [updNe hah]; exact h1 _ _ har) hah.symm (by rw [List.length_map]; unfold szLim; simp; omega) ⟨rfl, ?_⟩)
    rw [upd_upd, List.nil_append]
    have hE4 : Ext (σ3.del hd) (σ'.upd hd (.list (row.map pr))) := h1.upd del_same
    refine told_of_spec (P := row) ⟨hx3.ext hE4, hE4 _ _ har, updSame, hrs, hrd⟩ ?_
    intro σ5 hE5
    simp only [truthy_bool, onSome_some, Bool.not_true, Bool.false_eq_true, if_false]
    exact hK _ _ ⟨hE4.trans hE5, ⟨row, hE5 _ _ updSame⟩, _, rfl⟩
  · intro ρ σ' zz49
    refine ob50 zz49 ?_
    clear zz49
    intro h1 _ t8 ee190
    subst ee190
    have hx5 := hx3.ext h1
    simp only [T_law_4, Ss_nil, Ss_cons, S_expr, S_assign, S_setattr, S_setitem, S_ret, S_pass, S_raise, S_iff, S_whil, S_for, S_tryx, E_none, E_tt, E_ff, E_int, E_str, E_var, E_glob, E_bin, E_neg, E_not, E_cmp, E_cmp2, E_bool, E_call, E_make, E_meth, E_m0, E_m1, E_insert, E_attr, E_idx, E_slice, E_rev, E_list, E_tuple, E_dict0, E_b1, E_min2, E_max2, E_isin, E_dict1, wpE_comp, Es_nil, Es_cons, B_one, B_cons, I_r1, I_r2, I_r3, I_en, I_var, I_idx, I_attr, I_list, I_call, I_slice, itR1_int, itR2_int, itR3_int, itEn, C_none, C_some, O_none, O_some, Loc.get, List.getElem?_cons_zero, List.getElem?_cons_succ, Option.join_some, onSome_some, tgOk, true_and, bindTg, List.set_cons_succ, List.set_cons_zero, onInt_int, has03]
    refine onInst_of hx5.top hx5.dic ⟨⟨by simp, tb_ties⟩, ?_⟩
    refine ties_spec hx5 ?_
    intro b hb
    rw [tiesUp_eq hT .rfl, cmpV_Eq, eqv_prs updSame (((Ext.rfl (σ := σ')).upd hb) _ _ (h1 _ _ (get hth (hE3 _ _ ht))))]
    exact hQ _

theorem law3_6 {t5 t6 t7 t8 : Option V} {N Y} (h : NetAt σ x d r rs n T) (hl : σ l = some (.fixed (ns.map V.int))) (ht : σ t = some (.list (T.map pr))) (hT : GoodT n T) (hTl : T.length ≤ 1600) (hq : σ q = some (.list (P.map pr)))
    (hs : ∀ p ∈ P, p ∈ T) (hd' : Disj P) (hQ : ∀ σ', Q (.bool true) σ') :
    wpSs (sem tab03 fld03 (k + 6)) true T_law_6 [some (.ref l), some (.int n), some (.ref t), some (.ref x), some (.ref q), t5, t6, t7, t8] σ N Q Y := by
  have hlo := h.lo
  have hhi := h.hi
  have hPl := disj_len (fun p hp => h.ok p (hs p hp)) hd' (by omega) hhi
  simp only [T_law_6, Ss_nil, Ss_cons, S_expr, S_assign, S_setattr, S_setitem, S_ret, S_pass, S_raise, S_iff, S_whil, S_for, S_tryx, E_none, E_tt, E_ff, E_int, E_str, E_var, E_glob, E_bin, E_neg, E_not, E_cmp, E_cmp2, E_bool, E_call, E_make, E_meth, E_m0, E_m1, E_insert, E_attr, E_idx, E_slice, E_rev, E_list, E_tuple, E_dict0, E_b1, E_min2, E_max2, E_isin, E_dict1, wpE_comp, Es_nil, Es_cons, B_one, B_cons, I_r1, I_r2, I_r3, I_en, I_var, I_idx, I_attr, I_list, I_call, I_slice, itR1_int, itR2_int, itR3_int, itEn, C_none, C_some, O_none, O_some, Loc.get, List.getElem?_cons_zero, List.getElem?_cons_succ, Option.join_some, onSome_some, tgOk, true_and, bindTg, List.set_cons_succ, List.set_cons_zero, onInt_int, has03, tb_cell, tb_wrong, b1V]
  refine onList_of hq ⟨by rw [List.length_map]; unfold szLim; omega, ?_⟩
  intro hd hhd
  have hE1 := (Ext.rfl (σ := σ)).upd (o := .list (P.map pr)) hhd
  have hh1 : (σ.upd hd (.list (P.map pr))) hd = some (.list (P.map pr)) := updSame
  have hx0 : NetAt ((σ.upd hd (.list (P.map pr))).del hd) x d r rs n T := h.ext (ext_del hE1 hhd)
  have hth : t ≠ hd := by rintro rfl; rw [ht] at hhd; cases hhd
  have hqh : q ≠ hd := by rintro rfl; rw [hq] at hhd; cases hhd
  have hlh : l ≠ hd := by rintro rfl; rw [hl] at hhd; cases hhd
  generalize σ.upd hd (.list (P.map pr)) = σ1 at *
  refine cell_any (ns := ns) (hE1 _ _ hl) (by omega) fun c => ?_
  simp only [binV_mod, cmpV_eq, onSome_some, truthy_bool]
  refine ⟨by omega, ite_of (fun _ => ?_) fun _ => law3_5 hx0 (hE1 _ _ ht) hth hT (hE1 _ _ hq) hqh hh1 hs hd' hPl hQ⟩
  refine cell_any (ns := ns) (hE1 _ _ hl) (by omega) fun c => ?_
  simp only [binV_div]
  refine ⟨by omega, wrong_spec (z := hd) (hE1 _ _ ht) (hE1 _ _ hq) hlo hhi hT.2 hs hTl (by rw [hh1]; simp) ?_⟩
  intro w σ2 hE2 hb hw
  have hE := hE1.trans hE2
  exact law3_3 (ns := ns) (hx0.ext (del_del (h := hd) hE2)) (hE _ _ hq) hqh (hE2 _ _ hh1) (hE _ _ hl) hlh hs hd' hPl hb hw hQ

theorem law_spec (hl : σ l = some (.fixed (ns.map V.int))) (hQ : ∀ σ', Q (.bool true) σ') : (sem tab03 fld03 (k + 7) true).run "" "law" [.ref l] σ Q X := by
  refine run_succ (F := F_law) rfl ⟨rfl, ?_⟩
  simp only [F_law, Ss_nil, Ss_cons, S_expr, S_assign, S_setattr, S_setitem, S_ret, S_pass, S_raise, S_iff, S_whil, S_for, S_tryx, E_none, E_tt, E_ff, E_int, E_str, E_var, E_glob, E_bin, E_neg, E_not, E_cmp, E_cmp2, E_bool, E_call, E_make, E_meth, E_m0, E_m1, E_insert, E_attr, E_idx, E_slice, E_rev, E_list, E_tuple, E_dict0, E_b1, E_min2, E_max2, E_isin, E_dict1, wpE_comp, Es_nil, Es_cons, B_one, B_cons, I_r1, I_r2, I_r3, I_en, I_var, I_idx, I_attr, I_list, I_call, I_slice, itR1_int, itR2_int, itR3_int, itEn, C_none, C_some, O_none, O_some, List.map_cons, List.map_nil, List.length_cons, List.length_nil, List.cons_append, List.nil_append, List.replicate, Nat.reduceAdd, Nat.reduceSub, Loc.get, List.getElem?_cons_zero, List.getElem?_cons_succ, Option.join_some, onSome_some, has03, tgOk, tb_net_by, true_and]
  refine net_by_spec hl (by omega) (by omega) ?_
  intro n T t h1 h2 ht hT hTl
  have hE1 := (Ext.rfl (σ := σ)).upd (o := .list (T.map pr)) ht
  have ht1 : (σ.upd t (.list (T.map pr))) t = some (.list (T.map pr)) := updSame
  generalize σ.upd t (.list (T.map pr)) = σ1 at *
  show wpSs _ _ T_law_8 [some (.ref l), some (.int n), some (.ref t), none, none, none, none, none, none] _ _ _ _
  simp only [T_law_8, Ss_nil, Ss_cons, S_expr, S_assign, S_setattr, S_setitem, S_ret, S_pass, S_raise, S_iff, S_whil, S_for, S_tryx, E_none, E_tt, E_ff, E_int, E_str, E_var, E_glob, E_bin, E_neg, E_not, E_cmp, E_cmp2, E_bool, E_call, E_make, E_meth, E_m0, E_m1, E_insert, E_attr, E_idx, E_slice, E_rev, E_list, E_tuple, E_dict0, E_b1, E_min2, E_max2, E_isin, E_dict1, wpE_comp, Es_nil, Es_cons, B_one, B_cons, I_r1, I_r2, I_r3, I_en, I_var, I_idx, I_attr, I_list, I_call, I_slice, itR1_int, itR2_int, itR3_int, itEn, C_none, C_some, O_none, O_some, Loc.get, List.getElem?_cons_zero, List.getElem?_cons_succ, Option.join_some, onSome_some, tgOk, true_and, bindTg, List.set_cons_succ, List.set_cons_zero, onInt_int, has03, tb_init, b1V]
  refine onList_of ht1 ⟨by rw [List.length_map]; unfold szLim; omega, ?_⟩
  intro w hw x d hx hd hxd
  have hE2' := (Ext.rfl (σ := σ1)).upd (o := .list (T.map pr)) hw
  have hw2 : (σ1.upd w (.list (T.map pr))) w = some (.list (T.map pr)) := updSame
  have hE2 := hE1.trans hE2'
  generalize σ1.upd w (.list (T.map pr)) = σ2 at *
  have hwx : w ≠ x := by rintro rfl; rw [hx] at hw2; cases hw2
  have hwd : w ≠ d := by rintro rfl; rw [hd] at hw2; cases hw2
  refine init_spec (d := d) (H := T) (rest := []) updSame (by rw [updNe hxd.symm, updSame]) hxd (by rw [updNe hwx, updNe hwd, List.append_nil]; exact hw2) h1 h2 (lexLt_nodup hT.1) hT.2 (by omega) (by intro b r e; cases e) ?_ (by simp)
  intro _ σ3 r rs hF hd' hR hr hrs hrr
  have hE3' := ext_make hx hd hF
  have hE3 := hE2.trans hE3'
  have hN : NetAt σ3 x d r rs n T := ⟨hF x _ hxd updSame, hd', hR, h1, h2, lexLt_nodup hT.1, hT.2⟩
  refine ⟨rfl, ?_⟩
  simp only [T_law_7, Ss_nil, Ss_cons, S_expr, S_assign, S_setattr, S_setitem, S_ret, S_pass, S_raise, S_iff, S_whil, S_for, S_tryx, E_none, E_tt, E_ff, E_int, E_str, E_var, E_glob, E_bin, E_neg, E_not, E_cmp, E_cmp2, E_bool, E_call, E_make, E_meth, E_m0, E_m1, E_insert, E_attr, E_idx, E_slice, E_rev, E_list, E_tuple, E_dict0, E_b1, E_min2, E_max2, E_isin, E_dict1, wpE_comp, Es_nil, Es_cons, B_one, B_cons, I_r1, I_r2, I_r3, I_en, I_var, I_idx, I_attr, I_list, I_call, I_slice, itR1_int, itR2_int, itR3_int, itEn, C_none, C_some, O_none, O_some, Loc.get, List.getElem?_cons_zero, List.getElem?_cons_succ, Option.join_some, onSome_some, tgOk, true_and, bindTg, List.set_cons_succ, List.set_cons_zero, onInt_int, has03, tb_pairing]
  have ht3 := hE3' _ _ (hE2' _ _ ht1)
  refine pairing_spec (ns := ns) (hE3 _ _ hl) ht3 hTl ?_
  intro P σ4 q hE4 _ hq hs hdj
  exact law3_6 (ns := ns) (hN.ext hE4) (hE4 _ _ (hE3 _ _ hl)) (hE4 _ _ ht3) hT hTl hq hs hdj hQ
end
end Mine.Internal
end

section
set_option maxRecDepth 100000
theorem PySem.Challenge.cw_uf010024_03_holds : PySem.Challenge.rw_uf010024_03.Holds := by
  exact Mine.Internal.join03 fun l ns h => Mine.Internal.law_spec (k := 13) (ns := ns) (by simp [Mine.Internal.sig0]) fun _ => rfl
end
