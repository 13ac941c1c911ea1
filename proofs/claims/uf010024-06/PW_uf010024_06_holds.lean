import PyProof.Rows.All
import Wide.All
import OpenK.KLine
import Wide.FinOn
import PySem.Value
import OpenK.KCell
import OpenK.KMore
import KE.KRevSl
import KE.KSliceW
import KE.KSortTup
import KE.KDictSum
import KE.KDictOf
import PyProof.AttrMissHeap
import PyProof.DictDisplay
import KE.KIsNot
import OpenK.KWalk
import Open.Tree
import Open.Boot
import PySem.Challenge.RW_uf010024_06
set_option Elab.async false
set_option bootstrap.genMatcherCode false
set_option genSizeOf false
set_option linter.all false
section
open PySem PySem.W PyProof.Rows PySem.W.Fast
set_option maxRecDepth 100000
namespace Mine.Internal
noncomputable def lgT (p : Program) (w : World) (m : Nat) (a : Option Value) (n : Nat) : SharedT → Thread → Option SharedT :=
  @Nat.rec (fun _ => _) (fun _ _ => none)
    (fun _ ih s t => bif through t then some s else bif tw6613529449190102663 m a t then (tw10156331382660048174 (tw11892475500146522536 tw14364793385576792824) p w s t).bind fun r => ih r.1 r.2 else none) n
theorem lgO {p : Program} {w : World} {m : Nat} {a : Option Value} : ∀ {n : Nat} {s s' : SharedT} {t : Thread}, lgT p w m a n s t = some s' → topRun treeTable p w m a n s.abs t = some s'.abs
  | 0, _, _, _, h => nomatch (h : none = some _)
  | n + 1, s, s', t, h => by
    have h : (bif through t then some s else bif stepOk m a t then (stepT (denote treeTable) p w s t).bind fun r => lgT p w m a n r.1 r.2 else none) = some s' := by
      rw [te6613529449190102663, te10156331382660048174, te11892475500146522536, te14364793385576792824]
      exact h
    unfold topRun
    cases e : through t with
    | true => rw [e] at h; cases h; rfl
    | false =>
      rw [e] at h
      cases b : stepOk m a t with
      | false => rw [b] at h; cases h
      | true =>
        rw [b] at h
        obtain ⟨r, c, h⟩ := Option.bind_eq_some_iff.mp h
        rw [stepT_spec c]
        exact lgO h
noncomputable def lbT (P : Params) (os : OsState) : SharedT := ⟨(boot_heap P).objs.toList.zipIdx.foldl (fun t o => t.ins o.2 o.1) .nil, (boot_heap P).objs.size, (boot_heap P).life, Array.mk [], boot_drawn, boot_toks, os⟩
theorem lbA (P : Params) (os : OsState) : (lbT P os).abs = ⟨boot_heap P, Array.mk [], boot_drawn, boot_toks, os⟩ := by kernel_rfl
theorem lbN (P : Params) : (boot_heap P).isNs mainGlobals = true := by kernel_rfl
noncomputable def leT (p : Program) (w : World) (N : Nat) (os : OsState) : Option Shared :=
  (lgT p w (boot_heap w.params).objs.size ((boot_heap w.params).nsMap mainGlobals "__annotations__") N (lbT w.params os) (topStub p)).bind fun s =>
    match staticsOk (importedModules p.main.body) (boot_heap w.params) s.abs.heap && namesBound p s.abs.heap && gensDone s.abs && laidKept (boot_heap w.params) s.abs.heap with
    | true => some s.abs
    | false => none
theorem leO {N : Nat} {α : Type} {Y : Shared → α} {y : α} (h : ∀ w os, (leT PySem.Challenge.pw_uf010024_06 w N os).map Y = some y) (hN : Nat.ble 600 N = true := by decide) (w : World) : (openEnds treeTable PySem.Challenge.pw_uf010024_06 w N).map Y = some y := by
  obtain ⟨z, e1, e2⟩ := Option.map_eq_some_iff.mp (boot_open (p := PySem.Challenge.pw_uf010024_06) (by rfl) hN (fun _ => by rfl) w)
  obtain ⟨s, hs, hy⟩ := Option.map_eq_some_iff.mp (h w z.os)
  obtain ⟨s', hs', g⟩ := Option.bind_eq_some_iff.mp hs
  have r := lgO hs'
  rw [lbA] at r
  unfold openEnds
  rw [e1.trans (congrArg (fun x => some (⟨x.1, x.2.1, x.2.2.1, x.2.2.2, z.os⟩ : Shared)) e2), Option.bind_some]
  unfold topFrom
  dsimp only
  rw [lbN, r]
  refine (congrArg (Option.map _) g).trans ?_
  rw [Option.map_some, hy]
end Mine.Internal
end
section
open PySem PySem.W PyProof.Rows
set_option Elab.async false
set_option maxRecDepth 100000
set_option maxHeartbeats 8000000
namespace Mine.Internal
noncomputable def zpo : List Nat := (List.range 40).filter fun i => i != 0 && i != 6 && i != 11 && i != 16 && i != 22 && i != 25
noncomputable def q06 : Program := view PySem.Challenge.pw_uf010024_06 zpo
theorem zoj : ∀ w, (openEnds treeTable PySem.Challenge.pw_uf010024_06 w 5252).map (fun s => openSeen q06 [] (importedModules PySem.Challenge.pw_uf010024_06.main.body) (fun s => xlAt q06 [] s && recOk (RowW.records PySem.Challenge.rw_uf010024_06.row.toRowW) s) true s) = some (openGood q06 []) := leO fun w os => by kernel_rfl
open PySem
theorem nft {P : Prop} (h : false = true) : P := absurd h Bool.false_ne_true
theorem lift {G : Prop} (h : ∀ g : Prop, (G → g) → g) : G := h G id
theorem ob1 {G : Prop} {A1 : Sort _} {A2 : Sort _} {P1 : A1 → A2 → Prop} {P2 : A1 → A2 → Prop} {P3 : A1 → A2 → Prop} (h : ∃ x1 : A1, ∃ x2 : A2, P1 x1 x2 ∧ P2 x1 x2 ∧ P3 x1 x2) (g : ∀ x1, ∀ x2, P1 x1 x2 → P2 x1 x2 → P3 x1 x2 → G) : G := by obtain ⟨y1, ⟨y2, ⟨h1, ⟨h2, h3⟩⟩⟩⟩ := h; exact g y1 y2 h1 h2 h3
theorem ob2 {G : Prop} {A1 : Sort _} {P1 : A1 → Prop} {P2 : A1 → Prop} {P3 : A1 → Prop} (h : ∃ x1 : A1, P1 x1 ∧ P2 x1 ∧ P3 x1) (g : ∀ x1, P1 x1 → P2 x1 → P3 x1 → G) : G := by obtain ⟨y1, ⟨h1, ⟨h2, h3⟩⟩⟩ := h; exact g y1 h1 h2 h3
theorem ob3 {G : Prop} {A1 : Sort _} {A2 : Sort _} {A3 : Sort _} {P1 : Prop} {P2 : A1 → A2 → A3 → Prop} {P3 : A1 → A2 → A3 → Prop} (h : P1 ∧ (∃ x1 : A1, ∃ x2 : A2, ∃ x3 : A3, P2 x1 x2 x3 ∧ P3 x1 x2 x3)) (g : P1 → ∀ x1, ∀ x2, ∀ x3, P2 x1 x2 x3 → P3 x1 x2 x3 → G) : G := by obtain ⟨h1, ⟨y1, ⟨y2, ⟨y3, ⟨h2, h3⟩⟩⟩⟩⟩ := h; exact g h1 y1 y2 y3 h2 h3
theorem ob4 {G : Prop} {A1 : Sort _} {P1 : A1 → Prop} {P2 : A1 → Prop} {P3 : A1 → Prop} {P4 : A1 → Prop} (h : ∃ x1 : A1, P1 x1 ∧ P2 x1 ∧ P3 x1 ∧ P4 x1) (g : ∀ x1, P1 x1 → P2 x1 → P3 x1 → P4 x1 → G) : G := by obtain ⟨y1, ⟨h1, ⟨h2, ⟨h3, h4⟩⟩⟩⟩ := h; exact g y1 h1 h2 h3 h4
theorem ob5 {G : Prop} {A1 : Sort _} {A2 : Sort _} {P1 : Prop} {P2 : A1 → A2 → Prop} {P3 : A1 → A2 → Prop} {P4 : A1 → A2 → Prop} {P5 : A1 → A2 → Prop} {P6 : Prop} (h : P1 ∧ (∃ x1 : A1, ∃ x2 : A2, P2 x1 x2 ∧ P3 x1 x2 ∧ P4 x1 x2 ∧ P5 x1 x2) ∧ P6) (g : P1 → ∀ x1, ∀ x2, P2 x1 x2 → P3 x1 x2 → P4 x1 x2 → P5 x1 x2 → P6 → G) : G := by obtain ⟨h1, ⟨⟨y1, ⟨y2, ⟨h2, ⟨h3, ⟨h4, h5⟩⟩⟩⟩⟩, h6⟩⟩ := h; exact g h1 y1 y2 h2 h3 h4 h5 h6
theorem ob6 {G : Prop} {A1 : Sort _} {A2 : Sort _} {A3 : Sort _} {P1 : A1 → A2 → A3 → Prop} {P2 : A1 → A2 → A3 → Prop} {P3 : A1 → A2 → A3 → Prop} (h : ∃ x1 : A1, ∃ x2 : A2, ∃ x3 : A3, P1 x1 x2 x3 ∧ P2 x1 x2 x3 ∧ P3 x1 x2 x3) (g : ∀ x1, ∀ x2, ∀ x3, P1 x1 x2 x3 → P2 x1 x2 x3 → P3 x1 x2 x3 → G) : G := by obtain ⟨y1, ⟨y2, ⟨y3, ⟨h1, ⟨h2, h3⟩⟩⟩⟩⟩ := h; exact g y1 y2 y3 h1 h2 h3
theorem ob7 {G : Prop} {A1 : Sort _} {P1 : A1 → Prop} {P2 : A1 → Prop} (h : ∃ x1 : A1, P1 x1 ∧ P2 x1) (g : ∀ x1, P1 x1 → P2 x1 → G) : G := by obtain ⟨y1, ⟨h1, h2⟩⟩ := h; exact g y1 h1 h2
theorem ob8 {G : Prop} {A1 : Sort _} {A2 : Sort _} {A3 : Sort _} {A4 : Sort _} {P1 : A1 → A2 → A3 → A4 → Prop} {P2 : A1 → A2 → A3 → A4 → Prop} {P3 : A1 → A2 → A3 → A4 → Prop} (h : ∃ x1 : A1, ∃ x2 : A2, ∃ x3 : A3, ∃ x4 : A4, P1 x1 x2 x3 x4 ∧ P2 x1 x2 x3 x4 ∧ P3 x1 x2 x3 x4) (g : ∀ x1, ∀ x2, ∀ x3, ∀ x4, P1 x1 x2 x3 x4 → P2 x1 x2 x3 x4 → P3 x1 x2 x3 x4 → G) : G := by obtain ⟨y1, ⟨y2, ⟨y3, ⟨y4, ⟨h1, ⟨h2, h3⟩⟩⟩⟩⟩⟩ := h; exact g y1 y2 y3 y4 h1 h2 h3
theorem ob9 {G : Prop} {A1 : Sort _} {P1 : A1 → Prop} {P2 : Prop} {P3 : Prop} (h : (∃ x1 : A1, P1 x1) ∧ P2 ∧ P3) (g : ∀ x1, P1 x1 → P2 → P3 → G) : G := by obtain ⟨⟨y1, h1⟩, ⟨h2, h3⟩⟩ := h; exact g y1 h1 h2 h3
theorem ob10 {G : Prop} {A1 : Sort _} {A2 : Sort _} {P1 : A1 → A2 → Prop} {P2 : A1 → A2 → Prop} {P3 : Prop} (h : (∃ x1 : A1, ∃ x2 : A2, P1 x1 x2 ∧ P2 x1 x2) ∧ P3) (g : ∀ x1, ∀ x2, P1 x1 x2 → P2 x1 x2 → P3 → G) : G := by obtain ⟨⟨y1, ⟨y2, ⟨h1, h2⟩⟩⟩, h3⟩ := h; exact g y1 y2 h1 h2 h3
theorem ob11 {G : Prop} {A1 : Sort _} {A2 : Sort _} {A3 : Sort _} {P1 : A1 → A2 → A3 → Prop} {P2 : A1 → A2 → A3 → Prop} {P3 : A1 → A2 → A3 → Prop} {P4 : A1 → A2 → A3 → Prop} (h : ∃ x1 : A1, ∃ x2 : A2, ∃ x3 : A3, P1 x1 x2 x3 ∧ P2 x1 x2 x3 ∧ P3 x1 x2 x3 ∧ P4 x1 x2 x3) (g : ∀ x1, ∀ x2, ∀ x3, P1 x1 x2 x3 → P2 x1 x2 x3 → P3 x1 x2 x3 → P4 x1 x2 x3 → G) : G := by obtain ⟨y1, ⟨y2, ⟨y3, ⟨h1, ⟨h2, ⟨h3, h4⟩⟩⟩⟩⟩⟩ := h; exact g y1 y2 y3 h1 h2 h3 h4
theorem ob12 {G : Prop} {A1 : Sort _} {P1 : A1 → Prop} (h : ∃ x1 : A1, P1 x1) (g : ∀ x1, P1 x1 → G) : G := by obtain ⟨y1, h1⟩ := h; exact g y1 h1
theorem ob13 {G : Prop} {A1 : Sort _} {P1 : A1 → Prop} {P2 : Prop} (h : (∃ x1 : A1, P1 x1) ∧ P2) (g : ∀ x1, P1 x1 → P2 → G) : G := by obtain ⟨⟨y1, h1⟩, h2⟩ := h; exact g y1 h1 h2
theorem ob14 {G : Prop} {P1 : Prop} {P2 : Prop} (h : P1 ∧ P2) (g : P1 → P2 → G) : G := by obtain ⟨h1, h2⟩ := h; exact g h1 h2
theorem ob15 {G : Prop} {A1 : Sort _} {A2 : Sort _} {P1 : A1 → A2 → Prop} {P2 : A1 → A2 → Prop} {P3 : A1 → A2 → Prop} {P4 : A1 → A2 → Prop} (h : ∃ x1 : A1, ∃ x2 : A2, P1 x1 x2 ∧ P2 x1 x2 ∧ P3 x1 x2 ∧ P4 x1 x2) (g : ∀ x1, ∀ x2, P1 x1 x2 → P2 x1 x2 → P3 x1 x2 → P4 x1 x2 → G) : G := by obtain ⟨y1, ⟨y2, ⟨h1, ⟨h2, ⟨h3, h4⟩⟩⟩⟩⟩ := h; exact g y1 y2 h1 h2 h3 h4
theorem ob16 {G : Prop} {P1 : Prop} {P2 : Prop} {P3 : Prop} (h : P1 ∧ P2 ∧ P3) (g : P1 → P2 → P3 → G) : G := by obtain ⟨h1, ⟨h2, h3⟩⟩ := h; exact g h1 h2 h3
theorem ob17 {G : Prop} {A1 : Sort _} {A2 : Sort _} {P1 : A1 → A2 → Prop} {P2 : A1 → A2 → Prop} (h : ∃ x1 : A1, ∃ x2 : A2, P1 x1 x2 ∧ P2 x1 x2) (g : ∀ x1, ∀ x2, P1 x1 x2 → P2 x1 x2 → G) : G := by obtain ⟨y1, ⟨y2, ⟨h1, h2⟩⟩⟩ := h; exact g y1 y2 h1 h2
theorem ob18 {G : Prop} {A1 : Sort _} {A2 : Sort _} {P1 : A1 → A2 → Prop} (h : ∃ x1 : A1, ∃ x2 : A2, P1 x1 x2) (g : ∀ x1, ∀ x2, P1 x1 x2 → G) : G := by obtain ⟨y1, ⟨y2, h1⟩⟩ := h; exact g y1 y2 h1
theorem ob19 {G : Prop} {A1 : Sort _} {A2 : Sort _} {A3 : Sort _} {A4 : Sort _} {P1 : A1 → A2 → A3 → A4 → Prop} {P2 : A1 → A2 → A3 → A4 → Prop} (h : ∃ x1 : A1, ∃ x2 : A2, ∃ x3 : A3, ∃ x4 : A4, P1 x1 x2 x3 x4 ∧ P2 x1 x2 x3 x4) (g : ∀ x1, ∀ x2, ∀ x3, ∀ x4, P1 x1 x2 x3 x4 → P2 x1 x2 x3 x4 → G) : G := by obtain ⟨y1, ⟨y2, ⟨y3, ⟨y4, ⟨h1, h2⟩⟩⟩⟩⟩ := h; exact g y1 y2 y3 y4 h1 h2
theorem ob20 {G : Prop} {P1 : Prop} {P2 : Prop} {P3 : Prop} {P4 : Prop} {P5 : Prop} {P6 : Prop} (h : P1 ∧ P2 ∧ P3 ∧ P4 ∧ P5 ∧ P6) (g : P1 → P2 → P3 → P4 → P5 → P6 → G) : G := by obtain ⟨h1, ⟨h2, ⟨h3, ⟨h4, ⟨h5, h6⟩⟩⟩⟩⟩ := h; exact g h1 h2 h3 h4 h5 h6
theorem ob21 {G : Prop} {A1 : Sort _} {A2 : Sort _} {A3 : Sort _} {P1 : A1 → A2 → A3 → Prop} {P2 : A1 → A2 → A3 → Prop} {P3 : A1 → A2 → A3 → Prop} {P4 : A1 → A2 → A3 → Prop} {P5 : A1 → A2 → A3 → Prop} (h : ∃ x1 : A1, ∃ x2 : A2, ∃ x3 : A3, P1 x1 x2 x3 ∧ P2 x1 x2 x3 ∧ P3 x1 x2 x3 ∧ P4 x1 x2 x3 ∧ P5 x1 x2 x3) (g : ∀ x1, ∀ x2, ∀ x3, P1 x1 x2 x3 → P2 x1 x2 x3 → P3 x1 x2 x3 → P4 x1 x2 x3 → P5 x1 x2 x3 → G) : G := by obtain ⟨y1, ⟨y2, ⟨y3, ⟨h1, ⟨h2, ⟨h3, ⟨h4, h5⟩⟩⟩⟩⟩⟩⟩ := h; exact g y1 y2 y3 h1 h2 h3 h4 h5
theorem ob22 {G : Prop} {A1 : Sort _} {P1 : A1 → Prop} {P2 : A1 → Prop} {P3 : A1 → Prop} {P4 : A1 → Prop} (h : ∃ x1 : A1, P1 x1 ∧ (P2 x1 ∧ P3 x1) ∧ P4 x1) (g : ∀ x1, P1 x1 → P2 x1 → P3 x1 → P4 x1 → G) : G := by obtain ⟨y1, ⟨h1, ⟨⟨h2, h3⟩, h4⟩⟩⟩ := h; exact g y1 h1 h2 h3 h4
theorem ob23 {G : Prop} {P1 : Prop} {P2 : Prop} {P3 : Prop} {P4 : Prop} (h : (P1 ∧ P2 ∧ P3) ∧ P4) (g : P1 → P2 → P3 → P4 → G) : G := by obtain ⟨⟨h1, ⟨h2, h3⟩⟩, h4⟩ := h; exact g h1 h2 h3 h4
theorem ob24 {G : Prop} {A1 : Sort _} {A2 : Sort _} {A3 : Sort _} {P1 : A1 → A2 → A3 → Prop} {P2 : A1 → A2 → A3 → Prop} (h : ∃ x1 : A1, ∃ x2 : A2, ∃ x3 : A3, P1 x1 x2 x3 ∧ P2 x1 x2 x3) (g : ∀ x1, ∀ x2, ∀ x3, P1 x1 x2 x3 → P2 x1 x2 x3 → G) : G := by obtain ⟨y1, ⟨y2, ⟨y3, ⟨h1, h2⟩⟩⟩⟩ := h; exact g y1 y2 y3 h1 h2
theorem ob25 {G : Prop} {A1 : Sort _} {P1 : A1 → Prop} {P2 : A1 → Prop} {P3 : A1 → Prop} (h : ∃ x1 : A1, (P1 x1 ∧ P2 x1) ∧ P3 x1) (g : ∀ x1, P1 x1 → P2 x1 → P3 x1 → G) : G := by obtain ⟨y1, ⟨⟨h1, h2⟩, h3⟩⟩ := h; exact g y1 h1 h2 h3
theorem ob26 {G : Prop} {A1 : Sort _} {A2 : Sort _} {A3 : Sort _} {A4 : Sort _} {P1 : A1 → A2 → A3 → Prop} {P2 : A1 → A2 → A3 → Prop} {P3 : A1 → A2 → A3 → A4 → Prop} {P4 : A1 → A2 → A3 → A4 → Prop} {P5 : A1 → A2 → A3 → Prop} {P6 : A1 → A2 → A3 → Prop} {P7 : A1 → A2 → A3 → Prop} (h : ∃ x1 : A1, ∃ x2 : A2, ∃ x3 : A3, P1 x1 x2 x3 ∧ P2 x1 x2 x3 ∧ (∃ x4 : A4, P3 x1 x2 x3 x4 ∧ P4 x1 x2 x3 x4) ∧ P5 x1 x2 x3 ∧ P6 x1 x2 x3 ∧ P7 x1 x2 x3) (g : ∀ x1, ∀ x2, ∀ x3, P1 x1 x2 x3 → P2 x1 x2 x3 → ∀ x4, P3 x1 x2 x3 x4 → P4 x1 x2 x3 x4 → P5 x1 x2 x3 → P6 x1 x2 x3 → P7 x1 x2 x3 → G) : G := by obtain ⟨y1, ⟨y2, ⟨y3, ⟨h1, ⟨h2, ⟨⟨y4, ⟨h3, h4⟩⟩, ⟨h5, ⟨h6, h7⟩⟩⟩⟩⟩⟩⟩⟩ := h; exact g y1 y2 y3 h1 h2 y4 h3 h4 h5 h6 h7
theorem ob27 {G : Prop} {A1 : Sort _} {A2 : Sort _} {P1 : Prop} {P2 : A1 → A2 → Prop} {P3 : A1 → A2 → Prop} {P4 : A1 → A2 → Prop} (h : P1 ∧ (∃ x1 : A1, ∃ x2 : A2, P2 x1 x2 ∧ P3 x1 x2 ∧ P4 x1 x2)) (g : P1 → ∀ x1, ∀ x2, P2 x1 x2 → P3 x1 x2 → P4 x1 x2 → G) : G := by obtain ⟨h1, ⟨y1, ⟨y2, ⟨h2, ⟨h3, h4⟩⟩⟩⟩⟩ := h; exact g h1 y1 y2 h2 h3 h4
theorem ob28 {G : Prop} {P1 : Prop} {P2 : Prop} {P3 : Prop} {P4 : Prop} {P5 : Prop} (h : (P1 ∧ P2 ∧ P3 ∧ P4) ∧ P5) (g : P1 → P2 → P3 → P4 → P5 → G) : G := by obtain ⟨⟨h1, ⟨h2, ⟨h3, h4⟩⟩⟩, h5⟩ := h; exact g h1 h2 h3 h4 h5
theorem ob29 {G : Prop} {P1 : Prop} {P2 : Prop} {P3 : Prop} {P4 : Prop} {P5 : Prop} {P6 : Prop} {P7 : Prop} (h : (P1 ∧ P2 ∧ P3 ∧ P4) ∧ P5 ∧ P6 ∧ P7) (g : P1 → P2 → P3 → P4 → P5 → P6 → P7 → G) : G := by obtain ⟨⟨h1, ⟨h2, ⟨h3, h4⟩⟩⟩, ⟨h5, ⟨h6, h7⟩⟩⟩ := h; exact g h1 h2 h3 h4 h5 h6 h7
theorem ob30 {G : Prop} {A1 : Sort _} {P1 : A1 → Prop} {P2 : A1 → Prop} {P3 : A1 → Prop} {P4 : Prop} {P5 : Prop} {P6 : Prop} (h : (((∃ x1 : A1, P1 x1 ∧ P2 x1 ∧ P3 x1) ∧ P4) ∧ P5) ∧ P6) (g : ∀ x1, P1 x1 → P2 x1 → P3 x1 → P4 → P5 → P6 → G) : G := by obtain ⟨⟨⟨⟨y1, ⟨h1, ⟨h2, h3⟩⟩⟩, h4⟩, h5⟩, h6⟩ := h; exact g y1 h1 h2 h3 h4 h5 h6
theorem ob31 {G : Prop} {A1 : Sort _} {P1 : A1 → Prop} {P2 : A1 → Prop} {P3 : A1 → Prop} {P4 : Prop} (h : (∃ x1 : A1, P1 x1 ∧ P2 x1 ∧ P3 x1) ∧ P4) (g : ∀ x1, P1 x1 → P2 x1 → P3 x1 → P4 → G) : G := by obtain ⟨⟨y1, ⟨h1, ⟨h2, h3⟩⟩⟩, h4⟩ := h; exact g y1 h1 h2 h3 h4
theorem ob32 {G : Prop} {A1 : Sort _} {P1 : A1 → Prop} {P2 : A1 → Prop} {P3 : A1 → Prop} {P4 : A1 → Prop} {P5 : A1 → Prop} (h : ∃ x1 : A1, P1 x1 ∧ P2 x1 ∧ P3 x1 ∧ P4 x1 ∧ P5 x1) (g : ∀ x1, P1 x1 → P2 x1 → P3 x1 → P4 x1 → P5 x1 → G) : G := by obtain ⟨y1, ⟨h1, ⟨h2, ⟨h3, ⟨h4, h5⟩⟩⟩⟩⟩ := h; exact g y1 h1 h2 h3 h4 h5
theorem ob33 {G : Prop} {P1 : Prop} {P2 : Prop} {P3 : Prop} (h : (P1 ∧ P2) ∧ P3) (g : P1 → P2 → P3 → G) : G := by obtain ⟨⟨h1, h2⟩, h3⟩ := h; exact g h1 h2 h3
theorem ob34 {G : Prop} {P1 : Prop} {P2 : Prop} {P3 : Prop} {P4 : Prop} {P5 : Prop} (h : (((P1 ∧ P2) ∧ P3) ∧ P4) ∧ P5) (g : P1 → P2 → P3 → P4 → P5 → G) : G := by obtain ⟨⟨⟨⟨h1, h2⟩, h3⟩, h4⟩, h5⟩ := h; exact g h1 h2 h3 h4 h5
theorem ob35 {G : Prop} {A1 : Sort _} {A2 : Sort _} {P1 : Prop} {P2 : A1 → A2 → Prop} {P3 : A1 → A2 → Prop} (h : P1 ∧ (∃ x1 : A1, ∃ x2 : A2, P2 x1 x2 ∧ P3 x1 x2)) (g : P1 → ∀ x1, ∀ x2, P2 x1 x2 → P3 x1 x2 → G) : G := by obtain ⟨h1, ⟨y1, ⟨y2, ⟨h2, h3⟩⟩⟩⟩ := h; exact g h1 y1 y2 h2 h3
theorem ob36 {G : Prop} {P1 : Prop} {P2 : Prop} {P3 : Prop} {P4 : Prop} {P5 : Prop} {P6 : Prop} (h : ((((P1 ∧ P2) ∧ P3) ∧ P4) ∧ P5) ∧ P6) (g : P1 → P2 → P3 → P4 → P5 → P6 → G) : G := by obtain ⟨⟨⟨⟨⟨h1, h2⟩, h3⟩, h4⟩, h5⟩, h6⟩ := h; exact g h1 h2 h3 h4 h5 h6
theorem ob37 {G : Prop} {A1 : Sort _} {A2 : Sort _} {P1 : Prop} {P2 : Prop} {P3 : Prop} {P4 : A1 → A2 → Prop} {P5 : A1 → A2 → Prop} (h : P1 ∧ P2 ∧ P3 ∧ (∃ x1 : A1, ∃ x2 : A2, P4 x1 x2 ∧ P5 x1 x2)) (g : P1 → P2 → P3 → ∀ x1, ∀ x2, P4 x1 x2 → P5 x1 x2 → G) : G := by obtain ⟨h1, ⟨h2, ⟨h3, ⟨y1, ⟨y2, ⟨h4, h5⟩⟩⟩⟩⟩⟩ := h; exact g h1 h2 h3 y1 y2 h4 h5
theorem ob38 {G : Prop} {A1 : Sort _} {A2 : Sort _} {P1 : A1 → A2 → Prop} {P2 : A1 → A2 → Prop} {P3 : A1 → A2 → Prop} {P4 : A1 → A2 → Prop} (h : ∃ x1 : A1, ∃ x2 : A2, (P1 x1 x2 ∧ P2 x1 x2) ∧ P3 x1 x2 ∧ P4 x1 x2) (g : ∀ x1, ∀ x2, P1 x1 x2 → P2 x1 x2 → P3 x1 x2 → P4 x1 x2 → G) : G := by obtain ⟨y1, ⟨y2, ⟨⟨h1, h2⟩, ⟨h3, h4⟩⟩⟩⟩ := h; exact g y1 y2 h1 h2 h3 h4
theorem ob39 {G : Prop} {P1 : Prop} {P2 : Prop} {P3 : Prop} {P4 : Prop} (h : ((P1 ∧ P2) ∧ P3) ∧ P4) (g : P1 → P2 → P3 → P4 → G) : G := by obtain ⟨⟨⟨h1, h2⟩, h3⟩, h4⟩ := h; exact g h1 h2 h3 h4
theorem ob40 {G : Prop} {A1 : Sort _} {P1 : A1 → Prop} {P2 : A1 → Prop} {P3 : A1 → Prop} {P4 : A1 → Prop} {P5 : A1 → Prop} {P6 : A1 → Prop} (h : ∃ x1 : A1, P1 x1 ∧ (P2 x1 ∧ P3 x1 ∧ P4 x1 ∧ P5 x1) ∧ P6 x1) (g : ∀ x1, P1 x1 → P2 x1 → P3 x1 → P4 x1 → P5 x1 → P6 x1 → G) : G := by obtain ⟨y1, ⟨h1, ⟨⟨h2, ⟨h3, ⟨h4, h5⟩⟩⟩, h6⟩⟩⟩ := h; exact g y1 h1 h2 h3 h4 h5 h6
theorem ob41 {G : Prop} {A1 : Sort _} {P1 : A1 → Prop} {P2 : A1 → Prop} {P3 : A1 → Prop} {P4 : A1 → Prop} {P5 : A1 → Prop} {P6 : A1 → Prop} {P7 : A1 → Prop} {P8 : A1 → Prop} (h : ∃ x1 : A1, P1 x1 ∧ (P2 x1 ∧ P3 x1 ∧ P4 x1 ∧ P5 x1 ∧ P6 x1 ∧ P7 x1) ∧ P8 x1) (g : ∀ x1, P1 x1 → P2 x1 → P3 x1 → P4 x1 → P5 x1 → P6 x1 → P7 x1 → P8 x1 → G) : G := by obtain ⟨y1, ⟨h1, ⟨⟨h2, ⟨h3, ⟨h4, ⟨h5, ⟨h6, h7⟩⟩⟩⟩⟩, h8⟩⟩⟩ := h; exact g y1 h1 h2 h3 h4 h5 h6 h7 h8
theorem ob42 {G : Prop} {A1 : Sort _} {A2 : Sort _} {A3 : Sort _} {A4 : Sort _} {P1 : A1 → A2 → A3 → A4 → Prop} {P2 : A1 → A2 → A3 → A4 → Prop} {P3 : A1 → A2 → A3 → A4 → Prop} {P4 : A1 → A2 → A3 → A4 → Prop} {P5 : A1 → A2 → A3 → A4 → Prop} (h : ∃ x1 : A1, ∃ x2 : A2, ∃ x3 : A3, ∃ x4 : A4, P1 x1 x2 x3 x4 ∧ P2 x1 x2 x3 x4 ∧ P3 x1 x2 x3 x4 ∧ P4 x1 x2 x3 x4 ∧ P5 x1 x2 x3 x4) (g : ∀ x1, ∀ x2, ∀ x3, ∀ x4, P1 x1 x2 x3 x4 → P2 x1 x2 x3 x4 → P3 x1 x2 x3 x4 → P4 x1 x2 x3 x4 → P5 x1 x2 x3 x4 → G) : G := by obtain ⟨y1, ⟨y2, ⟨y3, ⟨y4, ⟨h1, ⟨h2, ⟨h3, ⟨h4, h5⟩⟩⟩⟩⟩⟩⟩⟩ := h; exact g y1 y2 y3 y4 h1 h2 h3 h4 h5
theorem ob43 {G : Prop} {P1 : Prop} {P2 : Prop} {P3 : Prop} {P4 : Prop} {P5 : Prop} {P6 : Prop} {P7 : Prop} (h : (((((P1 ∧ P2) ∧ P3) ∧ P4) ∧ P5) ∧ P6) ∧ P7) (g : P1 → P2 → P3 → P4 → P5 → P6 → P7 → G) : G := by obtain ⟨⟨⟨⟨⟨⟨h1, h2⟩, h3⟩, h4⟩, h5⟩, h6⟩, h7⟩ := h; exact g h1 h2 h3 h4 h5 h6 h7
theorem ob44 {G : Prop} {A1 : Sort _} {A2 : Sort _} {A3 : Sort _} {A4 : Sort _} {A5 : Sort _} {A6 : Sort _} {A7 : Sort _} {P1 : A1 → A2 → A3 → A4 → A5 → A6 → A7 → Prop} {P2 : A1 → A2 → A3 → A4 → A5 → A6 → A7 → Prop} {P3 : A1 → A2 → A3 → A4 → A5 → A6 → A7 → Prop} {P4 : A1 → A2 → A3 → A4 → A5 → A6 → A7 → Prop} {P5 : A1 → A2 → A3 → A4 → A5 → A6 → A7 → Prop} {P6 : A1 → A2 → A3 → A4 → A5 → A6 → A7 → Prop} {P7 : A1 → A2 → A3 → A4 → A5 → A6 → A7 → Prop} (h : ∃ x1 : A1, ∃ x2 : A2, ∃ x3 : A3, ∃ x4 : A4, ∃ x5 : A5, ∃ x6 : A6, ∃ x7 : A7, P1 x1 x2 x3 x4 x5 x6 x7 ∧ P2 x1 x2 x3 x4 x5 x6 x7 ∧ P3 x1 x2 x3 x4 x5 x6 x7 ∧ P4 x1 x2 x3 x4 x5 x6 x7 ∧ P5 x1 x2 x3 x4 x5 x6 x7 ∧ P6 x1 x2 x3 x4 x5 x6 x7 ∧ P7 x1 x2 x3 x4 x5 x6 x7) (g : ∀ x1, ∀ x2, ∀ x3, ∀ x4, ∀ x5, ∀ x6, ∀ x7, P1 x1 x2 x3 x4 x5 x6 x7 → P2 x1 x2 x3 x4 x5 x6 x7 → P3 x1 x2 x3 x4 x5 x6 x7 → P4 x1 x2 x3 x4 x5 x6 x7 → P5 x1 x2 x3 x4 x5 x6 x7 → P6 x1 x2 x3 x4 x5 x6 x7 → P7 x1 x2 x3 x4 x5 x6 x7 → G) : G := by obtain ⟨y1, ⟨y2, ⟨y3, ⟨y4, ⟨y5, ⟨y6, ⟨y7, ⟨h1, ⟨h2, ⟨h3, ⟨h4, ⟨h5, ⟨h6, h7⟩⟩⟩⟩⟩⟩⟩⟩⟩⟩⟩⟩⟩ := h; exact g y1 y2 y3 y4 y5 y6 y7 h1 h2 h3 h4 h5 h6 h7
theorem ob45 {G : Prop} {A1 : Sort _} {A2 : Sort _} {A3 : Sort _} {A4 : Sort _} {A5 : Sort _} {P1 : A1 → Prop} {P2 : A1 → Prop} {P3 : A1 → A2 → A3 → A4 → A5 → Prop} {P4 : A1 → A2 → A3 → A4 → A5 → Prop} {P5 : A1 → A2 → A3 → A4 → A5 → Prop} {P6 : A1 → Prop} {P7 : A1 → Prop} {P8 : A1 → Prop} (h : ∃ x1 : A1, P1 x1 ∧ P2 x1 ∧ (∃ x2 : A2, ∃ x3 : A3, ∃ x4 : A4, ∃ x5 : A5, P3 x1 x2 x3 x4 x5 ∧ P4 x1 x2 x3 x4 x5 ∧ P5 x1 x2 x3 x4 x5) ∧ P6 x1 ∧ P7 x1 ∧ P8 x1) (g : ∀ x1, P1 x1 → P2 x1 → ∀ x2, ∀ x3, ∀ x4, ∀ x5, P3 x1 x2 x3 x4 x5 → P4 x1 x2 x3 x4 x5 → P5 x1 x2 x3 x4 x5 → P6 x1 → P7 x1 → P8 x1 → G) : G := by obtain ⟨y1, ⟨h1, ⟨h2, ⟨⟨y2, ⟨y3, ⟨y4, ⟨y5, ⟨h3, ⟨h4, h5⟩⟩⟩⟩⟩⟩, ⟨h6, ⟨h7, h8⟩⟩⟩⟩⟩⟩ := h; exact g y1 h1 h2 y2 y3 y4 y5 h3 h4 h5 h6 h7 h8
theorem ob46 {G : Prop} {A1 : Sort _} {A2 : Sort _} {A3 : Sort _} {A4 : Sort _} {A5 : Sort _} {A6 : Sort _} {P1 : A1 → A2 → A3 → A4 → A5 → A6 → Prop} (h : ∃ x1 : A1, ∃ x2 : A2, ∃ x3 : A3, ∃ x4 : A4, ∃ x5 : A5, ∃ x6 : A6, P1 x1 x2 x3 x4 x5 x6) (g : ∀ x1, ∀ x2, ∀ x3, ∀ x4, ∀ x5, ∀ x6, P1 x1 x2 x3 x4 x5 x6 → G) : G := by obtain ⟨y1, ⟨y2, ⟨y3, ⟨y4, ⟨y5, ⟨y6, h1⟩⟩⟩⟩⟩⟩ := h; exact g y1 y2 y3 y4 y5 y6 h1
theorem ob47 {G : Prop} {A1 : Sort _} {A2 : Sort _} {P1 : A1 → Prop} {P2 : A1 → Prop} {P3 : A1 → A2 → Prop} {P4 : A1 → Prop} {P5 : A1 → Prop} {P6 : A1 → Prop} (h : ∃ x1 : A1, P1 x1 ∧ P2 x1 ∧ (∃ x2 : A2, P3 x1 x2) ∧ P4 x1 ∧ P5 x1 ∧ P6 x1) (g : ∀ x1, P1 x1 → P2 x1 → ∀ x2, P3 x1 x2 → P4 x1 → P5 x1 → P6 x1 → G) : G := by obtain ⟨y1, ⟨h1, ⟨h2, ⟨⟨y2, h3⟩, ⟨h4, ⟨h5, h6⟩⟩⟩⟩⟩⟩ := h; exact g y1 h1 h2 y2 h3 h4 h5 h6
theorem ob48 {G : Prop} {A1 : Sort _} {A2 : Sort _} {A3 : Sort _} {P1 : A1 → A2 → A3 → Prop} {P2 : A1 → A2 → A3 → Prop} {P3 : A1 → A2 → A3 → Prop} {P4 : A1 → A2 → A3 → Prop} {P5 : A1 → A2 → A3 → Prop} {P6 : A1 → A2 → A3 → Prop} {P7 : A1 → A2 → A3 → Prop} (h : ∃ x1 : A1, ∃ x2 : A2, ∃ x3 : A3, P1 x1 x2 x3 ∧ P2 x1 x2 x3 ∧ P3 x1 x2 x3 ∧ P4 x1 x2 x3 ∧ P5 x1 x2 x3 ∧ P6 x1 x2 x3 ∧ P7 x1 x2 x3) (g : ∀ x1, ∀ x2, ∀ x3, P1 x1 x2 x3 → P2 x1 x2 x3 → P3 x1 x2 x3 → P4 x1 x2 x3 → P5 x1 x2 x3 → P6 x1 x2 x3 → P7 x1 x2 x3 → G) : G := by obtain ⟨y1, ⟨y2, ⟨y3, ⟨h1, ⟨h2, ⟨h3, ⟨h4, ⟨h5, ⟨h6, h7⟩⟩⟩⟩⟩⟩⟩⟩⟩ := h; exact g y1 y2 y3 h1 h2 h3 h4 h5 h6 h7
theorem ob49 {G : Prop} {A1 : Sort _} {A2 : Sort _} {A3 : Sort _} {P1 : A1 → A2 → A3 → Prop} {P2 : A1 → A2 → A3 → Prop} {P3 : A1 → A2 → A3 → Prop} {P4 : A1 → A2 → A3 → Prop} {P5 : A1 → A2 → A3 → Prop} {P6 : A1 → A2 → A3 → Prop} {P7 : A1 → A2 → A3 → Prop} {P8 : A1 → A2 → A3 → Prop} {P9 : A1 → A2 → A3 → Prop} {P10 : A1 → A2 → A3 → Prop} {P11 : A1 → A2 → A3 → Prop} {P12 : A1 → A2 → A3 → Prop} {P13 : A1 → A2 → A3 → Prop} {P14 : A1 → A2 → A3 → Prop} (h : ∃ x1 : A1, ∃ x2 : A2, ∃ x3 : A3, P1 x1 x2 x3 ∧ P2 x1 x2 x3 ∧ P3 x1 x2 x3 ∧ P4 x1 x2 x3 ∧ P5 x1 x2 x3 ∧ P6 x1 x2 x3 ∧ P7 x1 x2 x3 ∧ P8 x1 x2 x3 ∧ P9 x1 x2 x3 ∧ P10 x1 x2 x3 ∧ P11 x1 x2 x3 ∧ P12 x1 x2 x3 ∧ P13 x1 x2 x3 ∧ P14 x1 x2 x3) (g : ∀ x1, ∀ x2, ∀ x3, P1 x1 x2 x3 → P2 x1 x2 x3 → P3 x1 x2 x3 → P4 x1 x2 x3 → P5 x1 x2 x3 → P6 x1 x2 x3 → P7 x1 x2 x3 → P8 x1 x2 x3 → P9 x1 x2 x3 → P10 x1 x2 x3 → P11 x1 x2 x3 → P12 x1 x2 x3 → P13 x1 x2 x3 → P14 x1 x2 x3 → G) : G := by obtain ⟨y1, ⟨y2, ⟨y3, ⟨h1, ⟨h2, ⟨h3, ⟨h4, ⟨h5, ⟨h6, ⟨h7, ⟨h8, ⟨h9, ⟨h10, ⟨h11, ⟨h12, ⟨h13, h14⟩⟩⟩⟩⟩⟩⟩⟩⟩⟩⟩⟩⟩⟩⟩⟩ := h; exact g y1 y2 y3 h1 h2 h3 h4 h5 h6 h7 h8 h9 h10 h11 h12 h13 h14
theorem ob50 {G : Prop} {A1 : Sort _} {P1 : A1 → Prop} {P2 : A1 → Prop} {P3 : A1 → Prop} {P4 : A1 → Prop} {P5 : A1 → Prop} {P6 : A1 → Prop} (h : ∃ x1 : A1, P1 x1 ∧ P2 x1 ∧ P3 x1 ∧ P4 x1 ∧ P5 x1 ∧ P6 x1) (g : ∀ x1, P1 x1 → P2 x1 → P3 x1 → P4 x1 → P5 x1 → P6 x1 → G) : G := by obtain ⟨y1, ⟨h1, ⟨h2, ⟨h3, ⟨h4, ⟨h5, h6⟩⟩⟩⟩⟩⟩ := h; exact g y1 h1 h2 h3 h4 h5 h6
theorem ob51 {G : Prop} {P1 : Prop} {P2 : Prop} {P3 : Prop} {P4 : Prop} {P5 : Prop} {P6 : Prop} {P7 : Prop} {P8 : Prop} {P9 : Prop} {P10 : Prop} {P11 : Prop} {P12 : Prop} {P13 : Prop} {P14 : Prop} (h : ((((((((((((P1 ∧ P2) ∧ P3) ∧ P4) ∧ P5) ∧ P6) ∧ P7) ∧ P8) ∧ P9) ∧ P10) ∧ P11) ∧ P12) ∧ P13) ∧ P14) (g : P1 → P2 → P3 → P4 → P5 → P6 → P7 → P8 → P9 → P10 → P11 → P12 → P13 → P14 → G) : G := by obtain ⟨⟨⟨⟨⟨⟨⟨⟨⟨⟨⟨⟨⟨h1, h2⟩, h3⟩, h4⟩, h5⟩, h6⟩, h7⟩, h8⟩, h9⟩, h10⟩, h11⟩, h12⟩, h13⟩, h14⟩ := h; exact g h1 h2 h3 h4 h5 h6 h7 h8 h9 h10 h11 h12 h13 h14
theorem ob52 {G : Prop} {A1 : Sort _} {A2 : Sort _} {A3 : Sort _} {A4 : Sort _} {A5 : Sort _} {P1 : A1 → Prop} {P2 : A1 → Prop} {P3 : A1 → Prop} {P4 : A1 → Prop} {P5 : A1 → A2 → A3 → A4 → A5 → Prop} (h : ∃ x1 : A1, P1 x1 ∧ P2 x1 ∧ P3 x1 ∧ P4 x1 ∧ (∃ x2 : A2, ∃ x3 : A3, ∃ x4 : A4, ∃ x5 : A5, P5 x1 x2 x3 x4 x5)) (g : ∀ x1, P1 x1 → P2 x1 → P3 x1 → P4 x1 → ∀ x2, ∀ x3, ∀ x4, ∀ x5, P5 x1 x2 x3 x4 x5 → G) : G := by obtain ⟨y1, ⟨h1, ⟨h2, ⟨h3, ⟨h4, ⟨y2, ⟨y3, ⟨y4, ⟨y5, h5⟩⟩⟩⟩⟩⟩⟩⟩⟩ := h; exact g y1 h1 h2 h3 h4 y2 y3 y4 y5 h5
theorem ob53 {G : Prop} {A1 : Sort _} {A2 : Sort _} {A3 : Sort _} {A4 : Sort _} {P1 : A1 → Prop} {P2 : A1 → Prop} {P3 : A1 → Prop} {P4 : A1 → Prop} {P5 : A1 → A2 → A3 → A4 → Prop} (h : ∃ x1 : A1, P1 x1 ∧ P2 x1 ∧ P3 x1 ∧ P4 x1 ∧ (∃ x2 : A2, ∃ x3 : A3, ∃ x4 : A4, P5 x1 x2 x3 x4)) (g : ∀ x1, P1 x1 → P2 x1 → P3 x1 → P4 x1 → ∀ x2, ∀ x3, ∀ x4, P5 x1 x2 x3 x4 → G) : G := by obtain ⟨y1, ⟨h1, ⟨h2, ⟨h3, ⟨h4, ⟨y2, ⟨y3, ⟨y4, h5⟩⟩⟩⟩⟩⟩⟩⟩ := h; exact g y1 h1 h2 h3 h4 y2 y3 y4 h5
theorem ob54 {G : Prop} {P1 : Prop} {P2 : Prop} {P3 : Prop} {P4 : Prop} (h : P1 ∧ P2 ∧ P3 ∧ P4) (g : P1 → P2 → P3 → P4 → G) : G := by obtain ⟨h1, ⟨h2, ⟨h3, h4⟩⟩⟩ := h; exact g h1 h2 h3 h4
theorem ob55 {G : Prop} {A1 : Sort _} {A2 : Sort _} {A3 : Sort _} {P1 : Prop} {P2 : Prop} {P3 : Prop} {P4 : A1 → A2 → A3 → Prop} (h : P1 ∧ P2 ∧ P3 ∧ (∃ x1 : A1, ∃ x2 : A2, ∃ x3 : A3, P4 x1 x2 x3)) (g : P1 → P2 → P3 → ∀ x1, ∀ x2, ∀ x3, P4 x1 x2 x3 → G) : G := by obtain ⟨h1, ⟨h2, ⟨h3, ⟨y1, ⟨y2, ⟨y3, h4⟩⟩⟩⟩⟩⟩ := h; exact g h1 h2 h3 y1 y2 y3 h4
theorem ob56 {G : Prop} {A1 : Sort _} {A2 : Sort _} {P1 : Prop} {P2 : Prop} {P3 : A1 → A2 → Prop} (h : P1 ∧ P2 ∧ (∃ x1 : A1, ∃ x2 : A2, P3 x1 x2)) (g : P1 → P2 → ∀ x1, ∀ x2, P3 x1 x2 → G) : G := by obtain ⟨h1, ⟨h2, ⟨y1, ⟨y2, h3⟩⟩⟩⟩ := h; exact g h1 h2 y1 y2 h3
theorem ob57 {G : Prop} {A1 : Sort _} {P1 : Prop} {P2 : A1 → Prop} (h : P1 ∧ (∃ x1 : A1, P2 x1)) (g : P1 → ∀ x1, P2 x1 → G) : G := by obtain ⟨h1, ⟨y1, h2⟩⟩ := h; exact g h1 y1 h2
theorem ob58 {G : Prop} {A1 : Sort _} {P1 : Prop} {P2 : Prop} {P3 : A1 → Prop} (h : P1 ∧ P2 ∧ (∃ x1 : A1, P3 x1)) (g : P1 → P2 → ∀ x1, P3 x1 → G) : G := by obtain ⟨h1, ⟨h2, ⟨y1, h3⟩⟩⟩ := h; exact g h1 h2 y1 h3
theorem ob59 {G : Prop} {A1 : Sort _} {A2 : Sort _} {P1 : A1 → A2 → Prop} {P2 : A1 → A2 → Prop} {P3 : A1 → A2 → Prop} {P4 : A1 → A2 → Prop} {P5 : A1 → A2 → Prop} (h : ∃ x1 : A1, ∃ x2 : A2, P1 x1 x2 ∧ P2 x1 x2 ∧ P3 x1 x2 ∧ P4 x1 x2 ∧ P5 x1 x2) (g : ∀ x1, ∀ x2, P1 x1 x2 → P2 x1 x2 → P3 x1 x2 → P4 x1 x2 → P5 x1 x2 → G) : G := by obtain ⟨y1, ⟨y2, ⟨h1, ⟨h2, ⟨h3, ⟨h4, h5⟩⟩⟩⟩⟩⟩ := h; exact g y1 y2 h1 h2 h3 h4 h5
theorem ob60 {G : Prop} {A1 : Sort _} {A2 : Sort _} {A3 : Sort _} {A4 : Sort _} {P1 : A1 → A2 → A3 → A4 → Prop} {P2 : A1 → A2 → A3 → A4 → Prop} {P3 : A1 → A2 → A3 → A4 → Prop} {P4 : A1 → A2 → A3 → A4 → Prop} {P5 : A1 → A2 → A3 → A4 → Prop} {P6 : A1 → A2 → A3 → A4 → Prop} (h : ∃ x1 : A1, ∃ x2 : A2, ∃ x3 : A3, ∃ x4 : A4, P1 x1 x2 x3 x4 ∧ P2 x1 x2 x3 x4 ∧ P3 x1 x2 x3 x4 ∧ P4 x1 x2 x3 x4 ∧ P5 x1 x2 x3 x4 ∧ P6 x1 x2 x3 x4) (g : ∀ x1, ∀ x2, ∀ x3, ∀ x4, P1 x1 x2 x3 x4 → P2 x1 x2 x3 x4 → P3 x1 x2 x3 x4 → P4 x1 x2 x3 x4 → P5 x1 x2 x3 x4 → P6 x1 x2 x3 x4 → G) : G := by obtain ⟨y1, ⟨y2, ⟨y3, ⟨y4, ⟨h1, ⟨h2, ⟨h3, ⟨h4, ⟨h5, h6⟩⟩⟩⟩⟩⟩⟩⟩⟩ := h; exact g y1 y2 y3 y4 h1 h2 h3 h4 h5 h6
theorem ob61 {G : Prop} {A1 : Sort _} {A2 : Sort _} {A3 : Sort _} {A4 : Sort _} {A5 : Sort _} {A6 : Sort _} {P1 : A1 → A2 → A3 → A4 → A5 → A6 → Prop} {P2 : A1 → A2 → A3 → A4 → A5 → A6 → Prop} {P3 : A1 → A2 → A3 → A4 → A5 → A6 → Prop} {P4 : A1 → A2 → A3 → A4 → A5 → A6 → Prop} {P5 : A1 → A2 → A3 → A4 → A5 → A6 → Prop} {P6 : A1 → A2 → A3 → A4 → A5 → A6 → Prop} (h : ∃ x1 : A1, ∃ x2 : A2, ∃ x3 : A3, ∃ x4 : A4, ∃ x5 : A5, ∃ x6 : A6, P1 x1 x2 x3 x4 x5 x6 ∧ P2 x1 x2 x3 x4 x5 x6 ∧ P3 x1 x2 x3 x4 x5 x6 ∧ P4 x1 x2 x3 x4 x5 x6 ∧ P5 x1 x2 x3 x4 x5 x6 ∧ P6 x1 x2 x3 x4 x5 x6) (g : ∀ x1, ∀ x2, ∀ x3, ∀ x4, ∀ x5, ∀ x6, P1 x1 x2 x3 x4 x5 x6 → P2 x1 x2 x3 x4 x5 x6 → P3 x1 x2 x3 x4 x5 x6 → P4 x1 x2 x3 x4 x5 x6 → P5 x1 x2 x3 x4 x5 x6 → P6 x1 x2 x3 x4 x5 x6 → G) : G := by obtain ⟨y1, ⟨y2, ⟨y3, ⟨y4, ⟨y5, ⟨y6, ⟨h1, ⟨h2, ⟨h3, ⟨h4, ⟨h5, h6⟩⟩⟩⟩⟩⟩⟩⟩⟩⟩⟩ := h; exact g y1 y2 y3 y4 y5 y6 h1 h2 h3 h4 h5 h6
theorem ob62 {G : Prop} {P1 : Prop} {P2 : Prop} {P3 : Prop} {P4 : Prop} (h : (P1 ∧ P2) ∧ P3 ∧ P4) (g : P1 → P2 → P3 → P4 → G) : G := by obtain ⟨⟨h1, h2⟩, ⟨h3, h4⟩⟩ := h; exact g h1 h2 h3 h4
theorem ob63 {G : Prop} {A1 : Sort _} {A2 : Sort _} {A3 : Sort _} {A4 : Sort _} {A5 : Sort _} {P1 : A1 → A2 → A3 → A4 → Prop} {P2 : A1 → A2 → A3 → A4 → Prop} {P3 : A1 → A2 → A3 → A4 → Prop} {P4 : A1 → A2 → A3 → A4 → Prop} {P5 : A1 → A2 → A3 → A4 → A5 → Prop} (h : ∃ x1 : A1, ∃ x2 : A2, ∃ x3 : A3, ∃ x4 : A4, (P1 x1 x2 x3 x4 ∧ P2 x1 x2 x3 x4) ∧ P3 x1 x2 x3 x4 ∧ P4 x1 x2 x3 x4 ∧ (∃ x5 : A5, P5 x1 x2 x3 x4 x5)) (g : ∀ x1, ∀ x2, ∀ x3, ∀ x4, P1 x1 x2 x3 x4 → P2 x1 x2 x3 x4 → P3 x1 x2 x3 x4 → P4 x1 x2 x3 x4 → ∀ x5, P5 x1 x2 x3 x4 x5 → G) : G := by obtain ⟨y1, ⟨y2, ⟨y3, ⟨y4, ⟨⟨h1, h2⟩, ⟨h3, ⟨h4, ⟨y5, h5⟩⟩⟩⟩⟩⟩⟩⟩ := h; exact g y1 y2 y3 y4 h1 h2 h3 h4 y5 h5
theorem ob64 {G : Prop} {A1 : Sort _} {A2 : Sort _} {A3 : Sort _} {A4 : Sort _} {A5 : Sort _} {A6 : Sort _} {P1 : A1 → A2 → A3 → A4 → A5 → A6 → Prop} {P2 : A1 → A2 → A3 → A4 → A5 → A6 → Prop} {P3 : A1 → A2 → A3 → A4 → A5 → A6 → Prop} {P4 : A1 → A2 → A3 → A4 → A5 → A6 → Prop} (h : ∃ x1 : A1, ∃ x2 : A2, ∃ x3 : A3, ∃ x4 : A4, ∃ x5 : A5, ∃ x6 : A6, (P1 x1 x2 x3 x4 x5 x6 ∧ P2 x1 x2 x3 x4 x5 x6) ∧ P3 x1 x2 x3 x4 x5 x6 ∧ P4 x1 x2 x3 x4 x5 x6) (g : ∀ x1, ∀ x2, ∀ x3, ∀ x4, ∀ x5, ∀ x6, P1 x1 x2 x3 x4 x5 x6 → P2 x1 x2 x3 x4 x5 x6 → P3 x1 x2 x3 x4 x5 x6 → P4 x1 x2 x3 x4 x5 x6 → G) : G := by obtain ⟨y1, ⟨y2, ⟨y3, ⟨y4, ⟨y5, ⟨y6, ⟨⟨h1, h2⟩, ⟨h3, h4⟩⟩⟩⟩⟩⟩⟩⟩ := h; exact g y1 y2 y3 y4 y5 y6 h1 h2 h3 h4
theorem ob65 {G : Prop} {A1 : Sort _} {A2 : Sort _} {A3 : Sort _} {A4 : Sort _} {A5 : Sort _} {A6 : Sort _} {A7 : Sort _} {A8 : Sort _} {P1 : A1 → A2 → A3 → A4 → A5 → A6 → Prop} {P2 : A1 → A2 → A3 → A4 → A5 → A6 → Prop} {P3 : A1 → A2 → A3 → A4 → A5 → A6 → Prop} {P4 : A1 → A2 → A3 → A4 → A5 → A6 → Prop} {P5 : A1 → A2 → A3 → A4 → A5 → A6 → A7 → A8 → Prop} (h : ∃ x1 : A1, ∃ x2 : A2, ∃ x3 : A3, ∃ x4 : A4, ∃ x5 : A5, ∃ x6 : A6, (P1 x1 x2 x3 x4 x5 x6 ∧ P2 x1 x2 x3 x4 x5 x6) ∧ P3 x1 x2 x3 x4 x5 x6 ∧ P4 x1 x2 x3 x4 x5 x6 ∧ (∃ x7 : A7, ∃ x8 : A8, P5 x1 x2 x3 x4 x5 x6 x7 x8)) (g : ∀ x1, ∀ x2, ∀ x3, ∀ x4, ∀ x5, ∀ x6, P1 x1 x2 x3 x4 x5 x6 → P2 x1 x2 x3 x4 x5 x6 → P3 x1 x2 x3 x4 x5 x6 → P4 x1 x2 x3 x4 x5 x6 → ∀ x7, ∀ x8, P5 x1 x2 x3 x4 x5 x6 x7 x8 → G) : G := by obtain ⟨y1, ⟨y2, ⟨y3, ⟨y4, ⟨y5, ⟨y6, ⟨⟨h1, h2⟩, ⟨h3, ⟨h4, ⟨y7, ⟨y8, h5⟩⟩⟩⟩⟩⟩⟩⟩⟩⟩⟩ := h; exact g y1 y2 y3 y4 y5 y6 h1 h2 h3 h4 y7 y8 h5
theorem ob66 {G : Prop} {A1 : Sort _} {A2 : Sort _} {A3 : Sort _} {P1 : Prop} {P2 : Prop} {P3 : A1 → A2 → A3 → Prop} (h : P1 ∧ P2 ∧ (∃ x1 : A1, ∃ x2 : A2, ∃ x3 : A3, P3 x1 x2 x3)) (g : P1 → P2 → ∀ x1, ∀ x2, ∀ x3, P3 x1 x2 x3 → G) : G := by obtain ⟨h1, ⟨h2, ⟨y1, ⟨y2, ⟨y3, h3⟩⟩⟩⟩⟩ := h; exact g h1 h2 y1 y2 y3 h3
theorem ob67 {G : Prop} {A1 : Sort _} {A2 : Sort _} {A3 : Sort _} {A4 : Sort _} {A5 : Sort _} {A6 : Sort _} {P1 : A1 → A2 → A3 → A4 → A5 → A6 → Prop} {P2 : A1 → A2 → A3 → A4 → A5 → A6 → Prop} {P3 : A1 → A2 → A3 → A4 → A5 → A6 → Prop} {P4 : A1 → A2 → A3 → A4 → A5 → A6 → Prop} {P5 : A1 → A2 → A3 → A4 → A5 → A6 → Prop} (h : ∃ x1 : A1, ∃ x2 : A2, ∃ x3 : A3, ∃ x4 : A4, ∃ x5 : A5, ∃ x6 : A6, P1 x1 x2 x3 x4 x5 x6 ∧ P2 x1 x2 x3 x4 x5 x6 ∧ P3 x1 x2 x3 x4 x5 x6 ∧ P4 x1 x2 x3 x4 x5 x6 ∧ P5 x1 x2 x3 x4 x5 x6) (g : ∀ x1, ∀ x2, ∀ x3, ∀ x4, ∀ x5, ∀ x6, P1 x1 x2 x3 x4 x5 x6 → P2 x1 x2 x3 x4 x5 x6 → P3 x1 x2 x3 x4 x5 x6 → P4 x1 x2 x3 x4 x5 x6 → P5 x1 x2 x3 x4 x5 x6 → G) : G := by obtain ⟨y1, ⟨y2, ⟨y3, ⟨y4, ⟨y5, ⟨y6, ⟨h1, ⟨h2, ⟨h3, ⟨h4, h5⟩⟩⟩⟩⟩⟩⟩⟩⟩⟩ := h; exact g y1 y2 y3 y4 y5 y6 h1 h2 h3 h4 h5
theorem ob68 {G : Prop} {A1 : Sort _} {A2 : Sort _} {A3 : Sort _} {A4 : Sort _} {A5 : Sort _} {A6 : Sort _} {P1 : A1 → A2 → A3 → A4 → A5 → A6 → Prop} {P2 : A1 → A2 → A3 → A4 → A5 → A6 → Prop} (h : ∃ x1 : A1, ∃ x2 : A2, ∃ x3 : A3, ∃ x4 : A4, ∃ x5 : A5, ∃ x6 : A6, P1 x1 x2 x3 x4 x5 x6 ∧ P2 x1 x2 x3 x4 x5 x6) (g : ∀ x1, ∀ x2, ∀ x3, ∀ x4, ∀ x5, ∀ x6, P1 x1 x2 x3 x4 x5 x6 → P2 x1 x2 x3 x4 x5 x6 → G) : G := by obtain ⟨y1, ⟨y2, ⟨y3, ⟨y4, ⟨y5, ⟨y6, ⟨h1, h2⟩⟩⟩⟩⟩⟩⟩ := h; exact g y1 y2 y3 y4 y5 y6 h1 h2
theorem ob69 {G : Prop} {A1 : Sort _} {A2 : Sort _} {A3 : Sort _} {P1 : A1 → A2 → A3 → Prop} {P2 : A1 → A2 → A3 → Prop} {P3 : A1 → A2 → A3 → Prop} {P4 : A1 → A2 → A3 → Prop} {P5 : A1 → A2 → A3 → Prop} {P6 : A1 → A2 → A3 → Prop} {P7 : A1 → A2 → A3 → Prop} {P8 : A1 → A2 → A3 → Prop} (h : ∃ x1 : A1, ∃ x2 : A2, ∃ x3 : A3, P1 x1 x2 x3 ∧ P2 x1 x2 x3 ∧ P3 x1 x2 x3 ∧ P4 x1 x2 x3 ∧ P5 x1 x2 x3 ∧ P6 x1 x2 x3 ∧ P7 x1 x2 x3 ∧ P8 x1 x2 x3) (g : ∀ x1, ∀ x2, ∀ x3, P1 x1 x2 x3 → P2 x1 x2 x3 → P3 x1 x2 x3 → P4 x1 x2 x3 → P5 x1 x2 x3 → P6 x1 x2 x3 → P7 x1 x2 x3 → P8 x1 x2 x3 → G) : G := by obtain ⟨y1, ⟨y2, ⟨y3, ⟨h1, ⟨h2, ⟨h3, ⟨h4, ⟨h5, ⟨h6, ⟨h7, h8⟩⟩⟩⟩⟩⟩⟩⟩⟩⟩ := h; exact g y1 y2 y3 h1 h2 h3 h4 h5 h6 h7 h8
theorem ob70 {G : Prop} {A1 : Sort _} {A2 : Sort _} {A3 : Sort _} {P1 : A1 → A2 → A3 → Prop} {P2 : A1 → A2 → A3 → Prop} {P3 : A1 → A2 → A3 → Prop} {P4 : A1 → A2 → A3 → Prop} {P5 : A1 → A2 → A3 → Prop} {P6 : A1 → A2 → A3 → Prop} {P7 : A1 → A2 → A3 → Prop} {P8 : A1 → A2 → A3 → Prop} {P9 : A1 → A2 → A3 → Prop} (h : ∃ x1 : A1, ∃ x2 : A2, ∃ x3 : A3, P1 x1 x2 x3 ∧ P2 x1 x2 x3 ∧ P3 x1 x2 x3 ∧ P4 x1 x2 x3 ∧ P5 x1 x2 x3 ∧ P6 x1 x2 x3 ∧ P7 x1 x2 x3 ∧ P8 x1 x2 x3 ∧ P9 x1 x2 x3) (g : ∀ x1, ∀ x2, ∀ x3, P1 x1 x2 x3 → P2 x1 x2 x3 → P3 x1 x2 x3 → P4 x1 x2 x3 → P5 x1 x2 x3 → P6 x1 x2 x3 → P7 x1 x2 x3 → P8 x1 x2 x3 → P9 x1 x2 x3 → G) : G := by obtain ⟨y1, ⟨y2, ⟨y3, ⟨h1, ⟨h2, ⟨h3, ⟨h4, ⟨h5, ⟨h6, ⟨h7, ⟨h8, h9⟩⟩⟩⟩⟩⟩⟩⟩⟩⟩⟩ := h; exact g y1 y2 y3 h1 h2 h3 h4 h5 h6 h7 h8 h9
theorem ob71 {G : Prop} {A1 : Sort _} {P1 : Prop} {P2 : A1 → Prop} {P3 : A1 → Prop} (h : P1 ∧ (∃ x1 : A1, P2 x1 ∧ P3 x1)) (g : P1 → ∀ x1, P2 x1 → P3 x1 → G) : G := by obtain ⟨h1, ⟨y1, ⟨h2, h3⟩⟩⟩ := h; exact g h1 y1 h2 h3
theorem ob72 {G : Prop} {P1 : Prop} {P2 : Prop} {P3 : Prop} {P4 : Prop} {P5 : Prop} (h : P1 ∧ P2 ∧ P3 ∧ P4 ∧ P5) (g : P1 → P2 → P3 → P4 → P5 → G) : G := by obtain ⟨h1, ⟨h2, ⟨h3, ⟨h4, h5⟩⟩⟩⟩ := h; exact g h1 h2 h3 h4 h5
theorem ob73 {G : Prop} {A1 : Sort _} {P1 : A1 → Prop} {P2 : A1 → Prop} {P3 : Prop} (h : (∃ x1 : A1, P1 x1 ∧ P2 x1) ∧ P3) (g : ∀ x1, P1 x1 → P2 x1 → P3 → G) : G := by obtain ⟨⟨y1, ⟨h1, h2⟩⟩, h3⟩ := h; exact g y1 h1 h2 h3
theorem ob74 {G : Prop} {A1 : Sort _} {P1 : Prop} {P2 : Prop} {P3 : A1 → Prop} {P4 : A1 → Prop} (h : P1 ∧ P2 ∧ (∃ x1 : A1, P3 x1 ∧ P4 x1)) (g : P1 → P2 → ∀ x1, P3 x1 → P4 x1 → G) : G := by obtain ⟨h1, ⟨h2, ⟨y1, ⟨h3, h4⟩⟩⟩⟩ := h; exact g h1 h2 y1 h3 h4
theorem ob75 {G : Prop} {A1 : Sort _} {A2 : Sort _} {A3 : Sort _} {A4 : Sort _} {A5 : Sort _} {P1 : A1 → A2 → A3 → A4 → A5 → Prop} {P2 : A1 → A2 → A3 → A4 → A5 → Prop} {P3 : A1 → A2 → A3 → A4 → A5 → Prop} (h : ∃ x1 : A1, ∃ x2 : A2, ∃ x3 : A3, ∃ x4 : A4, ∃ x5 : A5, P1 x1 x2 x3 x4 x5 ∧ P2 x1 x2 x3 x4 x5 ∧ P3 x1 x2 x3 x4 x5) (g : ∀ x1, ∀ x2, ∀ x3, ∀ x4, ∀ x5, P1 x1 x2 x3 x4 x5 → P2 x1 x2 x3 x4 x5 → P3 x1 x2 x3 x4 x5 → G) : G := by obtain ⟨y1, ⟨y2, ⟨y3, ⟨y4, ⟨y5, ⟨h1, ⟨h2, h3⟩⟩⟩⟩⟩⟩⟩ := h; exact g y1 y2 y3 y4 y5 h1 h2 h3
theorem ob76 {G : Prop} {A1 : Sort _} {A2 : Sort _} {A3 : Sort _} {A4 : Sort _} {P1 : Prop} {P2 : Prop} {P3 : A1 → A2 → A3 → A4 → Prop} (h : P1 ∧ P2 ∧ (∃ x1 : A1, ∃ x2 : A2, ∃ x3 : A3, ∃ x4 : A4, P3 x1 x2 x3 x4)) (g : P1 → P2 → ∀ x1, ∀ x2, ∀ x3, ∀ x4, P3 x1 x2 x3 x4 → G) : G := by obtain ⟨h1, ⟨h2, ⟨y1, ⟨y2, ⟨y3, ⟨y4, h3⟩⟩⟩⟩⟩⟩ := h; exact g h1 h2 y1 y2 y3 y4 h3
theorem ob77 {G : Prop} {A1 : Sort _} {A2 : Sort _} {A3 : Sort _} {A4 : Sort _} {A5 : Sort _} {P1 : A1 → A2 → A3 → A4 → A5 → Prop} {P2 : A1 → A2 → A3 → A4 → A5 → Prop} (h : ∃ x1 : A1, ∃ x2 : A2, ∃ x3 : A3, ∃ x4 : A4, ∃ x5 : A5, P1 x1 x2 x3 x4 x5 ∧ P2 x1 x2 x3 x4 x5) (g : ∀ x1, ∀ x2, ∀ x3, ∀ x4, ∀ x5, P1 x1 x2 x3 x4 x5 → P2 x1 x2 x3 x4 x5 → G) : G := by obtain ⟨y1, ⟨y2, ⟨y3, ⟨y4, ⟨y5, ⟨h1, h2⟩⟩⟩⟩⟩⟩ := h; exact g y1 y2 y3 y4 y5 h1 h2
inductive V where
 | none | bool (b : Bool) | int (i : Int) | str (s : Str) | tup (vs : List V) | ref (a : Addr)
 deriving Inhabited
inductive AO where
 | list (vs : List V)
 | fixed (vs : List V)
 | dict (ks : List V)
 | inst (c : String) (d : Addr)
 | ns (fs : List (String × V))
 deriving Inhabited
abbrev Store := Addr → Option AO
noncomputable def Store.upd (σ : Store) (a : Addr) (o : AO) : Store := fun b => if b = a then some o else σ b
abbrev Loc := List (Option V)
noncomputable def Loc.get (ρ : Loc) (i : Nat) : Option V := (ρ[i]?).join
abbrev XP := String → Addr → Store → Prop
structure Calls where
 has : String → String → Bool
 fld : String → String → Prop
 run : String → String → List V → Store → (V → Store → Prop) → XP → Prop
abbrev onT (b : Bool) (P : Prop) : Prop := Bool.rec False P b
theorem zex {b : Bool} {P : Prop} (h : onT b P) : b = true ∧ P := by
 cases b
 ·exact h.elim
 ·exact ⟨rfl, h⟩
inductive Ty where
 | int | bool | tuple | list
 deriving DecidableEq
inductive B1 where
 | len | list | sorted | all | any | dict
 deriving DecidableEq
inductive M0 where
 | pop
 deriving DecidableEq
inductive M1 where
 | append
 deriving DecidableEq
inductive Tg where
 | one (x : Nat)
 | many (xs : List Nat)
 deriving DecidableEq
set_option genSizeOf false
set_option genInjectivity false
mutual
inductive Ex where
 | none | tt | ff | int (i : Int)
 | var (x : Nat)
 | glob (x : String)
 | bin (op : Operator) (a b : Ex)
 | neg (a : Ex)
 | not (a : Ex)
 | cmp (op : CmpOp) (a b : Ex)
 | cmp2 (o₁ o₂ : CmpOp) (a b c : Ex)
 | bool (isAnd : Bool) (es : Exs)
 | call (f : String) (es : Exs)
 | make (c : String) (es : Exs)
 | meth (o : Ex) (name : String) (es : Exs)
 | m0 (o : Ex) (m : M0)
 | m1 (o : Ex) (m : M1) (a : Ex)
 | attr (o : Ex) (name : String)
 | idx (o i : Ex)
 | slice (o : Ex) (lo hi : ExO)
 | list (es : Exs)
 | tuple (es : Exs)
 | dict0
 | dict1 (i : Nat)
 | comp (bs : List (String × Nat)) (elt : Ex) (t : Tg) (it : Ex) (cond : ExO)
 | b1 (f : B1) (e : Ex)
 | isin (e : Ex) (t : Ty)
 | range1 (a : Ex) | range2 (a b : Ex) | range3 (a b c : Ex)
 | sset (e : Ex)
inductive Exs where
 | nil
 | cons (e : Ex) (es : Exs)
inductive ExO where
 | none
 | some (e : Ex)
end
mutual
inductive St where
 | expr (e : Ex)
 | assign (t : Tg) (e : Ex)
 | setattr (o : Ex) (name : String) (e : Ex)
 | setitem (o i e : Ex)
 | ret (e : Ex)
 | raise (c msg : String)
 | iff (c : Ex) (th el : Sts)
 | whil (c : Ex) (body : Sts)
 | for (t : Tg) (it : Ex) (body : Sts)
inductive Sts where
 | nil
 | cons (s : St) (r : Sts)
end
set_option genInjectivity true
noncomputable def zax : Nat := 1000000
noncomputable def zkj (i : Int) (n : Nat) : Option Nat :=
 if 0 ≤ i then (if i.toNat < n then some i.toNat else none)
 else if -(n : Int) ≤ i then some (i + n).toNat else none
noncomputable def zb3 (f : V → V → Option Bool) : List V → List V → Option Bool
 | [], [] => some true
 | u :: us, v :: vs =>
  match f u v, zb3 f us vs with
  | some a, some b => some (a && b)
  | _, _ => none
 | _, _ => some false
noncomputable def eqB : V → V → Option Bool
 | .none, v => (match v with | .none => some true | _ => none)
 | .bool a, v => (match v with | .bool b => some (a == b) | _ => none)
 | .int a, v => (match v with | .int b => some (a == b) | _ => none)
 | .str a, v => (match v with | .str b => some (a == b) | _ => none)
 | .tup _, _ => none
 | .ref _, _ => none
noncomputable def asL : Option AO → Option (List V)
 | some (.list us) => some us
 | _ => none
noncomputable def eqv (σ : Store) : Nat → V → V → Option Bool
 | 0, u, v => eqB u v
 | n + 1, u, v => match u with
  | .tup us => (match v with | .tup vs => zb3 (eqv σ n) us vs | _ => none)
  | .ref a => (match v with
   | .ref b => (asL (σ a)).bind fun us => (asL (σ b)).bind fun vs => if us.length = vs.length then zb3 (eqv σ n) us vs else some false
   | _ => none)
  | _ => eqB u v
noncomputable def fuel : Nat := 6
noncomputable def truthy (_ : Store) : V → Option Bool
 | .none => some false
 | .bool b => some b
 | .int i => some (i != 0)
 | _ => none
noncomputable def zjG (σ : Store) (v : V) : Ty → Option Bool
 | .int => match v with | .int _ => some true | _ => none
 | .bool => match v with | .int _ => some false | _ => none
 | .tuple => match v with | .tup _ => some true | _ => none
 | .list => match v with | .ref a => (asL (σ a)).map fun _ => true | _ => none
noncomputable def ziZ (u v : V) : Bool := match u, v with
 | .int a, .int b => a == b
 | .tup [.int a, .int b], .tup [.int c, .int d] => a == c && b == d
 | _, _ => false
noncomputable def zeA : V → Bool
 | .int _ => true
 | _ => false
noncomputable def asP : V → Option (Int × Int)
 | .tup [.int a, .int b] => some (a, b)
 | _ => none
noncomputable def zhj (v : V) : Bool := (asP v).isSome
noncomputable def zdf (ks : List V) : Bool := ks.all zeA || ks.all zhj
noncomputable def zcB (k : V) (ks : List V) : Bool := ks.any fun x => ziZ x k
noncomputable def zbl (k : V) (ks : List V) : List V := if zcB k ks then ks else ks ++ [k]
noncomputable def memV (σ : Store) (x : V) : List V → Option Bool
 | [] => some false
 | y :: ys => match eqv σ fuel y x, memV σ x ys with
  | some a, some b => some (a || b)
  | _, _ => none
noncomputable def inV (σ : Store) (x : V) : V → Option Bool
 | .tup vs => memV σ x vs
 | .ref a => match σ a with
  | some (.list vs) => memV σ x vs
  | some (.dict ks) => if zdf (x :: ks) then some (zcB x ks) else none
  | _ => none
 | _ => none
noncomputable def zjc (u v : V) (f : Int → Int → Bool) : Option Bool := match u, v with | .int a, .int b => some (f a b) | _, _ => none
noncomputable def ltP (u v : V) : Option Bool := (asP u).elim (zjc u v fun a b => decide (a < b)) fun p => (asP v).elim (zjc u v fun a b => decide (a < b)) fun q => some (decide (p.1 < q.1) || (p.1 == q.1 && decide (p.2 < q.2)))
noncomputable def noB (u : V) : Bool := match u with | .none => true | _ => false
noncomputable def isNo (u v : V) : Option Bool := match v with
 | .none => some (noB u)
 | _ => none
noncomputable def cmpV (σ : Store) (op : CmpOp) (u v : V) : Option Bool :=
 match op with
 | .Eq => eqv σ fuel u v
 | .NotEq => (eqv σ fuel u v).map (!·)
 | .Lt => ltP u v
 | .LtE => zjc u v fun a b => decide (a ≤ b)
 | .Gt => zjc u v fun a b => decide (b < a)
 | .GtE => zjc u v fun a b => decide (b ≤ a)
 | .Is => isNo u v
 | .IsNot => (isNo u v).map (!·)
 | .In => inV σ u v
 | .NotIn => (inV σ u v).map (!·)
noncomputable def zc3 (n : Nat) (d : Nat) : Option Int → Nat
 | none => d
 | some i => if i < 0 then (i + n).toNat else min i.toNat n
noncomputable def zfR {α : Type} (lo hi : Option Int) (vs : List α) : List α :=
 (vs.take (zc3 vs.length vs.length hi)).drop (zc3 vs.length 0 lo)
noncomputable def ints? : List V → Option (List Int)
 | [] => some []
 | .int i :: r => (ints? r).map (i :: ·)
 | _ => none
noncomputable def pr (p : Int × Int) : V := .tup [.int p.1, .int p.2]
noncomputable def zbV (p q : Int × Int) : Prop := p.1 < q.1 ∨ (p.1 = q.1 ∧ p.2 < q.2)
noncomputable def zfP (vs : List V) : Option (List V) :=
 if vs.length < 64 then
  match ints? vs with
  | some ns => some ((ns.mergeSort (fun a b => decide (a ≤ b))).map V.int)
  | none => none
 else none
noncomputable def zav {α : Type} (o : Option α) (K : α → Prop) : Prop := match o with | some a => K a | none => False
@[simp] theorem zaa {α : Type} {a : α} {K : α → Prop} : zav (some a) K = K a := rfl
@[simp] theorem zn6 {α : Type} {K : α → Prop} : zav none K = False := rfl
noncomputable def zeX (v : V) (K : Int → Prop) : Prop := match v with | .int i => K i | _ => False
@[simp] theorem zab {i : Int} {K : Int → Prop} : zeX (.int i) K = K i := rfl
noncomputable def za5 (σ : Store) (v : V) (K : Addr → List V → Prop) : Prop := match v with
 | .ref a => match σ a with | some (.list vs) => K a vs | _ => False
 | _ => False
theorem zat {σ : Store} {a : Addr} {vs : List V} {K : Addr → List V → Prop} (h : σ a = some (.list vs)) (k : K a vs) : za5 σ (.ref a) K := by
 show (match σ a with | some (.list vs) => K a vs | _ => False)
 rw [h]; exact k
noncomputable def zkp (md : Bool) (σ : Store) (v : V) (K : List V → Prop) : Prop := match v with
 | .ref a => match σ a with
  | some (.list vs) => K vs
  | some (.dict ks) => md = true ∧ K ks
  | _ => False
 | _ => False
theorem zkm {md : Bool} {σ : Store} {a : Addr} {vs : List V} {K : List V → Prop} (h : σ a = some (.list vs)) (k : K vs) : zkp md σ (.ref a) K := by
 show (match σ a with | some (.list vs) => K vs | some (.dict ks) => md = true ∧ K ks | _ => False)
 rw [h]; exact k
theorem zko {σ : Store} {a : Addr} {vs : List V} {K : List V → Prop} (h : σ a = some (.dict vs)) (k : K vs) : zkp true σ (.ref a) K := by simp only [zkp, h]; exact ⟨trivial, k⟩
noncomputable def alloc (σ : Store) (o : AO) (Q : V → Store → Prop) : Prop := ∀ a, σ a = none → Q (.ref a) (σ.upd a o)
noncomputable def onII (u v : V) (K : Int → Int → Prop) : Prop := match u, v with | .int a, .int b => K a b | _, _ => False
noncomputable def binV (op : Operator) (u v : V) (σ : Store) (Q : V → Store → Prop) : Prop :=
 match op with
 | .Add => match u with
  | .ref a => za5 σ (.ref a) fun _ us => za5 σ v fun _ vs => us.length + vs.length ≤ zax ∧ alloc σ (.list (us ++ vs)) Q
  | _ => onII u v fun a b => Q (.int (a + b)) σ
 | .Sub => onII u v fun a b => Q (.int (a - b)) σ
 | .Mult => onII u v fun a b => (a.natAbs < 2 ^ 32 ∧ b.natAbs < 2 ^ 32) ∧ Q (.int (a * b)) σ
 | .FloorDiv => onII u v fun a b => (0 < b ∧ b < 1000000000) ∧ Q (.int (a.fdiv b)) σ
 | .Mod => onII u v fun a b => 0 < b ∧ Q (.int (a.fmod b)) σ
 | _ => False
noncomputable def ziR (σ : Store) (v : V) (K : List V → Prop) : Prop := match v with
 | .tup vs => vs.length ≤ zax ∧ K vs
 | .ref a => match σ a with | some (.list vs) => K vs | some (.fixed vs) => K vs | _ => False
 | _ => False
noncomputable def idxV (u v : V) (σ : Store) (Q : V → Prop) : Prop :=
 ziR σ u fun vs => zeX v fun i => zav (zkj i vs.length) fun k => zav vs[k]? Q
noncomputable def zhY : V → Option (Option Int)
 | .none => some none
 | .int i => some (some i)
 | _ => none
noncomputable def zhS (u lo hi : V) (σ : Store) (Q : V → Store → Prop) : Prop :=
 za5 σ u fun _ vs => zav (zhY lo) fun l => zav (zhY hi) fun h => alloc σ (.list (zfR l h vs)) Q
noncomputable def bools? : List V → Option (List Bool)
 | [] => some []
 | .bool b :: r => (bools? r).map (b :: ·)
 | _ => none
noncomputable def b1V (md : Bool) (f : B1) (v : V) (σ : Store) (Q : V → Store → Prop) : Prop :=
 match f with
 | .len => ziR σ v fun vs => Q (.int vs.length) σ
 | .list => za5 σ v fun _ vs => vs.length ≤ zax ∧ alloc σ (.list vs) Q
 | .sorted => (zkp md σ v fun vs => zav (zfP vs) fun ws => alloc σ (.list ws) Q) ∨ False
 | .all => md = true ∧ za5 σ v fun _ vs => zav (bools? vs) fun bs => Q (.bool (bs.all id)) σ
 | .any => md = true ∧ za5 σ v fun _ vs => zav (bools? vs) fun bs => Q (.bool (bs.any id)) σ
 | .dict => md = true ∧ za5 σ v fun _ vs => ∃ ns : List Int, (vs = ns.map (fun n => V.tup [.int n, .bool true]) ∧ vs.length ≤ 1000) ∧ alloc σ (.dict ((ns.map V.int).foldl (fun d k => zbl k d) [])) Q
noncomputable def znV (md : Bool) (v : V) (σ : Store) (Q : V → Store → Prop) : Prop :=
 md = true ∧ za5 σ v fun _ vs => zav (ints? vs) fun ns => (vs.length < 64 ∧ ns.Nodup) ∧ ∀ ws : List Int, ws.Pairwise (· < ·) → (∀ x, x ∈ ws ↔ x ∈ ns) → alloc σ (.list (ws.map V.int)) Q
noncomputable def m0V (m : M0) (v : V) (σ : Store) (Q : V → Store → Prop) : Prop :=
 za5 σ v fun a vs => match m with
 | .pop => match vs.reverse with | [] => False | x :: r => Q x (σ.upd a (.list r.reverse))
noncomputable def m1V (m : M1) (v x : V) (σ : Store) (Q : V → Store → Prop) : Prop :=
 za5 σ v fun a vs => match m with
 | .append => vs.length < zax ∧ Q .none (σ.upd a (.list (vs ++ [x])))
noncomputable def zbq (u i x : V) (σ : Store) (Q : Store → Prop) : Prop :=
 match u with
 | .ref a => match σ a with
  | some (.list vs) => zeX i fun j => (0 ≤ j ∧ j < vs.length) ∧ Q (σ.upd a (.list (vs.set j.toNat x)))
  | some (.dict ks) => (zdf (i :: ks) = true ∧ ks.length < zax ∧ x = .bool true) ∧ Q (σ.upd a (.dict (zbl i ks)))
  | _ => False
 | _ => False
noncomputable def zgC (σ : Store) (u : V) (K : String → Addr → List (String × V) → Prop) : Prop := match u with
 | .ref a => match σ a with
  | some (.inst c d) => match σ d with | some (.ns fs) => K c d fs | _ => False
  | _ => False
 | _ => False
theorem zaS {σ : Store} {a d : Addr} {c : String} {fs : List (String × V)} {K} (h : σ a = some (.inst c d)) (h' : σ d = some (.ns fs)) (k : K c d fs) : zgC σ (.ref a) K := by
 show (match σ a with | some (.inst c d) => (match σ d with | some (.ns fs) => K c d fs | _ => False) | _ => False)
 rw [h]
 show (match σ d with | some (.ns fs) => K c d fs | _ => False)
 rw [h']; exact k
noncomputable def zdw (F : String → String → Prop) (u : V) (name : String) (σ : Store) (Q : V → Prop) : Prop := zgC σ u fun c _ fs => F c name ∧ zav (fs.lookup name) Q
noncomputable def putF (name : String) (x : V) : List (String × V) → List (String × V)
 | [] => [(name, x)]
 | (n, v) :: r => if n = name then (n, x) :: r else (n, v) :: putF name x r
noncomputable def zfy (F : String → String → Prop) (u : V) (name : String) (x : V) (σ : Store) (Q : Store → Prop) : Prop := zgC σ u fun c d fs => (F c name ∧ fs.length < 100) ∧ Q (σ.upd d (.ns (putF name x fs)))
noncomputable def zdn (v : V) (σ : Store) (Q : List V → (Store → Prop) → Prop) : Prop :=
 match v with
 | .tup vs => Q vs fun _ => True
 | .ref a => za5 σ (.ref a) fun a vs => Q vs fun σ' => σ' a = some (.list vs)
 | _ => False
noncomputable def upto (lo hi step : Int) : List Int :=
 if 0 < step then (List.range ((hi - lo + step - 1) / step).toNat).map fun k => lo + step * (k : Nat) else []
noncomputable def zaE : Tg → V → Loc → Option Loc
 | .one i, v, ρ => some (ρ.set i (some v))
 | .many is, .tup vs, ρ => if is.length = vs.length then some ((is.zip vs).foldl (fun r p => r.set p.1 (some p.2)) ρ) else none
 | _, _, _ => none
noncomputable def zb4 (chk : Store → Prop) (B : V → Store → (Option V → Store → Prop) → Prop) (Q : V → Store → Prop) : List V → List V → Store → Prop
 | [], acc, σ => chk σ ∧ alloc σ (.list acc) Q
 | v :: r, acc, σ => chk σ ∧ acc.length < zax ∧ B v σ fun x σ' => zb4 chk B Q r (match x with | some x => acc ++ [x] | none => acc) σ'
noncomputable def forV (chk : Store → Prop) (B : V → Loc → Store → (Loc → Store → Prop) → Prop) (Q : Loc → Store → Prop) : List V → Loc → Store → Prop
 | [], ρ, σ => chk σ ∧ Q ρ σ
 | v :: r, ρ, σ => chk σ ∧ B v ρ σ fun ρ' σ' => forV chk B Q r ρ' σ'
noncomputable def zfc (C : Loc → Store → (Bool → Store → Prop) → Prop) (B : Loc → Store → (Loc → Store → Prop) → Prop) (Q : Loc → Store → Prop) : Nat → Loc → Store → Prop
 | 0, _, _ => False
 | n + 1, ρ, σ => C ρ σ fun b σ' => if b then B ρ σ' (fun ρ' σ'' => zfc C B Q n ρ' σ'') else Q ρ σ'
noncomputable def noX : XP := fun _ _ _ => False
noncomputable def tgOk (md : Bool) : Tg → Bool
 | .one _ => true
 | .many _ => md
noncomputable def zlO : String → Option Int
 | "MOST_PLACES" => some 40
 | _ => none
noncomputable def itR1 (u : V) (σ : Store) (K : List V → (Store → Prop) → Store → Prop) : Prop := zeX u fun n => (n < 2 ^ 31 ∧ -(2 ^ 31) < n) ∧ K ((upto 0 n 1).map V.int) (fun _ => True) σ
noncomputable def itR2 (u v : V) (σ : Store) (K : List V → (Store → Prop) → Store → Prop) : Prop := zeX u fun m => zeX v fun n => (n < 2 ^ 31 ∧ -(2 ^ 31) < n ∧ m < 2 ^ 31 ∧ -(2 ^ 31) < m) ∧ K ((upto m n 1).map V.int) (fun _ => True) σ
noncomputable def itR3 (u v x : V) (σ : Store) (K : List V → (Store → Prop) → Store → Prop) : Prop := zeX u fun m => zeX v fun n => zeX x fun k => (n < 2 ^ 31 ∧ -(2 ^ 31) < n ∧ m < 2 ^ 31 ∧ -(2 ^ 31) < m ∧ 0 < k ∧ k < 1000000000) ∧ K ((upto m n k).map V.int) (fun _ => True) σ
mutual
noncomputable def wpE (Φ : Calls) (md : Bool) : Ex → Loc → Store → (V → Store → Prop) → XP → Prop
 | .none, _, σ, Q, _ => Q .none σ
 | .tt, _, σ, Q, _ => Q (.bool true) σ
 | .ff, _, σ, Q, _ => Q (.bool false) σ
 | .int i, _, σ, Q, _ => Q (.int i) σ
 | .var i, ρ, σ, Q, _ => zav (ρ.get i) fun v => Q v σ
 | .glob x, _, σ, Q, _ => zav (zlO x) fun i => Q (.int i) σ
 | .bin op a b, ρ, σ, Q, X => wpE Φ md a ρ σ (fun u σ₁ => wpE Φ md b ρ σ₁ (fun v σ₂ => binV op u v σ₂ Q) X) X
 | .neg a, ρ, σ, Q, X => wpE Φ md a ρ σ (fun u σ₁ => zeX u fun i => Q (.int (-i)) σ₁) X
 | .not a, ρ, σ, Q, X => wpE Φ md a ρ σ (fun u σ₁ => zav (truthy σ₁ u) fun b => Q (.bool (!b)) σ₁) X
 | .cmp op a b, ρ, σ, Q, X => wpE Φ md a ρ σ (fun u σ₁ => wpE Φ md b ρ σ₁ (fun v σ₂ => zav (cmpV σ₂ op u v) fun r => Q (.bool r) σ₂) X) X
 | .cmp2 o₁ o₂ a b c, ρ, σ, Q, X => wpE Φ md a ρ σ (fun u σ₁ => wpE Φ md b ρ σ₁ (fun v σ₂ => zav (cmpV σ₂ o₁ u v) fun r =>
   if r then wpE Φ md c ρ σ₂ (fun x σ₃ => zav (cmpV σ₃ o₂ v x) fun r' => Q (.bool r') σ₃) X else Q (.bool false) σ₂) X) X
 | .bool isAnd es, ρ, σ, Q, X => zfb Φ md isAnd es ρ σ Q X
 | .call f es, ρ, σ, Q, X => onT (Φ.has "" f) (wpEs Φ md es ρ σ (fun vs σ₁ => Φ.run "" f vs σ₁ Q X) X)
 | .make c es, ρ, σ, Q, X => onT (Φ.has c "__init__") (wpEs Φ md es ρ σ (fun vs σ₁ => ∀ x d, σ₁ x = none → σ₁ d = none → x ≠ d →
   Φ.run c "__init__" (.ref x :: vs) ((σ₁.upd d (.ns [])).upd x (.inst c d)) (fun r σ₂ => r = .none ∧ Q (.ref x) σ₂) X) X)
 | .meth o name es, ρ, σ, Q, X => wpE Φ md o ρ σ (fun u σ₁ => zgC σ₁ u fun c _ fs => (fs.lookup name = none ∧ Φ.has c name = true) ∧ wpEs Φ md es ρ σ₁ (fun vs σ₂ => Φ.run c name (u :: vs) σ₂ Q X) X) X
 | .m0 o m, ρ, σ, Q, X => wpE Φ md o ρ σ (fun u σ₁ => m0V m u σ₁ Q) X
 | .m1 o m a, ρ, σ, Q, X => wpE Φ md o ρ σ (fun u σ₁ => za5 σ₁ u fun _ _ => wpE Φ md a ρ σ₁ (fun x σ₂ => m1V m u x σ₂ Q) X) X
 | .attr o name, ρ, σ, Q, X => wpE Φ md o ρ σ (fun u σ₁ => zdw Φ.fld u name σ₁ fun x => Q x σ₁) X
 | .idx o i, ρ, σ, Q, X => wpE Φ md o ρ σ (fun u σ₁ => wpE Φ md i ρ σ₁ (fun v σ₂ => idxV u v σ₂ fun x => Q x σ₂) X) X
 | .slice o lo hi, ρ, σ, Q, X => wpE Φ md o ρ σ (fun u σ₁ => wpO Φ md lo ρ σ₁ (fun l σ₂ => wpO Φ md hi ρ σ₂ (fun h σ₃ => zhS u l h σ₃ Q) X) X) X
 | .list es, ρ, σ, Q, X => wpEs Φ md es ρ σ (fun vs σ₁ => vs.length ≤ zax ∧ alloc σ₁ (.list vs) Q) X
 | .tuple es, ρ, σ, Q, X => wpEs Φ md es ρ σ (fun vs σ₁ => vs.length ≤ zax ∧ Q (.tup vs) σ₁) X
 | .dict0, _, σ, Q, _ => alloc σ (.dict []) Q
 | .dict1 i, ρ, σ, Q, _ => zav (ρ.get i) fun u => zeA u = true ∧ alloc σ (.dict [u]) Q
 | .comp _ elt t it cond, ρ, σ, Q, X => onT md
   (let K := fun (items : List V) (chk : Store → Prop) (σ₁ : Store) => zb4 chk (fun v σ₂ K => zav (zaE t v ρ) fun ρ' => wpC Φ md cond ρ' σ₂ (fun b σ₃ => if b then wpE Φ md elt ρ' σ₃ (fun x σ₄ => K (some x) σ₄) noX else K none σ₃) noX) Q items [] σ₁
    match it with
    | .range1 a => wpE Φ md a ρ σ (fun u σ₁ => itR1 u σ₁ K) X
    | .range2 a b => wpE Φ md a ρ σ (fun u σ₁ => wpE Φ md b ρ σ₁ (fun v σ₂ => itR2 u v σ₂ K) X) X
    | .range3 a b c => wpE Φ md a ρ σ (fun u σ₁ => wpE Φ md b ρ σ₁ (fun v σ₂ => wpE Φ md c ρ σ₂ (fun x σ₃ => itR3 u v x σ₃ K) X) X) X
    | e => wpE Φ md e ρ σ (fun u σ₁ => zdn u σ₁ fun items chk => K items chk σ₁) X)
 | .b1 f e, ρ, σ, Q, X => wpE Φ md e ρ σ (fun u σ₁ => b1V md f u σ₁ Q) X
 | .isin e t, ρ, σ, Q, X => wpE Φ md e ρ σ (fun u σ₁ => zav (zjG σ₁ u t) fun b => Q (.bool b) σ₁) X
 | .sset e, ρ, σ, Q, X => wpE Φ md e ρ σ (fun u σ₁ => znV md u σ₁ Q) X
 | .range1 _, _, _, _, _ => False
 | .range2 _ _, _, _, _, _ => False
 | .range3 _ _ _, _, _, _, _ => False
noncomputable def wpEs (Φ : Calls) (md : Bool) : Exs → Loc → Store → (List V → Store → Prop) → XP → Prop
 | .nil, _, σ, Q, _ => Q [] σ
 | .cons e es, ρ, σ, Q, X => wpE Φ md e ρ σ (fun v σ₁ => wpEs Φ md es ρ σ₁ (fun vs σ₂ => Q (v :: vs) σ₂) X) X
noncomputable def zfb (Φ : Calls) (md : Bool) (isAnd : Bool) : Exs → Loc → Store → (V → Store → Prop) → XP → Prop
 | .nil, _, _, _, _ => False
 | .cons e .nil, ρ, σ, Q, X => wpE Φ md e ρ σ Q X
 | .cons e es, ρ, σ, Q, X => wpE Φ md e ρ σ (fun v σ₁ => zav (truthy σ₁ v) fun b => if b = isAnd then zfb Φ md isAnd es ρ σ₁ Q X else Q v σ₁) X
noncomputable def wpO (Φ : Calls) (md : Bool) : ExO → Loc → Store → (V → Store → Prop) → XP → Prop
 | .none, _, σ, Q, _ => Q .none σ
 | .some e, ρ, σ, Q, X => wpE Φ md e ρ σ Q X
noncomputable def wpC (Φ : Calls) (md : Bool) : ExO → Loc → Store → (Bool → Store → Prop) → XP → Prop
 | .none, _, σ, Q, _ => Q true σ
 | .some e, ρ, σ, Q, X => wpE Φ md e ρ σ (fun v σ₁ => zav (truthy σ₁ v) fun b => Q b σ₁) X
end
noncomputable def wpIt (Φ : Calls) (md : Bool) (it : Ex) (ρ : Loc) (σ : Store) (K : List V → (Store → Prop) → Store → Prop) (X : XP) : Prop :=
 match it with
 | .range1 a => wpE Φ md a ρ σ (fun u σ₁ => itR1 u σ₁ K) X
 | .range2 a b => wpE Φ md a ρ σ (fun u σ₁ => wpE Φ md b ρ σ₁ (fun v σ₂ => itR2 u v σ₂ K) X) X
 | .range3 a b c => wpE Φ md a ρ σ (fun u σ₁ => wpE Φ md b ρ σ₁ (fun v σ₂ => wpE Φ md c ρ σ₂ (fun x σ₃ => itR3 u v x σ₃ K) X) X) X
 | e => wpE Φ md e ρ σ (fun u σ₁ => zdn u σ₁ fun items chk => K items chk σ₁) X
noncomputable def drp (_ : V) : Bool := true
@[simp] theorem zae {v : V} : drp v = true := rfl
abbrev XL := String → Addr → Loc → Store → Prop
mutual
noncomputable def wpS (Φ : Bool → Calls) (md : Bool) : St → Loc → Store → (Loc → Store → Prop) → (V → Store → Prop) → XL → Prop
 | .expr e, ρ, σ, N, _, X => wpE (Φ md) md e ρ σ (fun v σ₁ => onT (drp v) (N ρ σ₁)) fun c a σ₁ => X c a ρ σ₁
 | .assign t e, ρ, σ, N, _, X => onT (tgOk md t) (wpE (Φ md) md e ρ σ (fun v σ₁ => zav (zaE t v ρ) fun ρ' => N ρ' σ₁) fun c a σ₁ => X c a ρ σ₁)
 | .setattr o name e, ρ, σ, N, _, X => wpE (Φ md) md e ρ σ (fun v σ₁ => wpE (Φ md) md o ρ σ₁ (fun u σ₂ => zfy (Φ md).fld u name v σ₂ fun σ₃ => N ρ σ₃) fun c a σ₁ => X c a ρ σ₁) fun c a σ₁ => X c a ρ σ₁
 | .setitem o i e, ρ, σ, N, _, X => wpE (Φ md) md e ρ σ (fun v σ₁ => wpE (Φ md) md o ρ σ₁ (fun u σ₂ => wpE (Φ md) md i ρ σ₂ (fun k σ₃ => zbq u k v σ₃ fun σ₄ => N ρ σ₄)
   fun c a σ₁ => X c a ρ σ₁) fun c a σ₁ => X c a ρ σ₁) fun c a σ₁ => X c a ρ σ₁
 | .ret e, ρ, σ, _, R, X => wpE (Φ md) md e ρ σ R fun c a σ₁ => X c a ρ σ₁
 | .raise _ _, _, _, _, _, _ => False
 | .iff c th el, ρ, σ, N, R, X => wpE (Φ md) md c ρ σ (fun v σ₁ => zav (truthy σ₁ v) fun b => if b then wpSs Φ md th ρ σ₁ N R X else wpSs Φ md el ρ σ₁ N R X) fun c a σ₁ => X c a ρ σ₁
 | .whil c body, ρ, σ, N, R, X => ∃ n, zfc (fun ρ σ K => wpE (Φ md) md c ρ σ (fun v σ₁ => zav (truthy σ₁ v) fun b => K b σ₁) fun c a σ₁ => X c a ρ σ₁)
   (fun ρ σ K => wpSs Φ md body ρ σ K R X) N n ρ σ
 | .for t it body, ρ, σ, N, R, X => onT md (wpIt (Φ md) md it ρ σ (fun items chk σ₁ => forV chk (fun v ρ σ K => zav (zaE t v ρ) fun ρ' => wpSs Φ md body ρ' σ K R X) N items ρ σ₁)
   fun c a σ₁ => X c a ρ σ₁)
noncomputable def wpSs (Φ : Bool → Calls) (md : Bool) : Sts → Loc → Store → (Loc → Store → Prop) → (V → Store → Prop) → XL → Prop
 | .nil, ρ, σ, N, _, _ => N ρ σ
 | .cons s r, ρ, σ, N, R, X => wpS Φ md s ρ σ (fun ρ₁ σ₁ => wpSs Φ md r ρ₁ σ₁ N R X) R X
end
structure Fn where
 params : List String
 names : List String
 size : Nat
 body : Sts
noncomputable def wpFn (Φ : Bool → Calls) (md : Bool) (f : Fn) (args : List V) (σ : Store) (Q : V → Store → Prop) (X : XP) : Prop :=
 args.length = f.params.length ∧ wpSs Φ md f.body (args.map some ++ List.replicate (f.size - args.length) none) σ (fun _ σ' => Q .none σ') Q fun c a _ σ' => X c a σ'
noncomputable def shut {α : Type} (a : α) : α := Classical.choose (⟨a, rfl⟩ : ∃ x, x = a)
theorem znX {α : Type} (a : α) : shut a = a := Classical.choose_spec (⟨a, rfl⟩ : ∃ x, x = a)
abbrev Run := String → String → List V → Store → (V → Store → Prop) → XP → Prop
noncomputable def semR (tab : String → String → Option Fn) (fld : String → String → Bool) : Nat → Bool → Run
 | 0, _ => fun _ _ _ _ _ _ => False
 | k + 1, md => fun c f vs σ Q X => zav (tab c f) fun fn => wpFn (fun md => ⟨fun c f => (tab c f).isSome, fun c f => fld c f = true, shut (semR tab fld k md)⟩) md fn vs σ Q X
noncomputable def sem (tab : String → String → Option Fn) (fld : String → String → Bool) (k : Nat) (md : Bool) : Calls := ⟨fun c f => (tab c f).isSome, fun c f => fld c f = true, shut (semR tab fld k md)⟩
theorem ziO {tab : String → String → Option Fn} {fld : String → String → Bool} {k : Nat} {md : Bool} : (sem tab fld k md).run = semR tab fld k md := znX _
theorem zmo {Φ : Calls} {md : Bool} {bs : List (String × Nat)} {elt it : Ex} {t : Tg} {cond : ExO} {ρ : Loc} {σ : Store} {Q : V → Store → Prop} {X : XP} : wpE Φ md (.comp bs elt t it cond) ρ σ Q X = onT md (wpIt Φ md it ρ σ (fun items chk σ₁ =>
   zb4 chk (fun v σ₂ K => zav (zaE t v ρ) fun ρ' => wpC Φ md cond ρ' σ₂ (fun b σ₃ => if b then wpE Φ md elt ρ' σ₃ (fun x σ₄ => K (some x) σ₄) noX else K none σ₃) noX) Q items [] σ₁) X) := by
 cases it <;> rfl
end Mine.Internal
end
section
namespace Mine.Internal
open PySem PySem.W PySem.Calls PyProof.Rows
structure Sc where
 names : List (Str × NameKind)
 nm : List (String × Nat)
 size : Nat
noncomputable def Sc.var (S : Sc) (id : Str) (i : Nat) : Bool :=
 S.nm.any (fun p => decide (Str.ofString p.1 = id) && decide (S.nm.lookup p.1 = some i)) &&
 (S.names.lookup id == some .local || S.names.lookup id == some .cell || S.names.lookup id == some .free) && !(id == ("__debug__" : Str)) && !(id == ("__classdict__" : Str))
noncomputable def Sc.own (S : Sc) (id : Str) (i : Nat) : Bool :=
 S.nm.any (fun p => decide (Str.ofString p.1 = id) && decide (S.nm.lookup p.1 = some i)) && (S.names.lookup id == some .local || S.names.lookup id == some .cell)
noncomputable def Sc.glb (S : Sc) (id : Str) (x : String) : Bool := decide (id = Str.ofString x) && S.names.lookup id == some .globalImplicit && !(id == ("__debug__" : Str))
noncomputable def zl6 : B1 → String
 | .len => "len" | .list => "list" | .sorted => "sorted" | .all => "all" | .any => "any" | .dict => "dict"
noncomputable def zpi : M0 → String
 | .pop => "pop"
noncomputable def zph : M1 → String
 | .append => "append"
noncomputable def znt : Ty → String
 | .int => "int" | .bool => "bool" | .tuple => "tuple" | .list => "list"
noncomputable def relN (out names : List (Str × NameKind)) : List (Str × NameKind) := names.map fun (n, k) => if k == .free && out.lookup n == some .cell then (n, .cell) else (n, k)
noncomputable def zcE (S : Sc) (bs : List (String × Nat)) (names : List (Str × NameKind)) : Sc := ⟨relN S.names names, bs ++ S.nm, S.size⟩
noncomputable def zjR (S : Sc) (bs : List (String × Nat)) (scope : Scope) : Bool :=
 scope.kind == .function && decide ((scope.names.map (·.1)).Nodup) &&
 scope.names.all (fun (n, k) => match k with
  | .local => decide (n = (".0" : Str)) || bs.any fun p => decide (Str.ofString p.1 = n)
  | .free => S.names.lookup n == some .cell || S.names.lookup n == some .free
  | .globalImplicit => true
  | _ => false) &&
 (bs ++ S.nm).all (fun q => decide (Str.ofString q.1 ≠ (".0" : Str))) && decide ((bs.map (·.1)).Nodup) && decide ((bs.map (·.2)).Nodup) && bs.all fun p => scope.names.lookup (Str.ofString p.1) == some .local && decide (p.2 < S.size) && S.nm.all fun q => q.2 != p.2
noncomputable def eM (x : Expr) (k_c : Const → Bool) (k_nm : Str → Bool) (k_bi : Expr → Operator → Expr → Bool) (k_un : UnaryOp → Expr → Bool) (k_cp : Expr → (List CmpOp) → (List Expr) → Bool) (k_bo : BoolOp → (List Expr) → Bool) (k_ca : Expr → (List Expr) → (List Keyword) → Pos → Bool) (k_at : Expr → Str → Pos → Bool) (k_su : Expr → Expr → Bool) (k_sl : (Option Expr) → (Option Expr) → (Option Expr) → Bool) (k_li : (List Expr) → Bool) (k_tu : (List Expr) → Bool) (k_di : (List (Option Expr)) → (List Expr) → Bool) (k_lc : Expr → (List Comprehension) → Scope → Bool) : Bool := match x with
 | .Constant c _ _ => k_c c
 | .Name id _ => k_nm id
 | .BinOp l op r _ => k_bi l op r
 | .UnaryOp op l _ => k_un op l
 | .Compare l ops rs _ => k_cp l ops rs
 | .BoolOp op xs _ => k_bo op xs
 | .Call f xs ks p => k_ca f xs ks p
 | .Attribute y id p => k_at y id p
 | .Subscript y z _ => k_su y z
 | .Slice l u st _ => k_sl l u st
 | .List xs _ => k_li xs
 | .Tuple xs _ _ => k_tu xs
 | .Dict ks vs _ => k_di ks vs
 | .ListComp y gs sc _ => k_lc y gs sc
 | _ => false
theorem eME {P : Expr → Prop} {x : Expr} {k_c : Const → Bool} {k_nm : Str → Bool} {k_bi : Expr → Operator → Expr → Bool} {k_un : UnaryOp → Expr → Bool} {k_cp : Expr → (List CmpOp) → (List Expr) → Bool} {k_bo : BoolOp → (List Expr) → Bool} {k_ca : Expr → (List Expr) → (List Keyword) → Pos → Bool} {k_at : Expr → Str → Pos → Bool} {k_su : Expr → Expr → Bool} {k_sl : (Option Expr) → (Option Expr) → (Option Expr) → Bool} {k_li : (List Expr) → Bool} {k_tu : (List Expr) → Bool} {k_di : (List (Option Expr)) → (List Expr) → Bool} {k_lc : Expr → (List Comprehension) → Scope → Bool} (h : eM x k_c k_nm k_bi k_un k_cp k_bo k_ca k_at k_su k_sl k_li k_tu k_di k_lc = true)
  (h_c : ∀ c kk p, k_c c = true → P (.Constant c kk p)) (h_nm : ∀ id p, k_nm id = true → P (.Name id p)) (h_bi : ∀ l op r p, k_bi l op r = true → P (.BinOp l op r p)) (h_un : ∀ op l p, k_un op l = true → P (.UnaryOp op l p)) (h_cp : ∀ l ops rs p, k_cp l ops rs = true → P (.Compare l ops rs p)) (h_bo : ∀ op xs p, k_bo op xs = true → P (.BoolOp op xs p)) (h_ca : ∀ f xs ks p, k_ca f xs ks p = true → P (.Call f xs ks p)) (h_at : ∀ y id p, k_at y id p = true → P (.Attribute y id p)) (h_su : ∀ y z p, k_su y z = true → P (.Subscript y z p)) (h_sl : ∀ l u st p, k_sl l u st = true → P (.Slice l u st p)) (h_li : ∀ xs p, k_li xs = true → P (.List xs p)) (h_tu : ∀ xs kk p, k_tu xs = true → P (.Tuple xs kk p)) (h_di : ∀ ks vs p, k_di ks vs = true → P (.Dict ks vs p)) (h_lc : ∀ y gs sc p, k_lc y gs sc = true → P (.ListComp y gs sc p)) : P x := by
 cases x <;> first | exact nft h | exact h_c _ _ _ h | exact h_nm _ _ h | exact h_bi _ _ _ _ h | exact h_un _ _ _ h | exact h_cp _ _ _ _ h | exact h_bo _ _ _ h | exact h_ca _ _ _ _ h | exact h_at _ _ _ h | exact h_su _ _ _ h | exact h_sl _ _ _ _ h | exact h_li _ _ h | exact h_tu _ _ _ h | exact h_di _ _ _ h | exact h_lc _ _ _ _ h
noncomputable def cM (x : Expr) (k : Const → Bool) : Bool := eM x k (fun _ => false) (fun _ _ _ => false) (fun _ _ => false) (fun _ _ _ => false) (fun _ _ => false) (fun _ _ _ _ => false) (fun _ _ _ => false) (fun _ _ => false) (fun _ _ _ => false) (fun _ => false) (fun _ => false) (fun _ _ => false) (fun _ _ _ => false)
@[elab_as_elim] theorem cME {P : Expr → Prop} {x : Expr} {k : Const → Bool} (h : cM x k = true) (g : ∀ c kk p, k c = true → P (.Constant c kk p)) : P x :=
 eME h g (fun _ _ h => nft h) (fun _ _ _ _ h => nft h) (fun _ _ _ h => nft h) (fun _ _ _ _ h => nft h) (fun _ _ _ h => nft h) (fun _ _ _ _ h => nft h) (fun _ _ _ h => nft h) (fun _ _ _ h => nft h) (fun _ _ _ _ h => nft h) (fun _ _ h => nft h) (fun _ _ _ h => nft h) (fun _ _ _ h => nft h) (fun _ _ _ _ h => nft h)
noncomputable def nmM (x : Expr) (k : Str → Bool) : Bool := eM x (fun _ => false) k (fun _ _ _ => false) (fun _ _ => false) (fun _ _ _ => false) (fun _ _ => false) (fun _ _ _ _ => false) (fun _ _ _ => false) (fun _ _ => false) (fun _ _ _ => false) (fun _ => false) (fun _ => false) (fun _ _ => false) (fun _ _ _ => false)
@[elab_as_elim] theorem nmME {P : Expr → Prop} {x : Expr} {k : Str → Bool} (h : nmM x k = true) (g : ∀ id p, k id = true → P (.Name id p)) : P x :=
 eME h (fun _ _ _ h => nft h) g (fun _ _ _ _ h => nft h) (fun _ _ _ h => nft h) (fun _ _ _ _ h => nft h) (fun _ _ _ h => nft h) (fun _ _ _ _ h => nft h) (fun _ _ _ h => nft h) (fun _ _ _ h => nft h) (fun _ _ _ _ h => nft h) (fun _ _ h => nft h) (fun _ _ _ h => nft h) (fun _ _ _ h => nft h) (fun _ _ _ _ h => nft h)
noncomputable def biM (x : Expr) (k : Expr → Operator → Expr → Bool) : Bool := eM x (fun _ => false) (fun _ => false) k (fun _ _ => false) (fun _ _ _ => false) (fun _ _ => false) (fun _ _ _ _ => false) (fun _ _ _ => false) (fun _ _ => false) (fun _ _ _ => false) (fun _ => false) (fun _ => false) (fun _ _ => false) (fun _ _ _ => false)
@[elab_as_elim] theorem biME {P : Expr → Prop} {x : Expr} {k : Expr → Operator → Expr → Bool} (h : biM x k = true) (g : ∀ l op r p, k l op r = true → P (.BinOp l op r p)) : P x :=
 eME h (fun _ _ _ h => nft h) (fun _ _ h => nft h) g (fun _ _ _ h => nft h) (fun _ _ _ _ h => nft h) (fun _ _ _ h => nft h) (fun _ _ _ _ h => nft h) (fun _ _ _ h => nft h) (fun _ _ _ h => nft h) (fun _ _ _ _ h => nft h) (fun _ _ h => nft h) (fun _ _ _ h => nft h) (fun _ _ _ h => nft h) (fun _ _ _ _ h => nft h)
noncomputable def unM (x : Expr) (k : UnaryOp → Expr → Bool) : Bool := eM x (fun _ => false) (fun _ => false) (fun _ _ _ => false) k (fun _ _ _ => false) (fun _ _ => false) (fun _ _ _ _ => false) (fun _ _ _ => false) (fun _ _ => false) (fun _ _ _ => false) (fun _ => false) (fun _ => false) (fun _ _ => false) (fun _ _ _ => false)
@[elab_as_elim] theorem unME {P : Expr → Prop} {x : Expr} {k : UnaryOp → Expr → Bool} (h : unM x k = true) (g : ∀ op l p, k op l = true → P (.UnaryOp op l p)) : P x :=
 eME h (fun _ _ _ h => nft h) (fun _ _ h => nft h) (fun _ _ _ _ h => nft h) g (fun _ _ _ _ h => nft h) (fun _ _ _ h => nft h) (fun _ _ _ _ h => nft h) (fun _ _ _ h => nft h) (fun _ _ _ h => nft h) (fun _ _ _ _ h => nft h) (fun _ _ h => nft h) (fun _ _ _ h => nft h) (fun _ _ _ h => nft h) (fun _ _ _ _ h => nft h)
noncomputable def cpM (x : Expr) (k : Expr → (List CmpOp) → (List Expr) → Bool) : Bool := eM x (fun _ => false) (fun _ => false) (fun _ _ _ => false) (fun _ _ => false) k (fun _ _ => false) (fun _ _ _ _ => false) (fun _ _ _ => false) (fun _ _ => false) (fun _ _ _ => false) (fun _ => false) (fun _ => false) (fun _ _ => false) (fun _ _ _ => false)
@[elab_as_elim] theorem cpME {P : Expr → Prop} {x : Expr} {k : Expr → (List CmpOp) → (List Expr) → Bool} (h : cpM x k = true) (g : ∀ l ops rs p, k l ops rs = true → P (.Compare l ops rs p)) : P x :=
 eME h (fun _ _ _ h => nft h) (fun _ _ h => nft h) (fun _ _ _ _ h => nft h) (fun _ _ _ h => nft h) g (fun _ _ _ h => nft h) (fun _ _ _ _ h => nft h) (fun _ _ _ h => nft h) (fun _ _ _ h => nft h) (fun _ _ _ _ h => nft h) (fun _ _ h => nft h) (fun _ _ _ h => nft h) (fun _ _ _ h => nft h) (fun _ _ _ _ h => nft h)
noncomputable def boM (x : Expr) (k : BoolOp → (List Expr) → Bool) : Bool := eM x (fun _ => false) (fun _ => false) (fun _ _ _ => false) (fun _ _ => false) (fun _ _ _ => false) k (fun _ _ _ _ => false) (fun _ _ _ => false) (fun _ _ => false) (fun _ _ _ => false) (fun _ => false) (fun _ => false) (fun _ _ => false) (fun _ _ _ => false)
@[elab_as_elim] theorem boME {P : Expr → Prop} {x : Expr} {k : BoolOp → (List Expr) → Bool} (h : boM x k = true) (g : ∀ op xs p, k op xs = true → P (.BoolOp op xs p)) : P x :=
 eME h (fun _ _ _ h => nft h) (fun _ _ h => nft h) (fun _ _ _ _ h => nft h) (fun _ _ _ h => nft h) (fun _ _ _ _ h => nft h) g (fun _ _ _ _ h => nft h) (fun _ _ _ h => nft h) (fun _ _ _ h => nft h) (fun _ _ _ _ h => nft h) (fun _ _ h => nft h) (fun _ _ _ h => nft h) (fun _ _ _ h => nft h) (fun _ _ _ _ h => nft h)
noncomputable def caM (x : Expr) (k : Expr → (List Expr) → (List Keyword) → Pos → Bool) : Bool := eM x (fun _ => false) (fun _ => false) (fun _ _ _ => false) (fun _ _ => false) (fun _ _ _ => false) (fun _ _ => false) k (fun _ _ _ => false) (fun _ _ => false) (fun _ _ _ => false) (fun _ => false) (fun _ => false) (fun _ _ => false) (fun _ _ _ => false)
@[elab_as_elim] theorem caME {P : Expr → Prop} {x : Expr} {k : Expr → (List Expr) → (List Keyword) → Pos → Bool} (h : caM x k = true) (g : ∀ f xs ks p, k f xs ks p = true → P (.Call f xs ks p)) : P x :=
 eME h (fun _ _ _ h => nft h) (fun _ _ h => nft h) (fun _ _ _ _ h => nft h) (fun _ _ _ h => nft h) (fun _ _ _ _ h => nft h) (fun _ _ _ h => nft h) g (fun _ _ _ h => nft h) (fun _ _ _ h => nft h) (fun _ _ _ _ h => nft h) (fun _ _ h => nft h) (fun _ _ _ h => nft h) (fun _ _ _ h => nft h) (fun _ _ _ _ h => nft h)
noncomputable def atM (x : Expr) (k : Expr → Str → Pos → Bool) : Bool := eM x (fun _ => false) (fun _ => false) (fun _ _ _ => false) (fun _ _ => false) (fun _ _ _ => false) (fun _ _ => false) (fun _ _ _ _ => false) k (fun _ _ => false) (fun _ _ _ => false) (fun _ => false) (fun _ => false) (fun _ _ => false) (fun _ _ _ => false)
@[elab_as_elim] theorem atME {P : Expr → Prop} {x : Expr} {k : Expr → Str → Pos → Bool} (h : atM x k = true) (g : ∀ y id p, k y id p = true → P (.Attribute y id p)) : P x :=
 eME h (fun _ _ _ h => nft h) (fun _ _ h => nft h) (fun _ _ _ _ h => nft h) (fun _ _ _ h => nft h) (fun _ _ _ _ h => nft h) (fun _ _ _ h => nft h) (fun _ _ _ _ h => nft h) g (fun _ _ _ h => nft h) (fun _ _ _ _ h => nft h) (fun _ _ h => nft h) (fun _ _ _ h => nft h) (fun _ _ _ h => nft h) (fun _ _ _ _ h => nft h)
noncomputable def suM (x : Expr) (k : Expr → Expr → Bool) : Bool := eM x (fun _ => false) (fun _ => false) (fun _ _ _ => false) (fun _ _ => false) (fun _ _ _ => false) (fun _ _ => false) (fun _ _ _ _ => false) (fun _ _ _ => false) k (fun _ _ _ => false) (fun _ => false) (fun _ => false) (fun _ _ => false) (fun _ _ _ => false)
@[elab_as_elim] theorem suME {P : Expr → Prop} {x : Expr} {k : Expr → Expr → Bool} (h : suM x k = true) (g : ∀ y z p, k y z = true → P (.Subscript y z p)) : P x :=
 eME h (fun _ _ _ h => nft h) (fun _ _ h => nft h) (fun _ _ _ _ h => nft h) (fun _ _ _ h => nft h) (fun _ _ _ _ h => nft h) (fun _ _ _ h => nft h) (fun _ _ _ _ h => nft h) (fun _ _ _ h => nft h) g (fun _ _ _ _ h => nft h) (fun _ _ h => nft h) (fun _ _ _ h => nft h) (fun _ _ _ h => nft h) (fun _ _ _ _ h => nft h)
noncomputable def slM (x : Expr) (k : (Option Expr) → (Option Expr) → (Option Expr) → Bool) : Bool := eM x (fun _ => false) (fun _ => false) (fun _ _ _ => false) (fun _ _ => false) (fun _ _ _ => false) (fun _ _ => false) (fun _ _ _ _ => false) (fun _ _ _ => false) (fun _ _ => false) k (fun _ => false) (fun _ => false) (fun _ _ => false) (fun _ _ _ => false)
@[elab_as_elim] theorem slME {P : Expr → Prop} {x : Expr} {k : (Option Expr) → (Option Expr) → (Option Expr) → Bool} (h : slM x k = true) (g : ∀ l u st p, k l u st = true → P (.Slice l u st p)) : P x :=
 eME h (fun _ _ _ h => nft h) (fun _ _ h => nft h) (fun _ _ _ _ h => nft h) (fun _ _ _ h => nft h) (fun _ _ _ _ h => nft h) (fun _ _ _ h => nft h) (fun _ _ _ _ h => nft h) (fun _ _ _ h => nft h) (fun _ _ _ h => nft h) g (fun _ _ h => nft h) (fun _ _ _ h => nft h) (fun _ _ _ h => nft h) (fun _ _ _ _ h => nft h)
noncomputable def liM (x : Expr) (k : (List Expr) → Bool) : Bool := eM x (fun _ => false) (fun _ => false) (fun _ _ _ => false) (fun _ _ => false) (fun _ _ _ => false) (fun _ _ => false) (fun _ _ _ _ => false) (fun _ _ _ => false) (fun _ _ => false) (fun _ _ _ => false) k (fun _ => false) (fun _ _ => false) (fun _ _ _ => false)
@[elab_as_elim] theorem liME {P : Expr → Prop} {x : Expr} {k : (List Expr) → Bool} (h : liM x k = true) (g : ∀ xs p, k xs = true → P (.List xs p)) : P x :=
 eME h (fun _ _ _ h => nft h) (fun _ _ h => nft h) (fun _ _ _ _ h => nft h) (fun _ _ _ h => nft h) (fun _ _ _ _ h => nft h) (fun _ _ _ h => nft h) (fun _ _ _ _ h => nft h) (fun _ _ _ h => nft h) (fun _ _ _ h => nft h) (fun _ _ _ _ h => nft h) g (fun _ _ _ h => nft h) (fun _ _ _ h => nft h) (fun _ _ _ _ h => nft h)
noncomputable def tuM (x : Expr) (k : (List Expr) → Bool) : Bool := eM x (fun _ => false) (fun _ => false) (fun _ _ _ => false) (fun _ _ => false) (fun _ _ _ => false) (fun _ _ => false) (fun _ _ _ _ => false) (fun _ _ _ => false) (fun _ _ => false) (fun _ _ _ => false) (fun _ => false) k (fun _ _ => false) (fun _ _ _ => false)
@[elab_as_elim] theorem tuME {P : Expr → Prop} {x : Expr} {k : (List Expr) → Bool} (h : tuM x k = true) (g : ∀ xs kk p, k xs = true → P (.Tuple xs kk p)) : P x :=
 eME h (fun _ _ _ h => nft h) (fun _ _ h => nft h) (fun _ _ _ _ h => nft h) (fun _ _ _ h => nft h) (fun _ _ _ _ h => nft h) (fun _ _ _ h => nft h) (fun _ _ _ _ h => nft h) (fun _ _ _ h => nft h) (fun _ _ _ h => nft h) (fun _ _ _ _ h => nft h) (fun _ _ h => nft h) g (fun _ _ _ h => nft h) (fun _ _ _ _ h => nft h)
noncomputable def diM (x : Expr) (k : (List (Option Expr)) → (List Expr) → Bool) : Bool := eM x (fun _ => false) (fun _ => false) (fun _ _ _ => false) (fun _ _ => false) (fun _ _ _ => false) (fun _ _ => false) (fun _ _ _ _ => false) (fun _ _ _ => false) (fun _ _ => false) (fun _ _ _ => false) (fun _ => false) (fun _ => false) k (fun _ _ _ => false)
@[elab_as_elim] theorem diME {P : Expr → Prop} {x : Expr} {k : (List (Option Expr)) → (List Expr) → Bool} (h : diM x k = true) (g : ∀ ks vs p, k ks vs = true → P (.Dict ks vs p)) : P x :=
 eME h (fun _ _ _ h => nft h) (fun _ _ h => nft h) (fun _ _ _ _ h => nft h) (fun _ _ _ h => nft h) (fun _ _ _ _ h => nft h) (fun _ _ _ h => nft h) (fun _ _ _ _ h => nft h) (fun _ _ _ h => nft h) (fun _ _ _ h => nft h) (fun _ _ _ _ h => nft h) (fun _ _ h => nft h) (fun _ _ _ h => nft h) g (fun _ _ _ _ h => nft h)
noncomputable def lcM (x : Expr) (k : Expr → (List Comprehension) → Scope → Bool) : Bool := eM x (fun _ => false) (fun _ => false) (fun _ _ _ => false) (fun _ _ => false) (fun _ _ _ => false) (fun _ _ => false) (fun _ _ _ _ => false) (fun _ _ _ => false) (fun _ _ => false) (fun _ _ _ => false) (fun _ => false) (fun _ => false) (fun _ _ => false) k
@[elab_as_elim] theorem lcME {P : Expr → Prop} {x : Expr} {k : Expr → (List Comprehension) → Scope → Bool} (h : lcM x k = true) (g : ∀ y gs sc p, k y gs sc = true → P (.ListComp y gs sc p)) : P x :=
 eME h (fun _ _ _ h => nft h) (fun _ _ h => nft h) (fun _ _ _ _ h => nft h) (fun _ _ _ h => nft h) (fun _ _ _ _ h => nft h) (fun _ _ _ h => nft h) (fun _ _ _ _ h => nft h) (fun _ _ _ h => nft h) (fun _ _ _ h => nft h) (fun _ _ _ _ h => nft h) (fun _ _ h => nft h) (fun _ _ _ h => nft h) (fun _ _ _ h => nft h) g
noncomputable def sM (x : Stmt) (k_sx : Expr → Bool) (k_sas : (List Expr) → Expr → Bool) (k_sre : (Option Expr) → Bool) (k_spa : Bool) (k_sra : (Option Expr) → (Option Expr) → Bool) (k_sif : Expr → (List Stmt) → (List Stmt) → Bool) (k_swh : Expr → (List Stmt) → (List Stmt) → Bool) (k_sfo : Expr → Expr → (List Stmt) → (List Stmt) → Bool) (k_str : (List Stmt) → (List ExceptHandler) → (List Stmt) → (List Stmt) → Bool) : Bool := match x with
 | .Expr e _ => k_sx e
 | .Assign ts e _ => k_sas ts e
 | .Return e _ => k_sre e
 | .Pass _ => k_spa
 | .Raise e c _ => k_sra e c
 | .If e b o _ => k_sif e b o
 | .While e b o _ => k_swh e b o
 | .For t e b o _ => k_sfo t e b o
 | .Try b hs o f _ => k_str b hs o f
 | _ => false
theorem sME {P : Stmt → Prop} {x : Stmt} {k_sx : Expr → Bool} {k_sas : (List Expr) → Expr → Bool} {k_sre : (Option Expr) → Bool} {k_spa : Bool} {k_sra : (Option Expr) → (Option Expr) → Bool} {k_sif : Expr → (List Stmt) → (List Stmt) → Bool} {k_swh : Expr → (List Stmt) → (List Stmt) → Bool} {k_sfo : Expr → Expr → (List Stmt) → (List Stmt) → Bool} {k_str : (List Stmt) → (List ExceptHandler) → (List Stmt) → (List Stmt) → Bool} (h : sM x k_sx k_sas k_sre k_spa k_sra k_sif k_swh k_sfo k_str = true)
  (h_sx : ∀ e p, k_sx e = true → P (.Expr e p)) (h_sas : ∀ ts e p, k_sas ts e = true → P (.Assign ts e p)) (h_sre : ∀ e p, k_sre e = true → P (.Return e p)) (h_spa : ∀ p, k_spa = true → P (.Pass p)) (h_sra : ∀ e c p, k_sra e c = true → P (.Raise e c p)) (h_sif : ∀ e b o p, k_sif e b o = true → P (.If e b o p)) (h_swh : ∀ e b o p, k_swh e b o = true → P (.While e b o p)) (h_sfo : ∀ t e b o p, k_sfo t e b o = true → P (.For t e b o p)) (h_str : ∀ b hs o f p, k_str b hs o f = true → P (.Try b hs o f p)) : P x := by
 cases x <;> first | exact nft h | exact h_sx _ _ h | exact h_sas _ _ _ h | exact h_sre _ _ h | exact h_spa _ h | exact h_sra _ _ _ h | exact h_sif _ _ _ _ h | exact h_swh _ _ _ _ h | exact h_sfo _ _ _ _ _ h | exact h_str _ _ _ _ _ h
noncomputable def sxM (x : Stmt) (k : Expr → Bool) : Bool := sM x k (fun _ _ => false) (fun _ => false) false (fun _ _ => false) (fun _ _ _ => false) (fun _ _ _ => false) (fun _ _ _ _ => false) (fun _ _ _ _ => false)
@[elab_as_elim] theorem sxME {P : Stmt → Prop} {x : Stmt} {k : Expr → Bool} (h : sxM x k = true) (g : ∀ e p, k e = true → P (.Expr e p)) : P x :=
 sME h g (fun _ _ _ h => nft h) (fun _ _ h => nft h) (fun _ h => nft h) (fun _ _ _ h => nft h) (fun _ _ _ _ h => nft h) (fun _ _ _ _ h => nft h) (fun _ _ _ _ _ h => nft h) (fun _ _ _ _ _ h => nft h)
noncomputable def sasM (x : Stmt) (k : (List Expr) → Expr → Bool) : Bool := sM x (fun _ => false) k (fun _ => false) false (fun _ _ => false) (fun _ _ _ => false) (fun _ _ _ => false) (fun _ _ _ _ => false) (fun _ _ _ _ => false)
@[elab_as_elim] theorem zn0 {P : Stmt → Prop} {x : Stmt} {k : (List Expr) → Expr → Bool} (h : sasM x k = true) (g : ∀ ts e p, k ts e = true → P (.Assign ts e p)) : P x :=
 sME h (fun _ _ h => nft h) g (fun _ _ h => nft h) (fun _ h => nft h) (fun _ _ _ h => nft h) (fun _ _ _ _ h => nft h) (fun _ _ _ _ h => nft h) (fun _ _ _ _ _ h => nft h) (fun _ _ _ _ _ h => nft h)
noncomputable def sreM (x : Stmt) (k : (Option Expr) → Bool) : Bool := sM x (fun _ => false) (fun _ _ => false) k false (fun _ _ => false) (fun _ _ _ => false) (fun _ _ _ => false) (fun _ _ _ _ => false) (fun _ _ _ _ => false)
@[elab_as_elim] theorem zpU {P : Stmt → Prop} {x : Stmt} {k : (Option Expr) → Bool} (h : sreM x k = true) (g : ∀ e p, k e = true → P (.Return e p)) : P x :=
 sME h (fun _ _ h => nft h) (fun _ _ _ h => nft h) g (fun _ h => nft h) (fun _ _ _ h => nft h) (fun _ _ _ _ h => nft h) (fun _ _ _ _ h => nft h) (fun _ _ _ _ _ h => nft h) (fun _ _ _ _ _ h => nft h)
noncomputable def sifM (x : Stmt) (k : Expr → (List Stmt) → (List Stmt) → Bool) : Bool := sM x (fun _ => false) (fun _ _ => false) (fun _ => false) false (fun _ _ => false) k (fun _ _ _ => false) (fun _ _ _ _ => false) (fun _ _ _ _ => false)
@[elab_as_elim] theorem zpV {P : Stmt → Prop} {x : Stmt} {k : Expr → (List Stmt) → (List Stmt) → Bool} (h : sifM x k = true) (g : ∀ e b o p, k e b o = true → P (.If e b o p)) : P x :=
 sME h (fun _ _ h => nft h) (fun _ _ _ h => nft h) (fun _ _ h => nft h) (fun _ h => nft h) (fun _ _ _ h => nft h) g (fun _ _ _ _ h => nft h) (fun _ _ _ _ _ h => nft h) (fun _ _ _ _ _ h => nft h)
noncomputable def swhM (x : Stmt) (k : Expr → (List Stmt) → (List Stmt) → Bool) : Bool := sM x (fun _ => false) (fun _ _ => false) (fun _ => false) false (fun _ _ => false) (fun _ _ _ => false) k (fun _ _ _ _ => false) (fun _ _ _ _ => false)
@[elab_as_elim] theorem zpT {P : Stmt → Prop} {x : Stmt} {k : Expr → (List Stmt) → (List Stmt) → Bool} (h : swhM x k = true) (g : ∀ e b o p, k e b o = true → P (.While e b o p)) : P x :=
 sME h (fun _ _ h => nft h) (fun _ _ _ h => nft h) (fun _ _ h => nft h) (fun _ h => nft h) (fun _ _ _ h => nft h) (fun _ _ _ _ h => nft h) g (fun _ _ _ _ _ h => nft h) (fun _ _ _ _ _ h => nft h)
noncomputable def sfoM (x : Stmt) (k : Expr → Expr → (List Stmt) → (List Stmt) → Bool) : Bool := sM x (fun _ => false) (fun _ _ => false) (fun _ => false) false (fun _ _ => false) (fun _ _ _ => false) (fun _ _ _ => false) k (fun _ _ _ _ => false)
@[elab_as_elim] theorem zpW {P : Stmt → Prop} {x : Stmt} {k : Expr → Expr → (List Stmt) → (List Stmt) → Bool} (h : sfoM x k = true) (g : ∀ t e b o p, k t e b o = true → P (.For t e b o p)) : P x :=
 sME h (fun _ _ h => nft h) (fun _ _ _ h => nft h) (fun _ _ h => nft h) (fun _ h => nft h) (fun _ _ _ h => nft h) (fun _ _ _ _ h => nft h) (fun _ _ _ _ h => nft h) g (fun _ _ _ _ _ h => nft h)
noncomputable def l0 {α : Type} (xs : List α) (b : Bool) : Bool := match xs with | [] => b | _ => false
@[elab_as_elim] theorem l0E {α : Type} {P : List α → Prop} {xs : List α} {b : Bool} (h : l0 xs b = true) (g : b = true → P []) : P xs := by
 cases xs with
 | nil => exact g h
 | cons _ _ => exact nft h
noncomputable def lc {α : Type} (xs : List α) (k : α → List α → Bool) : Bool := match xs with | x :: r => k x r | _ => false
@[elab_as_elim] theorem lcE {α : Type} {P : List α → Prop} {xs : List α} {k : α → List α → Bool} (h : lc xs k = true) (g : ∀ x r, k x r = true → P (x :: r)) : P xs := by
 cases xs with
 | nil => exact nft h
 | cons _ _ => exact g _ _ h
noncomputable def l1 {α : Type} (xs : List α) (k : α → Bool) : Bool := lc xs fun x r => l0 r (k x)
@[elab_as_elim] theorem l1E {α : Type} {P : List α → Prop} {xs : List α} {k : α → Bool} (h : l1 xs k = true) (g : ∀ x, k x = true → P [x]) : P xs :=
 lcE h fun _ _ h => l0E h fun h => g _ h
noncomputable def l2 {α : Type} (xs : List α) (k : α → α → Bool) : Bool := lc xs fun x r => l1 r (k x)
@[elab_as_elim] theorem l2E {α : Type} {P : List α → Prop} {xs : List α} {k : α → α → Bool} (h : l2 xs k = true) (g : ∀ x y, k x y = true → P [x, y]) : P xs :=
 lcE h fun _ _ h => l1E h fun _ h => g _ _ h
noncomputable def l3 {α : Type} (xs : List α) (k : α → α → α → Bool) : Bool := lc xs fun x r => l2 r (k x)
@[elab_as_elim] theorem l3E {α : Type} {P : List α → Prop} {xs : List α} {k : α → α → α → Bool} (h : l3 xs k = true) (g : ∀ x y z, k x y z = true → P [x, y, z]) : P xs :=
 lcE h fun _ _ h => l2E h fun _ _ h => g _ _ _ h
noncomputable def o0 {α : Type} (o : Option α) (b : Bool) : Bool := match o with | none => b | _ => false
@[elab_as_elim] theorem o0E {α : Type} {P : Option α → Prop} {o : Option α} {b : Bool} (h : o0 o b = true) (g : b = true → P none) : P o := by
 cases o with
 | none => exact g h
 | some _ => exact nft h
noncomputable def o1 {α : Type} (o : Option α) (k : α → Bool) : Bool := match o with | some x => k x | _ => false
@[elab_as_elim] theorem o1E {α : Type} {P : Option α → Prop} {o : Option α} {k : α → Bool} (h : o1 o k = true) (g : ∀ x, k x = true → P (some x)) : P o := by
 cases o with
 | none => exact nft h
 | some _ => exact g _ h
noncomputable def ncM (x : Expr) (k : Str → List Expr → Bool) : Bool := caM x fun f xs ks _ => nmM f fun id => l0 ks (k id xs)
@[elab_as_elim] theorem ncME {P : Expr → Prop} {x : Expr} {k : Str → List Expr → Bool} (h : ncM x k = true) (g : ∀ id np xs p, k id xs = true → P (.Call (.Name id np) xs [] p)) : P x :=
 caME h fun _ _ _ _ h => nmME h fun _ _ h => l0E h fun h => g _ _ _ _ h
noncomputable def acM (x : Expr) (k : Expr → Str → Pos → List Expr → Pos → Bool) : Bool := caM x fun f xs ks p => atM f fun y id q => l0 ks (k y id q xs p)
@[elab_as_elim] theorem acME {P : Expr → Prop} {x : Expr} {k : Expr → Str → Pos → List Expr → Pos → Bool} (h : acM x k = true) (g : ∀ y id q xs p, k y id q xs p = true → P (.Call (.Attribute y id q) xs [] p)) : P x :=
 caME h fun _ _ _ _ h => atME h fun _ _ _ h => l0E h fun h => g _ _ _ _ _ h
noncomputable def cp1M (x : Expr) (k : Expr → CmpOp → Expr → Bool) : Bool := cpM x fun l ops rs => l1 ops fun op => l1 rs fun r => k l op r
@[elab_as_elim] theorem zpE {P : Expr → Prop} {x : Expr} {k : Expr → CmpOp → Expr → Bool} (h : cp1M x k = true) (g : ∀ l op r p, k l op r = true → P (.Compare l [op] [r] p)) : P x :=
 cpME h fun _ _ _ _ h => l1E h fun _ h => l1E h fun _ h => g _ _ _ _ h
noncomputable def cp2M (x : Expr) (k : Expr → CmpOp → CmpOp → Expr → Expr → Bool) : Bool := cpM x fun l ops rs => l2 ops fun o₁ o₂ => l2 rs fun m r => k l o₁ o₂ m r
@[elab_as_elim] theorem zpD {P : Expr → Prop} {x : Expr} {k : Expr → CmpOp → CmpOp → Expr → Expr → Bool} (h : cp2M x k = true) (g : ∀ l o₁ o₂ m r p, k l o₁ o₂ m r = true → P (.Compare l [o₁, o₂] [m, r] p)) : P x :=
 cpME h fun _ _ _ _ h => l2E h fun _ _ h => l2E h fun _ _ h => g _ _ _ _ _ _ h
noncomputable def sl0M (x : Expr) (k : Expr → Option Expr → Option Expr → Bool) : Bool := suM x fun y z => slM z fun l u st => o0 st (k y l u)
@[elab_as_elim] theorem zo9 {P : Expr → Prop} {x : Expr} {k : Expr → Option Expr → Option Expr → Bool} (h : sl0M x k = true) (g : ∀ y l u q p, k y l u = true → P (.Subscript y (.Slice l u none q) p)) : P x :=
 suME h fun _ _ _ h => slME h fun _ _ _ _ h => o0E h fun h => g _ _ _ _ _ h
noncomputable def zdq (x : Expr) : Bool := !(ncM x fun _ xs => xs.isEmpty)
noncomputable def tgOf : Tg → List Nat
 | .one x => [x]
 | .many xs => xs
noncomputable def zhh (S : Sc) : List Nat → List Expr → Bool
 | [], xs => xs.isEmpty
 | i :: is, xs => lc xs fun x r => nmM x fun id => S.own id i && zhh S is r
noncomputable def zfX (S : Sc) : Tg → Expr → Bool
 | .one i, x => nmM x fun id => S.own id i
 | .many is, x => tuM x fun xs => zhh S is xs && decide is.Nodup
noncomputable def zo1 : Tg → Bool
 | .one _ => true
 | .many _ => false
mutual
noncomputable def zau (S : Sc) : Ex → Expr → Bool
 | .none, x => cM x fun c => decide (c = .none)
 | .tt, x => cM x fun c => decide (c = .bool true)
 | .ff, x => cM x fun c => decide (c = .bool false)
 | .int i, x => cM x fun c => decide (c = .int i)
 | .var i, x => nmM x fun id => S.var id i
 | .glob g, x => nmM x fun id => S.glb id g
 | .bin op a b, x => biM x fun l op' r => decide (op' = op) && zau S a l && zau S b r
 | .neg a, x => unM x fun op l => decide (op = .USub) && zau S a l
 | .not a, x => unM x fun op l => decide (op = .Not) && zau S a l
 | .cmp op a b, x => cp1M x fun l op' r => decide (op' = op) && zau S a l && zau S b r
 | .cmp2 o₁ o₂ a b c, x => cp2M x fun l p₁ p₂ m r => decide (p₁ = o₁) && decide (p₂ = o₂) && zau S a l && zau S b m && zau S c r
 | .bool isAnd es, x => boM x fun op xs => decide (op = if isAnd then .And else .Or) && za8 S es xs
 | .call f es, x => ncM x fun id xs => S.glb id f && za8 S es xs
 | .make c es, x => ncM x fun id xs => decide (c ≠ "") && S.glb id c && za8 S es xs
 | .meth o name es, x => acM x fun y id apos xs pos => decide (id = Str.ofString name) && (apos.endLine == pos.line) && zdq y && decide (xs.length < 30) && zau S o y && za8 S es xs
 | .m0 o m, x => acM x fun y id apos xs pos => l0 xs (decide (id = Str.ofString (zpi m)) && (apos.endLine == pos.line) && zdq y && zau S o y)
 | .m1 o m a, x => acM x fun y id apos xs pos => l1 xs fun z => decide (id = Str.ofString (zph m)) && (apos.endLine == pos.line) && zdq y && zau S o y && zau S a z
 | .attr o name, x => atM x fun y id _ => decide (id = Str.ofString name) && zdq y && zau S o y
 | .idx o i, x => suM x fun y z => zau S o y && zau S i z
 | .slice o lo hi, x => sl0M x fun y l h => zau S o y && zfY S lo l && zfY S hi h
 | .list es, x => liM x fun xs => za8 S es xs
 | .tuple es, x => tuM x fun xs => za8 S es xs
 | .dict0, x => diM x fun ks vs => l0 ks (l0 vs true)
 | .dict1 i, x => diM x fun ks vs => l1 ks fun o => o1 o fun y => l1 vs fun z => (nmM y fun id => S.var id i) && (cM z fun c => decide (c = .bool true))
 | .comp bs elt t it cond, x => lcM x fun y gs scope => l1 gs fun g => zjR S bs scope && zfX (zcE S bs scope.names) t g.target && decide (tgOf t = bs.map (·.2)) && zau S it g.iter && zau (zcE S bs scope.names) elt y && zez (zcE S bs scope.names) cond g.ifs && decide (g.is_async = 0)
 | .b1 f e, x => ncM x fun id xs => l1 xs fun y => S.glb id (zl6 f) && zau S e y
 | .isin e t, x => ncM x fun id xs => l2 xs fun y z => nmM z fun id' => S.glb id "isinstance" && S.glb id' (znt t) && zau S e y
 | .sset e, x => ncM x fun id xs => l1 xs fun y => S.glb id "sorted" && (ncM y fun id2 ys => l1 ys fun z => S.glb id2 "set" && zau S e z)
 | .range1 a, x => ncM x fun id xs => l1 xs fun y => S.glb id "range" && zau S a y
 | .range2 a b, x => ncM x fun id xs => l2 xs fun y z => S.glb id "range" && zau S a y && zau S b z
 | .range3 a b c, x => ncM x fun id xs => l3 xs fun y z w => S.glb id "range" && zau S a y && zau S b z && zau S c w
noncomputable def za8 (S : Sc) : Exs → List Expr → Bool
 | .nil, xs => l0 xs true
 | .cons e es, xs => lc xs fun x r => zau S e x && za8 S es r
noncomputable def zfY (S : Sc) : ExO → Option Expr → Bool
 | .none, o => o0 o true
 | .some e, o => o1 o fun x => zau S e x
noncomputable def zez (S : Sc) : ExO → List Expr → Bool
 | .none, xs => l0 xs true
 | .some e, xs => l1 xs fun x => zau S e x
end
theorem zbw {S : Sc} : za8 S .nil [] = true := rfl
theorem zbx {S : Sc} {x : Expr} {xs : List Expr} : za8 S .nil (x :: xs) = false := rfl
theorem zby {S : Sc} {e : Ex} {es : Exs} : za8 S (.cons e es) [] = false := rfl
theorem zbz {S : Sc} {e : Ex} {es : Exs} {x : Expr} {xs : List Expr} : za8 S (.cons e es) (x :: xs) = (zau S e x && za8 S es xs) := rfl
theorem zoe {S : Sc} : zfY S .none none = true := rfl
theorem zod {S : Sc} {x : Expr} : zfY S .none (some x) = false := rfl
theorem zoc {S : Sc} {e : Ex} : zfY S (.some e) none = false := rfl
theorem zob {S : Sc} {e : Ex} {x : Expr} : zfY S (.some e) (some x) = zau S e x := rfl
theorem zmY {S : Sc} : zez S .none [] = true := rfl
theorem zmZ {S : Sc} {x : Expr} {xs : List Expr} : zez S .none (x :: xs) = false := rfl
theorem zmV {S : Sc} {e : Ex} : zez S (.some e) [] = false := rfl
theorem zmX {S : Sc} {e : Ex} {x : Expr} : zez S (.some e) [x] = zau S e x := rfl
theorem zmW {S : Sc} {e : Ex} {x y : Expr} {r : List Expr} : zez S (.some e) (x :: y :: r) = false := rfl
theorem zkt {S : Sc} {e : Ex} {v : Expr} {p : Pos} : zau S e (.Starred v p) = false := by cases e <;> rfl
theorem zh5 {S : Sc} {e : Ex} {v : List Expr} {k : Nat} {p : Pos} : zau S e (.Set v k p) = false := by cases e <;> rfl
theorem zbD {S : Sc} {e : Ex} {x : Expr} {rest : List Expr} {env : Env} (h : zau S e x = true) : starEach (x :: rest) env = (false, eval x env) :: starEach rest env := by
 cases x <;> first | rfl | (rw [zkt] at h; cases h)
theorem zih {S : Sc} {e : Ex} {x : Expr} {env : Env} (h : zau S e x = true) (v : Value) : foldedSetIterable x env v = pure v := by
 cases x <;> first | rfl | (rw [zh5] at h; cases h)
theorem zfA {S : Sc} {e : Ex} {x : Expr} {op : CmpOp} (h : zau S e x = true) : behindInMarks op x = false := by
 cases x <;> first | rfl | (rw [zh5] at h; cases h)
theorem zhw {x : Expr} {name : Str} {env : Env} (h : zdq x = true) (t : Sem Value) : attributeBase x name env t = t := by
 cases x with
 | Call f xs ks p => cases f with
  | Name _ _ => cases xs with
   | nil => cases ks with
    | nil => exact Bool.noConfusion h
    | cons _ _ => rfl
   | cons _ _ => rfl
  | _ => rfl
 | _ => rfl
noncomputable def zlG (e : Ex) : Bool := e.ctorIdx == 24
noncomputable def zpq (x : PySem.Expr) : Bool := tuM x fun _ => true
noncomputable def zn8 (x : PySem.Expr) : Bool := !(x.ctorIdx == 8 || x.ctorIdx == 9 || x.ctorIdx == 10)
mutual
noncomputable def zny (S : Sc) : St → Stmt → Bool
 | .expr e, s => sxM s fun x => zau S e x && zn8 x
 | .assign t e, s => sasM s fun ts x => l1 ts fun tg => zfX S t tg && zau S e x && (zo1 t || (!zpq x && !zlG e)) && (zlG e || zn8 x)
 | .setattr o name e, s => sasM s fun ts z => l1 ts fun tg => atM tg fun y id _ => decide (id = Str.ofString name) && zau S o y && zau S e z
 | .setitem o i e, s => sasM s fun ts z => l1 ts fun tg => suM tg fun y w => zau S o y && zau S i w && zau S e z
 | .ret e, s => sreM s fun o => o1 o fun x => zau S e x
 | .raise _ _, _ => true
 | .iff c th el, s => sifM s fun x b o => zau S c x && zdr S th b && zdr S el o
 | .whil c body, s => swhM s fun x b o => l0 o (zau S c x && zdr S body b)
 | .for t it body, s => sfoM s fun tg x b o => l0 o (zfX S t tg && zau S it x && zdr S body b)
noncomputable def zdr (S : Sc) : Sts → List Stmt → Bool
 | .nil, xs => l0 xs true
 | .cons s r, xs => lc xs fun x xs => zny S s x && zdr S r xs
end
end Mine.Internal
end
section
set_option maxRecDepth 100000
namespace Mine.Internal
open PySem PySem.W PySem.Calls PyProof.Rows
noncomputable def bNames : List (String × Value) := [("len", .builtin "len"), ("list", .type "list"), ("sorted", .builtin "sorted"), ("int", .type "int"), ("all", .builtin "all"), ("any", .builtin "any"), ("tuple", .type "tuple"), ("dict", .type "dict"),
 ("set", .type "set"), ("max", .builtin "max"), ("min", .builtin "min"), ("isinstance", .builtin "isinstance"), ("range", .type "range"), ("enumerate", .type "enumerate"), ("bool", .type "bool"), ("str", .type "str"), ("ValueError", .type "ValueError")]
noncomputable def scOf (F : Fn) (names : List (Str × NameKind)) : Sc := ⟨names, F.names.zipIdx, F.size⟩
noncomputable def zhb (fd : FuncData) (ps : List String) : Bool := fd.params.posonlyargs.isEmpty && (fd.params.args.map (·.arg) == ps.map Str.ofString) && fd.params.vararg.isNone && fd.params.kwonlyargs.isEmpty && fd.params.kwarg.isNone && (match fd.defaults with | .none => true | _ => false) && decide ((ps.map Str.ofString).Nodup)
structure Tabs where
 cls : List (String × Addr)
 fn : List ((String × String) × Addr)
 fld : List (String × String)
noncomputable def isFd (K : Frag) (a : Addr) : Bool := match K.lookup a with | some ⟨_, _, .func _, _⟩ => true | _ => false
noncomputable def fdOf (K : Frag) (a : Addr) : FuncData := match K.lookup a with | some ⟨_, _, .func fd, _⟩ => fd | _ => default
noncomputable def zgP (K : Frag) (Cl : Addr) : Bool := plainGet K Cl ("x" : Str) && findIn K (.ref Cl) "__setattr__" == some (some (.builtin "object.__setattr__")) && plainOver K Cl && hasDictIn K Cl
noncomputable def zdZ (K : Frag) (T : Tabs) : Bool :=
 bNames.all (fun p => nsIn K mainGlobals (Str.ofString p.1) == some none) &&
 (match nsIn K mainGlobals "MOST_PLACES" with | some (some (.int i _)) => i == 40 | _ => false) &&
 T.cls.all (fun p => p.1 != "" && nsIn K mainGlobals (Str.ofString p.1) == some (some (.ref p.2))) &&
 T.fn.all (fun p => isFd K p.2 && if p.1.1 == "" then nsIn K mainGlobals (Str.ofString p.1.2) == some (some (.ref p.2)) else match T.cls.lookup p.1.1 with
  | some Cl => zgP K Cl && findIn K (.ref Cl) (Str.ofString p.1.2) == some (some (.ref p.2)) && isFn K (.ref p.2) && typeIn K (.ref p.2) == some (.type "function") && (p.1.2 != "__init__" || (keepIn K (.ref Cl) && makesIn K Cl))
  | none => false) &&
 T.fld.all (fun p => match T.cls.lookup p.1 with | some Cl => zgP K Cl && findIn K (.ref Cl) (Str.ofString p.2) == some none | none => false)
noncomputable def zi7 (K : Frag) (a : Addr) (F : Fn) : Bool := match fdOf K a with
 | fd => match fd.body with
  | .stmts body => isFd K a && fd.globals == mainGlobals && fd.builtins == builtinsNs && fd.closure.isEmpty && fd.scope.kind == .function && !fd.scope.isCoroutine && !fd.scope.isGenerator && codeIn K fd.code fd.qualname &&
    zdr (scOf F fd.scope.names) F.body body && F.params.all (fun x => fd.scope.names.lookup (Str.ofString x) == some .local || fd.scope.names.lookup (Str.ofString x) == some .cell) && fd.scope.names.all (fun p => p.2 != .free) &&
    decide F.names.Nodup && decide (F.names.length ≤ F.size) && decide (F.params <+: F.names)
  | _ => false
noncomputable def zcC (h : Heap) (k : Frag → Bool) : List Addr → Frag → Bool
 | [], acc => k acc
 | a :: as, acc => match h.get? a with
  | some o => zcC h k as ((a, o) :: acc)
  | none => zcC h k as acc
noncomputable def zbK (T : Tabs) (fns : List ((String × String) × Fn)) (K : Frag) : Bool := fns.all fun p => match T.fn.lookup p.1 with
 | some a => zi7 K a p.2 && zhb (fdOf K a) p.2.params
 | none => false
noncomputable def obs1 (T : Tabs) (fns : List ((String × String) × Fn)) (law : Addr) (n i : Nat) (s : Shared) : Bool := zcC s.heap (fun K => zdZ K T && zbK T (fns.take i) K && (nsIn K mainGlobals (Str.ofString "law") == some (some (.ref law)))) (List.range n) []
noncomputable def obs2 (T : Tabs) (fns : List ((String × String) × Fn)) (n i : Nat) (s : Shared) : Bool := zcC s.heap (zbK T (fns.drop i)) (List.range n) []
noncomputable def zg5 : Fn := ⟨["thing", "size"], ["thing", "size"], 2,
 .cons (.ret (.bool true (.cons (.isin (.var 0) .int) (.cons (.not (.isin (.var 0) .bool)) (.cons (.cmp2 .LtE .Lt (.int 0) (.var 0) (.var 1)) .nil))))) (
 .nil)⟩
noncomputable def zj3 : Fn := ⟨["thing", "size"], ["thing", "size"], 2,
 .cons (.iff (.bool false (.cons (.not (.isin (.var 0) .tuple)) (.cons (.cmp .NotEq (.b1 .len (.var 0)) (.int 2)) .nil))) (.cons (.ret (.ff)) (
  .nil)) (.nil)) (
 .cons (.ret (.bool true (.cons (.call "is_place" (.cons (.idx (.var 0) (.int 0)) (.cons (.var 1) .nil))) (.cons (.call "is_place" (.cons (.idx (.var 0) (.int 1)) (.cons (.var 1) .nil))) (.cons (.cmp .Lt (.idx (.var 0) (.int 0)) (.idx (.var 0) (.int 1))) .nil))))) (
 .nil))⟩
noncomputable def zdN : Sts := .cons (.setitem (.var 3) (.var 4) (.tt)) (
 .cons (.expr (.m1 (.idx (.attr (.var 0) "rows") (.idx (.var 4) (.int 0))) .append (.idx (.var 4) (.int 1)))) (
 .cons (.expr (.m1 (.idx (.attr (.var 0) "rows") (.idx (.var 4) (.int 1))) .append (.idx (.var 4) (.int 0)))) (
 .nil)))
noncomputable def zdR : Sts := .cons (.iff (.bool false (.cons (.not (.call "is_tie" (.cons (.var 4) (.cons (.var 1) .nil)))) (.cons (.cmp .In (.var 4) (.var 3)) .nil))) (.cons (.raise "BadNet" "no tie, or one that is told twice") (
  .nil)) (.nil)) (
 zdN)
noncomputable def zdM : Sts := .cons (.setattr (.var 0) "rows" (.comp [("row", 6)] (.b1 .sorted (.var 6)) (.one 6) (.attr (.var 0) "rows") .none)) (
 .nil)
noncomputable def zdL : Sts := .cons (.assign (.one 3) (.dict0)) (
 .cons (.for (.one 4) (.var 2) (zdR)) (
 zdM))
noncomputable def zfp : Sts := .cons (.setattr (.var 0) "size" (.var 1)) (
 .cons (.setattr (.var 0) "rows" (.comp [("place", 5)] (.list (.nil)) (.one 5) (.range1 (.var 1)) .none)) (
 zdL))
noncomputable def zfa : Fn := ⟨["self", "size", "ties"], ["self", "size", "ties", "seen", "tie"], 7,
 .cons (.iff (.bool false (.cons (.not (.call "is_place" (.cons (.var 1) (.cons (.bin .Add (.glob "MOST_PLACES") (.int 1)) .nil)))) (.cons (.cmp .Lt (.var 1) (.int 1)) (.cons (.not (.isin (.var 2) .list)) .nil)))) (.cons (.raise "BadNet" "no net") (
  .nil)) (.nil)) (
 zfp)⟩
noncomputable def zfs : Sts := .cons (.iff (.cmp .Lt (.var 2) (.var 3)) (.cons (.expr (.m1 (.var 1) .append (.tuple (.cons (.var 2) (.cons (.var 3) .nil))))) (
  .nil)) (.nil)) (
 .nil)
noncomputable def zfr : Sts := .cons (.for (.one 3) (.idx (.attr (.var 0) "rows") (.var 2)) (zfs)) (
 .nil)
noncomputable def zfo : Sts := .cons (.ret (.var 1)) (
 .nil)
noncomputable def ze9 : Fn := ⟨["self"], ["self", "found", "place", "other"], 4,
 .cons (.assign (.one 1) (.list (.nil))) (
 .cons (.for (.one 2) (.range1 (.attr (.var 0) "size")) (zfr)) (
 zfo))⟩
noncomputable def zed : Sts := .cons (.ret (.b1 .list (.idx (.attr (.var 0) "rows") (.var 1)))) (
 .nil)
noncomputable def zdU : Fn := ⟨["self", "place"], ["self", "place"], 2,
 .cons (.iff (.not (.call "is_place" (.cons (.var 1) (.cons (.attr (.var 0) "size") .nil)))) (.cons (.raise "NoPlace" "no such place") (
  .nil)) (.nil)) (
 zed)⟩
noncomputable def ziy : Sts := .cons (.iff (.bool false (.cons (.cmp .GtE (.idx (.var 2) (.idx (.var 3) (.int 0))) (.int 0)) (.cons (.cmp .GtE (.idx (.var 2) (.idx (.var 3) (.int 1))) (.int 0)) .nil))) (.cons (.raise "BadPairs" "a place in two pairs") (
  .nil)) (.nil)) (
 .cons (.setitem (.var 2) (.idx (.var 3) (.int 0)) (.idx (.var 3) (.int 1))) (
 .cons (.setitem (.var 2) (.idx (.var 3) (.int 1)) (.idx (.var 3) (.int 0))) (
 .nil)))
noncomputable def zgm : Sts := .cons (.iff (.bool false (.cons (.not (.call "is_tie" (.cons (.var 3) (.cons (.attr (.var 0) "size") .nil)))) (.cons (.cmp .NotIn (.idx (.var 3) (.int 1)) (.idx (.attr (.var 0) "rows") (.idx (.var 3) (.int 0)))) .nil))) (.cons (.raise "BadPairs" "a pair that is no tie") (
  .nil)) (.nil)) (
 ziy)
noncomputable def zix : Sts := .cons (.ret (.var 2)) (
 .nil)
noncomputable def ziw : Sts := .cons (.for (.one 3) (.var 1) (zgm)) (
 zix)
noncomputable def zji : Fn := ⟨["net", "pairs"], ["net", "pairs", "found", "pair"], 5,
 .cons (.iff (.not (.isin (.var 1) .list)) (.cons (.raise "BadPairs" "no list") (
  .nil)) (.nil)) (
 .cons (.assign (.one 2) (.comp [("place", 4)] (.neg (.int 1)) (.one 4) (.range1 (.attr (.var 0) "size")) .none)) (
 ziw))⟩
noncomputable def zmj : Fn := ⟨["mate"], ["mate"], 2,
 .cons (.ret (.comp [("place", 1)] (.tuple (.cons (.var 1) (.cons (.idx (.var 0) (.var 1)) .nil))) (.one 1) (.range1 (.b1 .len (.var 0))) (.some (.cmp .Gt (.idx (.var 0) (.var 1)) (.var 1))))) (
 .nil)⟩
noncomputable def zgW : Sts := .cons (.setitem (.var 3) (.var 4) (.tt)) (
 .nil)
noncomputable def zg2 : Sts := .cons (.iff (.bool false (.cons (.not (.call "is_place" (.cons (.var 4) (.cons (.attr (.var 0) "size") .nil)))) (.cons (.cmp .In (.var 4) (.var 3)) .nil))) (.cons (.ret (.ff)) (
  .nil)) (.nil)) (
 zgW)
noncomputable def zg1 : Sts := .cons (.iff (.cmp .NotIn (.idx (.var 2) (.bin .Add (.var 5) (.int 1))) (.idx (.attr (.var 0) "rows") (.idx (.var 2) (.var 5)))) (.cons (.ret (.ff)) (
  .nil)) (.nil)) (
 .cons (.iff (.cmp .NotEq (.cmp .Eq (.idx (.var 1) (.idx (.var 2) (.var 5))) (.idx (.var 2) (.bin .Add (.var 5) (.int 1)))) (.cmp .Eq (.bin .Mod (.var 5) (.int 2)) (.int 1))) (.cons (.ret (.ff)) (
  .nil)) (.nil)) (
 .nil))
noncomputable def T_is_way_2 : Sts := .cons (.ret (.tt)) (
 .nil)
noncomputable def ze5 : Sts := .cons (.iff (.bool false (.cons (.cmp .GtE (.idx (.var 1) (.idx (.var 2) (.int 0))) (.int 0)) (.cons (.cmp .GtE (.idx (.var 1) (.idx (.var 2) (.neg (.int 1)))) (.int 0)) .nil))) (.cons (.ret (.ff)) (
  .nil)) (.nil)) (
 .cons (.for (.one 5) (.range1 (.bin .Sub (.b1 .len (.var 2)) (.int 1))) (zg1)) (
 T_is_way_2))
noncomputable def zhC : Fn := ⟨["net", "mate", "way"], ["net", "mate", "way", "seen", "place", "k"], 6,
 .cons (.iff (.bool false (.cons (.not (.isin (.var 2) .list)) (.cons (.cmp .Lt (.b1 .len (.var 2)) (.int 2)) (.cons (.cmp .Eq (.bin .Mod (.b1 .len (.var 2)) (.int 2)) (.int 1)) .nil)))) (.cons (.ret (.ff)) (
  .nil)) (.nil)) (
 .cons (.assign (.one 3) (.dict0)) (
 .cons (.for (.one 4) (.var 2) (zg2)) (
 ze5)))⟩
noncomputable def zg0 : Sts := .cons (.setitem (.var 3) (.idx (.var 2) (.var 4)) (.idx (.var 2) (.bin .Add (.var 4) (.int 1)))) (
 .cons (.setitem (.var 3) (.idx (.var 2) (.bin .Add (.var 4) (.int 1))) (.idx (.var 2) (.var 4))) (
 .nil))
noncomputable def zgV : Sts := .cons (.ret (.call "told" (.cons (.var 3) .nil))) (
 .nil)
noncomputable def zgU : Sts := .cons (.for (.one 4) (.range3 (.int 0) (.b1 .len (.var 2)) (.int 2)) (zg0)) (
 zgV)
noncomputable def zgT : Sts := .cons (.iff (.not (.call "is_way" (.cons (.var 0) (.cons (.var 3) (.cons (.var 2) .nil))))) (.cons (.raise "BadWay" "no way") (
  .nil)) (.nil)) (
 zgU)
noncomputable def zhB : Fn := ⟨["net", "pairs", "way"], ["net", "pairs", "way", "mate", "k"], 5,
 .cons (.assign (.one 3) (.call "mates" (.cons (.var 0) (.cons (.var 1) .nil)))) (
 zgT)⟩
noncomputable def zdK : Sts := .cons (.setattr (.var 0) "waiting" (.list (.cons (.var 3) .nil))) (
 .nil)
noncomputable def zdJ : Sts := .cons (.setattr (.var 0) "outer" (.comp [("place", 6)] (.cmp .Eq (.var 6) (.var 3)) (.one 6) (.range1 (.attr (.var 1) "size")) .none)) (
 zdK)
noncomputable def zdI : Sts := .cons (.setattr (.var 0) "base" (.comp [("place", 5)] (.var 5) (.one 5) (.range1 (.attr (.var 1) "size")) .none)) (
 zdJ)
noncomputable def zdH : Sts := .cons (.setattr (.var 0) "back" (.comp [("place", 4)] (.neg (.int 1)) (.one 4) (.range1 (.attr (.var 1) "size")) .none)) (
 zdI)
noncomputable def zdG : Sts := .cons (.setattr (.var 0) "root" (.var 3)) (
 zdH)
noncomputable def zdF : Sts := .cons (.setattr (.var 0) "mate" (.var 2)) (
 zdG)
noncomputable def zdd : Fn := ⟨["self", "net", "mate", "root"], ["self", "net", "mate", "root"], 7,
 .cons (.setattr (.var 0) "ground" (.var 1)) (
 zdF)⟩
noncomputable def zck : Sts := .cons (.setitem (.var 3) (.var 4) (.tt)) (
 .nil)
noncomputable def zcn : Sts := .cons (.assign (.one 4) (.idx (.attr (.var 0) "base") (.idx (.attr (.var 0) "back") (.idx (.attr (.var 0) "mate") (.var 4))))) (
 zck)
noncomputable def zcm : Sts := .cons (.assign (.one 4) (.idx (.attr (.var 0) "base") (.idx (.attr (.var 0) "back") (.idx (.attr (.var 0) "mate") (.var 4))))) (
 .nil)
noncomputable def zcj : Sts := .cons (.ret (.var 4)) (
 .nil)
noncomputable def zci : Sts := .cons (.whil (.cmp .NotIn (.var 4) (.var 3)) (zcm)) (
 zcj)
noncomputable def zch : Sts := .cons (.assign (.one 4) (.idx (.attr (.var 0) "base") (.var 2))) (
 zci)
noncomputable def zcg : Sts := .cons (.whil (.cmp .GtE (.idx (.attr (.var 0) "mate") (.var 4)) (.int 0)) (zcn)) (
 zch)
noncomputable def zcf : Sts := .cons (.setitem (.var 3) (.var 4) (.tt)) (
 zcg)
noncomputable def zce : Sts := .cons (.assign (.one 4) (.idx (.attr (.var 0) "base") (.var 1))) (
 zcf)
noncomputable def zbR : Fn := ⟨["self", "one", "other"], ["self", "one", "other", "seen", "place"], 5,
 .cons (.assign (.one 3) (.dict0)) (
 zce)⟩
noncomputable def zcN : Sts := .cons (.assign (.one 1) (.idx (.attr (.var 0) "back") (.var 3))) (
 .nil)
noncomputable def zcM : Sts := .cons (.assign (.one 3) (.idx (.attr (.var 0) "mate") (.var 1))) (
 zcN)
noncomputable def zcL : Sts := .cons (.setitem (.attr (.var 0) "back") (.var 1) (.var 3)) (
 zcM)
noncomputable def zcK : Sts := .cons (.setitem (.var 4) (.idx (.attr (.var 0) "base") (.idx (.attr (.var 0) "mate") (.var 1))) (.tt)) (
 zcL)
noncomputable def zcP : Sts := .cons (.setitem (.var 4) (.idx (.attr (.var 0) "base") (.var 1)) (.tt)) (
 zcK)
noncomputable def zb8 : Fn := ⟨["self", "place", "meet", "child", "ring"], ["self", "place", "meet", "child", "ring"], 5,
 .cons (.whil (.cmp .NotEq (.idx (.attr (.var 0) "base") (.var 1)) (.var 2)) (zcP)) (
 .nil)⟩
noncomputable def zcJ : Sts := .cons (.expr (.m1 (.attr (.var 0) "waiting") .append (.var 5))) (
   .nil)
noncomputable def zcI : Sts := .cons (.iff (.not (.idx (.attr (.var 0) "outer") (.var 5))) (.cons (.setitem (.attr (.var 0) "outer") (.var 5) (.tt)) (
   zcJ)) (.nil)) (
  .nil)
noncomputable def zcO : Sts := .cons (.iff (.cmp .In (.idx (.attr (.var 0) "base") (.var 5)) (.var 4)) (.cons (.setitem (.attr (.var 0) "base") (.var 5) (.var 3)) (
  zcI)) (.nil)) (
 .nil)
noncomputable def zbG : Sts := .cons (.for (.one 5) (.range1 (.attr (.attr (.var 0) "ground") "size")) (zcO)) (
 .nil)
noncomputable def zcH : Sts := .cons (.expr (.meth (.var 0) "marked" (.cons (.var 2) (.cons (.var 3) (.cons (.var 1) (.cons (.var 4) .nil)))))) (
 zbG)
noncomputable def zcG : Sts := .cons (.expr (.meth (.var 0) "marked" (.cons (.var 1) (.cons (.var 3) (.cons (.var 2) (.cons (.var 4) .nil)))))) (
 zcH)
noncomputable def zcF : Sts := .cons (.assign (.one 4) (.dict0)) (
 zcG)
noncomputable def zb7 : Fn := ⟨["self", "one", "other"], ["self", "one", "other", "meet", "ring", "place"], 6,
 .cons (.assign (.one 3) (.meth (.var 0) "meeting" (.cons (.var 1) (.cons (.var 2) .nil)))) (
 zcF)⟩
noncomputable def zb5 : Sts := .cons (.ret (.ff)) (
  .nil)
noncomputable def zdE : Sts := .cons (.ret (.ff)) (
 .nil)
noncomputable def zdD : Sts := .cons (.expr (.m1 (.attr (.var 0) "waiting") .append (.idx (.attr (.var 0) "mate") (.var 2)))) (
 zdE)
noncomputable def zdC : Sts := .cons (.setitem (.attr (.var 0) "outer") (.idx (.attr (.var 0) "mate") (.var 2)) (.tt)) (
 zdD)
noncomputable def zdB : Sts := .cons (.iff (.cmp .Lt (.idx (.attr (.var 0) "mate") (.var 2)) (.int 0)) (.cons (.ret (.tt)) (
  .nil)) (.nil)) (
 zdC)
noncomputable def zdA : Sts := .cons (.setitem (.attr (.var 0) "back") (.var 2) (.var 1)) (
 zdB)
noncomputable def zbv : Sts := .cons (.iff (.cmp .GtE (.idx (.attr (.var 0) "back") (.var 2)) (.int 0)) (.cons (.ret (.ff)) (
  .nil)) (.nil)) (
 zdA)
noncomputable def zdz : Sts := .cons (.iff (.bool false (.cons (.cmp .Eq (.var 2) (.attr (.var 0) "root")) (.cons (.bool true (.cons (.cmp .GtE (.idx (.attr (.var 0) "mate") (.var 2)) (.int 0)) (.cons (.cmp .GtE (.idx (.attr (.var 0) "back") (.idx (.attr (.var 0) "mate") (.var 2))) (.int 0)) .nil))) .nil))) (.cons (.expr (.meth (.var 0) "shrink" (.cons (.var 1) (.cons (.var 2) .nil)))) (
  zb5)) (.nil)) (
 zbv)
noncomputable def zdc : Fn := ⟨["self", "place", "other"], ["self", "place", "other"], 3,
 .cons (.iff (.bool false (.cons (.cmp .Eq (.idx (.attr (.var 0) "base") (.var 1)) (.idx (.attr (.var 0) "base") (.var 2))) (.cons (.cmp .Eq (.idx (.attr (.var 0) "mate") (.var 1)) (.var 2)) .nil))) (.cons (.ret (.ff)) (
  .nil)) (.nil)) (
 zdz)⟩
noncomputable def zdk : Sts := .cons (.iff (.meth (.var 0) "step" (.cons (.var 1) (.cons (.var 2) .nil))) (.cons (.ret (.var 2)) (
  .nil)) (.nil)) (
 .nil)
noncomputable def zbP : Sts := .cons (.for (.one 2) (.idx (.attr (.attr (.var 0) "ground") "rows") (.var 1)) (zdk)) (
 .nil)
noncomputable def zdi : Sts := .cons (.setattr (.var 0) "waiting" (.slice (.attr (.var 0) "waiting") (.some (.int 1)) .none)) (
 zbP)
noncomputable def zdj : Sts := .cons (.assign (.one 1) (.idx (.attr (.var 0) "waiting") (.int 0))) (
 zdi)
noncomputable def zdh : Sts := .cons (.ret (.neg (.int 1))) (
 .nil)
noncomputable def zcu : Fn := ⟨["self"], ["self", "place", "other"], 3,
 .cons (.whil (.cmp .Gt (.b1 .len (.attr (.var 0) "waiting")) (.int 0)) (zdj)) (
 zdh)⟩
noncomputable def zj0 : Sts := .cons (.assign (.one 1) (.idx (.attr (.var 0) "mate") (.idx (.attr (.var 0) "back") (.var 1)))) (
 .nil)
noncomputable def zjZ : Sts := .cons (.expr (.m1 (.var 2) .append (.idx (.attr (.var 0) "back") (.var 1)))) (
 zj0)
noncomputable def zj2 : Sts := .cons (.expr (.m1 (.var 2) .append (.var 1))) (
 zjZ)
noncomputable def zjY : Sts := .cons (.ret (.var 2)) (
 .nil)
noncomputable def zjX : Sts := .cons (.whil (.cmp .GtE (.var 1) (.int 0)) (zj2)) (
 zjY)
noncomputable def zmk : Fn := ⟨["search", "end"], ["search", "end", "found"], 3,
 .cons (.assign (.one 2) (.list (.nil))) (
 zjX)⟩
noncomputable def ze6 : Sts := .cons (.iff (.cmp .GtE (.var 5) (.int 0)) (.cons (.ret (.call "road" (.cons (.var 4) (.cons (.var 5) .nil)))) (
   .nil)) (.nil)) (
  .nil)
noncomputable def zgZ : Sts := .cons (.assign (.one 5) (.meth (.var 4) "found" (.nil))) (
  ze6)
noncomputable def zg3 : Sts := .cons (.iff (.cmp .Lt (.idx (.var 2) (.var 3)) (.int 0)) (.cons (.assign (.one 4) (.make "Search" (.cons (.var 0) (.cons (.var 2) (.cons (.var 3) .nil))))) (
  zgZ)) (.nil)) (
 .nil)
noncomputable def zgY : Sts := .cons (.ret (.none)) (
 .nil)
noncomputable def zgX : Sts := .cons (.for (.one 3) (.range1 (.attr (.var 0) "size")) (zg3)) (
 zgY)
noncomputable def zhD : Fn := ⟨["net", "pairs"], ["net", "pairs", "mate", "root", "search", "end"], 6,
 .cons (.assign (.one 2) (.call "mates" (.cons (.var 0) (.cons (.var 1) .nil)))) (
 zgX)⟩
noncomputable def ziA : Sts := .cons (.assign (.one 2) (.call "better" (.cons (.var 0) (.cons (.var 1) .nil)))) (
 .nil)
noncomputable def ziE : Sts := .cons (.assign (.one 1) (.call "turned" (.cons (.var 0) (.cons (.var 1) (.cons (.var 2) .nil))))) (
 ziA)
noncomputable def ziz : Sts := .cons (.ret (.var 1)) (
 .nil)
noncomputable def zgl : Sts := .cons (.whil (.cmp .IsNot (.var 2) (.none)) (ziE)) (
 ziz)
noncomputable def zjj : Fn := ⟨["net", "pairs"], ["net", "pairs", "way"], 3,
 .cons (.assign (.one 2) (.call "better" (.cons (.var 0) (.cons (.var 1) .nil)))) (
 zgl)⟩
noncomputable def zml : Fn := ⟨["net"], ["net"], 1,
 .cons (.ret (.call "grown" (.cons (.var 0) (.cons (.list .nil) .nil)))) (
 .nil)⟩
noncomputable def zgk : Sts := .cons (.ret (.var 3)) (
 .nil)
noncomputable def zgj : Sts := .cons (.iff (.cmp .Lt (.b1 .len (.var 3)) (.b1 .len (.call "most" (.cons (.var 0) .nil)))) (.cons (.ret (.none)) (
  .nil)) (.nil)) (
 zgk)
noncomputable def zgi : Sts := .cons (.assign (.one 3) (.call "most" (.cons (.var 2) .nil))) (
 zgj)
noncomputable def zgh : Sts := .cons (.assign (.one 2) (.make "Net" (.cons (.attr (.var 0) "size") (.cons (.comp [("tie", 4)] (.var 4) (.one 4) (.meth (.var 0) "ties" .nil) (.some (.cmp .NotIn (.var 1) (.var 4)))) .nil)))) (
 zgi)
noncomputable def zgo : Fn := ⟨["net", "place"], ["net", "place", "other", "found"], 5,
 .cons (.expr (.meth (.var 0) "beside" (.cons (.var 1) .nil))) (
 zgh)⟩
noncomputable def ziF : Sts := .cons (.iff (.bool true (.cons (.not (.idx (.var 1) (.var 3))) (.cons (.b1 .any (.comp [("other", 5)] (.idx (.var 1) (.var 5)) (.one 5) (.meth (.var 0) "beside" (.cons (.var 3) .nil)) .none)) .nil))) (.cons (.expr (.m1 (.var 2) .append (.var 3))) (
  .nil)) (.nil)) (
 .nil)
noncomputable def ziD : Sts := .cons (.ret (.var 2)) (
 .nil)
noncomputable def ziC : Sts := .cons (.for (.one 3) (.range1 (.attr (.var 0) "size")) (ziF)) (
 ziD)
noncomputable def ziB : Sts := .cons (.assign (.one 2) (.list (.nil))) (
 ziC)
noncomputable def zjk : Fn := ⟨["net"], ["net", "lonely", "found", "place"], 6,
 .cons (.assign (.one 1) (.comp [("place", 4)] (.cmp .IsNot (.call "leaving" (.cons (.var 0) (.cons (.var 4) .nil))) (.none)) (.one 4) (.range1 (.attr (.var 0) "size")) .none)) (
 ziB)⟩
noncomputable def zgp : Fn := ⟨["_law_found"], ["_law_found"], 1,
 .cons (.ret (.bool true (.cons (.isin (.var 0) .int) (.cons (.not (.isin (.var 0) .bool)) .nil)))) (
 .nil)⟩
noncomputable def zdb : Fn := ⟨["_law_script", "_law_k"], ["_law_script", "_law_k"], 2,
 .cons (.iff (.cmp .Lt (.var 1) (.b1 .len (.var 0))) (.cons (.ret (.idx (.var 0) (.var 1))) (
  .nil)) (.nil)) (
 .cons (.ret (.int 0)) (
 .nil))⟩
noncomputable def zg4 : Fn := ⟨["_law_kind", "_law_cell", "_law_one", "_law_other", "_law_size"], ["_law_kind", "_law_cell", "_law_one", "_law_other", "_law_size"], 5,
 .cons (.iff (.cmp .Eq (.var 0) (.int 0)) (.cons (.ret (.cmp .Eq (.bin .Mod (.var 1) (.int 3)) (.int 0))) (
  .nil)) (.nil)) (
 .cons (.iff (.cmp .Eq (.var 0) (.int 1)) (.cons (.ret (.bool false (.cons (.cmp .Eq (.var 3) (.bin .Add (.var 2) (.int 1))) (.cons (.bool true (.cons (.cmp .Eq (.var 2) (.int 0)) (.cons (.cmp .Eq (.var 3) (.bin .Sub (.var 4) (.int 1))) .nil))) (.cons (.cmp .Eq (.bin .Mod (.var 1) (.int 11)) (.int 0)) .nil))))) (
  .nil)) (.nil)) (
 .cons (.iff (.cmp .Eq (.var 0) (.int 2)) (.cons (.ret (.bool true (.cons (.cmp .Eq (.bin .Mod (.bin .Add (.var 2) (.var 3)) (.int 2)) (.int 1)) (.cons (.cmp .Eq (.bin .Mod (.var 1) (.int 2)) (.int 0)) .nil)))) (
  .nil)) (.nil)) (
 .cons (.iff (.cmp .Eq (.var 0) (.int 3)) (.cons (.ret (.bool false (.cons (.bool true (.cons (.cmp .Lt (.var 2) (.int 2)) (.cons (.cmp .Gt (.bin .Mod (.var 1) (.int 3)) (.int 0)) .nil))) (.cons (.bool true (.cons (.cmp .Gt (.var 2) (.int 1)) (.cons (.cmp .Eq (.bin .FloorDiv (.bin .Sub (.var 2) (.int 2)) (.int 3)) (.bin .FloorDiv (.bin .Sub (.var 3) (.int 2)) (.int 3))) .nil))) .nil)))) (
  .nil)) (.nil)) (
 .cons (.ret (.cmp .Gt (.bin .Mod (.var 1) (.int 4)) (.int 0))) (
 .nil)))))⟩
noncomputable def zdy : Sts := .cons (.iff (.call "_law_tied" (.cons (.var 2) (.cons (.bin .FloorDiv (.var 7) (.bin .Add (.int 1) (.bin .Mod (.var 4) (.int 3)))) (.cons (.var 4) (.cons (.var 5) (.cons (.var 1) .nil)))))) (.cons (.expr (.m1 (.var 3) .append (.tuple (.cons (.var 4) (.cons (.var 5) .nil))))) (
  .nil)) (.nil)) (
 .nil)
noncomputable def zb6 : Sts := .cons (.assign (.one 6) (.bin .Add (.bin .FloorDiv (.bin .Mult (.var 5) (.bin .Sub (.var 5) (.int 1))) (.int 2)) (.var 4))) (
 .cons (.assign (.one 7) (.bin .Add (.call "_law_cell_at" (.cons (.var 0) (.cons (.bin .Add (.int 3) (.bin .Mod (.var 6) (.int 24))) .nil))) (.bin .Mult (.bin .FloorDiv (.var 6) (.int 24)) (.int 7919)))) (
 zdy))
noncomputable def zdO : Sts := .cons (.for (.one 5) (.range2 (.bin .Add (.var 4) (.int 1)) (.var 1)) (zb6)) (
 .nil)
noncomputable def zdx : Sts := .cons (.ret (.var 3)) (
 .nil)
noncomputable def zc8 : Fn := ⟨["_law_script", "_law_size", "_law_kind"], ["_law_script", "_law_size", "_law_kind", "_law_found", "_law_one", "_law_other", "_law_at", "_law_cell"], 8,
 .cons (.assign (.one 3) (.list (.nil))) (
 .cons (.for (.one 4) (.range1 (.var 1)) (zdO)) (
 zdx))⟩
noncomputable def zc9 : Fn := ⟨["_law_script", "_law_bound"], ["_law_script", "_law_bound"], 2,
 .cons (.ret (.bin .Add (.int 1) (.bin .Mod (.call "_law_cell_at" (.cons (.var 0) (.cons (.int 0) .nil))) (.var 1)))) (
 .nil)⟩
noncomputable def zda : Fn := ⟨["_law_script"], ["_law_script"], 1,
 .cons (.ret (.bin .Mod (.call "_law_cell_at" (.cons (.var 0) (.cons (.int 1) .nil))) (.int 5))) (
 .nil)⟩
noncomputable def zet : Fn := ⟨["_law_script"], ["_law_script"], 1,
 .cons (.ret (.cmp .Eq (.bin .Mod (.bin .FloorDiv (.call "_law_cell_at" (.cons (.var 0) (.cons (.int 0) .nil))) (.int 11)) (.int 9)) (.int 4))) (
 .nil)⟩
noncomputable def zea : Sts := .cons (.assign (.one 3) (.bin .Add (.int 1) (.bin .Mult (.int 2) (.bin .Mod (.var 3) (.int 2))))) (
  .nil)
noncomputable def zcs : Sts := .cons (.ret (.tuple (.cons (.var 2) (.cons (.call "_law_ties_by" (.cons (.var 0) (.cons (.var 2) (.cons (.var 3) .nil)))) .nil)))) (
 .nil)
noncomputable def zcr : Sts := .cons (.iff (.call "_law_great" (.cons (.var 0) .nil)) (.cons (.assign (.one 2) (.bin .Add (.int 30) (.bin .Mod (.bin .FloorDiv (.call "_law_cell_at" (.cons (.var 0) (.cons (.int 0) .nil))) (.int 99)) (.int 11)))) (
  zea)) (.nil)) (
 zcs)
noncomputable def zd9 : Sts := .cons (.iff (.cmp .Eq (.bin .Mod (.bin .FloorDiv (.call "_law_cell_at" (.cons (.var 0) (.cons (.int 0) .nil))) (.int 11)) (.int 9)) (.int 6)) (.cons (.assign (.one 2) (.bin .Add (.int 12) (.bin .Mod (.bin .FloorDiv (.call "_law_cell_at" (.cons (.var 0) (.cons (.int 0) .nil))) (.int 99)) (.int 11)))) (
  .nil)) (.nil)) (
 zcr)
noncomputable def zd8 : Sts := .cons (.assign (.one 3) (.call "_law_kind_by" (.cons (.var 0) .nil))) (
 zd9)
noncomputable def zdS : Fn := ⟨["_law_script", "_law_bound"], ["_law_script", "_law_bound", "_law_size", "_law_kind"], 4,
 .cons (.assign (.one 2) (.call "_law_size_by" (.cons (.var 0) (.cons (.var 1) .nil)))) (
 zd8)⟩
noncomputable def zfn : Sts := .cons (.expr (.m1 (.idx (.var 2) (.var 4)) .append (.var 3))) (
 .nil)
noncomputable def zdQ : Sts := .cons (.expr (.m1 (.idx (.var 2) (.var 3)) .append (.var 4))) (
 zfn)
noncomputable def zfm : Sts := .cons (.ret (.comp [("_law_row", 6)] (.b1 .sorted (.var 6)) (.one 6) (.var 2) .none)) (
 .nil)
noncomputable def zfl : Sts := .cons (.for (.many [3, 4]) (.var 1) (zdQ)) (
 zfm)
noncomputable def ze8 : Fn := ⟨["_law_size", "_law_ties"], ["_law_size", "_law_ties", "_law_found", "_law_one", "_law_other"], 7,
 .cons (.assign (.one 2) (.comp [("_law_place", 5)] (.list (.nil)) (.one 5) (.range1 (.var 0)) .none)) (
 zfl)⟩
noncomputable def zfk : Sts := .cons (.expr (.m1 (.var 4) .append (.var 6))) (
  .nil)
noncomputable def zfq : Sts := .cons (.iff (.bool true (.cons (.cmp .In (.var 6) (.var 2)) (.cons (.cmp .NotIn (.var 6) (.var 3)) .nil))) (.cons (.setitem (.var 3) (.var 6) (.tt)) (
  zfk)) (.nil)) (
 .nil)
noncomputable def zfj : Sts := .cons (.for (.one 6) (.idx (.var 0) (.var 5)) (zfq)) (
 .nil)
noncomputable def zdP : Sts := .cons (.assign (.one 5) (.m0 (.var 4) .pop)) (
 zfj)
noncomputable def zfi : Sts := .cons (.ret (.b1 .sorted (.var 3))) (
 .nil)
noncomputable def zfh : Sts := .cons (.whil (.cmp .NotEq (.var 4) (.list (.nil))) (zdP)) (
 zfi)
noncomputable def zfg : Sts := .cons (.assign (.one 4) (.list (.cons (.var 1) .nil))) (
 zfh)
noncomputable def ze7 : Fn := ⟨["_law_near_here", "_law_place", "_law_there"], ["_law_near_here", "_law_place", "_law_there", "_law_met", "_law_waiting", "_law_here", "_law_other"], 7,
 .cons (.assign (.one 3) (.dict1 1)) (
 zfg)⟩
noncomputable def zc6 : Sts := .cons (.setitem (.var 6) (.var 8) (.tt)) (
 .nil)
noncomputable def zeI : Sts := .cons (.for (.one 8) (.idx (.var 5) (.neg (.int 1))) (zc6)) (
  .nil)
noncomputable def zc5 : Sts := .cons (.iff (.bool true (.cons (.cmp .In (.var 7) (.var 4)) (.cons (.cmp .NotIn (.var 7) (.var 6)) .nil))) (.cons (.expr (.m1 (.var 5) .append (.call "_law_part" (.cons (.var 3) (.cons (.var 7) (.cons (.var 4) .nil)))))) (
  zeI)) (.nil)) (
 .nil)
noncomputable def zeH : Sts := .cons (.ret (.var 5)) (
 .nil)
noncomputable def zeG : Sts := .cons (.for (.one 7) (.range1 (.var 0)) (zc5)) (
 zeH)
noncomputable def zeF : Sts := .cons (.assign (.one 6) (.dict0)) (
 zeG)
noncomputable def zeE : Sts := .cons (.assign (.one 5) (.list (.nil))) (
 zeF)
noncomputable def zeD : Sts := .cons (.assign (.one 4) (.b1 .dict (.comp [("_law_place", 9)] (.tuple (.cons (.var 9) (.cons (.tt) .nil))) (.one 9) (.range1 (.var 0)) (.some (.cmp .NotIn (.var 9) (.var 2)))))) (
 zeE)
noncomputable def zes : Fn := ⟨["_law_size", "_law_ties", "_law_taken"], ["_law_size", "_law_ties", "_law_taken", "_law_near_here", "_law_there", "_law_found", "_law_met", "_law_place", "_law_other"], 10,
 .cons (.assign (.one 3) (.call "_law_near" (.cons (.var 0) (.cons (.var 1) .nil)))) (
 zeD)⟩
noncomputable def zec : Sts := .cons (.ret (.cmp .Eq (.var 3) (.bin .Sub (.b1 .len (.var 4)) (.b1 .len (.var 2))))) (
 .nil)
noncomputable def zct : Sts := .cons (.assign (.one 4) (.comp [("_law_part_here", 6)] (.var 6) (.one 6) (.call "_law_parts" (.cons (.var 0) (.cons (.var 1) (.cons (.var 2) .nil)))) (.some (.cmp .Eq (.bin .Mod (.b1 .len (.var 6)) (.int 2)) (.int 1))))) (
 zec)
noncomputable def zeb : Sts := .cons (.iff (.bool false (.cons (.cmp .NotEq (.var 2) (.sset (.var 2))) (.cons (.bool true (.cons (.cmp .NotEq (.var 2) (.list .nil)) (.cons (.bool false (.cons (.cmp .Lt (.idx (.var 2) (.int 0)) (.int 0)) (.cons (.cmp .GtE (.idx (.var 2) (.neg (.int 1))) (.var 0)) .nil))) .nil))) .nil))) (.cons (.ret (.ff)) (
  .nil)) (.nil)) (
 zct)
noncomputable def zdT : Fn := ⟨["_law_size", "_law_ties", "_law_row", "_law_many"], ["_law_size", "_law_ties", "_law_row", "_law_many", "_law_odd"], 7,
 .cons (.iff (.bool false (.cons (.not (.isin (.var 2) .list)) (.cons (.not (.b1 .all (.comp [("_law_place", 5)] (.call "_law_whole" (.cons (.var 5) .nil)) (.one 5) (.var 2) .none))) .nil))) (.cons (.ret (.ff)) (
  .nil)) (.nil)) (
 zeb)⟩
noncomputable def zeR : Sts := .cons (.assign (.one 4) (.var 5)) (
 .nil)
noncomputable def zeQ : Sts := .cons (.setitem (.var 3) (.idx (.var 5) (.int 1)) (.tt)) (
 zeR)
noncomputable def zeP : Sts := .cons (.setitem (.var 3) (.idx (.var 5) (.int 0)) (.tt)) (
 zeQ)
noncomputable def zeO : Sts := .cons (.iff (.bool false (.cons (.cmp .In (.idx (.var 5) (.int 0)) (.var 3)) (.cons (.cmp .In (.idx (.var 5) (.int 1)) (.var 3)) .nil))) (.cons (.ret (.none)) (
  .nil)) (.nil)) (
 zeP)
noncomputable def zeN : Sts := .cons (.iff (.bool false (.cons (.not (.call "_law_whole" (.cons (.idx (.var 5) (.int 0)) .nil))) (.cons (.not (.call "_law_whole" (.cons (.idx (.var 5) (.int 1)) .nil))) (.cons (.not (.cmp .Lt (.var 4) (.var 5))) .nil)))) (.cons (.ret (.none)) (
  .nil)) (.nil)) (
 zeO)
noncomputable def zc7 : Sts := .cons (.iff (.bool false (.cons (.not (.isin (.var 5) .tuple)) (.cons (.cmp .NotEq (.b1 .len (.var 5)) (.int 2)) (.cons (.cmp .NotIn (.var 5) (.var 1)) .nil)))) (.cons (.ret (.none)) (
  .nil)) (.nil)) (
 zeN)
noncomputable def zeM : Sts := .cons (.ret (.comp [("_law_place", 6)] (.var 6) (.one 6) (.range1 (.var 0)) (.some (.cmp .NotIn (.var 6) (.var 3))))) (
 .nil)
noncomputable def zeL : Sts := .cons (.for (.one 5) (.var 2) (zc7)) (
 zeM)
noncomputable def zeK : Sts := .cons (.assign (.one 4) (.tuple (.cons (.neg (.int 1)) (.cons (.neg (.int 1)) .nil)))) (
 zeL)
noncomputable def zeJ : Sts := .cons (.assign (.one 3) (.dict0)) (
 zeK)
noncomputable def zeu : Fn := ⟨["_law_size", "_law_ties", "_law_pairs"], ["_law_size", "_law_ties", "_law_pairs", "_law_taken", "_law_last", "_law_pair"], 7,
 .cons (.iff (.not (.isin (.var 2) .list)) (.cons (.ret (.none)) (
  .nil)) (.nil)) (
 zeJ)⟩
noncomputable def zmg : Sts := .cons (.ret (.bool true (.cons (.cmp .Eq (.idx (.var 4) (.neg (.int 1))) (.tuple (.cons (.int 0) (.cons (.int 0) .nil)))) (.cons (.cmp .Eq (.var 6) (.bin .Add (.var 8) (.list (.cons (.neg (.int 1)) .nil)))) .nil)))) (
 .nil)
noncomputable def zmf : Sts := .cons (.iff (.bool false (.cons (.cmp .Is (.var 9) (.none)) (.cons (.cmp .NotEq (.bin .Sub (.var 1) (.b1 .len (.var 9))) (.bin .Mult (.int 2) (.var 7))) (.cons (.cmp .NotEq (.call "fence" (.cons (.var 3) .nil)) (.var 8)) (.cons (.cmp .NotEq (.meth (.var 3) "ties" .nil) (.var 2)) .nil))))) (.cons (.ret (.ff)) (
  .nil)) (.nil)) (
 zmg)
noncomputable def zjg : Sts := .cons (.assign (.one 9) (.call "_law_alone" (.cons (.var 1) (.cons (.var 2) (.cons (.call "most" (.cons (.var 3) .nil)) .nil))))) (
 zmf)
noncomputable def zme : Sts := .cons (.expr (.m1 (.var 6) .append (.neg (.int 1)))) (
 zjg)
noncomputable def zmd : Sts := .cons (.expr (.m1 (.var 4) .append (.tuple (.cons (.int 0) (.cons (.int 0) .nil))))) (
 zme)
noncomputable def zmb : Sts := .cons (.assign (.one 8) (.b1 .list (.var 6))) (
 zmd)
noncomputable def zma : Sts := .cons (.assign (.one 7) (.b1 .len (.var 4))) (
 zmb)
noncomputable def zl9 : Sts := .cons (.iff (.bool false (.cons (.cmp .Is (.var 5) (.none)) (.cons (.not (.call "_law_fenced" (.cons (.var 1) (.cons (.var 2) (.cons (.var 6) (.cons (.b1 .len (.var 5)) .nil)))))) .nil))) (.cons (.ret (.ff)) (
  .nil)) (.nil)) (
 zma)
noncomputable def zl8 : Sts := .cons (.assign (.one 6) (.call "fence" (.cons (.var 3) .nil))) (
 zl9)
noncomputable def zj1 : Sts := .cons (.assign (.one 5) (.call "_law_alone" (.cons (.var 1) (.cons (.var 2) (.cons (.var 4) .nil))))) (
 zl8)
noncomputable def zhA : Sts := .cons (.assign (.one 4) (.call "most" (.cons (.var 3) .nil))) (
 zj1)
noncomputable def zhz : Sts := .cons (.assign (.one 3) (.make "Net" (.cons (.var 1) (.cons (.b1 .list (.var 2)) .nil)))) (
 zhA)
noncomputable def zoW : Fn := ⟨["_law_script"], ["_law_script", "_law_size", "_law_ties", "_law_net", "_law_pairs", "_law_left", "_law_row", "_law_many", "_law_kept", "_law_again"], 10,
 .cons (.assign (.many [1, 2]) (.call "_law_net_by" (.cons (.var 0) (.cons (.int 11) .nil)))) (
 zhz)⟩
noncomputable def fns06 : List ((String × String) × Fn) := [(("", "is_place"), zg5), (("", "is_tie"), zj3), (("Net", "__init__"), zfa), (("Net", "ties"), ze9), (("Net", "beside"), zdU), (("", "mates"), zji), (("", "told"), zmj), (("", "is_way"), zhC), (("", "turned"), zhB), (("Search", "__init__"), zdd), (("Search", "meeting"), zbR), (("Search", "marked"), zb8), (("Search", "shrink"), zb7), (("Search", "step"), zdc), (("Search", "found"), zcu), (("", "road"), zmk), (("", "better"), zhD), (("", "grown"), zjj), (("", "most"), zml), (("", "leaving"), zgo), (("", "fence"), zjk), (("", "_law_whole"), zgp), (("", "_law_cell_at"), zdb), (("", "_law_tied"), zg4), (("", "_law_ties_by"), zc8), (("", "_law_size_by"), zc9), (("", "_law_kind_by"), zda), (("", "_law_great"), zet), (("", "_law_net_by"), zdS), (("", "_law_near"), ze8), (("", "_law_part"), ze7), (("", "_law_parts"), zes), (("", "_law_fenced"), zdT), (("", "_law_alone"), zeu), (("", "law"), zoW)]
noncomputable def zas (c f : String) : Option Fn := fns06.lookup (c, f)
noncomputable def zay (c f : String) : Bool := (c == "Net" && f == "size") || (c == "Net" && f == "rows") || (c == "Search" && f == "ground") || (c == "Search" && f == "mate") || (c == "Search" && f == "root") || (c == "Search" && f == "back") || (c == "Search" && f == "base") || (c == "Search" && f == "outer") || (c == "Search" && f == "waiting")
end Mine.Internal
end
section
open PySem PySem.W PyProof.Rows
set_option Elab.async false
set_option maxRecDepth 100000
set_option maxHeartbeats 8000000
namespace Mine.Internal
noncomputable def tabs06 : Tabs := ⟨[("NetError", 24), ("BadNet", 37), ("NoPlace", 49), ("BadPairs", 61), ("BadWay", 73), ("Net", 118), ("Search", 196)],
 [(("", "is_place"), 82), (("", "is_tie"), 89), (("Net", "__init__"), 101), (("Net", "ties"), 108), (("Net", "beside"), 115), (("", "mates"), 127), (("", "told"), 132), (("", "is_way"), 139), (("", "turned"), 146), (("Search", "__init__"), 158), (("Search", "meeting"), 165), (("Search", "marked"), 172), (("Search", "shrink"), 179), (("Search", "step"), 186), (("Search", "found"), 193), (("", "road"), 207), (("", "better"), 214), (("", "grown"), 221), (("", "most"), 228), (("", "leaving"), 233), (("", "fence"), 238), (("", "_law_whole"), 245), (("", "_law_cell_at"), 252), (("", "_law_tied"), 259), (("", "_law_ties_by"), 266), (("", "_law_size_by"), 273), (("", "_law_kind_by"), 280), (("", "_law_great"), 287), (("", "_law_net_by"), 294), (("", "_law_near"), 299), (("", "_law_part"), 306), (("", "_law_parts"), 311), (("", "_law_fenced"), 316), (("", "_law_alone"), 321), (("", "law"), 328)],
 [("Net", "size"), ("Net", "rows"), ("Search", "ground"), ("Search", "mate"), ("Search", "root"), ("Search", "back"), ("Search", "base"), ("Search", "outer"), ("Search", "waiting")]⟩
theorem zoi : ∀ w, (openEnds treeTable PySem.Challenge.pw_uf010024_06 w 5252).map (obs1 tabs06 fns06 328 330 17) = some true := leO fun w os => by kernel_rfl
theorem zoh : ∀ w, (openEnds treeTable PySem.Challenge.pw_uf010024_06 w 5252).map (obs2 tabs06 fns06 330 17) = some true := leO fun w os => by kernel_rfl
theorem za1 {Φ : Calls} {md : Bool} {ρ : Loc} {σ : Store} {Q : V → Store → Prop} {X : XP}  : wpE Φ md (.none) ρ σ Q X = (Q .none σ) := rfl
theorem E_tt {Φ : Calls} {md : Bool} {ρ : Loc} {σ : Store} {Q : V → Store → Prop} {X : XP}  : wpE Φ md (.tt) ρ σ Q X = (Q (.bool true) σ) := rfl
theorem E_ff {Φ : Calls} {md : Bool} {ρ : Loc} {σ : Store} {Q : V → Store → Prop} {X : XP}  : wpE Φ md (.ff) ρ σ Q X = (Q (.bool false) σ) := rfl
theorem zaL {Φ : Calls} {md : Bool} {ρ : Loc} {σ : Store} {Q : V → Store → Prop} {X : XP} {i : Int} : wpE Φ md (.int i) ρ σ Q X = (Q (.int i) σ) := rfl
theorem zam {Φ : Calls} {md : Bool} {ρ : Loc} {σ : Store} {Q : V → Store → Prop} {X : XP} {i : Nat} : wpE Φ md (.var i) ρ σ Q X = (zav (ρ.get i) fun v => Q v σ) := rfl
theorem zfv {Φ : Calls} {md : Bool} {ρ : Loc} {σ : Store} {Q : V → Store → Prop} {X : XP} {x : String} : wpE Φ md (.glob x) ρ σ Q X = (zav (zlO x) fun i => Q (.int i) σ) := rfl
theorem zbX {Φ : Calls} {md : Bool} {ρ : Loc} {σ : Store} {Q : V → Store → Prop} {X : XP} {op : Operator} {a b : Ex} : wpE Φ md (.bin op a b) ρ σ Q X = (wpE Φ md a ρ σ (fun u σ₁ => wpE Φ md b ρ σ₁ (fun v σ₂ => binV op u v σ₂ Q) X) X) := rfl
theorem zd2 {Φ : Calls} {md : Bool} {ρ : Loc} {σ : Store} {Q : V → Store → Prop} {X : XP} {a : Ex} : wpE Φ md (.neg a) ρ σ Q X = (wpE Φ md a ρ σ (fun u σ₁ => zeX u fun i => Q (.int (-i)) σ₁) X) := rfl
theorem zb9 {Φ : Calls} {md : Bool} {ρ : Loc} {σ : Store} {Q : V → Store → Prop} {X : XP} {a : Ex} : wpE Φ md (.not a) ρ σ Q X = (wpE Φ md a ρ σ (fun u σ₁ => zav (truthy σ₁ u) fun b => Q (.bool (!b)) σ₁) X) := rfl
theorem zaM {Φ : Calls} {md : Bool} {ρ : Loc} {σ : Store} {Q : V → Store → Prop} {X : XP} {op : CmpOp} {a b : Ex} : wpE Φ md (.cmp op a b) ρ σ Q X = (wpE Φ md a ρ σ (fun u σ₁ => wpE Φ md b ρ σ₁ (fun v σ₂ => zav (cmpV σ₂ op u v) fun r => Q (.bool r) σ₂) X) X) := rfl
theorem zfw {Φ : Calls} {md : Bool} {ρ : Loc} {σ : Store} {Q : V → Store → Prop} {X : XP} {o₁ o₂ : CmpOp} {a b c : Ex} : wpE Φ md (.cmp2 o₁ o₂ a b c) ρ σ Q X = (wpE Φ md a ρ σ (fun u σ₁ => wpE Φ md b ρ σ₁ (fun v σ₂ => zav (cmpV σ₂ o₁ u v) fun r =>
   if r then wpE Φ md c ρ σ₂ (fun x σ₃ => zav (cmpV σ₃ o₂ v x) fun r' => Q (.bool r') σ₃) X else Q (.bool false) σ₂) X) X) := rfl
theorem za3 {Φ : Calls} {md : Bool} {ρ : Loc} {σ : Store} {Q : V → Store → Prop} {X : XP} {isAnd : Bool} {es : Exs} : wpE Φ md (.bool isAnd es) ρ σ Q X = (zfb Φ md isAnd es ρ σ Q X) := rfl
theorem zaB {Φ : Calls} {md : Bool} {ρ : Loc} {σ : Store} {Q : V → Store → Prop} {X : XP} {f : String} {es : Exs} : wpE Φ md (.call f es) ρ σ Q X = onT (Φ.has "" f) (wpEs Φ md es ρ σ (fun vs σ₁ => Φ.run "" f vs σ₁ Q X) X) := rfl
theorem zee {Φ : Calls} {md : Bool} {ρ : Loc} {σ : Store} {Q : V → Store → Prop} {X : XP} {c : String} {es : Exs} : wpE Φ md (.make c es) ρ σ Q X = onT (Φ.has c "__init__") (wpEs Φ md es ρ σ (fun vs σ₁ => ∀ x d, σ₁ x = none → σ₁ d = none → x ≠ d →
   Φ.run c "__init__" (.ref x :: vs) ((σ₁.upd d (.ns [])).upd x (.inst c d)) (fun r σ₂ => r = .none ∧ Q (.ref x) σ₂) X) X) := rfl
theorem zbO {Φ : Calls} {md : Bool} {ρ : Loc} {σ : Store} {Q : V → Store → Prop} {X : XP} {o : Ex} {name : String} {es : Exs} : wpE Φ md (.meth o name es) ρ σ Q X = (wpE Φ md o ρ σ (fun u σ₁ => zgC σ₁ u fun c _ fs => (fs.lookup name = none ∧ Φ.has c name = true) ∧ wpEs Φ md es ρ σ₁ (fun vs σ₂ => Φ.run c name (u :: vs) σ₂ Q X) X) X) := rfl
theorem E_m0 {Φ : Calls} {md : Bool} {ρ : Loc} {σ : Store} {Q : V → Store → Prop} {X : XP} {o : Ex} {m : M0} : wpE Φ md (.m0 o m) ρ σ Q X = (wpE Φ md o ρ σ (fun u σ₁ => m0V m u σ₁ Q) X) := rfl
theorem E_m1 {Φ : Calls} {md : Bool} {ρ : Loc} {σ : Store} {Q : V → Store → Prop} {X : XP} {o : Ex} {m : M1} {a : Ex} : wpE Φ md (.m1 o m a) ρ σ Q X = (wpE Φ md o ρ σ (fun u σ₁ => za5 σ₁ u fun _ _ => wpE Φ md a ρ σ₁ (fun x σ₂ => m1V m u x σ₂ Q) X) X) := rfl
theorem zaz {Φ : Calls} {md : Bool} {ρ : Loc} {σ : Store} {Q : V → Store → Prop} {X : XP} {o : Ex} {name : String} : wpE Φ md (.attr o name) ρ σ Q X = (wpE Φ md o ρ σ (fun u σ₁ => zdw Φ.fld u name σ₁ fun x => Q x σ₁) X) := rfl
theorem zaR {Φ : Calls} {md : Bool} {ρ : Loc} {σ : Store} {Q : V → Store → Prop} {X : XP} {o i : Ex} : wpE Φ md (.idx o i) ρ σ Q X = (wpE Φ md o ρ σ (fun u σ₁ => wpE Φ md i ρ σ₁ (fun v σ₂ => idxV u v σ₂ fun x => Q x σ₂) X) X) := rfl
theorem zdV {Φ : Calls} {md : Bool} {ρ : Loc} {σ : Store} {Q : V → Store → Prop} {X : XP} {o : Ex} {lo hi : ExO} : wpE Φ md (.slice o lo hi) ρ σ Q X = (wpE Φ md o ρ σ (fun u σ₁ => wpO Φ md lo ρ σ₁ (fun l σ₂ => wpO Φ md hi ρ σ₂ (fun h σ₃ => zhS u l h σ₃ Q) X) X) X) := rfl
theorem za2 {Φ : Calls} {md : Bool} {ρ : Loc} {σ : Store} {Q : V → Store → Prop} {X : XP} {es : Exs} : wpE Φ md (.list es) ρ σ Q X = (wpEs Φ md es ρ σ (fun vs σ₁ => vs.length ≤ zax ∧ alloc σ₁ (.list vs) Q) X) := rfl
theorem zbh {Φ : Calls} {md : Bool} {ρ : Loc} {σ : Store} {Q : V → Store → Prop} {X : XP} {es : Exs} : wpE Φ md (.tuple es) ρ σ Q X = (wpEs Φ md es ρ σ (fun vs σ₁ => vs.length ≤ zax ∧ Q (.tup vs) σ₁) X) := rfl
theorem zbI {Φ : Calls} {md : Bool} {ρ : Loc} {σ : Store} {Q : V → Store → Prop} {X : XP}  : wpE Φ md (.dict0) ρ σ Q X = (alloc σ (.dict []) Q) := rfl
theorem E_b1 {Φ : Calls} {md : Bool} {ρ : Loc} {σ : Store} {Q : V → Store → Prop} {X : XP} {f : B1} {e : Ex} : wpE Φ md (.b1 f e) ρ σ Q X = (wpE Φ md e ρ σ (fun u σ₁ => b1V md f u σ₁ Q) X) := rfl
theorem zfu {Φ : Calls} {md : Bool} {ρ : Loc} {σ : Store} {Q : V → Store → Prop} {X : XP} {e : Ex} : wpE Φ md (.sset e) ρ σ Q X = (wpE Φ md e ρ σ (fun u σ₁ => znV md u σ₁ Q) X) := rfl
theorem zcQ {Φ : Calls} {md : Bool} {ρ : Loc} {σ : Store} {Q : V → Store → Prop} {X : XP} {e : Ex} {t : Ty} : wpE Φ md (.isin e t) ρ σ Q X = (wpE Φ md e ρ σ (fun u σ₁ => zav (zjG σ₁ u t) fun b => Q (.bool b) σ₁) X) := rfl
theorem zev {Φ : Calls} {md : Bool} {ρ : Loc} {σ : Store} {Q : V → Store → Prop} {X : XP} {i : Nat} : wpE Φ md (.dict1 i) ρ σ Q X = (zav (ρ.get i) fun u => zeA u = true ∧ alloc σ (.dict [u]) Q) := rfl
theorem zar {Φ : Calls} {md : Bool} {ρ : Loc} {σ : Store} {Q : List V → Store → Prop} {X : XP} : wpEs Φ md .nil ρ σ Q X = Q [] σ := rfl
theorem zal {Φ : Calls} {md : Bool} {ρ : Loc} {σ : Store} {Q : List V → Store → Prop} {X : XP} {e : Ex} {es : Exs} : wpEs Φ md (.cons e es) ρ σ Q X = wpE Φ md e ρ σ (fun v σ₁ => wpEs Φ md es ρ σ₁ (fun vs σ₂ => Q (v :: vs) σ₂) X) X := rfl
theorem zbn {Φ : Calls} {md : Bool} {ρ : Loc} {σ : Store} {Q : V → Store → Prop} {X : XP} {isAnd : Bool} {e : Ex} : zfb Φ md isAnd (.cons e .nil) ρ σ Q X = wpE Φ md e ρ σ Q X := rfl
theorem zaW {Φ : Calls} {md : Bool} {ρ : Loc} {σ : Store} {Q : V → Store → Prop} {X : XP} {isAnd : Bool} {e e2 : Ex} {es : Exs} : zfb Φ md isAnd (.cons e (.cons e2 es)) ρ σ Q X = wpE Φ md e ρ σ (fun v σ₁ => zav (truthy σ₁ v) fun b => if b = isAnd then zfb Φ md isAnd (.cons e2 es) ρ σ₁ Q X else Q v σ₁) X := rfl
theorem zeT {Φ : Calls} {md : Bool} {ρ : Loc} {σ : Store} {Q : V → Store → Prop} {X : XP} : wpO Φ md .none ρ σ Q X = Q .none σ := rfl
theorem zeS {Φ : Calls} {md : Bool} {ρ : Loc} {σ : Store} {Q : V → Store → Prop} {X : XP} {e : Ex} : wpO Φ md (.some e) ρ σ Q X = wpE Φ md e ρ σ Q X := rfl
theorem zba {Φ : Calls} {md : Bool} {ρ : Loc} {σ : Store} {Q : Bool → Store → Prop} {X : XP} : wpC Φ md .none ρ σ Q X = Q true σ := rfl
theorem za9 {Φ : Calls} {md : Bool} {ρ : Loc} {σ : Store} {Q : Bool → Store → Prop} {X : XP} {e : Ex} : wpC Φ md (.some e) ρ σ Q X = wpE Φ md e ρ σ (fun v σ₁ => zav (truthy σ₁ v) fun b => Q b σ₁) X := rfl
theorem I_r1 {Φ : Calls} {md : Bool} {ρ : Loc} {σ : Store} {K : List V → (Store → Prop) → Store → Prop} {X : XP} {a : Ex} : wpIt Φ md (.range1 a) ρ σ K X = wpE Φ md a ρ σ (fun u σ₁ => itR1 u σ₁ K) X := rfl
theorem I_r2 {Φ : Calls} {md : Bool} {ρ : Loc} {σ : Store} {K : List V → (Store → Prop) → Store → Prop} {X : XP} {a b : Ex} : wpIt Φ md (.range2 a b) ρ σ K X = wpE Φ md a ρ σ (fun u σ₁ => wpE Φ md b ρ σ₁ (fun v σ₂ => itR2 u v σ₂ K) X) X := rfl
theorem I_r3 {Φ : Calls} {md : Bool} {ρ : Loc} {σ : Store} {K : List V → (Store → Prop) → Store → Prop} {X : XP} {a b c : Ex} : wpIt Φ md (.range3 a b c) ρ σ K X = wpE Φ md a ρ σ (fun u σ₁ => wpE Φ md b ρ σ₁ (fun v σ₂ => wpE Φ md c ρ σ₂ (fun x σ₃ => itR3 u v x σ₃ K) X) X) X := rfl
theorem za0 {Φ : Calls} {md : Bool} {ρ : Loc} {σ : Store} {K : List V → (Store → Prop) → Store → Prop} {X : XP} {i : Nat} : wpIt Φ md (.var i) ρ σ K X = wpE Φ md (.var i) ρ σ (fun u σ₁ => zdn u σ₁ fun items chk => K items chk σ₁) X := rfl
theorem zmi {Φ : Calls} {md : Bool} {ρ : Loc} {σ : Store} {K : List V → (Store → Prop) → Store → Prop} {X : XP} {o i : Ex} : wpIt Φ md (.idx o i) ρ σ K X = wpE Φ md (.idx o i) ρ σ (fun u σ₁ => zdn u σ₁ fun items chk => K items chk σ₁) X := rfl
theorem zbf {Φ : Calls} {md : Bool} {ρ : Loc} {σ : Store} {K : List V → (Store → Prop) → Store → Prop} {X : XP} {o : Ex} {name : String} : wpIt Φ md (.attr o name) ρ σ K X = wpE Φ md (.attr o name) ρ σ (fun u σ₁ => zdn u σ₁ fun items chk => K items chk σ₁) X := rfl
theorem zmh {Φ : Calls} {md : Bool} {ρ : Loc} {σ : Store} {K : List V → (Store → Prop) → Store → Prop} {X : XP} {es : Exs} : wpIt Φ md (.list es) ρ σ K X = wpE Φ md (.list es) ρ σ (fun u σ₁ => zdn u σ₁ fun items chk => K items chk σ₁) X := rfl
theorem zdl {Φ : Calls} {md : Bool} {ρ : Loc} {σ : Store} {K : List V → (Store → Prop) → Store → Prop} {X : XP} {f : String} {es : Exs} : wpIt Φ md (.call f es) ρ σ K X = wpE Φ md (.call f es) ρ σ (fun u σ₁ => zdn u σ₁ fun items chk => K items chk σ₁) X := rfl
theorem zft {Φ : Calls} {md : Bool} {ρ : Loc} {σ : Store} {K : List V → (Store → Prop) → Store → Prop} {X : XP} {o : Ex} {name : String} {es : Exs} : wpIt Φ md (.meth o name es) ρ σ K X = wpE Φ md (.meth o name es) ρ σ (fun u σ₁ => zdn u σ₁ fun items chk => K items chk σ₁) X := rfl
theorem zjh {Φ : Calls} {md : Bool} {ρ : Loc} {σ : Store} {K : List V → (Store → Prop) → Store → Prop} {X : XP} {o : Ex} {lo hi : ExO} : wpIt Φ md (.slice o lo hi) ρ σ K X = wpE Φ md (.slice o lo hi) ρ σ (fun u σ₁ => zdn u σ₁ fun items chk => K items chk σ₁) X := rfl
theorem zd3 {Φ : Calls} {md : Bool} {bs : List (String × Nat)} {elt : Ex} {t : Tg} {cond : ExO} {ρ : Loc} {σ : Store} {Q : V → Store → Prop} {X : XP} {a : Ex} : wpE Φ md (.comp bs elt t (.range1 a) cond) ρ σ Q X = onT md (wpIt Φ md (.range1 a) ρ σ (fun items chk σ₁ => zb4 chk (fun v σ₂ K => zav (zaE t v ρ) fun ρ' => wpC Φ md cond ρ' σ₂ (fun b σ₃ => if b then wpE Φ md elt ρ' σ₃ (fun x σ₄ => K (some x) σ₄) noX else K none σ₃) noX) Q items [] σ₁) X) := rfl
theorem zbg {Φ : Calls} {md : Bool} {bs : List (String × Nat)} {elt : Ex} {t : Tg} {cond : ExO} {ρ : Loc} {σ : Store} {Q : V → Store → Prop} {X : XP} {i : Nat} : wpE Φ md (.comp bs elt t (.var i) cond) ρ σ Q X = onT md (wpIt Φ md (.var i) ρ σ (fun items chk σ₁ => zb4 chk (fun v σ₂ K => zav (zaE t v ρ) fun ρ' => wpC Φ md cond ρ' σ₂ (fun b σ₃ => if b then wpE Φ md elt ρ' σ₃ (fun x σ₄ => K (some x) σ₄) noX else K none σ₃) noX) Q items [] σ₁) X) := rfl
theorem zbJ {Φ : Calls} {md : Bool} {bs : List (String × Nat)} {elt : Ex} {t : Tg} {cond : ExO} {ρ : Loc} {σ : Store} {Q : V → Store → Prop} {X : XP} {o : Ex} {name : String} : wpE Φ md (.comp bs elt t (.attr o name) cond) ρ σ Q X = onT md (wpIt Φ md (.attr o name) ρ σ (fun items chk σ₁ => zb4 chk (fun v σ₂ K => zav (zaE t v ρ) fun ρ' => wpC Φ md cond ρ' σ₂ (fun b σ₃ => if b then wpE Φ md elt ρ' σ₃ (fun x σ₄ => K (some x) σ₄) noX else K none σ₃) noX) Q items [] σ₁) X) := rfl
theorem zde {Φ : Calls} {md : Bool} {bs : List (String × Nat)} {elt : Ex} {t : Tg} {cond : ExO} {ρ : Loc} {σ : Store} {Q : V → Store → Prop} {X : XP} {f : String} {es : Exs} : wpE Φ md (.comp bs elt t (.call f es) cond) ρ σ Q X = onT md (wpIt Φ md (.call f es) ρ σ (fun items chk σ₁ => zb4 chk (fun v σ₂ K => zav (zaE t v ρ) fun ρ' => wpC Φ md cond ρ' σ₂ (fun b σ₃ => if b then wpE Φ md elt ρ' σ₃ (fun x σ₄ => K (some x) σ₄) noX else K none σ₃) noX) Q items [] σ₁) X) := rfl
theorem zdW {Φ : Calls} {md : Bool} {bs : List (String × Nat)} {elt : Ex} {t : Tg} {cond : ExO} {ρ : Loc} {σ : Store} {Q : V → Store → Prop} {X : XP} {o : Ex} {name : String} {es : Exs} : wpE Φ md (.comp bs elt t (.meth o name es) cond) ρ σ Q X = onT md (wpIt Φ md (.meth o name es) ρ σ (fun items chk σ₁ => zb4 chk (fun v σ₂ K => zav (zaE t v ρ) fun ρ' => wpC Φ md cond ρ' σ₂ (fun b σ₃ => if b then wpE Φ md elt ρ' σ₃ (fun x σ₄ => K (some x) σ₄) noX else K none σ₃) noX) Q items [] σ₁) X) := rfl
theorem zaC {n : Int} {σ : Store} {K : List V → (Store → Prop) → Store → Prop} : itR1 (.int n) σ K = ((n < 2 ^ 31 ∧ -(2 ^ 31) < n) ∧ K ((upto 0 n 1).map V.int) (fun _ => True) σ) := rfl
theorem zcY {m n : Int} {σ : Store} {K : List V → (Store → Prop) → Store → Prop} : itR2 (.int m) (.int n) σ K = ((n < 2 ^ 31 ∧ -(2 ^ 31) < n ∧ m < 2 ^ 31 ∧ -(2 ^ 31) < m) ∧ K ((upto m n 1).map V.int) (fun _ => True) σ) := rfl
theorem zcX {m n k : Int} {σ : Store} {K : List V → (Store → Prop) → Store → Prop} : itR3 (.int m) (.int n) (.int k) σ K = ((n < 2 ^ 31 ∧ -(2 ^ 31) < n ∧ m < 2 ^ 31 ∧ -(2 ^ 31) < m ∧ 0 < k ∧ k < 1000000000) ∧ K ((upto m n k).map V.int) (fun _ => True) σ) := rfl
theorem za7 {Φ : Bool → Calls} {md : Bool} {ρ : Loc} {σ : Store} {N : Loc → Store → Prop} {R : V → Store → Prop} {X : XL} {e : Ex} : wpS Φ md (.expr e) ρ σ N R X = (wpE (Φ md) md e ρ σ (fun v σ₁ => onT (drp v) (N ρ σ₁)) fun c a σ₁ => X c a ρ σ₁) := rfl
theorem zao {Φ : Bool → Calls} {md : Bool} {ρ : Loc} {σ : Store} {N : Loc → Store → Prop} {R : V → Store → Prop} {X : XL} {t : Tg} {e : Ex} : wpS Φ md (.assign t e) ρ σ N R X = onT (tgOk md t) (wpE (Φ md) md e ρ σ (fun v σ₁ => zav (zaE t v ρ) fun ρ' => N ρ' σ₁) fun c a σ₁ => X c a ρ σ₁) := rfl
theorem zaJ {Φ : Bool → Calls} {md : Bool} {ρ : Loc} {σ : Store} {N : Loc → Store → Prop} {R : V → Store → Prop} {X : XL} {o : Ex} {name : String} {e : Ex} : wpS Φ md (.setattr o name e) ρ σ N R X = (wpE (Φ md) md e ρ σ (fun v σ₁ => wpE (Φ md) md o ρ σ₁ (fun u σ₂ => zfy (Φ md).fld u name v σ₂ fun σ₃ => N ρ σ₃) fun c a σ₁ => X c a ρ σ₁) fun c a σ₁ => X c a ρ σ₁) := rfl
theorem zaA {Φ : Bool → Calls} {md : Bool} {ρ : Loc} {σ : Store} {N : Loc → Store → Prop} {R : V → Store → Prop} {X : XL} {o i e : Ex} : wpS Φ md (.setitem o i e) ρ σ N R X = (wpE (Φ md) md e ρ σ (fun v σ₁ => wpE (Φ md) md o ρ σ₁ (fun u σ₂ => wpE (Φ md) md i ρ σ₂ (fun k σ₃ => zbq u k v σ₃ fun σ₄ => N ρ σ₄)
   fun c a σ₁ => X c a ρ σ₁) fun c a σ₁ => X c a ρ σ₁) fun c a σ₁ => X c a ρ σ₁) := rfl
theorem zaK {Φ : Bool → Calls} {md : Bool} {ρ : Loc} {σ : Store} {N : Loc → Store → Prop} {R : V → Store → Prop} {X : XL} {e : Ex} : wpS Φ md (.ret e) ρ σ N R X = (wpE (Φ md) md e ρ σ R fun c a σ₁ => X c a ρ σ₁) := rfl
theorem zbH {Φ : Bool → Calls} {md : Bool} {ρ : Loc} {σ : Store} {N : Loc → Store → Prop} {R : V → Store → Prop} {X : XL} {c msg : String} : wpS Φ md (.raise c msg) ρ σ N R X = False := rfl
theorem zaY {Φ : Bool → Calls} {md : Bool} {ρ : Loc} {σ : Store} {N : Loc → Store → Prop} {R : V → Store → Prop} {X : XL} {c : Ex} {th el : Sts} : wpS Φ md (.iff c th el) ρ σ N R X = (wpE (Φ md) md c ρ σ (fun v σ₁ => zav (truthy σ₁ v) fun b => if b then wpSs Φ md th ρ σ₁ N R X else wpSs Φ md el ρ σ₁ N R X) fun c a σ₁ => X c a ρ σ₁) := rfl
theorem zcl {Φ : Bool → Calls} {md : Bool} {ρ : Loc} {σ : Store} {N : Loc → Store → Prop} {R : V → Store → Prop} {X : XL} {c : Ex} {body : Sts} : wpS Φ md (.whil c body) ρ σ N R X = (∃ n, zfc (fun ρ σ K => wpE (Φ md) md c ρ σ (fun v σ₁ => zav (truthy σ₁ v) fun b => K b σ₁) fun c a σ₁ => X c a ρ σ₁)
   (fun ρ σ K => wpSs Φ md body ρ σ K R X) N n ρ σ) := rfl
theorem zbQ {Φ : Bool → Calls} {md : Bool} {ρ : Loc} {σ : Store} {N : Loc → Store → Prop} {R : V → Store → Prop} {X : XL} {t : Tg} {it : Ex} {body : Sts} : wpS Φ md (.for t it body) ρ σ N R X = onT md (wpIt (Φ md) md it ρ σ (fun items chk σ₁ => forV chk (fun v ρ σ K => zav (zaE t v ρ) fun ρ' => wpSs Φ md body ρ' σ K R X) N items ρ σ₁)
   fun c a σ₁ => X c a ρ σ₁) := rfl
theorem zah {Φ : Bool → Calls} {md : Bool} {ρ : Loc} {σ : Store} {N : Loc → Store → Prop} {R : V → Store → Prop} {X : XL} : wpSs Φ md .nil ρ σ N R X = N ρ σ := rfl
theorem zag {Φ : Bool → Calls} {md : Bool} {ρ : Loc} {σ : Store} {N : Loc → Store → Prop} {R : V → Store → Prop} {X : XL} {s : St} {r : Sts} : wpSs Φ md (.cons s r) ρ σ N R X = wpS Φ md s ρ σ (fun ρ₁ σ₁ => wpSs Φ md r ρ₁ σ₁ N R X) R X := rfl
end Mine.Internal
end
section
namespace Mine.Internal
open PySem PySem.W PySem.Calls PyProof.Rows
mutual
inductive VR (h : Heap) : V → Value → Prop
 | none : VR h .none .none
 | bool {b : Bool} : VR h (.bool b) (.bool b)
 | int {i : Int} {t : Tok} : VR h (.int i) (.int i t)
 | str {s : Str} {t : Tok} : VR h (.str s) (.str s t)
 | ref {a : Addr} : VR h (.ref a) (.ref a)
 | tup {vs : List V} {xs : List Value} {a : Addr} {n : Nat} : h.get? a = some (seqObj "tuple" xs.toArray n) → VRs h vs xs → VR h (.tup vs) (.ref a)
inductive VRs (h : Heap) : List V → List Value → Prop
 | nil : VRs h [] []
 | cons {v : V} {vs : List V} {x : Value} {xs : List Value} : VR h v x → VRs h vs xs → VRs h (v :: vs) (x :: xs)
end
noncomputable def IsT (o : Obj) : Prop := o.cls = .type "tuple" ∧ ∃ xs n, o.data = .seq xs n
noncomputable def zbk (h h' : Heap) : Prop := ∀ a o, h.get? a = some o → IsT o → h'.get? a = some o
theorem VR.keep {h h' : Heap} (k : zbk h h') {v : V} {x : Value} (r : VR h v x) : VR h' v x :=
 VR.rec (motive_1 := fun v x _ => VR h' v x) (motive_2 := fun v x _ => VRs h' v x) .none .bool .int .str .ref (fun e _ ih => .tup (k _ _ e ⟨rfl, _, _, rfl⟩) ih) .nil (fun _ _ a b => .cons a b) r
theorem VRs.ind {h : Heap} {P : List V → List Value → Prop} (n : P [] []) (c : ∀ {v : V} {vs : List V} {x : Value} {xs : List Value}, VR h v x → VRs h vs xs → P vs xs → P (v :: vs) (x :: xs)) {v : List V} {x : List Value} (r : VRs h v x) : P v x :=
 VRs.rec (motive_1 := fun _ _ _ => True) (motive_2 := fun v x _ => P v x) trivial trivial trivial trivial trivial (fun _ _ _ => trivial) n (fun a r _ ih => c a r ih) r
theorem VRs.keep {h h' : Heap} (k : zbk h h') {v : List V} {x : List Value} (r : VRs h v x) : VRs h' v x :=
 r.ind (P := fun v x => VRs h' v x) .nil fun a _ b => .cons (a.keep k) b
theorem VRs.length {h : Heap} {v : List V} {x : List Value} (r : VRs h v x) : v.length = x.length :=
 r.ind (P := fun v x => v.length = x.length) rfl fun _ _ ih => congrArg (· + 1) ih
theorem VRs.append {h : Heap} {u v : List V} {x y : List Value} (r : VRs h u x) (q : VRs h v y) : VRs h (u ++ v) (x ++ y) :=
 r.ind (P := fun u x => VRs h (u ++ v) (x ++ y)) q fun a _ ih => .cons a ih
theorem VRs.get {h : Heap} {v : List V} {x : List Value} (r : VRs h v x) {i : Nat} {a : V} (e : v[i]? = some a) : ∃ b, x[i]? = some b ∧ VR h a b :=
 r.ind (P := fun v x => ∀ (i : Nat) (a : V), v[i]? = some a → ∃ b, x[i]? = some b ∧ VR h a b) (fun i a e => by rw [List.getElem?_nil] at e; cases e)
  (fun q _ ih i a e => by
   cases i with
   | zero => cases e; exact ⟨_, rfl, q⟩
   | succ i => exact ih i a e) i a e
section
variable (cls : String → Option Addr) (prog : Program) (w : World)
noncomputable def KR (h : Heap) (a : Addr) (ks : List V) : Prop :=
 (∃ ns : List Int, ks = ns.map V.int ∧ h.DictOf (intKind prog w) a (ns.map fun n => (n, Value.bool true))) ∨
 (∃ ps : List ((Int × Int) × Addr), ks = ps.map (fun p => V.tup [.int p.1.1, .int p.1.2]) ∧ h.DictOfH (tupleKind (intKind prog w)) a (ps.map fun p => ([p.1.1, p.1.2], p.2, Value.bool true)))
noncomputable def NR (h : Heap) : List (String × V) → List DictEntry → Prop
 | [], [] => True
 | (n, v) :: r, e :: es => (∃ t, e.key = .str (Str.ofString n) t) ∧ VR h v e.val ∧ NR h r es
 | _, _ => False
noncomputable def OR (h : Heap) (a : Addr) : AO → Prop
 | .list vs => ∃ xs n, h.get? a = some (seqObj "list" xs.toArray n) ∧ VRs h vs xs ∧ vs.length ≤ zax
 | .fixed vs => ∃ xs, h.IsList a xs.toArray ∧ VRs h vs xs ∧ vs.length ≤ zax
 | .dict ks => KR prog w h a ks ∧ ks.length ≤ zax
 | .inst c d => ∃ C, cls c = some C ∧ h.get? a = some (instObj C d)
 | .ns fs => ∃ es n, h.get? a = some (dictOf es n) ∧ NR h fs es ∧ (fs.map (·.1)).Nodup
end
noncomputable def KeptAs (o : Obj) (r : Option Obj) : Prop := r = some o ∨ ∃ es n sl, o.data = .dict es n ∧ r = some { o with slots := sl }
structure HStep (D : Addr → Prop) (h h' : Heap) : Prop where
 size : h.objs.size ≤ h'.objs.size
 keep : ∀ a o, h.get? a = some o → ¬ D a → KeptAs o (h'.get? a)
 tup : zbk h h'
structure Cx where
 prog : Program
 w : World
 base : Heap
 cls : String → Option Addr
 fn : String → String → Option Addr
 fld : String → String → Bool
 K : Frag
 mg : Str → Option Value
 mb : Str → Option Value
abbrev Cx.M (C : Cx) : Model := model C.prog C.w
structure Rel (C : Cx) (σ : Store) (h : Heap) : Prop where
 stays : C.base.StaysIn h
 tr : ∀ a o, σ a = some o → OR C.cls C.prog C.w h a o
 new : ∀ a o, σ a = some o → C.base.objs.size ≤ a ∨ ∃ vs, o = .fixed vs
 size : C.base.objs.size ≤ h.objs.size
structure Step (C : Cx) (D : Addr → Prop) (σ : Store) (s : Shared) (σ' : Store) (s' : Shared) : Prop where
 h : HStep (fun a => σ a ≠ none ∨ D a) s.heap s'.heap
 rel : Rel C σ' s'.heap
 dom : ∀ a, σ a ≠ none → σ' a ≠ none
 fresh : ∀ a, σ' a ≠ none → σ a ≠ none ∨ s.heap.objs.size ≤ a
 gens : s'.gens = s.gens
 os : s'.os = s.os
noncomputable def No : Addr → Prop := fun _ => False
theorem KeptAs.trans {o : Obj} {r r' : Option Obj} (x : KeptAs o r) (y : ∀ o', r = some o' → KeptAs o' r') : KeptAs o r' := by
 rcases x with rfl | ⟨es, n, sl, hd, rfl⟩
 ·exact y _ rfl
 ·rcases y _ rfl with rfl | ⟨_, _, sl', _, rfl⟩
  ·exact .inr ⟨es, n, sl, hd, rfl⟩
  ·exact .inr ⟨es, n, sl', hd, rfl⟩
theorem KeptAs.some {o : Obj} {r : Option Obj} (x : KeptAs o r) : ∃ o', r = some o' ∧ o'.data = o.data ∧ o'.cls = o.cls ∧ o'.dict = o.dict := by
 rcases x with rfl | ⟨es, n, sl, hd, rfl⟩
 ·exact ⟨_, rfl, rfl, rfl, rfl⟩
 ·exact ⟨_, rfl, rfl, rfl, rfl⟩
theorem KeptAs.plain {o : Obj} {r : Option Obj} (x : KeptAs o r) (hd : ∀ es n, o.data ≠ .dict es n) : r = Option.some o := by
 rcases x with rfl | ⟨es, n, sl, hd', rfl⟩
 ·rfl
 ·exact absurd hd' (hd _ _)
theorem HStep.refl {D : Addr → Prop} {h : Heap} : HStep D h h := ⟨Nat.le_refl _, fun _ _ e _ => .inl e, fun _ _ e _ => e⟩
theorem HStep.trans {D D' : Addr → Prop} {h₁ h₂ h₃ : Heap} (x : HStep D h₁ h₂) (y : HStep D' h₂ h₃) (hD : ∀ a, D' a → D a ∨ h₁.objs.size ≤ a) : HStep D h₁ h₃ :=
 ⟨Nat.le_trans x.size y.size, fun a o e n => (x.keep a o e n).trans fun o' e' => y.keep a o' e' fun d => (hD a d).elim n fun l => absurd (Heap.lt_size e) (Nat.not_lt.mpr l),
  fun a o e t => y.tup a o (x.tup a o e t) t⟩
theorem HStep.grow {D : Addr → Prop} {h h' : Heap} (k : ∀ b o, h.get? b = some o → h'.get? b = some o) (hs : h.objs.size ≤ h'.objs.size) : HStep D h h' :=
 ⟨hs, fun a o e _ => .inl (k a o e), fun a o e _ => k a o e⟩
theorem HStep.mono {D D' : Addr → Prop} {h h' : Heap} (x : HStep D h h') (m : ∀ a, D a → D' a) : HStep D' h h' := ⟨x.size, fun a o e n => x.keep a o e fun d => n (m a d), x.tup⟩
theorem Step.refl {C : Cx} {D : Addr → Prop} {σ : Store} {s : Shared} (r : Rel C σ s.heap) : Step C D σ s σ s :=
 ⟨.refl, r, fun _ x => x, fun _ x => .inl x, rfl, rfl⟩
theorem Step.trans {C : Cx} {D : Addr → Prop} {σ₁ σ₂ σ₃ : Store} {s₁ s₂ s₃ : Shared} (x : Step C D σ₁ s₁ σ₂ s₂) (y : Step C D σ₂ s₂ σ₃ s₃) : Step C D σ₁ s₁ σ₃ s₃ :=
 ⟨x.h.trans y.h fun a d => d.elim (fun n => (x.fresh a n).imp .inl id) fun d => .inl (.inr d), y.rel, fun a n => y.dom a (x.dom a n),
  fun a n => (y.fresh a n).elim (x.fresh a) fun l => .inr (Nat.le_trans x.h.size l), y.gens.trans x.gens, y.os.trans x.os⟩
theorem Step.mono {C : Cx} {D D' : Addr → Prop} {σ σ' : Store} {s s' : Shared} (x : Step C D σ s σ' s') (m : ∀ a, D a → D' a) : Step C D' σ s σ' s' :=
 ⟨x.h.mono fun a d => d.imp id (m a), x.rel, x.dom, x.fresh, x.gens, x.os⟩
theorem Step.no {C : Cx} {D : Addr → Prop} {σ σ' : Store} {s s' : Shared} (x : Step C No σ s σ' s') : Step C D σ s σ' s' := x.mono fun _ f => f.elim
theorem Step.drop {C : Cx} {D : Addr → Prop} {σ σ' : Store} {s s' : Shared} (x : Step C D σ s σ' s') (m : ∀ a, D a → s.heap.objs.size ≤ a) : Step C No σ s σ' s' :=
 ⟨⟨x.h.size, fun a o e n => x.h.keep a o e fun d => d.elim (fun z => n (.inl z)) fun z => absurd (Heap.lt_size e) (Nat.not_lt.mpr (m a z)), x.h.tup⟩, x.rel, x.dom, x.fresh, x.gens, x.os⟩
theorem Step.vr {C : Cx} {D : Addr → Prop} {σ σ' : Store} {s s' : Shared} (x : Step C D σ s σ' s') {v : V} {u : Value} (r : VR s.heap v u) : VR s'.heap v u := r.keep x.h.tup
theorem Step.vrs {C : Cx} {D : Addr → Prop} {σ σ' : Store} {s s' : Shared} (x : Step C D σ s σ' s') {v : List V} {u : List Value} (r : VRs s.heap v u) : VRs s'.heap v u := r.keep x.h.tup
theorem Step.toks {C : Cx} {D : Addr → Prop} {σ : Store} {s : Shared} (r : Rel C σ s.heap) (t : Nat) : Step C D σ s σ { s with toks := t } :=
 ⟨.refl, r, fun _ x => x, fun _ x => .inl x, rfl, rfl⟩
noncomputable def PostV (C : Cx) (σ : Store) (s : Shared) (Q : V → Store → Prop) : Value → Shared → Prop := fun v s' => ∃ V σ', Q V σ' ∧ VR s'.heap V v ∧ Step C No σ s σ' s'
noncomputable def PostX (_ : Cx) (_ : Store) (_ : Shared) (_ : XP) : Value → Shared → Prop := fun _ _ => False
theorem PostX.from {C : Cx} {σ σ₁ : Store} {s s₁ s' : Shared} {X : XP} {x : Value} (_ : Step C No σ s σ₁ s₁) (h : PostX C σ₁ s₁ X x s') : PostX C σ s X x s' := h
theorem PostV.from {C : Cx} {σ σ₁ : Store} {s s₁ s' : Shared} {Q : V → Store → Prop} {v : Value} (y : Step C No σ s σ₁ s₁) (h : PostV C σ₁ s₁ Q v s') : PostV C σ s Q v s' := by
 refine ob1 h ?_
 clear h
 intro V σ' hQ hv st
 exact ⟨V, σ', hQ, hv, y.trans st⟩
noncomputable def FramesOk (C : Cx) (A : Around) (σ : Store) (h : Heap) : Prop := ∃ l, A.frames = some l ∧ h.FunFrames C.base l ∧ ∀ L ∈ l.filterMap (·.frame), σ L = none ∧ ∃ o es n, h.get? L = some o ∧ o.data = .dict es n
structure AOk (C : Cx) (k : Nat) (md : Bool) (A : Around) (σ : Store) (h : Heap) : Prop where
 frames : FramesOk C A σ h
 handled : md = true → A.handled = none
 depth : A.depth + 3 * k < 990
 units : A.units + 40 * k < 9000
theorem FramesOk.keep {C : Cx} {A : Around} {D : Addr → Prop} {σ σ' : Store} {s s' : Shared} (x : FramesOk C A σ s.heap) (y : Step C D σ s σ' s')
  (hD : ∀ l, A.frames = some l → ∀ L ∈ l.filterMap (·.frame), D L → ∃ o es n, s'.heap.get? L = some o ∧ o.data = .dict es n) : FramesOk C A σ' s'.heap := by
 refine ob2 x ?_
 clear x
 intro l hl hf hn
 have hD := hD l hl
 have at_ : ∀ L ∈ l.filterMap (·.frame), ∃ o es n, s'.heap.get? L = some o ∧ o.data = .dict es n := fun L hL => by
  by_cases hd : D L
  ·exact hD L hL hd
  ·refine ob3 (hn L hL) ?_
   intro h1 o es n h2 h3
   refine ob4 ((y.h.keep L o h2 (fun d => d.elim (fun z => z h1) hd)).some) ?_
   intro o' ho' hd' _ _
   exact ⟨o', es, n, ho', hd'.trans h3⟩
 refine ⟨l, hl, ?_, fun L hL => ⟨?_, at_ L hL⟩⟩
 ·clear hl hD
  induction l with
  | nil => trivial
  | cons env r ih =>
   refine ob5 hf ?_
   clear hf
   intro hk L o e1 e2 e3 e4 hr
   have sub : ∀ L' ∈ r.filterMap (·.frame), L' ∈ (env :: r).filterMap (·.frame) := fun L' hL' => by rw [List.filterMap_cons, e1]; exact List.mem_cons_of_mem _ hL'
   obtain ⟨o', es, n, ho', hd'⟩ := at_ L (by rw [List.filterMap_cons, e1]; exact List.mem_cons_self)
   exact ⟨hk, ⟨L, o', e1, e2, ho', fun vs q => by rw [hd'] at q; cases q⟩, ih hr (fun L' hL' => hn L' (sub L' hL')) fun L' hL' => at_ L' (sub L' hL')⟩
 ·cases q : σ' L with
  | none => rfl
  | some o =>
   rcases y.fresh L (by rw [q]; simp) with z | z
   ·exact absurd (hn L hL).1 z
   ·refine ob3 (hn L hL) ?_
    intro _ o _ _ ho _
    exact absurd (Heap.lt_size ho) (Nat.not_lt.mpr z)
theorem AOk.keep {C : Cx} {k : Nat} {md : Bool} {A : Around} {D : Addr → Prop} {σ σ' : Store} {s s' : Shared} (x : AOk C k md A σ s.heap) (y : Step C D σ s σ' s')
  (hD : ∀ l, A.frames = some l → ∀ L ∈ l.filterMap (·.frame), D L → ∃ o es n, s'.heap.get? L = some o ∧ o.data = .dict es n) : AOk C k md A σ' s'.heap :=
 ⟨x.frames.keep y hD, x.handled, x.depth, x.units⟩
theorem AOk.step {C : Cx} {k : Nat} {md : Bool} {A : Around} {σ σ' : Store} {s s' : Shared} (x : AOk C k md A σ s.heap) (y : Step C No σ s σ' s') : AOk C k md A σ' s'.heap := x.keep y fun _ _ _ _ f => f.elim
structure EnvOk (env : Env) : Prop where
 kind : env.scope.kind = .function
 globals : env.globals = mainGlobals
 builtins : env.builtins = builtinsNs
noncomputable def Holds (h : Heap) (env : Env) (x : Str) (v : V) : Prop :=
 match env.kindOf x with
 | some .local => ∃ m u, h.Ns env.locals m ∧ m x = some u ∧ VR h v u
 | some .cell | some .free => ∃ c u, env.cells.lookup x = some c ∧ h.IsCell c (some u) ∧ VR h v u
 | _ => True
noncomputable def Own (env : Env) (a : Addr) : Prop := a = env.locals ∨ ∃ x, env.cells.lookup x = some a
noncomputable def OwnAt (env : Env) (x : Str) (a : Addr) : Prop := (env.kindOf x = some .local ∧ a = env.locals) ∨ (env.kindOf x = some .cell ∧ env.cells.lookup x = some a)
theorem OwnAt.own {env : Env} {x : Str} {a : Addr} (h : OwnAt env x a) : Own env a := h.elim (fun h => .inl h.2) fun h => .inr ⟨_, h.2⟩
structure LR (C : Cx) (σ : Store) (h : Heap) (env : Env) (nm : List (String × Nat)) (ρ : Loc) : Prop where
 holds : ∀ x i v, nm.lookup x = some i → ρ.get i = some v → Holds h env (Str.ofString x) v
 locals : ∃ m, h.Ns env.locals m
 lnew : σ env.locals = none ∧ C.base.get? env.locals = none
 cells : ∀ x c, env.cells.lookup x = some c → (∃ v, h.IsCell c v) ∧ σ c = none ∧ C.base.get? c = none
 apart : ∀ x y c, env.cells.lookup x = some c → env.cells.lookup y = some c → x = y
theorem ziS {h h' : Heap} {a : Addr} {m : Str → Option Value} {o : Obj} (hn : h.Ns a m) (ho : h.get? a = some o) (k : KeptAs o (h'.get? a)) : h'.Ns a m := by
 refine ob6 hn ?_
 clear hn
 intro o₁ es ep h1 h2 h3
 rw [ho] at h1; cases h1
 refine ob4 k.some ?_
 intro o' e1 e2 _ _
 exact ⟨o', es, ep, e1, e2.trans h2, h3⟩
theorem zio {h h' : Heap} {a : Addr} {v : Option Value} (hc : h.IsCell a v) (k : ∀ o, h.get? a = some o → KeptAs o (h'.get? a)) : h'.IsCell a v := by
 refine ob7 hc ?_
 clear hc
 intro o ho hd
 exact ⟨o, (k o ho).plain (fun es n q => by rw [hd] at q; cases q), hd⟩
theorem zbZ {C : Cx} {D : Addr → Prop} {σ σ' : Store} {s s' : Shared} (y : Step C D σ s σ' s') {a : Addr} {o : Obj} (ho : s.heap.get? a = some o) (hn : σ a = none) : σ' a = none := by
 cases q : σ' a with
 | none => rfl
 | some x =>
  rcases y.fresh a (by rw [q]; simp) with z | z
  ·exact absurd hn z
  ·exact absurd (Heap.lt_size ho) (Nat.not_lt.mpr z)
theorem LR.step {C : Cx} {σ σ' : Store} {s s' : Shared} {env : Env} {nm : List (String × Nat)} {ρ : Loc} (x : LR C σ s.heap env nm ρ) (y : Step C No σ s σ' s') : LR C σ' s'.heap env nm ρ := by
 refine ob8 x.locals ?_
 intro m o es ep hL hLd hLr
 have kL : ∀ o, s.heap.get? env.locals = some o → KeptAs o (s'.heap.get? env.locals) := fun o ho => y.h.keep _ o ho fun d => d.elim (fun z => z x.lnew.1) id
 have kN : ∀ m, s.heap.Ns env.locals m → s'.heap.Ns env.locals m := fun m hm => ziS hm hL (kL o hL)
 have kC : ∀ {n c v}, env.cells.lookup n = some c → s.heap.IsCell c v → s'.heap.IsCell c v := fun {n c v} hc hv => zio hv fun o ho => y.h.keep _ o ho fun d => d.elim (fun z => z (x.cells _ _ hc).2.1) id
 refine ⟨fun n i v hn hv => ?_, ⟨m, kN m ⟨o, es, ep, hL, hLd, hLr⟩⟩, ⟨zbZ y hL x.lnew.1, x.lnew.2⟩, fun n c hc => ?_, x.apart⟩
 ·have := x.holds n i v hn hv
  unfold Holds at this ⊢
  split at this
  ·refine ob1 this ?_
   clear this
   intro m u h1 h2 h3
   exact ⟨m, u, kN m h1, h2, y.vr h3⟩
  ·refine ob1 this ?_
   clear this
   intro c u h1 h2 h3
   exact ⟨c, u, h1, kC h1 h2, y.vr h3⟩
  ·refine ob1 this ?_
   clear this
   intro c u h1 h2 h3
   exact ⟨c, u, h1, kC h1 h2, y.vr h3⟩
  ·trivial
 ·refine ob9 (x.cells n c hc) ?_
  intro v hv h2 h3
  refine ob7 (id hv) ?_
  intro o' ho' _
  exact ⟨⟨v, kC hc hv⟩, zbZ y ho' h2, h3⟩
theorem LR.own {C : Cx} {σ : Store} {h : Heap} {env : Env} {nm : List (String × Nat)} {ρ : Loc} (x : LR C σ h env nm ρ) : ∀ a, Own env a → ∃ o, h.get? a = some o ∧ ∀ vs, o.data ≠ .fields vs := by
 rintro a (rfl | ⟨n, hc⟩)
 ·refine ob8 x.locals ?_
  intro m o es ep hL hLd _
  exact ⟨o, hL, fun vs q => by rw [hLd] at q; cases q⟩
 ·refine ob10 (x.cells n a hc) ?_
  intro v o ho hd _
  exact ⟨o, ho, fun vs q => by rw [hd] at q; cases q⟩
theorem NR.keep {h h' : Heap} (k : zbk h h') : ∀ {fs : List (String × V)} {es : List DictEntry}, NR h fs es → NR h' fs es
 | [], [], _ => trivial
 | (_, _) :: _, _ :: _, ⟨a, b, c⟩ => ⟨a, b.keep k, NR.keep k c⟩
 | [], _ :: _, f => f.elim
 | _ :: _, [], f => f.elim
theorem KR.keep {prog : Program} {w : World} {h h' : Heap} {a : Addr} {ks : List V} (x : KR prog w h a ks) (e : h'.get? a = h.get? a) (k : zbk h h') : KR prog w h' a ks := by
 rcases x with ⟨ns, h1, o, es, ep, h2, h3⟩ | ⟨ps, h1, o, es, ep, h2, h3, h4, h5, h6, h7⟩
 ·exact .inl ⟨ns, h1, o, es, ep, e.trans h2, h3⟩
 ·refine .inr ⟨ps, h1, o, es, ep, e.trans h2, h3, h4, h5, fun x hx => ?_, h7⟩
  refine ob6 (h6 x hx) ?_
  intro o' items n q1 q2 q3
  exact ⟨o', items, n, k _ _ q1 ⟨q2, _, _, q3.1⟩, q2, q3⟩
theorem OR.keep {cls : String → Option Addr} {prog : Program} {w : World} {h h' : Heap} {a : Addr} {o : AO} (x : OR cls prog w h a o) (e : h'.get? a = h.get? a) (k : zbk h h') : OR cls prog w h' a o := by
 cases o with
 | list vs => obtain ⟨xs, n, h1, h2, h3⟩ := x; exact ⟨xs, n, e.trans h1, h2.keep k, h3⟩
 | fixed vs => obtain ⟨xs, ⟨o, h1, h1'⟩, h2, h3⟩ := x; exact ⟨xs, ⟨o, e.trans h1, h1'⟩, h2.keep k, h3⟩
 | dict ks => exact ⟨x.1.keep e k, x.2⟩
 | inst c d => obtain ⟨C, h1, h2⟩ := x; exact ⟨C, h1, e.trans h2⟩
 | ns fs => obtain ⟨es, n, h1, h2, h3⟩ := x; exact ⟨es, n, e.trans h1, h2.keep k, h3⟩
theorem OR.there {cls : String → Option Addr} {prog : Program} {w : World} {h : Heap} {a : Addr} {o : AO} (x : OR cls prog w h a o) : ∃ ob, h.get? a = some ob ∧ ¬ IsT ob ∧ (∀ v, ob.data ≠ .cell v) ∧ ob.cls ≠ .type "frame" ∧ ob.cls ≠ .type "traceback" := by
 have nt : ∀ {ob : Obj}, ob.cls ≠ .type "tuple" → ¬ IsT ob := fun n q => n q.1
 have ty : ∀ {x y : String}, x ≠ y → Value.type x ≠ Value.type y := fun n q => n (by injection q)
 cases o with
 | list vs => obtain ⟨xs, n, h1, h2, h3⟩ := x; exact ⟨_, h1, nt (ty (by decide)), by simp, ty (by decide), ty (by decide)⟩
 | fixed vs => obtain ⟨xs, ⟨o, h1, h4, n, h5⟩, h2, h3⟩ := x; exact ⟨_, h1, nt (by rw [h4]; exact ty (by decide)), by rw [h5]; simp, by rw [h4]; exact ty (by decide), by rw [h4]; exact ty (by decide)⟩
 | dict ks =>
  rcases x.1 with ⟨ns, h1, o, es, ep, h2, h3, h4, _⟩ | ⟨ps, h1, o, es, ep, h2, h3, h4, _⟩
  ·exact ⟨o, h2, nt (by rw [h3.1]; exact ty (by decide)), by rw [h4]; simp, by rw [h3.1]; exact ty (by decide), by rw [h3.1]; exact ty (by decide)⟩
  ·exact ⟨o, h2, nt (by rw [h3.1]; exact ty (by decide)), by rw [h4]; simp, by rw [h3.1]; exact ty (by decide), by rw [h3.1]; exact ty (by decide)⟩
 | inst c d => obtain ⟨C, h1, h2⟩ := x; exact ⟨_, h2, nt (by simp), by simp, by simp, by simp⟩
 | ns fs => obtain ⟨es, n, h1, h2, h3⟩ := x; exact ⟨_, h1, nt (ty (by decide)), by simp, ty (by decide), ty (by decide)⟩
theorem Rel.frame {C : Cx} {σ : Store} {h h' : Heap} (r : Rel C σ h) (e : ∀ a o, σ a = some o → h'.get? a = h.get? a) (k : zbk h h') (st : C.base.StaysIn h') (hs : h.objs.size ≤ h'.objs.size) : Rel C σ h' :=
 ⟨st, fun a o q => (r.tr a o q).keep (e a o q) k, r.new, Nat.le_trans r.size hs⟩
theorem Step.oneBut {C : Cx} {D : Addr → Prop} {σ : Store} {s : Shared} {h' : Heap} {t : Nat} {a : Addr} {o : Obj} (r : Rel C σ s.heap) (hs : Heap.SameBut a s.heap h') (hn : σ a = none) (hb : C.base.get? a = none) (hD : D a)
  (ho : s.heap.get? a = some o) (ht : ¬ IsT o) : Step C D σ s σ { s with heap := h', toks := t } := by
 have k : zbk s.heap h' := fun b ob e tc => (hs.2 b fun q => by subst q; rw [ho] at e; cases e; exact ht tc).trans e
 refine ⟨⟨Nat.le_of_eq hs.1.symm, fun b ob e n => .inl ((hs.2 b fun q => n (.inr (q ▸ hD))).trans e), k⟩, r.frame (fun b ob q => hs.2 b fun z => by rw [z, hn] at q; cases q) k (fun b ob e => ?_) (Nat.le_of_eq hs.1.symm), fun _ x => x, fun _ x => .inl x, rfl, rfl⟩
 exact (hs.2 b fun q => by rw [q, hb] at e; cases e).trans (r.stays b ob e)
theorem ofString_inj {x y : String} (h : Str.ofString x = Str.ofString y) : x = y := by
 rw [Str.ofString_eq_toList, Str.ofString_eq_toList] at h
 injection h with h
 have h' : x.toList.map Char.toNat = y.toList.map Char.toNat := by simpa using h
 have inj : ∀ a b : List Char, a.map Char.toNat = b.map Char.toNat → a = b := by
  intro a
  induction a with
  | nil => intro b e; cases b with | nil => rfl | cons _ _ => simp at e
  | cons c r ih =>
   intro b e
   cases b with
   | nil => simp at e
   | cons d q =>
    simp only [List.map_cons, List.cons.injEq] at e
    rw [ih q e.2]
    have : c = d := Char.ext (UInt32.toNat_inj.mp e.1)
    rw [this]
 exact String.ext (inj _ _ h')
theorem Loc.get_set_self {ρ : Loc} {i : Nat} {v : Option V} (h : i < ρ.length) : Loc.get (ρ.set i v) i = v := by simp [Loc.get, h]
theorem Loc.get_set_ne {ρ : Loc} {i j : Nat} {v : Option V} (h : j ≠ i) : Loc.get (ρ.set i v) j = Loc.get ρ j := by simp [Loc.get, Ne.symm h]
noncomputable def NmOk (nm : List (String × Nat)) (n : Nat) : Prop := (∀ x y i, nm.lookup x = some i → nm.lookup y = some i → x = y) ∧ ∀ x i, nm.lookup x = some i → i < n
section
variable {C : Cx} {A : Around} {E : Value → Shared → Prop} {σ : Store} {s : Shared} {env : Env} {nm : List (String × Nat)} {ρ : Loc}
theorem zls {x : String} {i : Nat} {v : V} {pos : Pos} {Q : Value → Shared → Prop} (Ev : EnvOk env) (L : LR C σ s.heap env nm ρ) (hx : nm.lookup x = some i) (hv : ρ.get i = some v)
  (hk : env.kindOf (Str.ofString x) = some .local ∨ env.kindOf (Str.ofString x) = some .cell ∨ env.kindOf (Str.ofString x) = some .free)
  (hd : (Str.ofString x == ("__debug__" : Str)) = false) (hc : (Str.ofString x == ("__classdict__" : Str)) = false)
  (h : ∀ u, VR s.heap v u → Q u s) : wpAny C.M A (eval (.Name (Str.ofString x) pos) env) Q E s := by
 have q := L.holds x i v hx hv
 unfold Holds at q
 refine wpAny_Name ?_ hd
 rcases hk with e | e | e
 ·rw [e] at q
  refine ob1 q ?_
  clear q
  intro m u h1 h2 h3
  exact wpAny_loadName_local Ev.kind e h1 h2 (h u h3)
 ·rw [e] at q
  refine ob1 q ?_
  clear q
  intro c u h1 h2 h3
  exact wpAny_loadName_cell Ev.kind e h1 h2 (h u h3)
 ·rw [e] at q
  refine ob1 q ?_
  clear q
  intro c u h1 h2 h3
  exact wpAny_loadName_free Ev.kind e h1 h2 (h u h3) hc
theorem Holds.frame {h h' : Heap} {x : Str} {v : V} (q : Holds h env x v) (k : zbk h h') (hL : env.kindOf x = some .local → ∀ m u, h.Ns env.locals m → m x = some u → ∃ m', h'.Ns env.locals m' ∧ m' x = some u)
  (hC : ∀ c u, env.cells.lookup x = some c → h.IsCell c u → h'.IsCell c u) : Holds h' env x v := by
 unfold Holds at q ⊢
 split at q
 ·rename_i e
  refine ob1 q ?_
  clear q
  intro m u h1 h2 h3
  refine ob7 (hL e m u h1 h2) ?_
  intro m' h4 h5
  exact ⟨m', u, h4, h5, h3.keep k⟩
 ·refine ob1 q ?_
  clear q
  intro c u h1 h2 h3
  exact ⟨c, u, h1, hC c _ h1 h2, h3.keep k⟩
 ·refine ob1 q ?_
  clear q
  intro c u h1 h2 h3
  exact ⟨c, u, h1, hC c _ h1 h2, h3.keep k⟩
 ·trivial
theorem zlj {h : Heap} {a : Addr} {m m' : Str → Option Value} (x : h.Ns a m) (y : h.Ns a m') : m = m' := by
 refine ob11 x ?_
 clear x
 intro o es ep h1 h2 h3 h4
 refine ob11 y ?_
 clear y
 intro o' es' ep' h1' h2' h3' h4'
 rw [h1] at h1'; cases h1'
 rw [h2] at h2'; cases h2'
 funext n
 rw [← h4 n, ← h4' n]
theorem zmx {x : String} {i n : Nat} {v : V} {u : Value} {Q : Unit → Shared → Prop} (Ev : EnvOk env) (R : Rel C σ s.heap) (L : LR C σ s.heap env nm ρ) (hx : nm.lookup x = some i) (hn : NmOk nm n) (hl : ρ.length = n)
  (hk : env.kindOf (Str.ofString x) = some .local ∨ env.kindOf (Str.ofString x) = some .cell) (hcl : env.kindOf (Str.ofString x) = some .cell → (env.cells.lookup (Str.ofString x)).isSome = true) (hv : VR s.heap v u)
  (h : ∀ s', Step C (OwnAt env (Str.ofString x)) σ s σ s' → LR C σ s'.heap env nm (ρ.set i (some v)) → Q () s') : wpAny C.M A (storeName env (Str.ofString x) u) Q E s := by
 have hi : i < ρ.length := hl ▸ hn.2 x i hx
 have other : ∀ y j w, nm.lookup y = some j → Loc.get (ρ.set i (some v)) j = some w → (y = x ∧ w = v) ∨ (Str.ofString y ≠ Str.ofString x ∧ ρ.get j = some w) := fun y j w hy hw => by
  by_cases e : y = x
  ·subst e
   rw [hx] at hy; cases hy
   rw [Loc.get_set_self hi] at hw; cases hw
   exact .inl ⟨rfl, rfl⟩
  ·have hji : j ≠ i := fun q => by subst q; exact e (hn.1 y x _ hy hx)
   rw [Loc.get_set_ne hji] at hw
   exact .inr ⟨fun q => e (ofString_inj q), hw⟩
 rcases hk with e | e
 ·refine ob12 L.locals ?_
  intro m hm
  refine ob6 (id hm) ?_
  intro o es ep ho hod _
  have hoc : ¬ IsT o := fun ⟨_, _, _, q⟩ => by rw [hod] at q; cases q
  refine wpAny_storeName_local e hm (fun h' hn' hs => ?_) (by rw [Ev.kind]; rfl)
  have st : Step C (OwnAt env (Str.ofString x)) σ s σ { s with heap := h', toks := s.toks + 1 } := Step.oneBut R hs L.lnew.1 L.lnew.2 (.inl ⟨e, rfl⟩) ho hoc
  have cell : ∀ {c w}, s.heap.IsCell c w → h'.IsCell c w := fun {c w} ⟨oc, h1, h2⟩ => ⟨oc, (hs.2 c fun q => by rw [q, ho] at h1; cases h1; rw [hod] at h2; cases h2).trans h1, h2⟩
  refine h _ st ⟨fun y j w hy hw => ?_, ⟨_, hn'⟩, L.lnew, fun y c hc => ?_, L.apart⟩
  ·rcases other y j w hy hw with ⟨rfl, rfl⟩ | ⟨ny, hw'⟩
   ·unfold Holds
    rw [e]
    exact ⟨_, u, hn', if_pos rfl, st.vr hv⟩
   ·refine (L.holds y j w hy hw').frame st.h.tup (fun _ m₁ u₁ hm₁ hu₁ => ⟨_, hn', ?_⟩) fun c u₁ _ hc => cell hc
    rw [if_neg ny, zlj hm hm₁]; exact hu₁
  ·refine ob13 (L.cells y c hc) ?_
   intro w hw r
   exact ⟨⟨w, cell hw⟩, r⟩
 ·refine lift fun g9 k9 => ?_
  refine ob12 (Option.isSome_iff_exists.mp (hcl e)) ?_
  intro c hc
  refine ob9 (L.cells _ c hc) ?_
  intro w₀ hw₀ hcn hcb
  refine ob7 (id hw₀) ?_
  intro oc hoc hocd
  refine k9 ?_
  clear k9 g9
  have hoc' : ¬ IsT oc := fun ⟨_, _, _, q⟩ => by rw [hocd] at q; cases q
  refine wpAny_storeName_cell Ev.kind e hc hw₀ fun h' hc' hs => ?_
  have st : Step C (OwnAt env (Str.ofString x)) σ s σ { s with heap := h' } := Step.oneBut (t := s.toks) R hs hcn hcb (.inr ⟨e, hc⟩) hoc hoc'
  refine ob12 L.locals ?_
  intro m hm
  have nsk : ∀ m, s.heap.Ns env.locals m → h'.Ns env.locals m := fun m hm => hm.sameBut hs fun q => by
   refine ob6 hm ?_
   clear hm
   intro o es ep ho hod _
   rw [q, hoc] at ho; cases ho; rw [hocd] at hod; cases hod
  have cell : ∀ {c₁ w}, c₁ ≠ c → s.heap.IsCell c₁ w → h'.IsCell c₁ w := fun {c₁ w} n hw => hw.sameBut hs n
  refine h _ st ⟨fun y j w hy hw => ?_, ⟨m, nsk m hm⟩, L.lnew, fun y c₁ hc₁ => ?_, L.apart⟩
  ·rcases other y j w hy hw with ⟨rfl, rfl⟩ | ⟨ny, hw'⟩
   ·unfold Holds
    rw [e]
    exact ⟨c, u, hc, hc', st.vr hv⟩
   ·exact (L.holds y j w hy hw').frame st.h.tup (fun _ m₁ u₁ hm₁ hu₁ => ⟨m₁, nsk _ hm₁, hu₁⟩) fun c₁ u₁ h1 h2 => cell (fun q => ny (L.apart _ _ c (q ▸ h1) hc)) h2
  ·refine ob13 (L.cells y c₁ hc₁) ?_
   intro w hw r
   by_cases q : c₁ = c
   ·subst q; exact ⟨⟨_, hc'⟩, r⟩
   ·exact ⟨⟨w, cell q hw⟩, r⟩
end
structure Dead (h h' : Heap) : Prop where
 size : h.objs.size ≤ h'.objs.size
 dead : ∀ a, a < h.objs.size → h.get? a = none → h'.get? a = none
theorem Dead.refl {h : Heap} : Dead h h := ⟨Nat.le_refl _, fun _ _ e => e⟩
theorem Dead.trans {h₁ h₂ h₃ : Heap} (x : Dead h₁ h₂) (y : Dead h₂ h₃) : Dead h₁ h₃ := ⟨Nat.le_trans x.size y.size, fun a l e => y.dead a (Nat.lt_of_lt_of_le l x.size) (x.dead a l e)⟩
theorem Dead.push {h : Heap} {o : Obj} : Dead h (h.push o) := ⟨by rw [Heap.size_push]; exact Nat.le_succ _, fun a l e => by
 cases q : (h.push o).get? a with
 | none => rfl
 | some o' =>
  refine ob14 (Heap.get?_some_iff.mp q) ?_
  intro e1 e2
  have hne := Nat.ne_of_lt l
  have : h.get? a = some o' := Heap.get?_some_iff.mpr ⟨by cases h; simpa [Heap.push, Array.getElem?_push, hne] using e1, e2⟩
  rw [e] at this; cases this⟩
theorem Dead.update {h : Heap} {a : Addr} {f : Obj → Obj} (ha : (h.get? a).isSome = true) : Dead h (h.update a f) := ⟨by rw [Heap.size_update]; exact Nat.le_refl _, fun b _ e => by
 by_cases q : a = b
 ·subst q; rw [e] at ha; cases ha
 ·rw [Heap.get?_update_other _ _ q]; exact e⟩
theorem zfQ {M : Model} {Γ : Ctx} {p : Pos} {t : Sem PySem.Fin} {fs : List Frame} {s s' : Shared} {e : End} (h : Runs M Γ p t fs s e s') : Dead s.heap s'.heap := by
 induction h with
 | done | raise | yield => exact .refl
 | update ha _ ih => exact (Dead.update ha).trans ih
 | alloc _ ih => exact Dead.push.trans ih
 | call _ _ i1 i2 | segRet _ _ i1 i2 | segGen _ _ i1 i2 => exact i1.trans i2
 | resumeFresh _ _ _ _ i1 i2 | resumeSuspended _ _ _ _ i1 i2 => exact i1.trans i2
 | segSuspGen _ _ _ _ i1 i2 => exact i1.trans i2
 | _ => assumption
theorem zj6 {M : Model} {Γ : Ctx} {p : Pos} {g : Nat} {r : Resume} {s s' : Shared} {res : GenResult} (h : Wakes M Γ p g r s res s') : Dead s.heap s'.heap := by
 unfold Wakes at h
 split at h
 ·exact h.elim
 ·split at h
  ·refine ob15 h ?_
   clear h
   intro e₁ s₁ hr _ _ ee1
   subst ee1
   exact (zfQ hr : Dead (s.setGen g .running).heap s₁.heap)
  ·rw [h.2]; exact .refl
  ·rw [h.2]; exact .refl
 ·refine ob15 h ?_
  clear h
  intro e₁ s₁ hr _ _ ee2
  subst ee2
  exact (zfQ hr : Dead (s.setGen g .running).heap s₁.heap)
 ·rw [h.2]; exact .refl
 ·rw [h.2]; exact .refl
theorem znF {α : Type} (M : Model) (Γ : Ctx) (h₀ : Heap) (t : Sem α) : ∀ (Q : α → Pos → Shared → Prop) (E : Value → Pos → Shared → Prop) (p : Pos) (s : Shared), Dead h₀ s.heap → Sem.wp M Γ t Q E p s →
  Sem.wp M Γ t (fun a p' s' => Dead h₀ s'.heap ∧ Q a p' s') (fun e p' s' => Dead h₀ s'.heap ∧ E e p' s') p s := by
 induction t with
 | pure a => intro Q E p s hn h; exact ⟨hn, h⟩
 | raise e => intro Q E p s hn h; exact ⟨hn, h⟩
 | unsupported _ => intro Q E p s _ h; exact h
 | finish _ => intro Q E p s _ h; exact h
 | rule _ k ih => intro Q E p s hn h; exact ih () Q E p s hn h
 | «at» p' k ih => intro Q E p s hn h; exact ih () Q E p' s hn h
 | load a _ k ih => intro Q E p s hn h; obtain ⟨o, ho, h⟩ := h; exact ⟨o, ho, ih o Q E p s hn h⟩
 | update a _ f k ih => intro Q E p s hn h; exact ⟨h.1, ih () Q E p _ (hn.trans (Dead.update h.1)) h.2⟩
 | loadIfAlive a k ih => intro Q E p s hn h; exact ih _ Q E p s hn h
 | point _ k ih => intro Q E p s hn h; exact ih () Q E p s hn h
 | register _ _ => intro Q E p s _ h; exact h
 | alloc o k ih => intro Q E p s hn h; exact ih _ Q E p _ (hn.trans Dead.push) h
 | fresh k ih => intro Q E p s hn h; exact ih _ Q E p _ hn h
 | ask k ih => intro Q E p s hn h; exact ih _ Q E p s hn h
 | choose src m k ih => intro Q E p s hn h; exact ⟨h.1, ih _ Q E p _ hn h.2⟩
 | os q _ k ih => intro Q E p s hn h; exact ih _ Q E p _ hn h
 | call c hd _ _ k ih => intro Q E p s hn h; obtain ⟨r, s', hr, h⟩ := h; exact ⟨r, s', hr, ih r Q E p s' (hn.trans (zfQ hr)) h⟩
 | handled own k ih => intro Q E p s hn h; exact ih _ Q E p s hn h
 | genState g k ih => intro Q E p s hn h; obtain ⟨st, hs, h⟩ := h; exact ⟨st, hs, ih _ Q E p s hn h⟩
 | newGen c k ih => intro Q E p s hn h; exact ih _ Q E p _ hn h
 | resume g r _ k ih => intro Q E p s hn h; obtain ⟨res, s', hw, h⟩ := h; exact ⟨res, s', hw, ih res Q E p s' (hn.trans (zj6 hw)) h⟩
 | yield _ _ _ _ => intro Q E p s _ h; exact h
 | stack k ih => intro Q E p s hn h; exact ih _ Q E p s hn h
 | fork _ _ => intro Q E p s _ h; exact h
 | thread k ih => intro Q E p s hn h; exact ih _ Q E p s hn h
 | await _ _ _ _ _ => intro Q E p s _ h; exact h
theorem zj4 {α : Type} {M : Model} {A : Around} {s : Shared} {t : Sem α} {Q : α → Shared → Prop} {E : Value → Shared → Prop}
  (h : wpAny M A t (fun a s' => Dead s.heap s'.heap → Q a s') (fun e s' => Dead s.heap s'.heap → E e s') s) : wpAny M A t Q E s :=
 fun Γ p hΓ => Sem.wp_mono M Γ t (fun _ _ _ x => x.2 x.1) (fun _ _ _ x => x.2 x.1) p s (znF M Γ _ t _ _ p s .refl (h Γ p hΓ))
theorem zaO {α : Type} {M : Model} {A : Around} {s : Shared} {t : Sem α} {Q : α → Shared → Prop} {E : Value → Shared → Prop}
  (h : wpAny M A t (fun a s' => s.heap.objs.size ≤ s'.heap.objs.size → Q a s') (fun e s' => s.heap.objs.size ≤ s'.heap.objs.size → E e s') s) : wpAny M A t Q E s :=
 zj4 (wpAny_mono h (fun _ _ x d => x d.size) fun _ _ x d => x d.size)
end Mine.Internal
end
section
set_option maxRecDepth 100000
namespace Mine.Internal
open PySem PySem.W PyProof.Rows PySem.SeqAt
theorem znJ (l b : Addr) (p q : Int × Int) (t u t' u' : Tok) (n n2 : Nat) (dd dd2 : Option Addr) (sl sl2 : Array (Option Value)) :
  Meets (Builtin.«tuple.__lt__» ⟨[.ref l, .ref b], []⟩)
   (fun A R s => s.heap.get? l = some { cls := .type "tuple", dict := dd, data := .seq #[.int p.1 t, .int p.2 u] n, slots := sl } ∧ s.heap.get? b = some { cls := .type "tuple", dict := dd2, data := .seq #[.int q.1 t', .int q.2 u'] n2, slots := sl2 } ∧
    R (.ok (.ret (.bool (decide (p.1 < q.1) || (p.1 == q.1 && decide (p.2 < q.2)))))) s) :=
 .of_wp fun prog w A R s h => by
  refine lift fun g9 k9 => ?_
  obtain ⟨hp, g, d, tk, os⟩ := s
  refine ob16 h ?_
  clear h
  intro hl hb h
  refine k9 ?_
  clear k9 g9
  have f2 := AutoSeq1.sub_tuple_tuple
  wp_walk using wpAny_loadPart' hl, wpAny_loadPart' hb, wpAny_eqBool_int
  by_cases e : p.1 = q.1
  ·rw [e] at h
   simp only [e, beq_self_eq_true, Bool.not_true, Bool.false_eq_true, if_false]
   refine wpAny_pure ?_
   dsimp only
   unfold List.forIn'.loop
   refine wpAny_bind (wpAny_bind (wpAny_eqBool_int ?_))
   by_cases e2 : p.2 = q.2
   ·rw [e2] at h
    simp only [e2, beq_self_eq_true, Bool.not_true, Bool.false_eq_true, if_false]
    refine wpAny_pure (wpAny_pure (wpAny_pure ⟨_, rfl, ?_⟩))
    simpa [Builtin.Tuple.tupleCompareSizes] using h
   ·simp only [beq_eq_false_iff_ne.mpr e2, Bool.not_false, if_true]
    refine wpAny_bind (wpAny_rule (wpAny_bind (PyProof.Rows.lt_int (wpAny_bind (wpAny_pure (wpAny_pure (wpAny_pure (wpAny_pure ⟨_, rfl, ?_⟩))))))))
    simpa using h
  ·simp only [beq_eq_false_iff_ne.mpr e, Bool.not_false, if_true]
   refine wpAny_bind (wpAny_rule (wpAny_bind (PyProof.Rows.lt_int (wpAny_bind (wpAny_pure (wpAny_pure (wpAny_pure (wpAny_pure ⟨_, rfl, ?_⟩))))))))
   rw [beq_eq_false_iff_ne.mpr e, Bool.false_and, Bool.or_false] at h
   exact h
theorem znI {l b : Addr} {p q : Int × Int} {t u t' u' : Tok} {n n2 : Nat} {prog : Program} {w : World} {A : Around} {E : Value → Shared → Prop} {s : Shared} {Q : Value → Shared → Prop} (hl : s.heap.get? l = some (seqObj "tuple" #[.int p.1 t, .int p.2 u] n)) (hb : s.heap.get? b = some (seqObj "tuple" #[.int q.1 t', .int q.2 u'] n2)) (hu : A.units < cLine)
  (h : Q (.bool (decide (p.1 < q.1) || (p.1 == q.1 && decide (p.2 < q.2)))) s) : wpAny (model prog w) A (compareOp .Lt (.ref l) (.ref b)) Q E s :=
 richCompare_meets_room (op := .Lt) ⟨_, hl, rfl⟩ ⟨_, hb, rfl⟩ F.slot_tuple_lt F.entry_tuple_lt (F.args_tuple_lt_2 _ _) (znJ l b p q t u t' u' n n2 none none #[] #[])
  ⟨hl, hb, (fun x => nomatch x), h⟩ hu
end Mine.Internal
end
section
namespace Mine.Internal
open PySem PySem.W PySem.Calls PyProof.Rows
theorem Rel.none_of_ge {C : Cx} {σ : Store} {h : Heap} (r : Rel C σ h) {a : Addr} (ha : h.objs.size ≤ a) : σ a = none := by
 cases q : σ a with
 | none => rfl
 | some o =>
  refine ob7 ((r.tr a o q).there) ?_
  intro ob ho _
  exact absurd (Heap.lt_size ho) (Nat.not_lt.mpr ha)
theorem zbu {C : Cx} {σ : Store} {h : Heap} (r : Rel C σ h) {a : Addr} (ha : h.objs.size ≤ a) : C.base.get? a = none := by
 cases q : C.base.get? a with
 | none => rfl
 | some o => exact absurd (Heap.lt_size (r.stays a o q)) (Nat.not_lt.mpr ha)
theorem zdX {σ : Store} {a : Addr} {o : AO} : (σ.upd a o) a = some o := if_pos rfl
theorem zcv {σ : Store} {a b : Addr} {o : AO} (h : b ≠ a) : (σ.upd a o) b = σ b := if_neg h
theorem Step.grow {C : Cx} {σ : Store} {s : Shared} {h' : Heap} {t : Nat} (r : Rel C σ s.heap) (k : ∀ b ob, s.heap.get? b = some ob → h'.get? b = some ob) (hs : s.heap.objs.size ≤ h'.objs.size) :
  Step C No σ s σ { s with heap := h', toks := t } :=
 ⟨.grow k hs, r.frame (fun a o q => by obtain ⟨ob, ho, _⟩ := (r.tr a o q).there; rw [ho, k _ _ ho]) (fun a o e _ => k a o e) (fun a o e => k a o (r.stays a o e)) hs, fun _ x => x, fun _ x => .inl x, rfl, rfl⟩
theorem Step.alloc {C : Cx} {σ : Store} {s : Shared} {h' : Heap} {t : Nat} {a : Addr} {o : AO} (r : Rel C σ s.heap) (k : ∀ b ob, s.heap.get? b = some ob → h'.get? b = some ob) (hs : s.heap.objs.size ≤ h'.objs.size)
  (ha : s.heap.objs.size ≤ a) (hO : OR C.cls C.prog C.w h' a o) : Step C No σ s (σ.upd a o) { s with heap := h', toks := t } := by
 refine ⟨.grow k hs, ⟨fun b ob e => k b ob (r.stays b ob e), fun b ob q => ?_, fun b ob q => ?_, Nat.le_trans r.size hs⟩, fun b n => ?_, fun b n => ?_, rfl, rfl⟩
 ·by_cases e : b = a
  ·subst e; rw [zdX] at q; cases q; exact hO
  ·rw [zcv e] at q
   refine ob7 ((r.tr b ob q).there) ?_
   intro ob' ho _
   exact (r.tr b ob q).keep (by rw [ho, k _ _ ho]) fun a o e _ => k a o e
 ·by_cases e : b = a
  ·subst e; exact .inl (Nat.le_trans r.size ha)
  ·rw [zcv e] at q; exact r.new b ob q
 ·by_cases e : b = a
  ·subst e; rw [zdX]; simp
  ·rw [zcv e]; exact n
 ·by_cases e : b = a
  ·subst e; exact .inr ha
  ·rw [zcv e] at n; exact .inl n
theorem Step.turn {C : Cx} {σ : Store} {s : Shared} {h' : Heap} {t : Nat} {a : Addr} {o₀ o : AO} (r : Rel C σ s.heap) (h₀ : σ a = some o₀) (hf : ∀ vs, o₀ ≠ .fixed vs) (hs : Heap.SameBut a s.heap h') (hO : zbk s.heap h' → OR C.cls C.prog C.w h' a o) :
  Step C No σ s (σ.upd a o) { s with heap := h', toks := t } := by
 refine ob2 ((r.tr a o₀ h₀).there) ?_
 intro ob₀ hob hnt _
 have k : zbk s.heap h' := fun b ob e tc => (hs.2 b fun q => by subst q; rw [hob] at e; cases e; exact hnt tc).trans e
 have hbs : C.base.objs.size ≤ a := (r.new a o₀ h₀).elim id fun ⟨vs, e⟩ => absurd e (hf vs)
 have hb : C.base.get? a = none := by
  cases q : C.base.get? a with
  | none => rfl
  | some o => exact absurd (Heap.lt_size q) (Nat.not_lt.mpr hbs)
 refine ⟨⟨Nat.le_of_eq hs.1.symm, fun b ob e n => .inl ((hs.2 b fun q => n (.inl (by rw [q, h₀]; simp))).trans e), k⟩, ⟨fun b ob e => (hs.2 b fun q => by rw [q, hb] at e; cases e).trans (r.stays b ob e), fun b ob q => ?_, fun b ob q => ?_, Nat.le_trans r.size (Nat.le_of_eq hs.1.symm)⟩,
  fun b n => ?_, fun b n => ?_, rfl, rfl⟩
 ·by_cases e : b = a
  ·subst e; rw [zdX] at q; cases q; exact hO k
  ·rw [zcv e] at q; exact (r.tr b ob q).keep (hs.2 b e) k
 ·by_cases e : b = a
  ·subst e; exact .inl hbs
  ·rw [zcv e] at q; exact r.new b ob q
 ·by_cases e : b = a
  ·subst e; rw [zdX]; simp
  ·rw [zcv e]; exact n
 ·by_cases e : b = a
  ·subst e; exact .inl (by rw [h₀]; simp)
  ·rw [zcv e] at n; exact .inl n
theorem zd5 {n : Nat} (h : n ≤ zax) : n ≤ sizeLine := Nat.le_trans h (by decide)
theorem zaG {σ : Store} {v : V} {K : Addr → List V → Prop} (h : za5 σ v K) : ∃ a vs, v = .ref a ∧ σ a = some (.list vs) ∧ K a vs := by
 cases v with
 | ref a =>
  change (match σ a with | some (.list vs) => K a vs | _ => False) at h
  cases e : σ a with
  | none => rw [e] at h; exact h.elim
  | some o =>
   rw [e] at h
   cases o with
   | list vs => exact ⟨a, vs, rfl, e, h⟩
   | _ => exact h.elim
 | _ => exact h.elim
theorem zap {α : Type} {o : Option α} {K : α → Prop} (h : zav o K) : ∃ a, o = some a ∧ K a := by
 cases o with
 | none => exact h.elim
 | some a => exact ⟨a, rfl, h⟩
theorem zbc {v : V} {K : Int → Prop} (h : zeX v K) : ∃ i, v = .int i ∧ K i := by
 cases v <;> first | exact h.elim | exact ⟨_, rfl, h⟩
theorem zei {σ : Store} {v : V} {K : String → Addr → List (String × V) → Prop} (h : zgC σ v K) : ∃ a c d fs, v = .ref a ∧ σ a = some (.inst c d) ∧ σ d = some (.ns fs) ∧ K c d fs := by
 cases v with
 | ref a =>
  change (match σ a with | some (.inst c d) => (match σ d with | some (.ns fs) => K c d fs | _ => False) | _ => False) at h
  cases e : σ a with
  | none => rw [e] at h; exact h.elim
  | some o =>
   rw [e] at h
   cases o with
   | inst c d =>
    change (match σ d with | some (.ns fs) => K c d fs | _ => False) at h
    cases e' : σ d with
    | none => rw [e'] at h; exact h.elim
    | some o =>
     rw [e'] at h
     cases o with
     | ns fs => exact ⟨a, c, d, fs, rfl, e, e', h⟩
     | _ => exact h.elim
   | _ => exact h.elim
 | _ => exact h.elim
theorem VR.int_of {h : Heap} {i : Int} {x : Value} (v : VR h (.int i) x) : ∃ t, x = .int i t := by cases v; exact ⟨_, rfl⟩
theorem VR.bool_of {h : Heap} {b : Bool} {x : Value} (v : VR h (.bool b) x) : x = .bool b := by cases v; rfl
theorem VR.none_of {h : Heap} {x : Value} (v : VR h .none x) : x = .none := by cases v; rfl
theorem VR.ref_of {h : Heap} {a : Addr} {x : Value} (v : VR h (.ref a) x) : x = .ref a := by cases v; rfl
theorem VR.tup_of {h : Heap} {vs : List V} {x : Value} (v : VR h (.tup vs) x) : ∃ a xs n, x = .ref a ∧ h.get? a = some (seqObj "tuple" xs.toArray n) ∧ VRs h vs xs := by
 cases v with | tup e r => exact ⟨_, _, _, rfl, e, r⟩
theorem Rel.list {C : Cx} {σ : Store} {h : Heap} (r : Rel C σ h) {a : Addr} {vs : List V} (e : σ a = some (.list vs)) : ∃ xs n, IsL h a xs.toArray n ∧ VRs h vs xs ∧ vs.length ≤ zax := r.tr a _ e
structure Room (C : Cx) (md : Bool) (A : Around) : Prop where
 handled : md = true → A.handled = none
 depth : A.depth + 3 < 990
 units : A.units + 80 < 9000
section
variable {C : Cx} {A : Around} {E : Value → Shared → Prop} {σ : Store} {s : Shared} {Q : V → Store → Prop}
theorem PostV.now {v : V} {x : Value} (r : Rel C σ s.heap) (q : Q v σ) (h : VR s.heap v x) : PostV C σ s Q x s := ⟨v, σ, q, h, .refl r⟩
theorem PostV.tok {v : V} {x : Value} {t : Nat} (r : Rel C σ s.heap) (q : Q v σ) (h : VR s.heap v x) : PostV C σ s Q x { s with toks := t } := ⟨v, σ, q, h, .toks r t⟩
theorem zcU {xs : List Value} {vs : List V} {h' : Heap} {t n : Nat} {a : Addr} (r : Rel C σ s.heap) (q : Mine.Internal.alloc σ (.list vs) Q) (k : ∀ b ob, s.heap.get? b = some ob → h'.get? b = some ob) (hs : s.heap.objs.size ≤ h'.objs.size)
  (ha : s.heap.objs.size ≤ a) (hO : h'.get? a = some (seqObj "list" xs.toArray n)) (hv : VRs s.heap vs xs) (hl : vs.length ≤ zax) : PostV C σ s Q (.ref a) { s with heap := h', toks := t } :=
 ⟨.ref a, σ.upd a (.list vs), q a (r.none_of_ge ha), .ref, .alloc r k hs ha ⟨xs, n, hO, hv.keep fun b o e _ => k b o e, hl⟩⟩
theorem zak {h : Heap} {o : Obj} : ∀ b ob, h.get? b = some ob → (h.push o).get? b = some ob := fun _ _ e => Heap.get?_push_of_some _ e
theorem zaI {h : Heap} {o : Obj} : h.objs.size ≤ (h.push o).objs.size := by rw [Heap.size_push]; exact Nat.le_succ _
theorem zkJ {a : Int} (h : a.natAbs < 2 ^ 32) : Builtin.Int.intBits a ≤ 64 := by
 unfold Builtin.Int.intBits
 split
 ·exact Nat.zero_le _
 ·rename_i q
  have h0 : a.natAbs ≠ 0 := fun z => q (by rw [Int.natAbs_eq_zero.mp z]; rfl)
  have := (Nat.log2_lt h0).mpr h
  lia
theorem zlK {h : Heap} {u v : V} {x y : Value} {K : Int → Int → Prop} {W : Value → Value → Prop} (hu : VR h u x) (hv : VR h v y) (q : onII u v K) (g : ∀ a b t t', K a b → W (.int a t) (.int b t')) : W x y := by
 cases hu <;> first | exact q.elim | skip
 cases hv <;> first | exact q.elim | skip
 exact g _ _ _ _ q
theorem zpH {op : Operator} {u v : V} {x y : Value} (r : Rel C σ s.heap) (hu : VR s.heap u x) (hv : VR s.heap v y) (h : binV op u v σ Q) :
  wpAny C.M A (binaryOp op x y) (PostV C σ s Q) E s := by
 cases op with
 | Add =>
  by_cases hr : ∃ a, u = .ref a
  ·refine ob12 hr ?_
   clear hr
   intro a ee3
   subst ee3
   have h : za5 σ (.ref a) fun _ us => za5 σ v fun _ vs => us.length + vs.length ≤ zax ∧ alloc σ (.list (us ++ vs)) Q := h
   refine ob1 (zaG h) ?_
   intro _ us e ha h
   cases e
   refine lift fun g9 k9 => ?_
   refine ob15 (zaG h) ?_
   intro b vs ee4
   subst ee4
   intro hb hz h
   cases hu.ref_of
   cases hv.ref_of
   refine ob1 (r.list ha) ?_
   intro xs n hL hX _
   refine ob1 (r.list hb) ?_
   intro ys m hL' hY _
   refine k9 ?_
   clear k9 g9
   have e1 := hX.length
   have e2 := hY.length
   refine P.add_list hL hL' ?_ (by simp only [List.size_toArray]; exact zd5 (by lia))
   refine zcU (xs := xs ++ ys) (n := 0) (t := s.toks) r h zak zaI (Nat.le_refl _) ?_ (hX.append hY) (by simp; lia)
   rw [Heap.get?_push_size _ rfl]; simp
  ·have h' : onII u v fun a b => Q (.int (a + b)) σ := by
    cases u <;> first | exact h | exact absurd ⟨_, rfl⟩ hr
   exact zlK (W := fun x y => wpAny C.M A (binaryOp .Add x y) (PostV C σ s Q) E s) hu hv h' fun a b t t' h => add_int (.tok r h .int)
 | Sub => exact zlK (W := fun x y => wpAny C.M A (binaryOp .Sub x y) (PostV C σ s Q) E s) hu hv h fun a b t t' h => sub_int' (.tok r h .int)
 | Mult => exact zlK (W := fun x y => wpAny C.M A (binaryOp .Mult x y) (PostV C σ s Q) E s) hu hv h fun a b t t' h => PyProof.Rows.mul_int (.tok r h.2 .int) (IntMulOk.of_left (zkJ h.1.1))
 | FloorDiv => exact zlK (W := fun x y => wpAny C.M A (binaryOp .FloorDiv x y) (PostV C σ s Q) E s) hu hv h fun a b t t' h => PyProof.Rows.floordiv_int (Int.ne_of_gt h.1.1) (.tok r h.2 .int) (.inl (PyProof.noPylong_small (by lia)))
 | Mod => exact zlK (W := fun x y => wpAny C.M A (binaryOp .Mod x y) (PostV C σ s Q) E s) hu hv h fun a b t t' h => PyProof.Rows.mod_int' (Int.ne_of_gt h.1) (.tok r h.2 .int)
 | _ => exact h.elim
theorem zbW {h : Heap} {a : Addr} {xs : List Value} {n : Nat} (e : h.get? a = some (seqObj "tuple" xs.toArray n)) : h.IsTuple a xs.toArray := ⟨_, e, rfl, n, rfl⟩
theorem zds {a : Addr} {vs : List V} (r : Rel C σ s.heap) (e : σ a = some (.list vs)) : ∃ xs, s.heap.IsList a xs.toArray ∧ VRs s.heap vs xs := let ⟨xs, _, h1, h2, _⟩ := r.list e; ⟨xs, h1.isList, h2⟩
theorem zcD {f : V → V → Option Bool} : ∀ {us vs : List V} {b : Bool}, zb3 f us vs = some b →
  (∀ j (h1 : j < us.length) (h2 : j < vs.length), ∃ c, f us[j] vs[j] = some c) ∧ b = ((List.range (min us.length vs.length)).all (fun j => ((f (us.getD j .none) (vs.getD j .none)).getD false)) && us.length == vs.length)
 | [], [], b, e => by cases e; exact ⟨fun j h => absurd h (Nat.not_lt_zero j), rfl⟩
 | u :: us, v :: vs, b, e => by
  change (match f u v, zb3 f us vs with | some a, some b => some (a && b) | _, _ => none) = _ at e
  split at e
  ·rename_i a c e1 e2
   cases e
   refine ob14 (zcD e2) ?_
   intro h1 h2
   refine ⟨fun j j1 j2 => ?_, ?_⟩
   ·cases j with
    | zero => exact ⟨a, e1⟩
    | succ j => exact h1 j (by simpa using j1) (by simpa using j2)
   ·rw [List.length_cons, List.length_cons, Nat.succ_min_succ, List.range_succ_eq_map, List.all_cons, List.all_map]
    simp only [List.getD_cons_zero, e1, Option.getD_some, h2, Bool.and_assoc]
    simp [Function.comp_def]
  ·cases e
 | [], _ :: _, b, e => by cases e; exact ⟨fun j h => absurd h (Nat.not_lt_zero j), rfl⟩
 | _ :: _, [], b, e => by cases e; exact ⟨fun j _ h => absurd h (Nat.not_lt_zero j), rfl⟩
theorem VRs.at {h : Heap} {v : List V} {x : List Value} (r : VRs h v x) (j : Nat) (h1 : j < v.length) (h2 : j < x.length) : VR h v[j] x[j] := by
 refine ob7 (r.get (List.getElem?_eq_getElem h1)) ?_
 intro b e q
 rw [List.getElem?_eq_getElem h2] at e
 cases e; exact q
theorem zcV {a : Addr} {vs : List V} {xs : List Value} {n : Nat} (r : Rel C σ s.heap) (e : σ a = some (.list vs)) (q : s.heap.get? a = some (seqObj "tuple" xs.toArray n)) : False := by
 refine ob17 (r.list e) ?_
 intro ys m h1 _
 have h1 := q.symm.trans h1
 injection h1 with h1
 have := congrArg Obj.cls h1
 injection this with this
 exact absurd this (by decide)
inductive EqB : V → V → Bool → Prop
 | none : EqB .none .none true
 | bb {a b} : EqB (.bool a) (.bool b) (a == b)
 | ii {a b} : EqB (.int a) (.int b) (a == b)
 | ss {a b} : EqB (.str a) (.str b) (a == b)
inductive EqC (σ : Store) : Nat → V → V → Bool → Prop
 | b {n u v b} : EqB u v b → EqC σ n u v b
 | tt {n us vs b} : zb3 (eqv σ n) us vs = some b → EqC σ (n + 1) (.tup us) (.tup vs) b
 | rr {n a b us vs c} : σ a = some (.list us) → σ b = some (.list vs) → us.length = vs.length → zb3 (eqv σ n) us vs = some c → EqC σ (n + 1) (.ref a) (.ref b) c
 | rl {n a b us vs} : σ a = some (.list us) → σ b = some (.list vs) → us.length ≠ vs.length → EqC σ (n + 1) (.ref a) (.ref b) false
theorem zaH {α : Type} {a : α} {G : Prop} (h : none = some a) : G := by cases h
theorem zjO {u v : V} {b : Bool} (e : eqB u v = some b) : EqB u v b := by
 cases u with
 | none => cases v with
  | none => cases e; exact .none
  | _ => exact zaH e
 | bool a => cases v with
  | bool b => cases e; exact .bb
  | _ => exact zaH e
 | int a => cases v with
  | int b => cases e; exact .ii
  | _ => exact zaH e
 | str a => cases v with
  | str b => cases e; exact .ss
  | _ => exact zaH e
 | _ => exact zaH e
theorem ziv {o : Option AO} {us : List V} (e : asL o = some us) : o = some (.list us) := by
 cases o with
 | none => exact zaH e
 | some o => cases o with
  | list vs => cases e; rfl
  | _ => exact zaH e
theorem zgM {n : Nat} {u v : V} {b : Bool} (e : eqv σ n u v = some b) : EqC σ n u v b := by
 cases n with
 | zero => exact .b (zjO e)
 | succ n => cases u with
  | tup us => cases v with
   | tup vs => exact .tt e
   | _ => exact zaH e
  | ref a => cases v with
   | ref c =>
    refine ob7 (Option.bind_eq_some_iff.mp e) ?_
    intro us h1 e
    refine ob7 (Option.bind_eq_some_iff.mp e) ?_
    intro vs h2 e
    by_cases hl : us.length = vs.length
    ·rw [if_pos hl] at e; exact .rr (ziv h1) (ziv h2) hl e
    ·rw [if_neg hl] at e; cases e; exact .rl (ziv h1) (ziv h2) hl
   | _ => exact zaH e
  | _ => exact .b (zjO e)
theorem zjm {h : Heap} {a : Addr} {xs ys : List Value} {n m : Nat} (q1 : h.get? a = some (seqObj "tuple" xs.toArray n)) (q2 : h.get? a = some (seqObj "tuple" ys.toArray m)) : xs = ys := by
 rw [q1] at q2
 injection q2 with q2
 have := congrArg Obj.data q2
 injection this with this _
 exact congrArg Array.toList this
theorem zen {us : List V} {j : Nat} (h : j < us.length) : us.getD j .none = us[j] := by simp [h]
theorem zjN {h : Heap} {u v : V} {x : Value} {b : Bool} (hu : VR h u x) (hv : VR h v x) (e : EqB u v b) : b = true := by
 cases e with
 | none => rfl
 | bb => cases hu; cases hv; exact beq_self_eq_true _
 | ii => cases hu; cases hv; exact beq_self_eq_true _
 | ss => cases hu; cases hv; exact beq_self_eq_true _
theorem zho (r : Rel C σ s.heap) : ∀ (n : Nat) {u v : V} {x : Value} {b : Bool}, VR s.heap u x → VR s.heap v x → eqv σ n u v = some b → b = true := by
 intro n
 induction n with
 | zero =>
  intro u v x b hu hv e
  exact zjN hu hv (zjO e)
 | succ n ih =>
  have lists : ∀ {us vs : List V} {xs : List Value} {b : Bool}, VRs s.heap us xs → VRs s.heap vs xs → zb3 (eqv σ n) us vs = some b → b = true := by
   intro us vs xs b hu hv e
   have hl : us.length = vs.length := hu.length.trans hv.length.symm
   refine ob14 (zcD e) ?_
   intro h1 h2
   rw [h2, hl, beq_self_eq_true, Bool.and_true, Nat.min_self, List.all_eq_true]
   intro j hj
   have hj1 : j < us.length := hl ▸ List.mem_range.mp hj
   have hj2 : j < vs.length := hl ▸ hj1
   have hj3 : j < xs.length := hu.length ▸ hj1
   refine ob12 (h1 j hj1 hj2) ?_
   intro c hc
   rw [zen hj1, zen hj2, hc, ih (hu.at j hj1 hj3) (hv.at j hj2 hj3) hc]; rfl
  intro u v x b hu hv e
  cases zgM e with
  | b e => exact zjN hu hv e
  | tt e' => cases hu with | tup q1 r1 => cases hv with | tup q2 r2 => cases zjm q1 q2; exact lists r1 r2 e'
  | rr e1 e2 _ e' =>
   cases hu; cases hv
   rw [e1] at e2; cases e2
   refine ob1 (r.list e1) ?_
   intro xs n _ hX _
   exact lists hX hX e'
  | rl e1 e2 hl =>
   cases hu; cases hv
   rw [e1] at e2; cases e2
   exact absurd rfl hl
theorem VR.inv {h : Heap} {u : V} {x : Value} (hu : VR h u x) : match x with
  | .none => u = .none
  | .bool b => u = .bool b
  | .int i _ => u = .int i
  | .str z _ => u = .str z
  | .ref a => u = .ref a ∨ ∃ us xs n, u = .tup us ∧ h.get? a = some (seqObj "tuple" xs.toArray n) ∧ VRs h us xs
  | _ => False := by
 cases hu with
 | tup q r => exact .inr ⟨_, _, _, rfl, q, r⟩
 | ref => exact .inl rfl
 | _ => rfl
theorem VR.same_kind (r : Rel C σ s.heap) {u u' v : V} {x : Value} {n : Nat} {b b' : Bool} (hu : VR s.heap u x) (hu' : VR s.heap u' x) (e : EqC σ n u v b) (e' : EqC σ n u' v b') : u = u' ∨ ∃ us us' xs, u = .tup us ∧ u' = .tup us' ∧ VRs s.heap us xs ∧ VRs s.heap us' xs := by
 have i1 := hu.inv
 have i2 := hu'.inv
 cases x with
 | ref a =>
  rcases i1 with rfl | ⟨us, xs, n, rfl, q1, r1⟩ <;> rcases i2 with rfl | ⟨us', xs', n', rfl, q2, r2⟩
  ·exact .inl rfl
  ·cases e with
   | b e => cases e
   | rr h => exact (zcV r h q2).elim
   | rl h => exact (zcV r h q2).elim
  ·cases e' with
   | b e => cases e
   | rr h => exact (zcV r h q1).elim
   | rl h => exact (zcV r h q1).elim
  ·cases zjm q1 q2; exact .inr ⟨_, _, _, rfl, rfl, r1, r2⟩
 | none => exact .inl (i1.trans i2.symm)
 | bool _ => exact .inl (i1.trans i2.symm)
 | int _ _ => exact .inl (i1.trans i2.symm)
 | str _ _ => exact .inl (i1.trans i2.symm)
 | _ => exact i1.elim
theorem zoG (r : Rel C σ s.heap) : ∀ (n : Nat) {u u' v : V} {x : Value} {b b' : Bool}, VR s.heap u x → VR s.heap u' x → eqv σ n u v = some b → eqv σ n u' v = some b' → b = b' := by
 intro n
 induction n with
 | zero =>
  intro u u' v x b b' hu hu' e e'
  rcases VR.same_kind r hu hu' (zgM e) (zgM e') with rfl | ⟨us, us', xs, rfl, rfl, _, _⟩
  ·rw [e] at e'; exact Option.some.inj e'
  ·exact zaH e
 | succ n ih =>
  intro u u' v x b b' hu hu' e e'
  rcases VR.same_kind r hu hu' (zgM e) (zgM e') with rfl | ⟨us, us', xs, rfl, rfl, r1, r2⟩
  ·rw [e] at e'; exact Option.some.inj e'
  ·cases v with
   | tup ws =>
    refine ob14 (zcD (show zb3 (eqv σ n) us ws = some b from e)) ?_
    intro h1 h2
    refine ob14 (zcD (show zb3 (eqv σ n) us' ws = some b' from e')) ?_
    intro h1' h2'
    have hlen : us.length = us'.length := r1.length.trans r2.length.symm
    rw [h2, h2', hlen]
    have : ∀ j ∈ List.range (min us'.length ws.length), ((eqv σ n (us.getD j .none) (ws.getD j .none)).getD false) = ((eqv σ n (us'.getD j .none) (ws.getD j .none)).getD false) := fun j hj => by
     have hjm := List.mem_range.mp hj
     have hj1 : j < us'.length := Nat.lt_of_lt_of_le hjm (Nat.min_le_left ..)
     have hj0 : j < us.length := hlen ▸ hj1
     have hj2 : j < ws.length := Nat.lt_of_lt_of_le hjm (Nat.min_le_right ..)
     have hj3 := r1.length ▸ hj0
     refine ob12 (h1 j hj0 hj2) ?_
     intro c hc
     refine ob12 (h1' j hj1 hj2) ?_
     intro c' hc'
     rw [zen hj0, zen hj1, zen hj2, hc, hc', ih (r1.at j hj0 hj3) (r2.at j hj1 hj3) hc hc']
    congr 1
    rw [Bool.eq_iff_iff, List.all_eq_true, List.all_eq_true]
    exact ⟨fun q j hj => by rw [← this j hj]; exact q j hj, fun q j hj => by rw [this j hj]; exact q j hj⟩
   | _ => exact zaH e
open PySem.SeqAt in
theorem zf5 {A : Around} {s : Shared} {l b : Addr} {k : Bool} (hs : l = b → k = true) (h : RcAt A s (.ref l) (.ref b) k) : EqAt A s (.ref l) (.ref b) k := by
 by_cases q : l = b
 ·subst q; rw [hs rfl]; exact .same _
 ·exact .of_refs q h
open PySem.SeqAt in
theorem znD {A : Around} {u v : V} {x y : Value} {b : Bool} (hu : VR s.heap u x) (hv : VR s.heap v y) (e : EqB u v b) : EqAt A s x y b ∧ RcAt A s x y b ∧ RcNeAt A s x y (!b) := by
 cases e with
 | none => cases hu; cases hv; exact ⟨.same _, .none_none, .none_none⟩
 | bb => cases hu; cases hv; exact ⟨.bool_bool _ _, .bool_bool _ _, .bool_bool _ _⟩
 | ii => cases hu; cases hv; exact ⟨.int_int _ _ _ _, .int_int _ _ _ _, .int_int _ _ _ _⟩
 | ss => cases hu; cases hv; exact ⟨.str_str _ _ _ _, .str_str _ _ _ _, .str_str _ _ _ _⟩
open PySem.SeqAt in
theorem zlS : ∀ (n : Nat) {A : Around} {u v : V} {x y : Value} {b : Bool}, Rel C σ s.heap → A.units + n < cLine → VR s.heap u x → VR s.heap v y → eqv σ n u v = some b → EqAt A s x y b ∧ RcAt A s x y b ∧ RcNeAt A s x y (!b) := by
 intro n
 induction n with
 | zero =>
  intro A u v x y b r hA hu hv e
  exact znD hu hv (zjO e)
 | succ n ih =>
  intro A u v x y b r hA hu hv e
  have e0 := e
  have hA1 : A.in1.units + n < cLine := by rw [Around.in1_units]; lia
  have hA0 : A.units < cLine := by lia
  clear hA
  have els : ∀ {us vs : List V} {xs ys : List Value} {b : Bool}, VRs s.heap us xs → VRs s.heap vs ys → zb3 (eqv σ n) us vs = some b →
    (∀ j (h1 : j < xs.toArray.size) (h2 : j < ys.toArray.size), EqAt A.in1 s xs.toArray[j] ys.toArray[j] ((eqv σ n (us.getD j .none) (vs.getD j .none)).getD false)) ∧ b = ((List.range (min xs.toArray.size ys.toArray.size)).all (fun j => ((eqv σ n (us.getD j .none) (vs.getD j .none)).getD false)) && xs.toArray.size == ys.toArray.size) := by
   intro us vs xs ys b hX hY e
   refine ob14 (zcD e) ?_
   intro h1 h2
   have lx := hX.length; have ly := hY.length
   refine ⟨fun j j1 j2 => ?_, by rw [h2, List.size_toArray, List.size_toArray, lx, ly]⟩
   rw [List.size_toArray] at j1 j2
   refine ob12 (h1 j (lx ▸ j1) (ly ▸ j2)) ?_
   intro c hc
   rw [zen (lx ▸ j1), zen (ly ▸ j2), hc]
   exact (ih (A := A.in1) r hA1 (hX.at j (lx ▸ j1) j1) (hY.at j (ly ▸ j2) j2) hc).1
  cases zgM e with
  | b e => exact znD hu hv e
  | rr h1 h2 hl e' =>
   have hs : x = y → b = true := fun q => zho r _ hu (q ▸ hv) e0
   cases hu; cases hv
   refine lift fun g9 k9 => ?_
   refine ob7 (zds r h1) ?_
   intro xs hx hX
   refine ob7 (zds r h2) ?_
   intro ys hy hY
   refine ob14 (els hX hY e') ?_
   intro k1 k2
   refine k9 ?_
   clear k9 g9
   have hsz : xs.toArray.size = ys.toArray.size := by rw [List.size_toArray, List.size_toArray, ← hX.length, ← hY.length, hl]
   have R1 := RcAt.lists (A := A) hx hy hsz hA0 k1
   have R2 := RcNeAt.lists (A := A) hx hy hsz hA0 k1
   rw [← hsz, Nat.min_self, beq_self_eq_true, Bool.and_true] at k2
   rw [← k2] at R1 R2
   exact ⟨zf5 (fun q => hs (by rw [q])) R1, R1, R2⟩
  | rl h1 h2 hl =>
   have hs : x = y → false = true := fun q => zho r _ hu (q ▸ hv) e0
   cases hu; cases hv
   refine ob7 (zds r h1) ?_
   intro xs hx hX
   refine ob7 (zds r h2) ?_
   intro ys hy hY
   have hsz : (xs.toArray.size != ys.toArray.size) = true := by rw [List.size_toArray, List.size_toArray, ← hX.length, ← hY.length]; exact bne_iff_ne.mpr hl
   have R1 := RcAt.lists_lengths (A := A) hx hy hsz hA0
   exact ⟨zf5 (fun q => hs (by rw [q])) R1, R1, RcNeAt.lists_lengths (A := A) hx hy hsz hA0⟩
  | tt e' =>
   have hs : x = y → b = true := fun q => zho r _ hu (q ▸ hv) e0
   cases hu with | tup q1 hX => cases hv with | tup q2 hY =>
   refine ob14 (els hX hY e') ?_
   intro k1 k2
   have R1 := RcAt.tuples (A := A) (zbW q1) (zbW q2) hA0 k1
   have R2 := RcNeAt.tuples (A := A) (zbW q1) (zbW q2) hA0 k1
   rw [← k2] at R1 R2
   exact ⟨zf5 (fun q => hs (by rw [q])) R1, R1, R2⟩
theorem zjF {x : V} : ∀ {ys : List V} {b : Bool}, memV σ x ys = some b → (∀ y ∈ ys, ∃ c, eqv σ fuel y x = some c) ∧ (b = true ↔ ∃ y ∈ ys, eqv σ fuel y x = some true)
 | [], b, e => by simp [memV] at e; subst e; simp
 | y :: ys, b, e => by
  simp only [memV] at e
  split at e
  ·rename_i a c e1 e2
   cases e
   refine ob14 (zjF e2) ?_
   intro h1 h2
   refine ⟨fun z hz => ?_, ?_⟩
   ·rcases List.mem_cons.mp hz with rfl | hz
    ·exact ⟨a, e1⟩
    ·exact h1 z hz
   ·rw [Bool.or_eq_true, h2]
    constructor
    ·rintro (rfl | ⟨z, hz, q⟩)
     ·exact ⟨y, List.mem_cons_self, e1⟩
     ·exact ⟨z, List.mem_cons_of_mem _ hz, q⟩
    ·intro zz1
     refine ob7 zz1 ?_
     clear zz1
     intro z hz q
     rcases List.mem_cons.mp hz with rfl | hz
     ·rw [e1] at q; exact .inl (Option.some.inj q)
     ·exact .inr ⟨z, hz, q⟩
  ·cases e
theorem VRs.mem {h : Heap} {v : List V} {x : List Value} (r : VRs h v x) (y : Value) (hy : y ∈ x) : ∃ u ∈ v, VR h u y :=
 r.ind (P := fun v x => y ∈ x → ∃ u ∈ v, VR h u y) (fun e => absurd e List.not_mem_nil) (fun a _ ih e => by
  rcases List.mem_cons.mp e with rfl | e
  ·exact ⟨_, List.mem_cons_self, a⟩
  ·refine ob7 (ih e) ?_
   intro u h1 h2
   exact ⟨u, List.mem_cons_of_mem _ h1, h2⟩) hy
theorem VRs.mem' {h : Heap} {v : List V} {x : List Value} (r : VRs h v x) (u : V) (hu : u ∈ v) : ∃ y ∈ x, VR h u y :=
 r.ind (P := fun v x => u ∈ v → ∃ y ∈ x, VR h u y) (fun e => absurd e List.not_mem_nil) (fun a _ ih e => by
  rcases List.mem_cons.mp e with rfl | e
  ·exact ⟨_, List.mem_cons_self, a⟩
  ·refine ob7 (ih e) ?_
   intro y h1 h2
   exact ⟨y, List.mem_cons_of_mem _ h1, h2⟩) hu
open PySem.SeqAt in
theorem zjE {x : V} {y : Value} {us : List V} {xs : List Value} {b : Bool} (r : Rel C σ s.heap) (hA : A.units + 8 < cLine) (hx : VR s.heap x y) (hX : VRs s.heap us xs) (e : memV σ x us = some b) :
  ∃ t : Value → Bool, (∀ z, z ∈ xs.toArray → EqAt A.in1 s z y (t z)) ∧ xs.toArray.any t = b := by
 classical
 refine ob14 (zjF e) ?_
 intro h1 h2
 refine ⟨fun z => decide (∃ u ∈ us, VR s.heap u z ∧ eqv σ fuel u x = some true), fun z hz => ?_, ?_⟩
 ·refine ob7 (hX.mem z (by simpa using hz)) ?_
  intro u hu hv
  refine ob12 (h1 u hu) ?_
  intro c hc
  have : decide (∃ u ∈ us, VR s.heap u z ∧ eqv σ fuel u x = some true) = c := by
   cases c with
   | true => exact decide_eq_true ⟨u, hu, hv, hc⟩
   | false =>
    refine decide_eq_false fun ⟨u', _, hv', hc'⟩ => ?_
    exact absurd (zoG r _ hv hv' hc hc') (by decide)
  dsimp only
  rw [this]
  exact (zlS (A := A.in1) fuel r (by rw [Around.in1_units]; simp only [fuel]; lia) hv hx hc).1
 ·rw [Bool.eq_iff_iff, h2, Array.any_eq_true']
  constructor
  ·intro zz2
   refine ob7 zz2 ?_
   clear zz2
   intro z hz q
   refine ob2 (of_decide_eq_true q) ?_
   intro u hu _ q
   exact ⟨u, hu, q⟩
  ·intro zz3
   refine ob7 zz3 ?_
   clear zz3
   intro u hu q
   refine ob7 (hX.mem' u hu) ?_
   intro z hz hv
   exact ⟨z, by simpa using hz, decide_eq_true ⟨u, hu, hv, q⟩⟩
theorem ziI (hl : C.base.NoLimit) : 2 < C.base.objs.size := by
 refine ob7 hl ?_
 clear hl
 intro mc h _
 exact h.lt
theorem KR.ints {prog : Program} {w : World} {h : Heap} {a : Addr} {ks : List V} (x : KR prog w h a ks) (hk : ks.all zeA = true) : ∃ ns : List Int, ks = ns.map V.int ∧ h.DictOf (intKind prog w) a (ns.map fun n => (n, Value.bool true)) := by
 rcases x with x | ⟨ps, rfl, o, es, ep, h1, h2, h3, h4, h5, h6⟩
 ·exact x
 ·cases ps with
  | nil =>
   refine ⟨[], rfl, o, es, ep, h1, h2, h3, fun e he => ?_, ?_, .nil⟩
   ·have : es.toList = [] := h4
    rw [← Array.mem_toList_iff, this] at he; cases he
   ·have : es.toList = [] := h4
    rw [this]; exact .nil
  | cons p r => simp [zeA] at hk
theorem KR.pairs {prog : Program} {w : World} {h : Heap} {a : Addr} {ks : List V} (x : KR prog w h a ks) (hk : ks.all zhj = true) :
  ∃ ps : List ((Int × Int) × Addr), ks = ps.map (fun p => V.tup [.int p.1.1, .int p.1.2]) ∧ h.DictOfH (tupleKind (intKind prog w)) a (ps.map fun p => ([p.1.1, p.1.2], p.2, Value.bool true)) := by
 rcases x with ⟨ns, rfl, o, es, ep, h1, h2, h3, h4, h5, h6⟩ | x
 ·cases ns with
  | nil =>
   refine ⟨[], rfl, o, es, ep, h1, h2, h3, ?_, fun x hx => (by cases hx), .nil⟩
   have := h5.length
   simp only [List.map_nil, List.length_nil] at this
   rw [List.eq_nil_of_length_eq_zero this]; rfl
  | cons p r => exact Bool.noConfusion hk
 ·exact x
theorem zbm (i : Int) (t : Tok) : Value.isInt i (.int i t) = true := by simp [Value.isInt]
theorem zem (i : Int) (ns : List Int) : zcB (.int i) (ns.map V.int) = ns.contains i := by
 induction ns with
 | nil => rfl
 | cons n r ih =>
  have ih' : (List.map V.int r).any (fun x => ziZ x (.int i)) = r.contains i := ih
  rw [zcB, List.map_cons, List.any_cons, ih', List.contains_cons]
  show ((n == i) || _) = _
  rw [Bool.beq_comm]
theorem zhE (i : Int) (ns : List Int) : (valueAt (ns.map fun n => (n, Value.bool true)) i).isSome = ns.contains i := by
 induction ns with
 | nil => rfl
 | cons n r ih =>
  unfold valueAt at ih ⊢
  rw [List.map_cons, List.find?_cons, List.contains_cons]
  by_cases e : n = i
  ·subst e; simp
  ·simp only [e, decide_false, ih]
   have : (i == n) = false := by simp [Ne.symm e]
   rw [this, Bool.false_or]
theorem zdu (i j : Int) (ps : List ((Int × Int) × Addr)) : zcB (.tup [.int i, .int j]) (ps.map fun p => V.tup [.int p.1.1, .int p.1.2]) = (ps.map (·.1)).contains (i, j) := by
 induction ps with
 | nil => rfl
 | cons n r ih =>
  have ih' : (List.map (fun p : (Int × Int) × Addr => V.tup [.int p.1.1, .int p.1.2]) r).any (fun x => ziZ x (.tup [.int i, .int j])) = (r.map (·.1)).contains (i, j) := ih
  rw [zcB, List.map_cons, List.any_cons, ih', List.map_cons, List.contains_cons]
  congr 1
  show (n.1.1 == i && n.1.2 == j) = _
  rw [Bool.eq_iff_iff]
  simp only [Bool.and_eq_true, beq_iff_eq, Prod.ext_iff]
  exact ⟨fun ⟨a, b⟩ => ⟨a.symm, b.symm⟩, fun ⟨a, b⟩ => ⟨a.symm, b.symm⟩⟩
theorem zgf (i j : Int) (ps : List ((Int × Int) × Addr)) : (atKey (ps.map fun p => ([p.1.1, p.1.2], p.2, Value.bool true)) [i, j]).isSome = (ps.map (·.1)).contains (i, j) := by
 induction ps with
 | nil => rfl
 | cons n r ih =>
  unfold atKey at ih ⊢
  rw [List.map_cons, List.find?_cons, List.map_cons, List.contains_cons]
  by_cases e : n.1 = (i, j)
  ·have : [n.1.1, n.1.2] = [i, j] := by rw [e]
   simp [e]
  ·have h1 : ¬ [n.1.1, n.1.2] = [i, j] := fun q => e (by injection q with q1 q2; injection q2 with q2 _; exact Prod.ext q1 q2)
   have h2 : ((i, j) == n.1) = false := beq_eq_false_iff_ne.mpr (Ne.symm e)
   rw [h2, Bool.false_or, ← ih]
   simp only [h1, decide_false]
theorem zhx {v : V} {p : Int × Int} (h : asP v = some p) : v = .tup [.int p.1, .int p.2] := by
 cases v with
 | tup vs => cases vs with
  | nil => exact zaH h
  | cons a r => cases a with
   | int i => cases r with
    | nil => exact zaH h
    | cons b r => cases b with
     | int j => cases r with
      | nil => cases h; rfl
      | cons _ _ => exact zaH h
     | _ => exact zaH h
   | _ => exact zaH h
 | _ => exact zaH h
theorem zff {v : V} (h : zhj v = true) : ∃ i j, v = .tup [.int i, .int j] := by
 refine ob12 (Option.isSome_iff_exists.mp h) ?_
 intro p hp
 exact ⟨_, _, zhx hp⟩
theorem zel {v : V} (h : zeA v = true) : ∃ i, v = .int i := by
 cases v <;> first | exact Bool.noConfusion h | exact ⟨_, rfl⟩
theorem VR.pair_of {h : Heap} {i j : Int} {x : Value} (v : VR h (.tup [.int i, .int j]) x) : ∃ a n t u, x = .ref a ∧ h.get? a = some (seqObj "tuple" [Value.int i t, Value.int j u].toArray n) := by
 refine ob6 v.tup_of ?_
 intro a xs n ee5
 subst ee5
 intro e r
 cases r with | cons p r => cases r with | cons q r => cases r with | nil =>
 refine ob12 p.int_of ?_
 intro t ee6
 subst ee6
 refine ob12 q.int_of ?_
 intro u ee7
 subst ee7
 exact ⟨a, n, t, u, rfl, e⟩
theorem zlg {prog : Program} {w : World} {h : Heap} {a : Addr} {i j : Int} {t u : Tok} {n : Nat} (e : h.get? a = some (seqObj "tuple" [Value.int i t, Value.int j u].toArray n)) : IsTupleKey (intKind prog w) h [i, j] a :=
 ⟨_, _, n, e, rfl, rfl, .cons (zbm i t) (.cons (zbm j u) .nil)⟩
theorem zeo {d : Addr} {ks : List V} (r : Rel C σ s.heap) (hl : C.base.NoLimit) (e : σ d = some (.dict ks)) : (d == sysModules) = false := by
 have h2 := ziI hl
 rcases r.new d _ e with q | ⟨vs, q⟩
 ·exact beq_eq_false_iff_ne.mpr fun z => by rw [z] at q; simp only [sysModules] at q; lia
 ·cases q
theorem zlJ {x : V} {y : Value} {d : Addr} {ks : List V} {K : Value → Shared → Prop} (hl : C.base.NoLimit) (hA : A.units + 8 < cLine) (r : Rel C σ s.heap) (e : σ d = some (.dict ks)) (hx : VR s.heap x y) (hk : zdf (x :: ks) = true)
  (h : ∀ t, K (.bool (zcB x ks)) { s with toks := t }) : wpAny C.M A (compareOp .In y (.ref d)) K E s := by
 refine ob14 (r.tr d _ e) ?_
 intro hK _
 unfold zdf at hk
 rcases Bool.or_eq_true_iff.mp hk with q | q
 ·simp only [List.all_cons, Bool.and_eq_true] at q
  refine lift fun g9 k9 => ?_
  refine ob12 (zel q.1) ?_
  intro i ee8
  subst ee8
  refine ob12 hx.int_of ?_
  intro t ee9
  subst ee9
  refine ob7 (hK.ints q.2) ?_
  intro ns ee10
  subst ee10
  intro hd
  refine k9 ?_
  clear k9 g9
  refine wpAny_in_of (knd := intKind C.prog C.w) (zbm i t) (zeo r hl e) hd.mapOf ?_
  rw [zhE, ← zem]; exact h _
 ·simp only [List.all_cons, Bool.and_eq_true] at q
  refine lift fun g9 k9 => ?_
  refine ob18 (zff q.1) ?_
  intro i j ee11
  subst ee11
  refine ob19 hx.pair_of ?_
  intro a n t u ee12
  subst ee12
  intro ha
  refine ob7 (hK.pairs q.2) ?_
  intro ps ee13
  subst ee13
  intro hd
  refine k9 ?_
  clear k9 g9
  refine wpAny_in_heap (knd := tupleKind (intKind C.prog C.w)) (tupleKind_room_in1 (by lia)) (zlg ha) (zeo r hl e) hd ?_
  rw [zgf, ← zdu]; exact h _
theorem ziT {M : Model} {x y : Value} {K : Value → Shared → Prop} (h : wpAny M A (compareOp .In x y) (fun v s' => ∃ c, v = .bool c ∧ K (.bool (!c)) s') E s) : wpAny M A (compareOp .NotIn x y) K E s := by
 have h' : wpAny M A (contains y x) (fun c s' => K (.bool (!c)) s') E s := fun Γ p hΓ => by
  have := h Γ p hΓ
  have e : compareOp .In x y = (contains y x >>= fun b => pure (Value.bool b)) := rfl
  rw [e, Sem.wp_bind'] at this
  refine Sem.wp_mono M Γ _ (fun c p' s' q => ?_) (fun _ _ _ q => q) p s this
  refine ob7 q ?_
  clear q
  intro c' q1 q2
  cases q1; exact q2
 show wpAny M A (do return .bool (!(← contains y x))) K E s
 exact wpAny_bind (wpAny_mono h' (fun c s' q => wpAny_pure q) fun _ _ q => q)
theorem zhs {h : Heap} {u v : V} {x y : Value} {f : Int → Int → Bool} {b : Bool} {W : Value → Value → Prop} (hu : VR h u x) (hv : VR h v y) (e : zjc u v f = some b) (g : ∀ i j t t', b = f i j → W (.int i t) (.int j t')) : W x y := by
 cases hu <;> first | (cases e; done) | skip
 cases hv <;> first | (cases e; done) | skip
 exact g _ _ _ _ (Option.some.inj e).symm
theorem zpj {h : Heap} {u v : V} {x y : Value} {b : Bool} {W : Value → Value → Prop} (hu : VR h u x) (hv : VR h v y) (e : ltP u v = some b) (g : ∀ i j t t', b = decide (i < j) → W (.int i t) (.int j t'))
  (g2 : ∀ (a c : Addr) (p q : Int × Int) (t u t' u' : Tok) (n n2 : Nat), h.get? a = some (seqObj "tuple" #[.int p.1 t, .int p.2 u] n) → h.get? c = some (seqObj "tuple" #[.int q.1 t', .int q.2 u'] n2) → b = (decide (p.1 < q.1) || (p.1 == q.1 && decide (p.2 < q.2))) → W (.ref a) (.ref c)) : W x y := by
 cases hp : asP u with
 | none => rw [ltP, hp] at e; exact zhs hu hv e g
 | some p => cases hq : asP v with
  | none => rw [ltP, hp, hq] at e; exact zhs hu hv e g
  | some q =>
   rw [ltP, hp, hq] at e
   rw [zhx hp] at hu
   rw [zhx hq] at hv
   refine ob19 hu.pair_of ?_
   intro a n t u ee14
   subst ee14
   intro ha
   refine ob19 hv.pair_of ?_
   intro c n2 t' u' ee15
   subst ee15
   intro hb
   exact g2 a c p q t u t' u' n n2 ha hb (Option.some.inj e).symm
theorem zlF {h : Heap} {u v : V} {x y : Value} {b : Bool} {W : Value → Value → Prop} (hu : VR h u x) (hv : VR h v y) (e : isNo u v = some b) (g : ∀ x, PySem.plainIs x .none = true → b = (x == .none) → W x .none) : W x y := by
 cases v with
 | none =>
  cases hv.none_of
  cases hu <;> exact g _ rfl (Option.some.inj e).symm
 | _ => exact zaH e
theorem zgO {op : CmpOp} {u v : V} {x y : Value} {b : Bool} {K : Value → Shared → Prop} (hl : C.base.NoLimit) (hA : A.units + 16 < cLine) (r : Rel C σ s.heap) (hu : VR s.heap u x) (hv : VR s.heap v y) (e : cmpV σ op u v = some b)
  (h : ∀ t, K (.bool b) { s with toks := t }) : wpAny C.M A (compareOp op x y) K E s := by
 have hin : ∀ {u v : V} {x y : Value} {b : Bool} {K : Value → Shared → Prop}, VR s.heap u x → VR s.heap v y → inV σ u v = some b → (∀ t, K (.bool b) { s with toks := t }) → wpAny C.M A (compareOp .In x y) K E s := by
  intro u v x y b K hu hv e h
  unfold inV at e
  split at e
  ·refine ob6 hv.tup_of ?_
   intro a xs n ee16
   subst ee16
   intro ha hX
   refine ob7 (zjE (A := A) r (by lia) hu hX e) ?_
   intro t h1 h2
   exact PySem.SeqAt.in_tupleAt t (zbW ha) h1 (by rw [h2]; exact h s.toks)
  ·cases hv.ref_of
   split at e
   ·rename_i vs hs
    refine ob7 (zds r hs) ?_
    intro xs hL hX
    refine ob7 (zjE (A := A) r (by lia) hu hX e) ?_
    intro t h1 h2
    exact PySem.SeqAt.in_listAt t hL h1 (by rw [h2]; exact h s.toks)
   ·rename_i ks hs
    split at e
    ·rename_i hk
     cases e
     exact zlJ hl (by lia) r hs hu hk h
    ·cases e
   ·cases e
  ·cases e
 have hi : ∀ {op : CmpOp} {f : Int → Int → Bool}, zjc u v f = some b → (∀ i j t t', b = f i j → wpAny C.M A (compareOp op (.int i t) (.int j t')) K E s) → wpAny C.M A (compareOp op x y) K E s :=
  fun {op} {_} e g => zhs (W := fun x y => wpAny C.M A (compareOp op x y) K E s) hu hv e g
 cases op with
 | Eq => exact (zlS fuel r (Nat.lt_of_le_of_lt (Nat.add_le_add_left (by decide) _) hA) hu hv e).2.1 _ _ _ _ (h s.toks)
 | NotEq =>
  refine ob7 (Option.map_eq_some_iff.mp e) ?_
  intro c hc ee17
  subst ee17
  exact (zlS fuel r (Nat.lt_of_le_of_lt (Nat.add_le_add_left (by decide) _) hA) hu hv hc).2.2 _ _ _ _ (h s.toks)
 | Lt =>
  refine zpj (W := fun x y => wpAny C.M A (compareOp .Lt x y) K E s) hu hv e (fun i j t t' e => PyProof.Rows.lt_int (e ▸ h s.toks)) fun a b p q t u t' u' n n2 ha hb e => ?_
  exact znI ha hb (by lia) (e ▸ h s.toks)
 | LtE => exact hi e fun i j t t' e => PyProof.Rows.le_int (e ▸ h s.toks)
 | Gt => exact hi e fun i j t t' e => PyProof.Rows.gt_int (e ▸ h s.toks)
 | GtE => exact hi e fun i j t t' e => PyProof.Rows.ge_int (e ▸ h s.toks)
 | Is => exact zlF (W := fun x y => wpAny C.M A (compareOp .Is x y) K E s) hu hv e fun x hx e => wpAny_is_plain hx (e ▸ h s.toks)
 | IsNot =>
  refine ob7 (Option.map_eq_some_iff.mp e) ?_
  intro c hc ee18
  subst ee18
  exact zlF (W := fun x y => wpAny C.M A (compareOp .IsNot x y) K E s) hu hv hc fun x hx e => wpAny_isNot_plain hx (e ▸ h s.toks)
 | In => exact hin hu hv e h
 | NotIn =>
  refine ob7 (Option.map_eq_some_iff.mp e) ?_
  intro c hc ee19
  subst ee19
  exact ziT (hin hu hv hc fun t => ⟨c, rfl, h t⟩)
end
end Mine.Internal
end
section
namespace Mine.Internal
open PySem PySem.W PySem.Calls PyProof.Rows
section
variable {C : Cx} {A : Around} {E : Value → Shared → Prop} {σ : Store} {s : Shared} {Q : V → Store → Prop}
theorem zfJ {u : V} {x : Value} {b : Bool} {K : Bool → Shared → Prop} (hu : VR s.heap u x) (e : Mine.Internal.truthy σ u = some b) (h : K b s) : wpAny C.M A (PySem.truthy x) K E s := by
 cases hu with
 | none => cases e; exact PyProof.Rows.truthy_none h
 | bool => cases e; exact wpAny_truthy_bool h
 | int => cases e; exact PyProof.Rows.truthy_int h
 | _ => exact zaH e
noncomputable def tyV : Ty → Option Value
 | .int => some (.type "int") | .bool => some (.type "bool") | .tuple => some (.type "tuple") | .list => some (.type "list")
open PySem.IsiPair in
theorem zoo {u : V} {x c : Value} {t : Ty} {b : Bool} {K : Value → Shared → Prop} (r : Rel C σ s.heap) (hu : VR s.heap u x) (ht : tyV t = some c) (e : zjG σ u t = some b) (h : ∀ tk, K (.bool b) { s with toks := tk }) :
  wpAny C.M A (call (.builtin "isinstance") [x, c]) K E s := by
 cases t with
 | int => cases hu with
  | int => cases ht; cases e; exact int_int (h s.toks)
  | _ => exact zaH e
 | bool => cases hu with
  | int => cases ht; cases e; exact int_bool (h _)
  | _ => exact zaH e
 | tuple => cases hu with
  | tup ha _ => cases ht; cases e; exact tuple_tuple ha rfl (h s.toks)
  | _ => exact zaH e
 | list => cases hu with
  | ref =>
   refine ob7 (Option.map_eq_some_iff.mp e) ?_
   intro us hs e
   refine ob17 (r.list (ziv hs)) ?_
   intro xs n ha _
   cases ht; subst e; exact list_list ha rfl (h s.toks)
  | _ => exact zaH e
end
end Mine.Internal
end
section
namespace Mine.Internal
open PySem PySem.W PySem.Calls PyProof.Rows
section
variable {C : Cx} {A : Around} {E : Value → Shared → Prop} {σ : Store} {s : Shared} {Q : V → Store → Prop}
theorem zhK (slice : Expr) (o i : Value) : ∃ ops, subscripted slice false o i = operate ops (getItem o i) := by
 cases slice with
 | Slice _ _ c _ => cases c <;> exact ⟨_, rfl⟩
 | _ => exact ⟨_, rfl⟩
theorem zmM {i : Int} {n k : Nat} (h : zkj i n = some k) : k < n ∧ seqIndex? i n = some k ∧ -(n : Int) ≤ i ∧ i < n ∧ (0 ≤ i → k = i.toNat) ∧ (i < 0 → k = (i + n).toNat) := by
 unfold zkj at h
 unfold seqIndex?
 split at h
 ·rename_i h0
  split at h
  ·rename_i h1
   cases h
   have : ¬ i < 0 := by lia
   refine ⟨h1, ?_, by lia, by lia, fun _ => rfl, fun z => by lia⟩
   simp only [this, if_false]
   rw [if_pos (by simp only [Bool.and_eq_true, decide_eq_true_eq]; lia)]
  ·cases h
 ·rename_i h0
  split at h
  ·rename_i h1
   cases h
   have : i < 0 := by lia
   refine ⟨by lia, ?_, by lia, by lia, fun _ => by lia, fun _ => rfl⟩
   simp only [this, if_true]
   rw [if_pos (by simp only [Bool.and_eq_true, decide_eq_true_eq]; lia)]
  ·cases h
theorem zgB {v : V} {K : List V → Prop} (h : ziR σ v K) : ∃ vs, K vs ∧ ((v = .tup vs ∧ vs.length ≤ zax) ∨ ∃ a, v = .ref a ∧ (σ a = some (.list vs) ∨ σ a = some (.fixed vs))) := by
 cases v with
 | tup vs => exact ⟨_, h.2, .inl ⟨rfl, h.1⟩⟩
 | ref a =>
  change (match σ a with | some (.list vs) => K vs | some (.fixed vs) => K vs | _ => False) at h
  cases e : σ a with
  | none => rw [e] at h; exact h.elim
  | some o =>
   rw [e] at h
   cases o with
   | list vs => exact ⟨_, h, .inr ⟨_, rfl, .inl e⟩⟩
   | fixed vs => exact ⟨_, h, .inr ⟨_, rfl, .inr e⟩⟩
   | _ => exact h.elim
 | _ => exact h.elim
theorem Rel.seq {a : Addr} {vs : List V} (r : Rel C σ s.heap) (h : σ a = some (.list vs) ∨ σ a = some (.fixed vs)) : ∃ xs, s.heap.IsList a xs.toArray ∧ VRs s.heap vs xs ∧ vs.length ≤ zax := by
 rcases h with h | h
 ·refine ob1 (r.list h) ?_
  intro xs n h1 h2 h3
  exact ⟨xs, h1.isList, h2, h3⟩
 ·exact r.tr a _ h
theorem zlv {n : Nat} (h : n ≤ zax) : (n : Int) < 2 ^ 63 := by simp only [zax] at h; lia
theorem zol {u v : V} {x y : Value} {value slice : Expr} {K : V → Prop} {Q : Value → Shared → Prop} (r : Rel C σ s.heap) (hu : VR s.heap u x) (hv : VR s.heap v y) (h : idxV u v σ K) (hQ : ∀ z w, K z → VR s.heap z w → Q w s) :
  wpAny C.M A (subscriptTail value slice x y) Q E s := by
 refine ob7 (zgB h) ?_
 intro vs h1 hseq
 clear h
 refine lift fun g9 k9 => ?_
 refine ob7 (zbc h1) ?_
 intro i ee20
 subst ee20
 intro h2
 refine ob7 (zap h2) ?_
 intro k hk h3
 refine ob7 (zap h3) ?_
 intro z hz h
 refine k9 ?_
 clear k9 g9
 clear h1 h2 h3
 refine lift fun g9 k9 => ?_
 refine ob12 hv.int_of ?_
 intro t ee21
 subst ee21
 refine ob12 (zhK slice x (.int i t)) ?_
 intro ops hops
 refine ob20 (zmM hk) ?_
 intro hlt hsi hlo hhi hp hn
 refine k9 ?_
 clear k9 g9
 rcases hseq with ⟨rfl, hl⟩ | ⟨a, rfl, ha⟩
 ·refine ob6 hu.tup_of ?_
  intro a xs n ee22
  subst ee22
  intro ha hX
  have hll := zlv hl
  have e := hX.length
  refine ob7 (hX.get hz) ?_
  intro w hw hzw
  refine tail_any (T := "tuple") ⟨_, ha, rfl⟩ slot_tuple_getitem.lookup ?_ hops
  exact P.getItem_tuple ha (by lia) (by lia) (by simp only [List.size_toArray]; rw [← e]; exact hsi) (by simpa using hw) (hQ z w h hzw)
 ·refine lift fun g9 k9 => ?_
  cases hu.ref_of
  refine ob2 (r.seq ha) ?_
  intro xs hL hX hl
  refine k9 ?_
  clear k9 g9
  have hll := zlv hl
  have e := hX.length
  refine ob7 (hX.get hz) ?_
  intro w hw hzw
  refine tail_any (T := "list") hL.typeIs slot_list_getitem.lookup ?_ hops
  by_cases h0 : 0 ≤ i
  ·exact wpAny_getItem_list hL h0 (by lia) (by rw [← hp h0]; simpa using hw) (hQ z w h hzw)
  ·refine wpAny_getItem_list_neg hL (by lia) (by simp only [List.size_toArray]; lia) (by lia) ?_ (hQ z w h hzw)
   have := hn (by lia)
   simp only [List.size_toArray]
   rw [← e, ← this]; simpa using hw
theorem zpk {u : V} {x : Value} {K : V → Store → Prop} {Q : Value → Shared → Prop} (r : Rel C σ s.heap) (hu : VR s.heap u x) (h : ziR σ u fun vs => K (.int vs.length) σ) (hQ : ∀ z t w, K z σ → VR s.heap z w → Q w { s with toks := t }) :
  wpAny C.M A (call (.builtin "len") [x]) Q E s := by
 refine ob7 (zgB h) ?_
 intro vs h' hseq
 clear h
 have h := h'
 clear h'
 rcases hseq with ⟨rfl, hl⟩ | ⟨a, rfl, ha⟩
 ·refine ob6 hu.tup_of ?_
  intro a xs n ee23
  subst ee23
  intro ha hX
  have hll := zlv hl
  have e := hX.length
  refine P.len_tuple ha (by simp only [List.size_toArray]; lia) (hQ _ _ _ h ?_)
  rw [List.size_toArray, ← e]; exact .int
 ·refine lift fun g9 k9 => ?_
  cases hu.ref_of
  refine ob2 (r.seq ha) ?_
  intro xs hL hX hl
  refine k9 ?_
  clear k9 g9
  have hll := zlv hl
  have e := hX.length
  refine len_list hL (by simp only [List.size_toArray]; lia) (hQ _ _ _ h ?_)
  rw [List.size_toArray, ← e]; exact .int
theorem PostV.len {u : V} {x : Value} (r : Rel C σ s.heap) (hu : VR s.heap u x) (h : ziR σ u fun vs => Q (.int vs.length) σ) : wpAny C.M A (call (.builtin "len") [x]) (PostV C σ s Q) E s :=
 zpk (K := Q) r hu h fun z t w q hv => .tok r q hv
theorem VRs.take {h : Heap} {v : List V} {x : List Value} (n : Nat) (r : VRs h v x) : VRs h (v.take n) (x.take n) :=
 r.ind (P := fun v x => ∀ n, VRs h (v.take n) (x.take n)) (fun n => by rw [List.take_nil, List.take_nil]; exact .nil) (fun a _ ih n => by
  cases n with
  | zero => exact .nil
  | succ n => exact .cons a (ih n)) n
theorem VRs.drop {h : Heap} {v : List V} {x : List Value} (n : Nat) (r : VRs h v x) : VRs h (v.drop n) (x.drop n) :=
 r.ind (P := fun v x => ∀ n, VRs h (v.drop n) (x.drop n)) (fun n => by rw [List.drop_nil, List.drop_nil]; exact .nil) (fun a r ih n => by
  cases n with
  | zero => exact .cons a r
  | succ n => exact ih n) n
theorem VRs.reverse {h : Heap} {v : List V} {x : List Value} (r : VRs h v x) : VRs h v.reverse x.reverse :=
 r.ind (P := fun v x => VRs h v.reverse x.reverse) .nil fun a _ ih => by rw [List.reverse_cons, List.reverse_cons]; exact ih.append (.cons a .nil)
theorem VRs.set {h : Heap} {a : V} {b : Value} (hab : VR h a b) {v : List V} {x : List Value} (n : Nat) (r : VRs h v x) : VRs h (v.set n a) (x.set n b) :=
 r.ind (P := fun v x => ∀ n, VRs h (v.set n a) (x.set n b)) (fun n => .nil) (fun c r ih n => by
  cases n with
  | zero => exact .cons hab r
  | succ n => exact .cons c (ih n)) n
theorem zni (n : Nat) (o : Option Int) : zc3 n 0 o = kms_lo o n := by
 cases o with
 | none => rfl
 | some i => unfold zc3 kms_lo; dsimp only; split <;> lia
theorem znj (n : Nat) (o : Option Int) : zc3 n n o = kms_hi o n := by
 cases o with
 | none => rfl
 | some i => unfold zc3 kms_hi; dsimp only; split <;> lia
theorem zgx {α : Type} (lo hi : Option Int) (l : List α) : zfR lo hi l = (l.drop (kms_lo lo l.length)).take (kms_hi hi l.length - kms_lo lo l.length) := by
 unfold zfR
 rw [zni, znj, List.drop_take]
theorem zfU {v : V} {x : Value} {o : Option Int} (hv : VR s.heap v x) (e : zhY v = some o) : IsPart x o := by
 cases hv with
 | none => cases e; exact .none
 | int => cases e; exact .int _ _
 | _ => exact zaH e
theorem zmA {u l h : V} {x xl xh : Value} {value : Expr} {lower upper : Option Expr} {p : Pos} (r : Rel C σ s.heap) (hu : VR s.heap u x) (hl : VR s.heap l xl) (hh : VR s.heap h xh) (q : zhS u l h σ Q) :
  wpAny C.M A (subscriptTail value (.Slice lower upper none p) x (.ref s.heap.objs.size)) (PostV C σ s Q) E { s with heap := s.heap.push { cls := .type "slice", data := .fields #[xl, xh, .none] } } := by
 refine lift fun g9 k9 => ?_
 refine ob1 (zaG q) ?_
 intro a vs ee24
 subst ee24
 intro ha q
 refine ob7 (zap q) ?_
 intro lo hlo q
 refine ob7 (zap q) ?_
 intro hi hhi q
 cases hu.ref_of
 refine ob1 (r.list ha) ?_
 intro xs n hL hX hz
 refine k9 ?_
 clear k9 g9
 have e := hX.length
 refine ob12 (zhK (.Slice lower upper none p) (.ref a) (.ref s.heap.objs.size)) ?_
 intro ops hops
 have hL' : (s.heap.push { cls := .type "slice", data := .fields #[xl, xh, .none] }).IsList a xs.toArray := hL.isList.push _
 refine tail_any (T := "list") hL'.typeIs slot_list_getitem.lookup ?_ hops
 refine wpAny_getItem_list_slice hL' (Heap.IsSliceOf.new ..) (zfU hl hlo) (zfU hh hhi) .none (by simp) ?_ (by simp only [List.size_toArray]; exact zd5 (by lia))
 dsimp only
 rw [kms_pick_eq]
 refine zcU (s := s) (xs := kms_pick xs lo hi) (n := 0) (t := s.toks) r q (fun b ob k => zak _ _ (zak _ _ k)) (Nat.le_trans zaI zaI) zaI (Heap.get?_push_size _ rfl) ?_ ?_
 ·rw [zgx, kms_pick, e]
  exact (hX.drop _).take _
 ·rw [zgx]; simp only [List.length_take, List.length_drop]; lia
theorem zlu {u : V} {x : Value} (r : Rel C σ s.heap) (hu : VR s.heap u x) (q : za5 σ u fun _ vs => vs.length ≤ zax ∧ Mine.Internal.alloc σ (.list vs) Q) : wpAny C.M A (call (.type "list") [x]) (PostV C σ s Q) E s := by
 refine lift fun g9 k9 => ?_
 refine ob15 (zaG q) ?_
 intro a vs ee25
 subst ee25
 intro ha hz q
 cases hu.ref_of
 refine ob1 (r.list ha) ?_
 intro xs n hL hX _
 refine k9 ?_
 clear k9 g9
 have e := hX.length
 refine zaO (call_list_seq a (.inl rfl) hL rfl rfl (fun h' c' k hn hsz => ?_) (by simp only [List.size_toArray]; exact zd5 (by lia)))
 exact zcU (t := s.toks) r q k hsz (Nat.le_refl _) hn hX hz
theorem zfI {a : Addr} {vs ws : List V} {xs : List Value} {n : Nat} {f : Array Value → Array Value} {v : V} {x : Value} (r : Rel C σ s.heap) (ha : σ a = some (.list vs)) (hL : IsL s.heap a xs.toArray n)
  (hW : VRs s.heap ws (f xs.toArray).toList) (hz : ws.length ≤ zax) (q : Q v (σ.upd a (.list ws))) (hv : VR s.heap v x) : PostV C σ s Q x { s with heap := s.heap.update a (Obj.mapSeq f) } := by
 have st : Step C No σ s (σ.upd a (.list ws)) { s with heap := s.heap.update a (Obj.mapSeq f), toks := s.toks } := by
  refine .turn r ha (fun _ e => by cases e) ⟨Heap.size_update .., fun b hb => Heap.get?_update_other _ _ (Ne.symm hb)⟩ fun k => ⟨(f xs.toArray).toList, if (f xs.toArray).size == xs.toArray.size then n else n + 1, ?_, hW.keep k, hz⟩
  have := hL.update f
  rw [show (f xs.toArray).toList.toArray = f xs.toArray from by simp]
  exact this
 exact ⟨v, _, q, st.vr hv, st⟩
theorem zp0 {m : M0} {u : V} {x : Value} {id : String} {pos : Pos} (r : Rel C σ s.heap) (hu : VR s.heap u x) (hid : id = match m with | .pop => "list.pop") (q : m0V m u σ Q) :
  wpAny C.M A (callWith pos (.builtin id) [x] [] []) (PostV C σ s Q) E s := by
 refine lift fun g9 k9 => ?_
 refine ob1 (zaG q) ?_
 intro a vs ee26
 subst ee26
 intro ha q
 cases hu.ref_of
 refine ob1 (r.list ha) ?_
 intro xs n hL hX hz
 refine k9 ?_
 clear k9 g9
 have e := hX.length
 have hsz : xs.toArray.size ≤ sizeLine := by simp only [List.size_toArray]; exact zd5 (by lia)
 cases m with
 | pop =>
  subst hid
  dsimp only at q ⊢
  split at q
  ·exact q.elim
  ·rename_i y t ht
   have hvs : vs = t.reverse ++ [y] := by rw [← List.reverse_reverse vs, ht, List.reverse_cons]
   have hlen : vs.length = t.reverse.length + 1 := by rw [hvs]; simp
   obtain ⟨y', hy', hyy⟩ := hX.get (i := t.reverse.length) (a := y) (by rw [hvs]; simp)
   have hidx : xs.toArray.size - 1 = t.reverse.length := by simp only [List.size_toArray]; lia
   refine P.pop_list hL (y := y') (by rw [hidx]; simpa using hy') (zfI r ha hL ?_ (by lia) q hyy) hsz
   have : (xs.toArray.eraseIdxIfInBounds (xs.toArray.size - 1)).toList = xs.take t.reverse.length := by
    rw [hidx]
    have hlt : t.reverse.length < xs.length := by lia
    simp only [List.eraseIdxIfInBounds_toArray]
    rw [List.eraseIdx_eq_take_drop_succ, List.drop_of_length_le (by lia), List.append_nil]
   rw [this]
   have := hX.take t.reverse.length
   rw [hvs, List.take_append_of_le_length (Nat.le_refl _), List.take_length] at this
   exact this
noncomputable def m1Id : M1 → String
 | .append => "list.append"
theorem zpZ {m : M1} {u v : V} {x y : Value} {id : String} {pos : Pos} {sx : Sem Value} {Q' : Value → Shared → Prop} (hid : id = m1Id m)
  (h : wpAny C.M A sx (fun y s₁ => ∃ σ₁ v Q, Rel C σ₁ s₁.heap ∧ VR s₁.heap u x ∧ VR s₁.heap v y ∧ m1V m u v σ₁ Q ∧ ∀ z s₂, PostV C σ₁ s₁ Q z s₂ → Q' z s₂) E s) (hx : ∃ a, x = .ref a) :
  wpAny C.M A (callWith pos (.builtin id) [x] [(false, sx)] []) Q' E s := by
 refine ob12 hx ?_
 clear hx
 intro a ee27
 subst ee27
 cases m with
 | append =>
  subst hid
  refine P.append_list (wpAny_mono h (fun y s₁ h₁ => ?_) fun _ _ e => e)
  refine lift fun g9 k9 => ?_
  refine ob21 h₁ ?_
  clear h₁
  intro σ₁ v Q r hu hv q k
  refine ob15 (zaG q) ?_
  intro a' vs ee28
  subst ee28
  intro ha hz q
  cases hu.ref_of
  refine ob1 (r.list ha) ?_
  intro xs n hL hX _
  refine k9 ?_
  clear k9 g9
  have e := hX.length
  refine ⟨_, n, by simp only [List.size_toArray]; exact zd5 (by lia), hL, k _ _ (zfI r ha hL ?_ (by simp only [List.length_append, List.length_cons, List.length_nil]; lia) q .none)⟩
  simpa using hX.append (.cons hv .nil)
theorem zke {a : Addr} {vs : List V} {j : Int} {t : Tok} {x : V} {z : Value} {K : Store → Prop} (r : Rel C σ s.heap) (ha : σ a = some (.list vs)) (h0 : 0 ≤ j) (h1 : j < vs.length) (hx : VR s.heap x z) (q : K (σ.upd a (.list (vs.set j.toNat x)))) :
  wpAny C.M A (setItem (.ref a) (.int j t) z) (fun _ s' => ∃ σ', K σ' ∧ Step C No σ s σ' s') E s := by
 refine ob1 (r.list ha) ?_
 intro xs n hL hX hz
 have e := hX.length
 have hll := zlv hz
 have hl := hL.isList
 have fin : ∃ σ', K σ' ∧ Step C No σ s σ' { s with heap := s.heap.update a (Obj.mapSeq (·.setIfInBounds j.toNat z)) } := by
  refine ob1 (zfI (Q := fun _ σ' => K σ') (f := (·.setIfInBounds j.toNat z)) (ws := vs.set j.toNat x) (v := .none) r ha hL (by simpa using hX.set hx j.toNat) (by simpa using hz) q .none) ?_
  intro _ σ' q' _ st
  exact ⟨σ', q', st⟩
 unfold setItem
 try with_reducible refine wpAny_holding ?_
 first | refine wpAny_bind (wpAny_pure ?_) | skip
 refine wpAny_bind (wpAny_sequenceKey hl.typeIs (by decide) ?_)
 refine wpAny_bind (wpAny_callSpecial?_slot (name := Str.ofString "__setitem__") hl.typeIs slot_list_setitem
  (wpAny_call_entry slot_list_setitem hl.typeIs entry_list_setitem ?_ (args_list_setitem _ _ _)))
 show wpAny _ _ (Builtin.List.listSubscript? (.int j t) >>= _) _ _ s
 refine wpAny_bind (wpAny_listSubscript_int (fitsIndex_of h0 (by lia)) ?_)
 refine ob12 (Int.eq_ofNat_of_zero_le h0) ?_
 intro i ee29
 subst ee29
 have hi : i < xs.toArray.size := by simp only [List.size_toArray]; lia
 show wpAny _ _ ((seqItemAt a i >>= fun r => pure (r.map (i, ·))) >>= _) _ _ s
 refine wpAny_bind (wpAny_bind (wpAny_seqItemAt hL rfl (wpAny_pure ?_)))
 rw [Array.getElem?_eq_getElem hi]
 show wpAny _ _ (setSeqItemAt a i z >>= _) _ _ s
 refine wpAny_bind (wpAny_setSeqItemAt hL rfl ?_)
 first
  | exact wpAny_bind (wpAny_pure (wpAny_pure ⟨.none, rfl, wpAny_pure fin⟩))
  | exact wpAny_pure ⟨.none, rfl, wpAny_pure fin⟩
theorem zfS (i : Int) (ns : List Int) : ∃ ns' : List Int, zbl (.int i) (ns.map V.int) = ns'.map V.int ∧ stored (ns.map fun n => (n, Value.bool true)) i (.bool true) = ns'.map fun n => (n, Value.bool true) := by
 by_cases h : i ∈ ns
 ·refine ⟨ns, ?_, ?_⟩
  ·unfold zbl; rw [zem, if_pos (by simpa using h)]
  ·unfold stored
   rw [if_pos (by simpa using h), List.map_map]
   refine List.map_congr_left fun n _ => ?_
   by_cases e : n = i
   ·subst e; simp
   ·simp [e]
 ·refine ⟨ns ++ [i], ?_, ?_⟩
  ·unfold zbl; rw [zem, if_neg (by simpa using h)]; simp
  ·unfold stored
   rw [if_neg (by simpa using h)]; simp
theorem zhX (i j : Int) (b : Addr) (ps : List ((Int × Int) × Addr)) : ∃ ps' : List ((Int × Int) × Addr), zbl (.tup [.int i, .int j]) (ps.map fun p => V.tup [.int p.1.1, .int p.1.2]) = ps'.map (fun p => V.tup [.int p.1.1, .int p.1.2]) ∧
  storedH (ps.map fun p => ([p.1.1, p.1.2], p.2, Value.bool true)) [i, j] b (.bool true) = ps'.map fun p => ([p.1.1, p.1.2], p.2, Value.bool true) := by
 have hh := zgf i j ps
 by_cases h : (i, j) ∈ ps.map (·.1)
 ·have hc : (ps.map (·.1)).contains (i, j) = true := by simpa using h
  refine ⟨ps, ?_, ?_⟩
  ·unfold zbl; rw [zdu, if_pos hc]
  ·unfold storedH
   rw [hh, if_pos hc, List.map_map]
   refine List.map_congr_left fun n _ => ?_
   simp only [Function.comp, putAt]
   split <;> rfl
 ·have hc : ¬ (ps.map (·.1)).contains (i, j) = true := by simpa using h
  refine ⟨ps ++ [((i, j), b)], ?_, ?_⟩
  ·unfold zbl; rw [zdu, if_neg hc]; simp
  ·unfold storedH
   rw [hh, if_neg hc]; simp
theorem zew (k : V) (ks : List V) : (zbl k ks).length ≤ ks.length + 1 := by
 unfold zbl; split <;> simp
theorem zkg {a : Addr} {ks : List V} {i : V} {y : Value} {K : Store → Prop} (hA : A.units + 8 < cLine) (r : Rel C σ s.heap) (ha : σ a = some (.dict ks)) (hi : VR s.heap i y) (hk : zdf (i :: ks) = true) (hz : ks.length < zax)
  (q : K (σ.upd a (.dict (zbl i ks)))) : wpAny C.M A (setItem (.ref a) y (.bool true)) (fun _ s' => ∃ σ', K σ' ∧ Step C No σ s σ' s') E s := by
 refine ob14 (r.tr a _ ha) ?_
 intro hK _
 have hz' := zew i ks
 unfold zdf at hk
 rcases Bool.or_eq_true_iff.mp hk with e | e
 ·simp only [List.all_cons, Bool.and_eq_true] at e
  refine lift fun g9 k9 => ?_
  refine ob12 (zel e.1) ?_
  intro i ee30
  subst ee30
  refine ob12 hi.int_of ?_
  intro t ee31
  subst ee31
  refine ob7 (hK.ints e.2) ?_
  intro ns ee32
  subst ee32
  intro hd
  refine ob7 (zfS i ns) ?_
  intro ns' e1 e2
  refine k9 ?_
  clear k9 g9
  refine wpAny_setItem_pairs (knd := intKind C.prog C.w) (zbm i t) hd (fun h' hd' hs => ⟨_, q, .turn r ha (fun _ e => by cases e) hs fun k => ⟨.inl ⟨ns', e1, e2 ▸ hd'⟩, by lia⟩⟩) (by simp at hz ⊢; exact zd5 (by lia))
 ·simp only [List.all_cons, Bool.and_eq_true] at e
  refine lift fun g9 k9 => ?_
  refine ob18 (zff e.1) ?_
  intro i j ee33
  subst ee33
  refine ob19 hi.pair_of ?_
  intro b n t u ee34
  subst ee34
  intro hb
  refine ob7 (hK.pairs e.2) ?_
  intro ps ee35
  subst ee35
  intro hd
  refine ob7 (zhX i j b ps) ?_
  intro ps' e1 e2
  refine k9 ?_
  clear k9 g9
  refine wpAny_setItem_heap (knd := tupleKind (intKind C.prog C.w)) (tupleKind_room_in1 (by lia)) (zlg hb) hd (fun h' hd' hs => ⟨_, q, .turn r ha (fun _ e => by cases e) hs fun k => ⟨.inr ⟨ps', e1, e2 ▸ hd'⟩, by lia⟩⟩) (by simp at hz ⊢; exact zd5 (by lia))
theorem zkf {u i x : V} {xu xi xx : Value} {K : Store → Prop} (hA : A.units + 8 < cLine) (r : Rel C σ s.heap) (hu : VR s.heap u xu) (hi : VR s.heap i xi) (hx : VR s.heap x xx) (q : zbq u i x σ K) :
  wpAny C.M A (setItem xu xi xx) (fun _ s' => ∃ σ', K σ' ∧ Step C No σ s σ' s') E s := by
 unfold zbq at q
 split at q
 ·cases hu.ref_of
  split at q
  ·rename_i vs ha
   refine ob22 (zbc q) ?_
   intro j ee36
   subst ee36
   intro h0 h1 q
   refine ob12 hi.int_of ?_
   intro t ee37
   subst ee37
   exact zke r ha h0 h1 hx q
  ·rename_i ks ha
   refine lift fun g9 k9 => ?_
   refine ob23 q ?_
   clear q
   intro h1 h2 ee38
   subst ee38
   intro q
   cases hx.bool_of
   refine k9 ?_
   clear k9 g9
   exact zkg hA r ha hi h1 h2 q
  ·exact q.elim
 ·exact q.elim
theorem zf9 : ∀ {vs : List V} {bs : List Bool}, bools? vs = some bs → vs = bs.map V.bool
 | [], bs, e => by cases e; rfl
 | .bool b :: r, bs, e => by
  replace e := Option.map_eq_some_iff.mp e
  refine ob7 e ?_
  clear e
  intro bs' e1 ee39
  subst ee39
  rw [zf9 e1]; rfl
 | .none :: _, _, e | .int _ :: _, _, e | .str _ :: _, _, e | .tup _ :: _, _, e | .ref _ :: _, _, e => zaH e
theorem zfB : ∀ {vs : List V} {ns : List Int}, ints? vs = some ns → vs = ns.map V.int
 | [], bs, e => by cases e; rfl
 | .int b :: r, bs, e => by
  replace e := Option.map_eq_some_iff.mp e
  refine ob7 e ?_
  clear e
  intro bs' e1 ee40
  subst ee40
  rw [zfB e1]; rfl
 | .none :: _, _, e | .bool _ :: _, _, e | .str _ :: _, _, e | .tup _ :: _, _, e | .ref _ :: _, _, e => zaH e
theorem zhl {h : Heap} : ∀ {ns : List Int} {xs : List Value}, VRs h (ns.map V.int) xs → IntsAre xs ns
 | [], _, r => by cases r; exact .nil
 | n :: ns, _, r => by
  cases r with | cons a r =>
  refine ob12 a.int_of ?_
  intro t ee41
  subst ee41
  exact .cons _ _ (zhl r)
theorem zhk {h : Heap} {xs : List Value} {ns : List Int} (r : IntsAre xs ns) : VRs h (ns.map V.int) xs := by
 induction r with
 | nil => exact .nil
 | cons _ _ _ ih => exact .cons .int ih
theorem ze4 {h : Heap} : ∀ {bs : List Bool} {xs : List Value}, VRs h (bs.map V.bool) xs → xs = bs.map Value.bool
 | [], _, r => by cases r; rfl
 | b :: bs, _, r => by
  cases r with | cons a r =>
  rw [a.bool_of, ze4 r]; rfl
theorem bools_truth {bs : List Bool} : TruthOf C.prog C.w A (fun i v => (bs.map Value.bool).toArray[i]? = some v) (fun i => bs.getD i false) := by
 intro i v s Q E hP hQ
 simp only [List.getElem?_toArray, List.getElem?_map, Option.map_eq_some_iff] at hP
 refine ob7 hP ?_
 clear hP
 intro b hb ee42
 subst ee42
 refine wpAny_truthy_bool ?_
 simpa [List.getD, hb] using hQ
theorem zlb (bs : List Bool) : (List.range bs.length).all (fun i => bs.getD i false) = bs.all id := by
 rw [Bool.eq_iff_iff]
 simp only [List.all_eq_true, List.mem_range, id]
 constructor
 ·intro h b hb
  refine lift fun g9 k9 => ?_
  obtain ⟨i, hi, rfl⟩ := List.mem_iff_getElem.mp hb
  refine k9 ?_
  clear k9 g9
  simpa [hi] using h i hi
 ·intro h i hi
  simpa [hi] using h _ (List.getElem_mem hi)
theorem zpM {u : V} {x : Value} (hh : A.handled = none) (r : Rel C σ s.heap) (hu : VR s.heap u x) (q : za5 σ u fun _ vs => zav (bools? vs) fun bs => Q (.bool (bs.all id)) σ) : wpAny C.M A (call (.builtin "all") [x]) (PostV C σ s Q) E s := by
 refine lift fun g9 k9 => ?_
 refine ob1 (zaG q) ?_
 intro a vs ee43
 subst ee43
 intro ha q
 refine ob7 (zap q) ?_
 intro bs hb q
 cases hu.ref_of
 refine ob1 (r.list ha) ?_
 intro xs n hL hX _
 refine k9 ?_
 clear k9 g9
 rw [zf9 hb] at hX
 cases ze4 hX
 refine zaO (call_all_walk (wpAny_pyIter_list hL.isList ⟨_, _, _, _, _, _, fun i => bs.getD i false, rfl, Walks.list (A := A.in1) hh _ a (Nat.ne_of_lt (Heap.lt_size hL)) _,
  ⟨⟨_, Heap.get?_push_size _ rfl, rfl, rfl⟩, hL.isList.push _⟩, bools_truth, fun h' tk k hsz => ?_⟩))
 have k' : ∀ b ob, s.heap.get? b = some ob → h'.get? b = some ob := fun b ob e => k b ob (by simp only [List.mem_singleton]; exact Nat.ne_of_lt (Heap.lt_size e)) (zak _ _ e)
 refine ⟨_, σ, q, ?_, .grow r k' hsz⟩
 rw [show (bs.map Value.bool).toArray.size = bs.length by simp, zlb]; exact .bool
theorem zla (bs : List Bool) : (List.range bs.length).any (fun i => bs.getD i false) = bs.any id := by
 rw [Bool.eq_iff_iff]
 simp only [List.any_eq_true, List.mem_range, id]
 constructor
 ·intro zz4
  refine ob7 zz4 ?_
  clear zz4
  intro i hi h
  exact ⟨bs[i], List.getElem_mem hi, by simpa [hi] using h⟩
 ·intro zz5
  refine lift fun g9 k9 => ?_
  refine ob7 zz5 ?_
  clear zz5
  intro b hb h
  obtain ⟨i, hi, rfl⟩ := List.mem_iff_getElem.mp hb
  refine k9 ?_
  clear k9 g9
  exact ⟨i, hi, by simpa [hi] using h⟩
theorem zpJ {u : V} {x : Value} (hh : A.handled = none) (r : Rel C σ s.heap) (hu : VR s.heap u x) (q : za5 σ u fun _ vs => zav (bools? vs) fun bs => Q (.bool (bs.any id)) σ) : wpAny C.M A (call (.builtin "any") [x]) (PostV C σ s Q) E s := by
 refine lift fun g9 k9 => ?_
 refine ob1 (zaG q) ?_
 intro a vs ee44
 subst ee44
 intro ha q
 refine ob7 (zap q) ?_
 intro bs hb q
 cases hu.ref_of
 refine ob1 (r.list ha) ?_
 intro xs n hL hX _
 refine k9 ?_
 clear k9 g9
 rw [zf9 hb] at hX
 cases ze4 hX
 refine zaO (call_any_walk (wpAny_pyIter_list hL.isList ⟨_, _, _, _, _, _, fun i => bs.getD i false, rfl, Walks.list (A := A.in1) hh _ a (Nat.ne_of_lt (Heap.lt_size hL)) _,
  ⟨⟨_, Heap.get?_push_size _ rfl, rfl, rfl⟩, hL.isList.push _⟩, bools_truth, fun h' tk k hsz => ?_⟩))
 have k' : ∀ b ob, s.heap.get? b = some ob → h'.get? b = some ob := fun b ob e => k b ob (by simp only [List.mem_singleton]; exact Nat.ne_of_lt (Heap.lt_size e)) (zak _ _ e)
 refine ⟨_, σ, q, ?_, .grow r k' hsz⟩
 rw [show (bs.map Value.bool).toArray.size = bs.length by simp, zla]; exact .bool
theorem zg8 {l l' : List Int} (p : l.Perm l') (h : l.Pairwise (· ≤ ·)) (h' : l'.Pairwise (· ≤ ·)) : l = l' := p.eq_of_pairwise (fun a b _ _ h1 h2 => Int.le_antisymm h1 h2) h h'
theorem zfe {ns ns' : List Int} (hp : ns'.Perm ns) (hs : ns'.Pairwise (· ≤ ·)) : ns.mergeSort (fun a b => decide (a ≤ b)) = ns' := by
 refine zg8 ((List.mergeSort_perm ns _).trans hp.symm) ?_ hs
 have := List.pairwise_mergeSort (le := fun a b : Int => decide (a ≤ b)) (by intro a b c h1 h2; simp only [decide_eq_true_eq] at *; lia) (by intro a b; simp only [Bool.or_eq_true, decide_eq_true_eq]; lia) ns
 exact this.imp (fun {a b} h => by simpa using h)
theorem zkb {a : Addr} {vs : List V} {ns : List Int} (r : Rel C σ s.heap) (ha : σ a = some (.list vs)) (hn : ints? vs = some ns) (h64 : vs.length < 64) (q : Mine.Internal.alloc σ (.list ((ns.mergeSort (fun a b => decide (a ≤ b))).map V.int)) Q) :
  wpAny C.M A (call (.builtin "sorted") [.ref a]) (PostV C σ s Q) E s := by
 refine ob1 (r.list ha) ?_
 intro xs n hL hX _
 have e := hX.length
 rw [zfB hn] at hX
 have hI := zhl hX
 refine sorted_ints hL.isList hI (by lia) fun out ns' hI' hp hs => ?_
 rw [zfe hp hs] at q
 refine ob12 (sortedAll_at s.heap xs out) ?_
 intro c hc
 refine zcU (s := s) (h' := sortedAll s.heap xs out) (xs := out.toList) (n := c) (t := s.toks) r q (fun b ob hb => sortedAll_old hb) ?_ (Nat.le_succ _) (by simpa using hc) (zhk hI') ?_
 ·unfold sortedAll sortedHeap
  simp only [Heap.size_update, Heap.size_push]; lia
 ·have := hp.length_eq
  have e2 : vs.length = ns.length := by rw [zfB hn]; simp
  simp only [List.length_map, zax]; lia
end
end Mine.Internal
end
section
namespace Mine.Internal
open PySem PySem.W PyProof.Rows
noncomputable def KGo {α : Type} (lt : Nat → Nat → Bool) (N : Nat) : KasT α → α → Prop
 | .ret a, b => a = b
 | .ask i j k, b => (i < N ∧ j < N) ∧ KGo lt N (k (lt i j)) b
theorem KGo.bind {α β : Type} {lt : Nat → Nat → Bool} {N : Nat} {f : α → KasT β} {a : α} {b : β} : ∀ {t : KasT α}, KGo lt N t a → KGo lt N (f a) b → KGo lt N (t.bind f) b
 | .ret _, h, g => by cases h; exact g
 | .ask i j k, h, g => ⟨h.1, KGo.bind (t := k (lt i j)) h.2 g⟩
theorem KGo.wp {α : Type} {lt : Nat → Nat → Bool} {N : Nat} {a : α} {s : Shared} {cmp : Nat → Nat → (Bool → Shared → Prop) → Shared → Prop} {Q : α → Shared → Prop}
  (hc : ∀ i j C, i < N → j < N → C (lt i j) s → cmp i j C s) (q : Q a s) : ∀ {t : KasT α}, KGo lt N t a → t.kasWp cmp Q s
 | .ret _, h => by cases h; exact q
 | .ask i j k, h => hc i j _ h.1.1 h.1.2 (KGo.wp hc q (t := k (lt i j)) h.2)
section
variable {lt : Nat → Nat → Bool} {N : Nat}
structure LtOk (lt : Nat → Nat → Bool) (N : Nat) : Prop where
 irr : ∀ i, lt i i = false
 tr : ∀ i j k, lt i j = true → lt j k = true → lt i k = true
 tot : ∀ i j, i < N → j < N → i ≠ j → lt i j = false → lt j i = true
structure PermN (N : Nat) (p : Array Nat) : Prop where
 size : p.size = N
 lt : ∀ i, i < N → p.getD i 0 < N
 inj : ∀ i j, i < j → j < N → p.getD i 0 ≠ p.getD j 0
theorem PermN.of {p : Array Nat} (h : p.toList.Perm (List.range N)) : PermN N p := by
 have hl : p.size = N := by have := h.length_eq; simpa using this
 have hn : p.toList.Nodup := h.symm.nodup List.nodup_range
 have hg : ∀ i (hi : i < N), p.getD i 0 = p.toList[i]'(by simpa [hl] using hi) := by
  intro i hi
  simp [Array.getD, hl, hi]
 refine ⟨hl, fun i hi => ?_, fun i j hij hj e => ?_⟩
 ·rw [hg i hi]
  exact List.mem_range.mp (h.subset (List.getElem_mem _))
 ·rw [hg i (by lia), hg j hj] at e
  exact List.pairwise_iff_getElem.mp hn i j (by simp [hl]; lia) (by simp [hl]; lia) hij e
end
end Mine.Internal
end
section
namespace Mine.Internal
open PySem PySem.W PyProof.Rows
section
variable {prog : Program} {w : World} {A : Around} {E : Value → Shared → Prop} {s : Shared}
end
section
variable {C : Cx} {A : Around} {E : Value → Shared → Prop} {σ : Store} {s : Shared} {Q : V → Store → Prop}
end
end Mine.Internal
end
section
set_option maxRecDepth 100000
namespace Mine.Internal
open PySem PySem.W PySem.Calls PyProof.Rows
section
variable {C : Cx} {A : Around} {E : Value → Shared → Prop} {σ : Store} {s : Shared} {Q : V → Store → Prop}
theorem ints_get' : ∀ {vs : List V} {ns : List Int}, ints? vs = some ns → vs = ns.map V.int
 | [], bs, e => by simp [ints?] at e; subst e; rfl
 | .int b :: r, bs, e => by
  simp only [ints?, Option.map_eq_some_iff] at e
  refine ob7 e ?_
  clear e
  intro bs' e1 ee45
  subst ee45
  rw [ints_get' e1]; rfl
 | .none :: _, _, e | .bool _ :: _, _, e | .str _ :: _, _, e | .tup _ :: _, _, e | .ref _ :: _, _, e => by simp [ints?] at e
theorem zkQ (ns : List Int) : (ns.map V.int).all zeA = true := by simp [zeA]
theorem ziW {a b : List Int} (h : a.map V.int = b.map V.int) : a = b := by
 induction a generalizing b with
 | nil => cases b with
  | nil => rfl
  | cons _ _ => cases h
 | cons x a ih => cases b with
  | nil => cases h
  | cons y b => simp only [List.map_cons, List.cons.injEq, V.int.injEq] at h; rw [h.1, ih h.2]
theorem zkz {vs : List Value} {ns : List Int} (hl : vs.length = ns.length) (h : ∀ (j : Nat) v, vs[j]? = some v → ∃ k, ns[j]? = some k ∧ Value.isInt k v = true) : IntsAre vs ns := by
 induction vs generalizing ns with
 | nil => cases ns with
  | nil => exact .nil
  | cons _ _ => simp at hl
 | cons v vs ih => cases ns with
  | nil => simp at hl
  | cons n ns =>
   refine ob7 (h 0 v rfl) ?_
   intro k hk hv
   simp at hk; subst hk
   have : ∃ t, v = .int n t := by
    cases v <;> simp [Value.isInt] at hv
    subst hv; exact ⟨_, rfl⟩
   refine ob12 this ?_
   clear this
   intro t ee46
   subst ee46
   exact .cons _ _ (ih (by simpa using hl) fun j v hv => by simpa using h (j + 1) v (by simpa using hv))
theorem zhP {a : Addr} {ks : List V} {ns : List Int} {P : Value → Shared → Prop} (hl : C.base.NoLimit) (hh : A.handled = none) (r : Rel C σ s.heap) (ha : σ a = some (.dict ks)) (hn : ints? ks = some ns) (h64 : ks.length < 64)
  (h : ∀ (h' : Heap) (tk : Nat) (vs : List Value) (out : Array Value) (ns' : List Int), (∀ b o, s.heap.get? b = some o → h'.get? b = some o) → s.heap.objs.size ≤ h'.objs.size → IntsAre out.toList ns' → ns'.Perm ns → ns'.Pairwise (· ≤ ·) →
   P (.ref h'.objs.size) { s with heap := sortedHeap (h'.push (seqObj "list" vs.toArray 0)) h'.objs.size vs out, toks := tk }) :
  wpAny C.M A (call (.builtin "sorted") [.ref a]) P E s := by
 have hks := ints_get' hn
 refine ob14 (r.tr a _ ha) ?_
 intro hK _
 obtain ⟨ns₁, e1, hd⟩ := hK.ints (by rw [hks]; exact zkQ ns)
 have := ziW (e1.symm.trans hks)
 subst this
 have hlen : ns₁.length < 64 := by rw [hks] at h64; simpa using h64
 refine ob12 hd.dictAt ?_
 intro ep hat
 refine Calls.call_function_entry kind_sorted plain_sorted entry_sorted (args_sorted1 _) ?_
 unfold Builtin.«sorted»
 refine wpAny_bind (m := checkCount "sorted" 1 1 _) (wpAny_pure ?_)
 refine wpAny_bind (zaO (kdu_collect (A := A.in1) (kdl_dict (knd := intKind C.prog C.w) (kvs := ns₁.map fun n => (n, Value.bool true)) (ep := ep) (zeo r hl ha)) hh hat (by rw [List.length_map, sizeLine_eq]; lia) fun h' tk acc hk hacc hsz => ?_))
 have hal : acc.toList.length = ns₁.length := by rw [Array.length_toList, hacc.1, List.length_map]
 have hI : IntsAre acc.toList ns₁ := zkz hal fun j v hv => by
  obtain ⟨k, x, hkx, hv'⟩ := hacc.2 j v (by rw [← Array.getElem?_toList]; exact hv)
  rw [List.getElem?_map] at hkx
  refine ob7 (Option.map_eq_some_iff.mp hkx) ?_
  intro m hm e
  cases e
  exact ⟨_, hm, hv'⟩
 refine wpAny_bind (wpAny_newList ?_ (by rw [hal, sizeLine_eq]; lia))
 have hoL : (h'.push (seqObj "list" acc.toList.toArray 0)).get? h'.objs.size = some (seqObj "list" acc.toList.toArray 0) := Heap.get?_push_size _ rfl
 refine wpAny_bind (wpAny_holding (wpAny_call_entry slot_list_sort ⟨_, hoL, rfl⟩ entry_list_sort (list_sort_tree hoL hI (by lia) fun out ns' a1 a2 a3 => ⟨_, rfl, ?_⟩) (args_list_sort _)))
 exact wpAny_pure ⟨_, rfl, h h' tk acc.toList out ns' hk hsz a1 a2 a3⟩
theorem zkc {a : Addr} {ks : List V} {ns : List Int} (hl : C.base.NoLimit) (hh : A.handled = none) (r : Rel C σ s.heap) (ha : σ a = some (.dict ks)) (hn : ints? ks = some ns) (h64 : ks.length < 64) (q : Mine.Internal.alloc σ (.list ((ns.mergeSort (fun a b => decide (a ≤ b))).map V.int)) Q) :
  wpAny C.M A (call (.builtin "sorted") [.ref a]) (PostV C σ s Q) E s := by
 refine zhP hl hh r ha hn h64 fun h' tk vs out ns' hk hsz hI' hp hs => ?_
 rw [zfe hp hs] at q
 refine ob12 (sortedHeap_at (h := h'.push (seqObj "list" vs.toArray 0)) (vs := vs) (out := out) (Heap.get?_push_size h' (o := seqObj "list" vs.toArray 0) rfl)) ?_
 intro c hc
 refine zcU (s := s) (h' := sortedHeap (h'.push (seqObj "list" vs.toArray 0)) h'.objs.size vs out) (xs := out.toList) (n := c) (t := tk) r q (fun b ob hb => ?_) ?_ hsz (by simpa using hc) (zhk hI') ?_
 ·have hlt : b < h'.objs.size := Heap.lt_size (hk b ob hb)
  rw [sortedHeap_old (Nat.ne_of_lt hlt) (by rw [Heap.size_push]; exact Nat.lt_succ_of_lt hlt)]
  exact zak _ _ (hk b ob hb)
 ·unfold sortedHeap
  simp only [Heap.size_update, Heap.size_push]; lia
 ·have := hp.length_eq
  have e2 : ks.length = ns.length := by rw [zfB hn]; simp
  simp only [List.length_map, zax]; lia
theorem zkn {md : Bool} {v : V} {K : List V → Prop} (h : zkp md σ v K) : ∃ a vs, v = .ref a ∧ K vs ∧ (σ a = some (.list vs) ∨ (md = true ∧ σ a = some (.dict vs))) := by
 unfold zkp at h
 cases v with
 | ref a =>
  dsimp only at h
  split at h
  ·exact ⟨_, _, rfl, h, .inl (by assumption)⟩
  ·exact ⟨_, _, rfl, h.2, .inr ⟨h.1, by assumption⟩⟩
  ·exact h.elim
 | _ => exact h.elim
theorem zhN {vs ws : List V} (h : zfP vs = some ws) : ∃ ns, ints? vs = some ns ∧ vs.length < 64 ∧ ws = (ns.mergeSort (fun a b => decide (a ≤ b))).map V.int := by
 unfold zfP at h
 split at h
 ·split at h
  ·cases h; exact ⟨_, by assumption, by assumption, rfl⟩
  ·cases h
 ·cases h
theorem zk7 {md : Bool} {u : V} {x : Value} (hl : C.base.NoLimit) (hh : md = true → A.handled = none) (r : Rel C σ s.heap) (hu : VR s.heap u x) (q : b1V md .sorted u σ Q) :
  wpAny C.M A (call (.builtin "sorted") [x]) (PostV C σ s Q) E s := by
 rcases q with q | q
 ·refine lift fun g9 k9 => ?_
  refine ob1 (zkn q) ?_
  intro a vs ee47
  subst ee47
  intro q ha
  refine ob7 (zap q) ?_
  intro ws hw q
  refine ob2 (zhN hw) ?_
  intro ns h1 h2 ee48
  subst ee48
  cases hu.ref_of
  refine k9 ?_
  clear k9 g9
  rcases ha with ha | ⟨hm, ha⟩
  ·exact zkb r ha h1 h2 q
  ·exact zkc hl (hh hm) r ha h1 h2 q
 ·exact q.elim
end
end Mine.Internal
end
section
set_option maxRecDepth 100000
namespace Mine.Internal
open PySem PySem.W PySem.Calls PyProof.Rows
section
variable {C : Cx} {A : Around} {E : Value → Shared → Prop} {σ : Store} {s : Shared} {Q : V → Store → Prop}
theorem zey : entryFor table "dict.update.loop" = some Builtin.«dict.update.loop» := entryFor_of_tree (by kernel_rfl)
theorem zbU : plainId "dict.update.loop" = true := by decide +kernel
theorem zh4 : typeLookup (.type "list") "keys" = pure none := by rw [typeLookup_type, builtinLookup_eq_fast]; kernel_rfl
theorem zly {a : Addr} {xs : Array Value} {k : Nat} {Q : Option Value → Shared → Prop} (hx : s.heap.get? a = some (seqObj "list" xs k)) (hA : A.handled = none)
  (h : ∀ h' tk, (∀ b o, s.heap.get? b = some o → h'.get? b = some o) → Q none { s with heap := h', toks := tk }) : wpAny C.M A (getAttr? (.ref a) "keys") Q E s := by
 refine lift fun g9 k9 => ?_
 obtain ⟨hp, g, d, tk, os⟩ := s
 refine k9 ?_
 clear k9 g9
 have hT : ∀ tk', (⟨hp, g, d, tk', os⟩ : Shared).TypeIs (.ref a) "list" := fun _ => ⟨_, hx, rfl⟩
 have f1 := sub_AttributeError
 have f3 := F.slot_list_getattribute.lookup
 have f4 := F.slot_list_getattribute.bind (.ref a)
 have f5 := am_list_getattr_none
 have hmiss := zh4
 unfold getAttr? getAttrBy? getAttrBy
 repeat (any_goals (first | assumption | exact hT _ | ((with_reducible show wpAny _ _ (call (Value.builtin "list.__getattribute__") _ _) _ _ _); refine call_meets F.slot_list_getattribute (hT _) am_entry_list_getattribute (F.args_list_getattribute_2 _ _) (meets_getattribute_miss_list a xs k #[] "keys" _ hmiss (by decide +kernel) (by size_fits)) ⟨hx, hA, fun h' tk' e hx' => ?_⟩) | wp_step))
 refine ob18 hx'.there ?_
 intro t' u' he
 show wpAny _ _ (getattributeRaised _ _ _ _ _ _ _) _ _ _
 unfold getattributeRaised
 repeat (any_goals (first | assumption | wp_step))
 exact h _ _ fun b o e => hx'.of.keeps b o e
theorem VRs.key {h : Heap} {ns : List Int} {xs : List Value} (r : VRs h (ns.map fun n => V.tup [.int n, .bool true]) xs) {i : Nat} (hi : i < ns.length) : ∃ a t m, xs[i]? = some (.ref a) ∧ h.get? a = some (seqObj "tuple" [Value.int ns[i] t, Value.bool true].toArray m) := by
 refine ob7 (r.get (i := i) (a := .tup [.int ns[i], .bool true]) (by simp [hi])) ?_
 intro x hx hv
 refine ob6 hv.tup_of ?_
 intro a ys m ee49
 subst ee49
 intro ha hY
 cases hY with | cons p q => cases q with | cons p2 q => cases q with | nil =>
 refine lift fun g9 k9 => ?_
 refine ob12 p.int_of ?_
 intro t ee50
 subst ee50
 cases p2.bool_of
 refine k9 ?_
 clear k9 g9
 exact ⟨a, t, m, hx, ha⟩
theorem zn4 {a : Addr} {k : Int} {t : Tok} {m : Nat} {Q : List Value → Shared → Prop} (ha : s.heap.get? a = some (seqObj "tuple" [Value.int k t, Value.bool true].toArray m)) (h : Q [.int k t, .bool true] s) : wpAny C.M A (Builtin.Dict.pairItems (.ref a)) Q E s := by
 unfold Builtin.Dict.pairItems
 refine wpAny_bind (wpAny_typeOf (T := "tuple") ⟨_, ha, rfl⟩ ?_)
 rw [if_pos (by decide)]
 refine wpAny_bind (wpAny_seqItems ha rfl (wpAny_pure ?_))
 exact h
theorem zlX {h h' : Heap} {d : Addr} {kvs : List (Int × Value)} (x : h.DictOf (intKind C.prog C.w) d kvs) (e : h'.get? d = h.get? d) : h'.DictOf (intKind C.prog C.w) d kvs := by
 refine ob24 x ?_
 clear x
 intro o es ep ho r
 exact ⟨o, es, ep, e.trans ho, r⟩
theorem zja {h : Heap} {d : Addr} {kvs : List (Int × Value)} (x : h.DictOf (intKind C.prog C.w) d kvs) {o : Obj} (ho : h.get? d = some o) : ¬ IsT o := by
 refine ob6 x ?_
 clear x
 intro o' es ep ho' hc _
 rw [ho] at ho'; cases ho'
 exact fun q => by have := q.1; rw [hc.1] at this; injection this with this; exact absurd this (by decide)
theorem zib {h : Heap} {it l : Addr} {i : Nat} (x : h.IsListIter it l i) {o : Obj} (ho : h.get? it = some o) : ¬ IsT o := by
 refine ob2 x ?_
 clear x
 intro o' ho' hc _
 rw [ho] at ho'; cases ho'
 exact fun q => by have := q.1; rw [hc] at this; injection this with this; exact absurd this (by decide)
theorem zic {h h' : Heap} {l : Addr} {xs : Array Value} (x : h.IsList l xs) (e : h'.get? l = h.get? l) : h'.IsList l xs := by
 refine ob7 x ?_
 clear x
 intro o ho r
 exact ⟨o, e.trans ho, r⟩
theorem zlV {l d it : Addr} {ns : List Int} {R : Result → Shared → Prop} (hh : A.handled = none) (hld : l ≠ d) (hli : l ≠ it) (hdi : d ≠ it) (hsz : ns.length ≤ 1000) :
  ∀ (k i : Nat) (acc : List Int) (t : Tok) (s : Shared) (xs : List Value), ns.length - i = k → i ≤ ns.length → acc.length ≤ i → s.heap.IsListIter it l i → s.heap.IsList l xs.toArray → s.heap.DictOf (intKind C.prog C.w) d (acc.map fun n => (n, Value.bool true)) →
   VRs s.heap (ns.map fun n => V.tup [.int n, .bool true]) xs →
   (∀ (h' : Heap) (tk : Nat) (acc' : List Int), h'.DictOf (intKind C.prog C.w) d (acc'.map fun n => (n, Value.bool true)) → acc'.map V.int = ((ns.drop i).map V.int).foldl (fun d k => zbl k d) (acc.map V.int) → acc'.length ≤ ns.length → (∀ b o, b ≠ d → b ≠ it → s.heap.get? b = some o → h'.get? b = some o) → R (.ok (.ret .none)) { s with heap := h', toks := tk }) →
   codeAny C.M A (.builtin "dict.update.loop" ⟨[.ref d, .ref it, .int i t, .none], []⟩) R s := by
 intro k
 induction k with
 | zero =>
  intro i acc t s xs hk hi hacc hit hl hd hv hR
  have hin : i = ns.length := by lia
  have hxl := hv.length
  rw [List.length_map] at hxl
  refine codeAny_builtin zey ?_
  rw [Around.under_plainId zbU _]
  show wpAny _ A.in1 (pyNext (.ref it) >>= _) _ _ s
  refine wpAny_bind (wpAny_pyNext_list_end hh hit hl (by simp; lia) fun h' hx => ?_)
  show wpAny _ _ (pure PUnit.unit >>= fun _ => ret Value.none) _ _ _
  refine wpAny_bind (wpAny_pure (wpAny_pure ?_))
  refine hR h' s.toks acc ?_ ?_ (by lia) fun b o _ hb' e => hx b o hb' e
  ·refine ob24 hd ?_
   clear hd
   intro o es ep ho r
   exact ⟨o, es, ep, hx d o hdi ho, r⟩
  ·rw [hin, List.drop_length]; rfl
 | succ k ih =>
  intro i acc t s xs hk hi hacc hit hl hd hv hR
  have hlt : i < ns.length := by lia
  refine ob24 (hv.key hlt) ?_
  intro a tk m hx ha
  have hai : a ≠ it := by rintro rfl; exact zib hit ha ⟨rfl, _, _, rfl⟩
  refine codeAny_builtin zey ?_
  rw [Around.under_plainId zbU _]
  show wpAny _ A.in1 (pyNext (.ref it) >>= _) _ _ s
  refine wpAny_bind (wpAny_pyNext_list_item hit hl (by simpa using hx) fun h' hit' hs' => ?_)
  have ha' := (hs'.2 a hai).trans ha
  have hd1 := zlX hd (hs'.2 d hdi)
  refine wpAny_bind (wpAny_holding (wpAny_bind (wpAny_tryCatch (zn4 (s := { s with heap := h' }) ha' ?_))))
  show wpAny _ _ (holding [Value.int ns[i] tk, Value.bool true] (dictSet d (.int ns[i] tk) (.bool true))) _ _ _
  refine wpAny_holding (wpAny_dictSet_pairs (knd := intKind C.prog C.w) (zbm ns[i] tk) hd1 (fun h2 hd2 hs2 => ?_) (by rw [List.length_map, sizeLine_eq]; lia))
  refine ob7 (zfS ns[i] acc) ?_
  intro acc' e1 e2
  rw [e2] at hd2
  refine wpAny_pure ⟨plainId_quiet zbU _, ?_⟩
  have tup2 : zbk s.heap h2 := fun b o e q => by
   have hbi : b ≠ it := by rintro rfl; exact zib hit e q
   have hbd : b ≠ d := by rintro rfl; exact zja hd e q
   exact (hs2.2 b hbd).trans ((hs'.2 b hbi).trans e)
  have hit2 : h2.IsListIter it l (i + 1) := by
   refine ob7 hit' ?_
   clear hit'
   intro o ho r
   exact ⟨o, (hs2.2 it hdi.symm).trans ho, r⟩
  have hlen : acc'.length ≤ i + 1 := by
   have := zew (.int ns[i]) (acc.map V.int)
   rw [e1] at this
   simp at this; lia
  refine ih (i + 1) acc' 0 { s with heap := h2, toks := s.toks + 1 } xs (by lia) hlt hlen hit2 (zic hl ((hs2.2 l hld).trans (hs'.2 l hli))) hd2 (hv.keep tup2) ?_
  intro h3 tk3 acc3 g1 g2 g3 g4
  refine hR h3 tk3 acc3 g1 ?_ g3 fun b o hb hb' e => g4 b o hb hb' ((hs2.2 b hb).trans ((hs'.2 b hb').trans e))
  rw [g2, ← e1, List.drop_eq_getElem_cons hlt, List.map_cons, List.foldl_cons]
theorem zlW {u : V} {x : Value} (hh : A.handled = none) (r : Rel C σ s.heap) (hu : VR s.heap u x)
  (q : za5 σ u fun _ vs => ∃ ns : List Int, (vs = ns.map (fun n => V.tup [.int n, .bool true]) ∧ vs.length ≤ 1000) ∧ Mine.Internal.alloc σ (.dict ((ns.map V.int).foldl (fun d k => zbl k d) [])) Q) : wpAny C.M A (call (.type "dict") [x]) (PostV C σ s Q) E s := by
 refine lift fun g9 k9 => ?_
 refine ob1 (zaG q) ?_
 intro l vs ee51
 subst ee51
 intro hl q
 refine ob25 q ?_
 clear q
 intro ns hvs hvl q
 cases hu.ref_of
 refine ob1 (r.list hl) ?_
 intro xs m hL hX _
 refine k9 ?_
 clear k9 g9
 rw [hvs] at hX hvl
 rw [List.length_map] at hvl
 refine zaO (callType_codes (Q₁ := fun obj s₁ => obj = .ref s.heap.objs.size ∧ s₁ = { s with heap := s.heap.push { cls := .type "dict", data := .dict #[] } }) F.kt_called_dict (F.kt_typeCall_dict_1 _) F.entry_dict_init (kt_code_dict_new _ ⟨rfl, rfl⟩) ?_)
 intro obj s₁ zz8
 refine ob14 zz8 ?_
 clear zz8
 intro ee52
 subst ee52
 intro ee53
 subst ee53
 have hnew : (s.heap.push { cls := .type "dict", data := .dict #[] }).DictOf (intKind C.prog C.w) s.heap.objs.size [] := Heap.DictOf.new s.heap
 have hL1 : (s.heap.push { cls := .type "dict", data := .dict #[] }).get? l = some (seqObj "list" xs.toArray m) := zak _ _ hL
 refine ⟨hnew.typeIs, F.args_dict_init_2 _ _, ?_⟩
 unfold Builtin.«dict.__init__»
 refine wpAny_bind ?_
 unfold Builtin.Dict.selfAndRest
 refine wpAny_bind (wpAny_notOrdered_dict hnew.typeIs ?_)
 show wpAny _ _ (pure (s.heap.objs.size, [Value.ref l])) _ _ _
 refine wpAny_pure ?_
 show wpAny _ _ (Builtin.Dict.updateFrom "dict.__init__" s.heap.objs.size (.ref l) [] .none) _ _ _
 unfold Builtin.Dict.updateFrom
 refine wpAny_bind (wpAny_typeOf (T := "list") ⟨_, hL1, rfl⟩ ?_)
 rw [if_pos (by decide)]
 refine wpAny_bind (zaO (zly (C := C) (s := { s with heap := s.heap.push { cls := .type "dict", data := .dict #[] } }) hL1 hh fun h2 tk2 k2 hsz2 => ?_))
 rw [if_pos (show (none : Option Value).isNone = true from rfl)]
 refine wpAny_bind (wpAny_rule ?_)
 have hL2 : h2.get? l = some (seqObj "list" xs.toArray m) := k2 _ _ hL1
 refine wpAny_bind (wpAny_pyIter_list (s := { s with heap := h2, toks := tk2 }) ⟨_, hL2, rfl, m, rfl⟩ ?_)
 refine wpAny_pure ⟨plainId_quiet zbU _, ?_⟩
 have hl0 : l < s.heap.objs.size := Heap.lt_size hL
 have hsz3 : s.heap.objs.size < h2.objs.size := by
  have : (s.heap.push { cls := .type "dict", data := .dict #[] }).objs.size ≤ h2.objs.size := hsz2
  rw [Heap.size_push] at this; exact this
 have hd2 : h2.DictOf (intKind C.prog C.w) s.heap.objs.size [] := hnew.keep k2
 have keep3 : ∀ b o, s.heap.get? b = some o → (h2.push { cls := .type "list_iterator", data := .fields #[.ref l, .int 0 0] }).get? b = some o := fun b o e => zak _ _ (k2 _ _ (zak _ _ e))
 refine zlV (C := C) (ns := ns) (A := A.in1) hh (Nat.ne_of_lt hl0) (Nat.ne_of_lt (Nat.lt_trans hl0 hsz3)) (Nat.ne_of_lt hsz3) hvl ns.length 0 [] 0 _ xs rfl (Nat.zero_le _) (Nat.le_refl _) ⟨_, Heap.get?_push_size _ rfl, rfl, rfl⟩ ⟨_, zak _ _ hL2, rfl, m, rfl⟩ (hd2.keep zak) (hX.keep fun b o e _ => keep3 b o e) ?_
 intro h3 tk3 acc3 g1 g2 g3 g4
 refine ⟨rfl, fun hsz4 => ?_⟩
 refine ⟨.ref _, _, q _ (r.none_of_ge (Nat.le_refl _)), .ref, .alloc (t := tk3) r (fun b o e => g4 b o (Nat.ne_of_lt (Heap.lt_size e)) (Nat.ne_of_lt (Nat.lt_trans (Heap.lt_size e) hsz3)) (keep3 b o e)) hsz4 (Nat.le_refl _) ⟨.inl ⟨acc3, ?_, g1⟩, ?_⟩⟩
 ·rw [g2]; rfl
 ·rw [show (ns.map V.int).foldl (fun d k => zbl k d) [] = acc3.map V.int from g2.symm, List.length_map]
  unfold zax; lia
end
end Mine.Internal
end
section
set_option maxRecDepth 100000
namespace Mine.Internal
open PySem PySem.W PySem.Calls PyProof.Rows
theorem znn {xs : Array Nat} {j : Nat} (up : xs.toList.Pairwise (· < ·)) : ∀ (fuel lo hi : Nat), hi - lo ≤ fuel → lo ≤ hi → hi ≤ xs.size → (∀ (i v : Nat), i < lo → xs[i]? = some v → v < j) → (∀ (i v : Nat), hi ≤ i → xs[i]? = some v → j ≤ v) →
  (∀ (i v : Nat), i < SetTable.below.go xs j fuel lo hi → xs[i]? = some v → v < j) ∧ (∀ (i v : Nat), SetTable.below.go xs j fuel lo hi ≤ i → xs[i]? = some v → j ≤ v) ∧ SetTable.below.go xs j fuel lo hi ≤ xs.size := by
 have mono : ∀ (a b u v : Nat), a < b → xs[a]? = some u → xs[b]? = some v → u < v := by
  intro a b u v h1 h2 h3
  rw [← Array.getElem?_toList] at h2 h3
  refine ob12 (List.getElem?_eq_some_iff.mp h2) ?_
  intro ha ee54
  subst ee54
  refine ob12 (List.getElem?_eq_some_iff.mp h3) ?_
  intro hb ee55
  subst ee55
  exact List.pairwise_iff_getElem.mp up a b ha hb h1
 intro fuel
 induction fuel with
 | zero =>
  intro lo hi h1 h2 h3 h4 h5
  have : lo = hi := by lia
  subst this
  exact ⟨h4, h5, h3⟩
 | succ fuel ih =>
  intro lo hi h1 h2 h3 h4 h5
  unfold SetTable.below.go
  by_cases hlt : lo < hi
  ·rw [if_pos hlt]
   have hm : (lo + hi) / 2 < xs.size := by lia
   have em : xs[(lo + hi) / 2]? = some xs[(lo + hi) / 2] := Array.getElem?_eq_getElem hm
   have eg : xs.getD ((lo + hi) / 2) j = xs[(lo + hi) / 2] := by rw [Array.getD_eq_getD_getElem?, em]; rfl
   dsimp only
   rw [eg]
   generalize xs[(lo + hi) / 2] = m at *
   by_cases hc : m < j
   ·rw [if_pos hc]
    refine ih _ _ (by lia) (by lia) h3 (fun i v hi' hv => ?_) h5
    rcases Nat.lt_or_ge i ((lo + hi) / 2) with g | g
    ·exact Nat.lt_trans (mono _ _ _ _ g hv em) hc
    ·have : i = (lo + hi) / 2 := by lia
     subst this
     rw [em] at hv; cases hv; exact hc
   ·rw [if_neg hc]
    refine ih _ _ (by lia) (by lia) (by lia) h4 fun i v hi' hv => ?_
    rcases Nat.lt_or_ge ((lo + hi) / 2) i with g | g
    ·have := mono _ _ _ _ g em hv; lia
    ·have : i = (lo + hi) / 2 := by lia
     subst this
     rw [em] at hv; cases hv; lia
  ·rw [if_neg hlt]
   have : lo = hi := by lia
   subst this
   exact ⟨h4, h5, h3⟩
theorem zhv {xs : Array Nat} (up : xs.toList.Pairwise (· < ·)) (j : Nat) : (∀ (i v : Nat), i < SetTable.below xs j → xs[i]? = some v → v < j) ∧ (∀ (i v : Nat), SetTable.below xs j ≤ i → xs[i]? = some v → j ≤ v) ∧ SetTable.below xs j ≤ xs.size :=
 znn up xs.size 0 xs.size (by lia) (Nat.zero_le _) (Nat.le_refl _) (fun i v h => by lia) fun i v h e => by
  rw [Array.getElem?_eq_none h] at e; cases e
theorem zkM {xs : Array Nat} (up : xs.toList.Pairwise (· < ·)) {i v : Nat} (h : xs[i]? = some v) : SetTable.below xs (v + 1) = i + 1 := by
 refine ob16 (zhv up (v + 1)) ?_
 intro b1 b2 b3
 have hi : i < xs.size := by
  rcases Nat.lt_or_ge i xs.size with g | g
  ·exact g
  ·rw [Array.getElem?_eq_none g] at h; cases h
 have mono : ∀ (a b u v : Nat), a < b → xs[a]? = some u → xs[b]? = some v → u < v := by
  intro a b u v h1 h2 h3
  rw [← Array.getElem?_toList] at h2 h3
  refine ob12 (List.getElem?_eq_some_iff.mp h2) ?_
  intro ha ee56
  subst ee56
  refine ob12 (List.getElem?_eq_some_iff.mp h3) ?_
  intro hb ee57
  subst ee57
  exact List.pairwise_iff_getElem.mp up a b ha hb h1
 rcases Nat.lt_trichotomy (SetTable.below xs (v + 1)) (i + 1) with g | g | g
 ·have := b2 i v (by lia) h; lia
 ·exact g
 ·have e := Array.getElem?_eq_getElem (xs := xs) (i := i + 1) (by lia)
  have := b1 (i + 1) _ g e
  have := mono i (i + 1) v _ (by lia) h e
  lia
theorem zkL {xs : Array Nat} (up : xs.toList.Pairwise (· < ·)) : SetTable.below xs 0 = 0 := by
 refine ob16 (zhv up 0) ?_
 intro b1 _ b3
 rcases Nat.eq_zero_or_pos (SetTable.below xs 0) with g | g
 ·exact g
 ·have := b1 0 _ g (Array.getElem?_eq_getElem (by lia)); lia
theorem zmL (n : Nat) : (Array.range n).toList.Pairwise (· < ·) := by
 rw [Array.toList_range]; exact List.pairwise_lt_range
theorem zlH {xs : Array Nat} (up : xs.toList.Pairwise (· < ·)) {j : Nat} (h : xs[SetTable.below xs j]? ≠ some j) : (SetTable.insertAt xs (SetTable.below xs j) j).toList.Pairwise (· < ·) := by
 refine ob16 (zhv up j) ?_
 intro b1 b2 b3
 rw [SetTable.toList_insertAt]
 have split := List.take_append_drop (SetTable.below xs j) xs.toList
 have pw := up
 rw [← split, List.pairwise_append] at pw
 have lo : ∀ a ∈ xs.toList.take (SetTable.below xs j), a < j := fun a ha => by
  refine lift fun g9 k9 => ?_
  obtain ⟨i, hi, e⟩ := List.mem_take_iff_getElem.mp ha
  refine k9 ?_
  clear k9 g9
  exact b1 i a (by lia) (by rw [← Array.getElem?_toList, List.getElem?_eq_getElem (by lia), e])
 have hi : ∀ a ∈ xs.toList.drop (SetTable.below xs j), j < a := fun a ha => by
  refine lift fun g9 k9 => ?_
  obtain ⟨i, hi, e⟩ := List.mem_drop_iff_getElem.mp ha
  refine k9 ?_
  clear k9 g9
  have ea : xs[SetTable.below xs j + i]? = some a := by rw [← Array.getElem?_toList, List.getElem?_eq_getElem (by lia), e]
  have g := b2 _ a (by lia) ea
  rcases Nat.lt_or_eq_of_le g with g | g
  ·exact g
  ·subst g
   exfalso
   rcases Nat.eq_zero_or_pos i with z | z
   ·subst z; exact h ea
   ·have hb : SetTable.below xs j < xs.size := by rw [← Array.length_toList]; lia
    have e0 := Array.getElem?_eq_getElem (xs := xs) hb
    have g0 := b2 _ _ (Nat.le_refl _) e0
    rw [← Array.getElem?_toList] at e0 ea
    refine ob12 (List.getElem?_eq_some_iff.mp e0) ?_
    intro x1 y1
    refine ob12 (List.getElem?_eq_some_iff.mp ea) ?_
    intro x2 y2
    have := List.pairwise_iff_getElem.mp up _ _ x1 x2 (by lia)
    rw [y1, y2] at this
    lia
 rw [List.pairwise_append]
 refine ⟨pw.1, List.pairwise_cons.mpr ⟨hi, pw.2.1⟩, fun a ha b hb => ?_⟩
 rcases List.mem_cons.mp hb with rfl | hb
 ·exact lo a ha
 ·exact Nat.lt_trans (lo a ha) (hi b hb)
theorem zkl {t : SetTable} {h : Int} : ∀ (f : Nat) (p : SetTable.Probe), (∀ d, p.dummy = some d → t.place[SetTable.below t.place d]? ≠ some d) → ∀ j dm, SetTable.probe.go t (fun _ => h + 1) h f p = some (.empty j dm) → t.place[SetTable.below t.place (dm.getD j)]? ≠ some (dm.getD j) := by
 intro f
 induction f with
 | zero => intro p _ j dm e; cases e
 | succ f ih =>
  intro p hp j dm e
  have adv : ∀ q : SetTable.Probe, (t.advance q).dummy = q.dummy := fun q => by unfold SetTable.advance; split <;> rfl
  unfold SetTable.probe.go at e
  have sl : t.slot p.j = if t.place[SetTable.below t.place p.j]? == some p.j then .live (SetTable.below t.place p.j) else if SetTable.has t.dummies p.j then .dummy else .empty := rfl
  by_cases c1 : (t.place[SetTable.below t.place p.j]? == some p.j) = true
  ·rw [sl, if_pos c1] at e
   dsimp only at e
   rw [if_neg (by rw [beq_iff_eq]; lia)] at e
   exact ih _ (by rw [adv]; exact hp) j dm e
  ·have c1' : t.place[SetTable.below t.place p.j]? ≠ some p.j := by simpa using c1
   rw [sl, if_neg c1] at e
   by_cases c2 : SetTable.has t.dummies p.j = true
   ·rw [if_pos c2] at e
    dsimp only at e
    exact ih _ (by rw [adv]; intro d hd; cases hd; exact c1') j dm e
   ·rw [if_neg c2] at e
    cases e
    cases hd : p.dummy with
    | none => exact c1'
    | some d => exact hp d hd
theorem zoq {t : SetTable} {h : Int} {slot : Nat} {b : Bool} (up : t.place.toList.Pairwise (· < ·)) (e : t.freeSlot h = some (slot, b)) : (t.put slot).1.place.toList.Pairwise (· < ·) := by
 unfold SetTable.freeSlot SetTable.probe at e
 split at e
 ·rename_i j dm hp
  cases e
  exact zlH up (zkl _ _ (by intro d hd; cases hd) j dm hp)
 ·cases e
theorem stand_up {t : SetTable} {n : Nat} : (t.standIn n).place.toList.Pairwise (· < ·) := zmL n
theorem zpm {t : SetTable} {es : Array (Int × Value)} {h : Int} {x : Value} (up : t.place.toList.Pairwise (· < ·)) : (layNew t es h x).2.1.place.toList.Pairwise (· < ·) ∧ (layNew t es h x).2.1.led = t.led := by
 unfold layNew
 cases e : t.freeSlot h with
 | none => exact ⟨stand_up, rfl⟩
 | some q =>
  obtain ⟨slot, b⟩ := q
  dsimp only [SetTable.orStandIn]
  have := zoq up e
  split
  ·exact ⟨this, rfl⟩
  ·exact ⟨stand_up, rfl⟩
theorem zmK {t : SetTable} {es : Array (Int × Value)} {m : Nat} : (relayAll t es m).2.1.place.toList.Pairwise (· < ·) ∧ (relayAll t es m).2.1.led = t.led := by
 unfold relayAll
 cases e : t.relaid (es.map (·.1)) m with
 | none => exact ⟨stand_up, rfl⟩
 | some q =>
  obtain ⟨t', order⟩ := q
  dsimp only
  split
  ·unfold SetTable.relaid SetTable.laid at e
   simp only [Option.bind_eq_bind, Option.bind_eq_some_iff, Option.pure_def, Option.some.injEq, Prod.mk.injEq] at e
   refine ob2 e ?_
   clear e
   intro owner _ ee58
   subst ee58
   intro ee59
   subst ee59
   refine ⟨?_, rfl⟩
   simp only
   rw [List.map_filterMap, List.pairwise_filterMap]
   refine List.pairwise_lt_range.imp ?_
   intro a b hab u hu v hv
   simp only [Option.map_map, Option.map_eq_some_iff, Function.comp_apply] at hu hv
   refine ob7 hu ?_
   clear hu
   intro _ _ ee60
   subst ee60
   refine ob7 hv ?_
   clear hv
   intro _ _ ee61
   subst ee61
   exact hab
  ·exact ⟨stand_up, rfl⟩
section
variable {prog : Program} {w : World} {A : Around} {E : Value → Shared → Prop} {s : Shared}
noncomputable def SetR (prog : Program) (w : World) (led : Bool) (h : Heap) (a : Addr) (l : List Int) : Prop :=
 ∃ es ep t, h.get? a = some { cls := .type "set", dict := none, data := .set es ep t, slots := #[] } ∧ ElemsOf (intKind prog w) es.toList ∧ (∃ ns, IntsAre (es.toList.map (·.2)) ns ∧ ns.Perm l) ∧ t.fits es.size = true ∧ t.place.toList.Pairwise (· < ·) ∧ t.led = led
theorem zeB {vs vs' : List Value} {ns : List Int} (p : vs'.Perm vs) (h : IntsAre vs ns) : ∃ ns', IntsAre vs' ns' ∧ ns'.Perm ns := by
 induction p generalizing ns with
 | nil => exact ⟨ns, h, .refl _⟩
 | cons x p ih =>
  cases h with
  | cons n t h' => obtain ⟨m, m1, m2⟩ := ih h'; exact ⟨n :: m, .cons n t m1, m2.cons n⟩
 | swap x y l =>
  cases h with
  | cons n t h' => cases h' with
   | cons n' t' h'' => exact ⟨_, .cons _ _ (.cons _ _ h''), .swap _ _ _⟩
 | trans p q ih1 ih2 =>
  refine ob7 (ih2 h) ?_
  intro m m1 m2
  refine ob7 (ih1 m1) ?_
  intro m' m1' m2'
  exact ⟨m', m1', m2'.trans m2⟩
theorem SetR.len {led : Bool} {h : Heap} {a : Addr} {l : List Int} {es : Array (Int × Value)} {ns : List Int} (h1 : IntsAre (es.toList.map (·.2)) ns) (h2 : ns.Perm l) : es.size = l.length := by
 have := h1.length
 rw [List.length_map, Array.length_toList] at this
 rw [this, h2.length_eq]
theorem zm4 {vs : List Value} {ns : List Int} (h : IntsAre vs ns) {n : Int} {v : Value} (hv : v ∈ vs) (hn : Value.isInt n v = true) : n ∈ ns := by
 induction h with
 | nil => cases hv
 | cons m t r ih =>
  rcases List.mem_cons.mp hv with rfl | hv
  ·refine ob12 (Value.isInt_shape hn) ?_
   intro t' e
   injection e with e1; subst e1; exact List.mem_cons_self ..
  ·exact List.mem_cons_of_mem _ (ih hv)
theorem zhV {led : Bool} {a : Addr} {es es' : Array (Int × Value)} {ep : Nat} {t t' : SetTable} {l : List Int} (ho : s.heap.get? a = some { cls := .type "set", dict := none, data := .set es ep t, slots := #[] })
  (hel : ElemsOf (intKind prog w) es'.toList) (hi : ∃ ns, IntsAre (es'.toList.map (·.2)) ns ∧ ns.Perm l) (hf : t'.fits es'.size = true) (up : t'.place.toList.Pairwise (· < ·)) (hl : t'.led = led) (hz : es'.size < scanBound) {Q : Unit → Shared → Prop}
  (h : ∀ h', Heap.SameBut a s.heap h' → h'.get? a = some { cls := .type "set", dict := none, data := .set es' (ep + 1) t', slots := #[] } → SetR prog w led h' a l → Q () { s with heap := h' }) : wpAny (model prog w) A (storeSet a es' t') Q E s := by
 refine wpAny_storeSet_of ho rfl ?_ (fits_of_scanBound hz)
 have hg : (s.heap.update a (Obj.putSet es' t')).get? a = some { cls := .type "set", dict := none, data := .set es' (ep + 1) t', slots := #[] } := Heap.get?_update_self (Obj.putSet es' t') ho rfl
 exact h _ (Heap.SameBut.update s.heap a _) hg ⟨es', ep + 1, t', hg, hel, hi, hf, up, hl⟩
theorem znZ {led : Bool} {a : Addr} {l : List Int} {n : Int} {tk : Tok} {Q : Bool → Shared → Prop} (hS : SetR prog w led s.heap a l) (hn : n ∉ l) (hb : l.length + 1 < scanBound)
  (h : ∀ h', Heap.SameBut a s.heap h' → SetR prog w led h' a (l ++ [n]) → Q true { s with heap := h' }) : wpAny (model prog w) A (setAddHashed a (.int n tk) ((intKind prog w).hash n)) Q E s := by
 refine ob26 hS ?_
 clear hS
 intro es ep t ho hel ns hi hp hf up hl
 have hsz := SetR.len (led := led) (h := s.heap) (a := a) hi hp
 have hk : (intKind prog w).is n (.int n tk) = true := zbm n tk
 unfold setAddHashed setAddHashedIn
 refine wpAny_holding (wpAny_bind (wpAny_setState_of ho rfl hf ?_))
 dsimp only
 rw [byScan_of (knd := intKind prog w) rfl (by lia) hel]
 simp only [↓reduceIte]
 unfold setAddByScan
 refine wpAny_bind ?_
 refine wpAny_bind (wpAny_rule ?_)
 refine wpAny_bind (wpAny_setScan_of hk ho rfl hf hel ?_)
 have hno : List.findIdx? (fun e => (intKind prog w).is n e.2) es.toList = none := List.findIdx?_eq_none_iff.mpr fun e he => by
  cases g : (intKind prog w).is n e.2 with
  | false => rfl
  | true => exact absurd (hp.mem_iff.mp (zm4 hi (List.mem_map_of_mem he) g)) hn
 rw [hno]
 dsimp only
 have hperm := layNew_perm t es ((intKind prog w).hash n) (.int n tk)
 have hfits := layNew_fits t es ((intKind prog w).hash n) (.int n tk)
 have hup := zpm (es := es) (h := (intKind prog w).hash n) (x := .int n tk) up
 generalize layNew t es ((intKind prog w).hash n) (.int n tk) = L at hperm hfits hup ⊢
 refine lift fun g9 k9 => ?_
 obtain ⟨es1, t1, wasDummy, gave⟩ := L
 refine k9 ?_
 clear k9 g9
 dsimp only at hperm hfits hup ⊢
 rw [Array.toList_push] at hperm
 have hel1 : ElemsOf (intKind prog w) es1.toList := (hel.push hk rfl).perm hperm
 have hi1 : ∃ ns, IntsAre (es1.toList.map (·.2)) ns ∧ ns.Perm (l ++ [n]) := by
  have p2 := hperm.map (fun e : Int × Value => e.2)
  rw [List.map_append] at p2
  refine ob7 (zeB p2 (hi.append (.cons n tk .nil))) ?_
  intro m m1 m2
  exact ⟨m, m1, m2.trans (hp.append_right _)⟩
 have hz1 : es1.size < scanBound := by
  have := hperm.length_eq
  rw [Array.length_toList, List.length_append, Array.length_toList] at this
  simp only [List.length_singleton] at this
  lia
 have hgw : ∀ (b : Bool) {s₁ : Shared} {Q' : Unit → Shared → Prop}, Q' () s₁ → wpAny (model prog w) A (match b with | true => rule "set.scan.the-table-gave-way" | false => pure ()) Q' E s₁ :=
  fun b s₁ Q' hq => by cases b <;> first | exact wpAny_pure hq | exact wpAny_rule hq
 refine wpAny_bind (hgw _ ?_)
 split
 all_goals
  refine wpAny_bind (wpAny_pure ?_)
  simp only [↓reduceIte]
  refine wpAny_bind (zhV ho hel1 hi1 hfits hup.1 (hup.2.trans hl) hz1 fun h1 sb1 hg1 hS1 => ?_)
  split
  ·have hp2 := relayAll_perm t1 es1 (SetTable.grown es1.size)
   have hf2 := relayAll_fits t1 es1 (SetTable.grown es1.size)
   have hu2 := zmK (t := t1) (es := es1) (m := SetTable.grown es1.size)
   generalize relayAll t1 es1 (SetTable.grown es1.size) = Rl at hp2 hf2 hu2 ⊢
   refine lift fun g9 k9 => ?_
   obtain ⟨es2, t2, gave2⟩ := Rl
   refine k9 ?_
   clear k9 g9
   dsimp only at hp2 hf2 hu2 ⊢
   refine wpAny_bind (hgw _ ?_)
   have hi2 : ∃ ns, IntsAre (es2.toList.map (·.2)) ns ∧ ns.Perm (l ++ [n]) := by
    refine ob7 hi1 ?_
    clear hi1
    intro ns1 j1 j2
    refine ob7 (zeB (hp2.map (fun e : Int × Value => e.2)) j1) ?_
    intro m m1 m2
    exact ⟨m, m1, m2.trans j2⟩
   have hz2 : es2.size < scanBound := by
    have := hp2.length_eq
    rw [Array.length_toList, Array.length_toList] at this
    lia
   refine wpAny_bind (zhV (s := { s with heap := h1 }) hg1 (hel1.perm hp2) hi2 hf2 hu2.1 ((hu2.2.trans hup.2).trans hl) hz2 fun h2 sb2 _ hS2 => wpAny_pure (wpAny_pure (h h2 (sb1.trans sb2) hS2)))
  ·exact wpAny_pure (wpAny_pure (h h1 sb1 hS1))
theorem zmD {led : Bool} {l S it : Addr} {ns : List Int} {R : Result → Shared → Prop} (hh : A.handled = none) (hlS : l ≠ S) (hli : l ≠ it) (hSi : S ≠ it) (hsz : ns.length ≤ 1000) (nd : ns.Nodup) :
  ∀ (k i : Nat) (s : Shared) (xs : List Value), ns.length - i = k → i ≤ ns.length → s.heap.IsListIter it l i → s.heap.IsList l xs.toArray → IntsAre xs ns → SetR prog w led s.heap S (ns.take i) →
   (∀ (h' : Heap) (tk : Nat), SetR prog w led h' S ns → (∀ b o, b ≠ S → b ≠ it → s.heap.get? b = some o → h'.get? b = some o) → s.heap.objs.size ≤ h'.objs.size → R (.ok (.ret .none)) { s with heap := h', toks := tk }) →
   codeAny (model prog w) A (.builtin "set.update.loop" ⟨[.ref S, .ref it], []⟩) R s := by
 have keepS : ∀ {h h' : Heap} {m : List Int}, SetR prog w led h S m → (∀ o, h.get? S = some o → h'.get? S = some o) → SetR prog w led h' S m := fun ⟨es, ep, t, ho, r⟩ e => ⟨es, ep, t, e _ ho, r⟩
 intro k
 induction k with
 | zero =>
  intro i s xs hk hi hit hl hI hS hR
  have hin : i = ns.length := by lia
  have hxl := hI.length
  refine codeAny_builtin PyProof.Rows.F.entry_set_update_loop ?_
  rw [Around.under_plainId PyProof.Rows.F.plain_set_update_loop _]
  show wpAny _ A.in1 (pyNext (.ref it) >>= _) _ _ s
  refine wpAny_bind (zaO (wpAny_pyNext_list_end hh hit hl (by simp; lia) fun h' hx hsz' => ?_))
  refine wpAny_pure ?_
  rw [hin, List.take_length] at hS
  exact hR h' s.toks (keepS hS fun o e => hx S o hSi e) (fun b o _ hb' e => hx b o hb' e) hsz'
 | succ k ih =>
  intro i s xs hk hi hit hl hI hS hR
  have hlt : i < ns.length := by lia
  have hxl := hI.length
  have hx : xs[i]? = some xs[i] := List.getElem?_eq_getElem (by lia)
  refine ob12 (hI.int_at i _ hx) ?_
  intro tk et
  rw [et] at hx
  rw [List.getD_eq_getElem?_getD, List.getElem?_eq_getElem hlt, Option.getD_some] at hx
  refine codeAny_builtin PyProof.Rows.F.entry_set_update_loop ?_
  rw [Around.under_plainId PyProof.Rows.F.plain_set_update_loop _]
  show wpAny _ A.in1 (pyNext (.ref it) >>= _) _ _ s
  refine wpAny_bind (zaO (wpAny_pyNext_list_item hit hl (by simpa using hx) fun h' hit' hs' hsz' => ?_))
  have hS1 := keepS hS fun o e => (hs'.2 S hSi).trans e
  show wpAny _ A.in1 (holding [Value.int ns[i] tk] (setAdd S (.int ns[i] tk)) >>= _) _ _ _
  refine wpAny_bind (wpAny_holding ?_)
  unfold setAdd
  refine wpAny_holding ?_
  refine wpAny_bind ((intKind prog w).pyHash (k := ns[i]) (zbm ns[i] tk) ?_)
  have hnot : ns[i] ∉ ns.take i := fun m => by
   refine lift fun g9 k9 => ?_
   obtain ⟨j, hj, e⟩ := List.mem_take_iff_getElem.mp m
   refine k9 ?_
   clear k9 g9
   exact (List.pairwise_iff_getElem.mp nd j i (by lia) hlt (by lia)) e
  have hb : (ns.take i).length + 1 < scanBound := by rw [List.length_take]; unfold scanBound; lia
  refine znZ (s := { s with heap := h', toks := s.toks + 1 }) hS1 hnot hb fun h2 sb2 hS2 => ?_
  rw [← List.take_succ_eq_append_getElem hlt] at hS2
  refine wpAny_pure ⟨plainId_quiet PyProof.Rows.F.plain_set_update_loop _, ?_⟩
  have hit2 : h2.IsListIter it l (i + 1) := by
   refine ob7 hit' ?_
   clear hit'
   intro o ho r
   exact ⟨o, (sb2.2 it hSi.symm).trans ho, r⟩
  refine ih (i + 1) { s with heap := h2, toks := s.toks + 1 } xs (by lia) hlt hit2 (zic hl ((sb2.2 l hlS).trans (hs'.2 l hli))) hI hS2 ?_
  intro h3 tk3 g1 g2 g3
  refine hR h3 tk3 g1 (fun b o hb hb' e => g2 b o hb hb' ((sb2.2 b hb).trans ((hs'.2 b hb').trans e))) (Nat.le_trans (Nat.le_trans hsz' (Nat.le_of_eq sb2.1.symm)) g3)
noncomputable def zdm (w : World) : Bool := !w.params.followText "set-order"
theorem znY (a : Value) {Q₁ : Value → Shared → Prop}
  (h : Q₁ (.ref s.heap.objs.size) { s with heap := s.heap.push { cls := .type "set", dict := none, data := .set #[] 0 (.fresh 0 0 (zdm w)) } }) :
  codeAny (model prog w) A (.call (.builtin "set.__new__") ⟨[.type "set", a], []⟩) (wants Q₁ E) s := by
 refine codeAny_of_tree ?_
 show wpAny _ A.in1 (do checkBuiltinCall "set.__new__" ⟨[.type "set", a], []⟩; again (.builtin "set.__new__" ⟨[.type "set", a], []⟩)) _ _ s
 refine wpAny_bind (wpAny_of_eq (PySem.F.newCall_set_1 a) (wpAny_pure ⟨plainId_quiet PySem.F.plain_set_new _, codeAny_builtin PySem.F.entry_set_new ?_⟩))
 rw [Around.under_plainId PySem.F.plain_set_new _]
 unfold Builtin.«set.__new__» Builtin.Frozenset.newClass
 have hsub := sub_set_self
 refine lift fun g9 k9 => ?_
 obtain ⟨hp, g, d, tk, os⟩ := s
 refine k9 ?_
 clear k9 g9
 dsimp only
 wp_walk
 refine wpAny_askSetting (wpAny_pure ?_)
 dsimp only
 simp only [newObj]
 refine wpAny_bind (wpAny_alloc (wpAny_pure ?_))
 exact wpAny_pure h
set_option maxHeartbeats 3200000 in
theorem zmG {l : Addr} {xs : List Value} {ns : List Int} {m : Nat} {Q : Value → Shared → Prop} (hh : A.handled = none) (hL : s.heap.get? l = some (seqObj "list" xs.toArray m)) (hI : IntsAre xs ns) (hsz : ns.length ≤ 1000) (nd : ns.Nodup)
  (h : ∀ (h' : Heap) (tk : Nat), SetR prog w (zdm w) h' s.heap.objs.size ns → (∀ b o, s.heap.get? b = some o → h'.get? b = some o) → Q (.ref s.heap.objs.size) { s with heap := h', toks := tk }) :
  wpAny (model prog w) A (call (.type "set") [.ref l]) Q E s := by
 refine ob18 PySem.F.called_set.mro ?_
 intro c tl hmro
 have hmade := PySem.F.called_set.made
 have hsub := PySem.F.called_set.sub
 refine wpAny_call (codeAny_of_tree ?_)
 show wpAny _ _ (callAny (.type "set") _) _ _ _
 refine wpAny_pure ⟨Code.quiet_builtin _ (by decide +kernel), codeAny_builtin PySem.F.entry_type_call ?_⟩
 rw [Around.under_plain (weight_type_call_type "set" [.ref l] []) rfl]
 have h1 := PySem.F.called_set.notType
 have h2 := PySem.F.called_set.canCreate
 have hct := PySem.F.typeCall_set_1 (.ref l)
 repeat (any_goals (first | assumption | wp_step))
 refine codeAny_mono (znY (.ref l) (E := E) (Q₁ := fun obj s₁ => obj = .ref s.heap.objs.size ∧ s₁ = { s with heap := s.heap.push { cls := .type "set", dict := none, data := .set #[] 0 (.fresh 0 0 (zdm w)) } }) ⟨rfl, rfl⟩) fun r s₁ hr => ?_
 cases r with
 | error e => exact hr
 | ok fl =>
  cases fl with
  | ret obj =>
   refine ob14 hr ?_
   clear hr
   intro ee62
   subst ee62
   intro ee63
   subst ee63
   have hS : (s.heap.push { cls := .type "set", dict := none, data := .set #[] 0 (.fresh 0 0 (zdm w)) }).get? s.heap.objs.size = some { cls := .type "set", dict := none, data := .set #[] 0 (.fresh 0 0 (zdm w)), slots := #[] } := Heap.get?_push_size _ rfl
   have hT : Shared.TypeIs { s with heap := s.heap.push { cls := .type "set", dict := none, data := .set #[] 0 (.fresh 0 0 (zdm w)) } } (.ref s.heap.objs.size) "set" := ⟨_, hS, rfl⟩
   have hli := PySem.F.called_set.init.lookup
   have hbi := PySem.F.called_set.init.bind (.ref s.heap.objs.size)
   repeat (any_goals (first | assumption | wp_step))
   refine codeAny_mono (codeAny_call_builtin (R := wants (fun r s₂ => r = .none ∧ ∃ h' tk, s₂ = { s with heap := h', toks := tk } ∧ SetR prog w (zdm w) h' s.heap.objs.size ns ∧ ∀ b o, s.heap.get? b = some o → h'.get? b = some o) E) PySem.F.called_set.init.plain PySem.F.entry_set_init (check_set_init_1 hT ?_)) fun r₂ s₂ hr₂ => ?_
   ·have hol : (s.heap.push { cls := .type "set", dict := none, data := .set #[] 0 (.fresh 0 0 (zdm w)) }).get? l = some { cls := .type "list", dict := none, data := .seq xs.toArray m, slots := #[] } := zak _ _ hL
    have hsls := PySem.F.sub_list_set
    have hslf := PySem.F.sub_list_frozenset
    have hne : (Value.type "list" == Value.type "dict") = false := by decide
    unfold Builtin.«set.__init__» noKeywords Builtin.Frozenset.updateFrom
    generalize hPI : pyIter = PI
    wp_walk
    subst hPI
    refine wpAny_pyIter_list ⟨_, hol, rfl, m, rfl⟩ ?_
    refine wpAny_bind (wpAny_runValue ?_)
    have hl0 : l < s.heap.objs.size := Heap.lt_size hL
    have hl1 : l ≠ (s.heap.push { cls := .type "set", dict := none, data := .set #[] 0 (.fresh 0 0 (zdm w)) }).objs.size := by rw [Heap.size_push]; exact Nat.ne_of_lt (Nat.lt_succ_of_lt hl0)
    have hs1 : s.heap.objs.size ≠ (s.heap.push { cls := .type "set", dict := none, data := .set #[] 0 (.fresh 0 0 (zdm w)) }).objs.size := by rw [Heap.size_push]; exact Nat.ne_of_lt (Nat.lt_succ_self _)
    have hh2 : A.in1.in1.handled = none := by simp [hh]
    refine zmD (led := zdm w) hh2 (Nat.ne_of_lt hl0) hl1 hs1 hsz nd ns.length 0 _ xs rfl (Nat.zero_le _) ⟨_, Heap.get?_push_size _ rfl, rfl, rfl⟩ ⟨_, zak _ _ hol, rfl, m, rfl⟩ hI
     ⟨#[], 0, .fresh 0 0 (zdm w), zak _ _ hS, fun e he => by simp at he, ⟨[], .nil, .refl _⟩, rfl, .nil, rfl⟩ fun h' tk g1 g2 _ => ?_
    refine wpAny_pure ?_
    show wpAny _ _ (ret Value.none) _ _ _
    refine wpAny_pure ⟨rfl, h', tk, rfl, g1, fun b o e => ?_⟩
    have hb := Heap.lt_size e
    exact g2 b o (Nat.ne_of_lt hb) (by rw [Heap.size_push]; exact Nat.ne_of_lt (Nat.lt_succ_of_lt hb)) (zak _ _ (zak _ _ e))
   ·cases r₂ with
    | error e => exact hr₂
    | ok fl₂ =>
     cases fl₂ with
     | ret r =>
      refine ob27 hr₂ ?_
      clear hr₂
      intro ee64
      subst ee64
      intro h' tk ee65
      subst ee65
      intro hS' hk'
      repeat (any_goals (first | assumption | wp_step))
      exact h _ _ hS' hk'
     | _ => exact hr₂
  | _ => exact hr
end
end Mine.Internal
end
section
set_option maxRecDepth 100000
namespace Mine.Internal
open PySem PySem.W PySem.Calls PyProof.Rows
theorem zhg : entryFor table "set.__iter__" = some Builtin.«frozenset.__iter__» := entryFor_alias (id' := "frozenset.__iter__") (by kernel_rfl) rfl (by decide +kernel) (by kernel_rfl)
theorem ms_slot_next : Slot "set_iterator" "__next__" "set_iterator.__next__" :=
 .of (owner := "set_iterator") (n := "__next__") (by rw [typeLookup_type, builtinLookup_eq_fast]; kernel_rfl) (by decide +kernel) (by decide +kernel) (by decide +kernel)
  (by first | exact .inl (by decide +kernel) | exact .inr (by decide +kernel)) (by rw [isSubtype_type]; kernel_rfl)
theorem zbT : entryFor table "set_iterator.__next__" = some Builtin.«set_iterator.__next__» := entryFor_of_tree (by kernel_rfl)
theorem zjC : Manifest.owners.lookup (String.ofList ['r', 'o', 't', 'a', 'r', 'e', 't', 'i', '_', 't', 'e', 's'].reverse) = some Manifest.sig_set_iterator := by kernel_rfl
theorem zcc (a : Value) : argsOk "set_iterator.__next__" ⟨[a], []⟩ := by
 unfold argsOk; rw [signature?_of (id := "set_iterator.__next__") (n := ['_', '_', 't', 'x', 'e', 'n', '_', '_']) (o := ['r', 'o', 't', 'a', 'r', 'e', 't', 'i', '_', 't', 'e', 's']) (by kernel_rfl) zjC]; kernel_rfl
theorem zgD : Slot "set_iterator" "__iter__" "set_iterator.__iter__" :=
 .of (owner := "set_iterator") (n := "__iter__") (by rw [typeLookup_type, builtinLookup_eq_fast]; kernel_rfl) (by decide +kernel) (by decide +kernel) (by decide +kernel)
  (by first | exact .inl (by decide +kernel) | exact .inr (by decide +kernel)) (by rw [isSubtype_type]; kernel_rfl)
theorem zkq (a : Value) : argsOk "set_iterator.__iter__" ⟨[a], []⟩ := by
 unfold argsOk; rw [signature?_of (id := "set_iterator.__iter__") (n := ['_', '_', 'r', 'e', 't', 'i', '_', '_']) (o := ['r', 'o', 't', 'a', 'r', 'e', 't', 'i', '_', 't', 'e', 's']) (by kernel_rfl) zjC]; kernel_rfl
theorem ziV : entryFor table "set_iterator.__iter__" = some Builtin.«dict_keyiterator.__iter__» := entryFor_alias (id' := "dict_keyiterator.__iter__") (by kernel_rfl) rfl (by decide +kernel) (by kernel_rfl)
section
variable {prog : Program} {w : World} {A : Around} {E : Value → Shared → Prop} {s : Shared} {I S : Addr} {n ep : Nat} {first : Value}
noncomputable def zf1 (S : Addr) (n ep : Nat) (first : Value) (i : Nat) : Obj := { cls := .type "set_iterator", dict := none, data := .fields #[first, rawInt i, .ref S, rawInt n, rawInt ep], slots := #[] }
noncomputable def zdp (es : Array (Int × Value)) (ep : Nat) (t : SetTable) : Obj := { cls := .type "set", dict := none, data := .set es ep t, slots := #[] }
theorem zlA {Q : Value → Shared → Prop} {i : Nat} (ho : s.heap.get? I = some (zf1 S n ep first i)) (h : Q (.ref I) s) : wpAny (model prog w) A (pyIter (.ref I)) Q E s := by
 have hT : s.TypeIs (.ref I) "set_iterator" := ⟨_, ho, rfl⟩
 refine wpAny_pyIter_slot hT zgD (wpAny_call_entry zgD hT ziV ?_ (zkq _))
 show wpAny _ _ (ret (.ref I)) _ _ s
 exact wpAny_pure ⟨_, rfl, "set_iterator", _, hT, ms_slot_next.lookup, h⟩
theorem zlE {h : Heap} {v : Value} {i j : Nat} (ho : h.get? I = some (zf1 S n ep first i)) (hj : j < 5) :
  (h.update I (Obj.mapFields (·.setIfInBounds j v))).get? I = some { cls := .type "set_iterator", dict := none, data := .fields (#[first, rawInt i, .ref S, rawInt n, rawInt ep].setIfInBounds j v), slots := #[] } :=
 Heap.get?_update_self _ ho rfl
theorem zom {Q : Option Value → Shared → Prop} {i k k' : Nat} {v : Value} {es : Array (Int × Value)} {t : SetTable} (ho : s.heap.get? I = some (zf1 S n ep (rawInt k) i)) (hs : s.heap.get? S = some (zdp es ep t)) (hf : t.fits es.size = true) (hn : es.size = n)
  (hx : ∀ {E' : Value → Shared → Prop} {Q' : Option (Value × Nat) → Shared → Prop}, Q' (some (v, k')) s → wpAny (model prog w) A.in1 (setNext S k i ep) Q' E' s)
  (hQ : ∀ h', Heap.SameBut I s.heap h' → h'.get? I = some (zf1 S n ep (rawInt k') (i + 1)) → Q (some v) { s with heap := h' }) : wpAny (model prog w) A (pyNext (.ref I)) Q E s := by
 have hT : s.TypeIs (.ref I) "set_iterator" := ⟨_, ho, rfl⟩
 unfold pyNext
 refine wpAny_bind (wpAny_attempt (wpAny_callSpecial?_slot (name := Str.ofString "__next__") hT ms_slot_next (wpAny_call_entry ms_slot_next hT zbT ?_ (zcc _))))
 unfold Builtin.«set_iterator.__next__»
 refine wpAny_bind (wpAny_pure ?_)
 refine wpAny_bind (wpAny_fieldsOf ho rfl ?_)
 show wpAny _ _ (do let es ← setEntries S; _) _ _ _
 refine wpAny_bind (wpAny_setEntries_of hs rfl hf ?_)
 rw [if_neg (by rw [hn]; simp)]
 show wpAny _ _ (setNext S ((k : Int)).toNat ((i : Int)).toNat ((ep : Int)).toNat >>= _) _ _ _
 rw [Int.toNat_natCast, Int.toNat_natCast, Int.toNat_natCast]
 refine wpAny_bind (hx ?_)
 dsimp only
 refine wpAny_bind (wpAny_setField ho rfl (by simp) ?_)
 have h1 := zlE (v := rawInt k') (j := 0) ho (by lia)
 refine wpAny_bind (wpAny_setField h1 rfl (by simp) ?_)
 have h2 := Heap.get?_update_self (Obj.mapFields (·.setIfInBounds 1 (rawInt ((i : Int) + 1)))) h1 rfl
 exact wpAny_pure ⟨_, rfl, wpAny_pure (hQ _ ((Heap.SameBut.update ..).trans (Heap.SameBut.update ..)) h2)⟩
theorem zpp {Q : Option Value → Shared → Prop} {i k : Nat} {es : Array (Int × Value)} {t : SetTable} (hh : A.handled = none) (ho : s.heap.get? I = some (zf1 S n ep (rawInt k) i)) (hs : s.heap.get? S = some (zdp es ep t)) (hf : t.fits es.size = true) (hn : es.size = n)
  (hx : ∀ {E' : Value → Shared → Prop} {Q' : Option (Value × Nat) → Shared → Prop}, Q' none s → wpAny (model prog w) A.in1 (setNext S k i ep) Q' E' s)
  (hQ : ∀ h', Heap.ExtBut I s.heap h' → Q none { s with heap := h' }) : wpAny (model prog w) A (pyNext (.ref I)) Q E s := by
 have hT : s.TypeIs (.ref I) "set_iterator" := ⟨_, ho, rfl⟩
 unfold pyNext
 refine wpAny_bind (wpAny_attempt (wpAny_callSpecial?_slot (name := Str.ofString "__next__") hT ms_slot_next (wpAny_call_entry ms_slot_next hT zbT ?_ (zcc _))))
 unfold Builtin.«set_iterator.__next__»
 refine wpAny_bind (wpAny_pure ?_)
 refine wpAny_bind (wpAny_fieldsOf ho rfl ?_)
 show wpAny _ _ (do let es ← setEntries S; _) _ _ _
 refine wpAny_bind (wpAny_setEntries_of hs rfl hf ?_)
 rw [if_neg (by rw [hn]; simp)]
 show wpAny _ _ (setNext S ((k : Int)).toNat ((i : Int)).toNat ((ep : Int)).toNat >>= _) _ _ _
 rw [Int.toNat_natCast, Int.toNat_natCast, Int.toNat_natCast]
 refine wpAny_bind (hx ?_)
 dsimp only
 refine wpAny_bind (wpAny_setField ho rfl (by simp) ?_)
 refine wpAny_bind ?_
 simp only [newExc, newTuple]
 refine wpAny_bind (wpAny_newObj_type ?_ (by size_fits))
 refine wpAny_bind (m := firstArgMember _ _) (wpAny_of_eq (a := Value.none) (by first | rfl | (simp only [firstArgMember]; rfl)) ?_)
 refine wpAny_newObj_type ?_ (by size_fits)
 simp only [raiseNew]
 refine wpAny_bind (wpAny_handled ?_)
 rw [show A.in1.handled = none from hh]
 refine wpAny_bind (wpAny_pure (wpAny_throw ?_))
 refine wpAny_bind (wpAny_isInstance (T := "StopIteration") (b := true) ⟨_, Heap.get?_push_size _ rfl, rfl⟩ isSubtype_stop ?_)
 exact wpAny_pure (hQ _ (((Heap.SameBut.update ..).extBut.push _).push _))
theorem zm2 {Q : Option Value → Shared → Prop} {i tp m : Nat} {v : Value} {e : Int × Value} {pl : List Nat} {es : Array (Int × Value)} {t : SetTable} (ho : s.heap.get? I = some (zf1 S n ep (.ref tp) i)) (hs : s.heap.get? S = some (zdp es ep t)) (hf : t.fits es.size = true) (hn : es.size = n)
  (ht : s.heap.get? tp = some (seqObj "tuple" (pl.map fun (j : Nat) => rawInt j).toArray m)) {j : Nat} (hj : pl[i]? = some j) (he : es[j]? = some e)
  (hQ : ∀ h', Heap.SameBut I s.heap h' → h'.get? I = some (zf1 S n ep (.ref tp) (i + 1)) → Q (some e.2) { s with heap := h' }) : wpAny (model prog w) A (pyNext (.ref I)) Q E s := by
 have hT : s.TypeIs (.ref I) "set_iterator" := ⟨_, ho, rfl⟩
 unfold pyNext
 refine wpAny_bind (wpAny_attempt (wpAny_callSpecial?_slot (name := Str.ofString "__next__") hT ms_slot_next (wpAny_call_entry ms_slot_next hT zbT ?_ (zcc _))))
 unfold Builtin.«set_iterator.__next__»
 refine wpAny_bind (wpAny_pure ?_)
 refine wpAny_bind (wpAny_fieldsOf ho rfl ?_)
 show wpAny _ _ (do let es ← setEntries S; _) _ _ _
 refine wpAny_bind (wpAny_setEntries_of hs rfl hf ?_)
 rw [if_neg (by rw [hn]; simp)]
 show wpAny _ _ (seqItems? (.ref tp) >>= _) _ _ _
 refine wpAny_bind (wpAny_seqItems ht rfl ?_)
 dsimp only
 have hp : (pl.map fun (j : Nat) => rawInt j).toArray[((i : Int)).toNat]? = some (rawInt j) := by
  rw [Int.toNat_natCast, List.getElem?_toArray, List.getElem?_map, hj]; rfl
 rw [hp]
 show wpAny _ _ (setNextDrawn S ((j : Int)).toNat ((ep : Int)).toNat >>= _) _ _ _
 rw [Int.toNat_natCast, Int.toNat_natCast]
 refine wpAny_bind ?_
 unfold setNextDrawn
 refine wpAny_bind (wpAny_setState_of hs rfl hf ?_)
 dsimp only
 rw [if_neg (by simp), he]
 refine wpAny_pure ?_
 refine wpAny_bind (wpAny_setField ho rfl (by simp) ?_)
 have h1 := zlE (v := rawInt ((i : Int) + 1)) (j := 1) ho (by lia)
 exact wpAny_pure ⟨_, rfl, wpAny_pure (hQ _ (Heap.SameBut.update ..) h1)⟩
theorem zon {Q : Option Value → Shared → Prop} {i tp m : Nat} {pl : List Nat} {es : Array (Int × Value)} {t : SetTable} (hh : A.handled = none) (ho : s.heap.get? I = some (zf1 S n ep (.ref tp) i)) (hs : s.heap.get? S = some (zdp es ep t)) (hf : t.fits es.size = true) (hn : es.size = n)
  (ht : s.heap.get? tp = some (seqObj "tuple" (pl.map fun (j : Nat) => rawInt j).toArray m)) (hj : pl[i]? = none)
  (hQ : ∀ h', Heap.ExtBut I s.heap h' → Q none { s with heap := h' }) : wpAny (model prog w) A (pyNext (.ref I)) Q E s := by
 have hT : s.TypeIs (.ref I) "set_iterator" := ⟨_, ho, rfl⟩
 unfold pyNext
 refine wpAny_bind (wpAny_attempt (wpAny_callSpecial?_slot (name := Str.ofString "__next__") hT ms_slot_next (wpAny_call_entry ms_slot_next hT zbT ?_ (zcc _))))
 unfold Builtin.«set_iterator.__next__»
 refine wpAny_bind (wpAny_pure ?_)
 refine wpAny_bind (wpAny_fieldsOf ho rfl ?_)
 show wpAny _ _ (do let es ← setEntries S; _) _ _ _
 refine wpAny_bind (wpAny_setEntries_of hs rfl hf ?_)
 rw [if_neg (by rw [hn]; simp)]
 show wpAny _ _ (seqItems? (.ref tp) >>= _) _ _ _
 refine wpAny_bind (wpAny_seqItems ht rfl ?_)
 dsimp only
 have hp : (pl.map fun (j : Nat) => rawInt j).toArray[((i : Int)).toNat]? = none := by
  rw [Int.toNat_natCast, List.getElem?_toArray, List.getElem?_map, hj]; rfl
 rw [hp]
 dsimp only
 refine wpAny_bind (wpAny_setField ho rfl (by simp) ?_)
 have h1 := zlE (v := rawInt 0) (j := 0) ho (by lia)
 refine wpAny_bind (wpAny_setField h1 rfl (by simp) ?_)
 refine wpAny_bind ?_
 simp only [newExc, newTuple]
 refine wpAny_bind (wpAny_newObj_type ?_ (by size_fits))
 refine wpAny_bind (m := firstArgMember _ _) (wpAny_of_eq (a := Value.none) (by first | rfl | (simp only [firstArgMember]; rfl)) ?_)
 refine wpAny_newObj_type ?_ (by size_fits)
 simp only [raiseNew]
 refine wpAny_bind (wpAny_handled ?_)
 rw [show A.in1.handled = none from hh]
 refine wpAny_bind (wpAny_pure (wpAny_throw ?_))
 refine wpAny_bind (wpAny_isInstance (T := "StopIteration") (b := true) ⟨_, Heap.get?_push_size _ rfl, rfl⟩ isSubtype_stop ?_)
 exact wpAny_pure (hQ _ ((((Heap.SameBut.update ..).trans (Heap.SameBut.update ..)).extBut.push _).push _))
theorem zjl {es : Array (Int × Value)} {t : SetTable} {items : List Value} {k : Nat → Nat} (hh : A.handled = none) (hne : S ≠ I) (hf : t.fits es.size = true) (hn : es.size = items.length)
  (hx : ∀ {A' : Around} {s : Shared} {E' : Value → Shared → Prop} {Q' : Option (Value × Nat) → Shared → Prop} {i : Nat} {v : Value}, items[i]? = some v → s.heap.get? S = some (zdp es ep t) → Q' (some (v, k (i + 1))) s → wpAny (model prog w) A' (setNext S (k i) i ep) Q' E' s)
  (he : ∀ {A' : Around} {s : Shared} {E' : Value → Shared → Prop} {Q' : Option (Value × Nat) → Shared → Prop}, s.heap.get? S = some (zdp es ep t) → Q' none s → wpAny (model prog w) A' (setNext S (k items.length) items.length ep) Q' E' s) :
  Walks prog w A I [I, S] [I] items.length (fun i v => items[i]? = some v) (fun i h => h.get? I = some (zf1 S es.size ep (rawInt (k i)) i) ∧ h.get? S = some (zdp es ep t)) where
 sub := fun b hb => by simp at hb; simp [hb]
 frame := fun _ _ _ st hk => ⟨hk I (by simp) _ st.1, hk S (by simp) _ st.2⟩
 item := fun i s Q E hi st hQ => zom (v := items[i]) st.1 st.2 hf rfl (hx (List.getElem?_eq_getElem hi) st.2) fun h' sb hg =>
  hQ _ h' s.toks (List.getElem?_eq_getElem hi) ⟨hg, (sb.2 S hne).trans st.2⟩ fun b o hb e => (sb.2 b fun z => hb (by simp [z])).trans e
 done := fun s Q E st hQ => zpp hh st.1 st.2 hf rfl (he st.2) fun h' eb => hQ h' s.toks fun b o hb e => eb b o (fun z => hb (by simp [z])) e
 self := fun i s Q E st hQ => zlA st.1 hQ
theorem znH {es : Array (Int × Value)} {t : SetTable} {items : List Value} {pl : List Nat} {tp m : Nat} (hh : A.handled = none) (hne : S ≠ I) (hnt : tp ≠ I) (hf : t.fits es.size = true) (hl : items.length = pl.length)
  (hp : ∀ (i j : Nat), pl[i]? = some j → ∃ e, es[j]? = some e ∧ items[i]? = some e.2) :
  Walks prog w A I [I, S, tp] [I] items.length (fun i v => items[i]? = some v) (fun i h => h.get? I = some (zf1 S es.size ep (.ref tp) i) ∧ h.get? S = some (zdp es ep t) ∧ h.get? tp = some (seqObj "tuple" (pl.map fun (j : Nat) => rawInt j).toArray m)) where
 sub := fun b hb => by simp at hb; simp [hb]
 frame := fun _ _ _ st hk => ⟨hk I (by simp) _ st.1, hk S (by simp) _ st.2.1, hk tp (by simp) _ st.2.2⟩
 item := fun i s Q E hi st hQ => by
  have hj : pl[i]? = some (pl[i]'(hl ▸ hi)) := List.getElem?_eq_getElem _
  refine ob7 (hp i _ hj) ?_
  intro e e1 e2
  refine zm2 (v := e.2) st.1 st.2.1 hf rfl st.2.2 hj e1 fun h' sb hg => ?_
  exact hQ _ h' s.toks e2 ⟨hg, (sb.2 S hne).trans st.2.1, (sb.2 tp hnt).trans st.2.2⟩ fun b o hb e => (sb.2 b fun z => hb (by simp [z])).trans e
 done := fun s Q E st hQ => zon hh st.1 st.2.1 hf rfl st.2.2 (List.getElem?_eq_none (by lia)) fun h' eb => hQ h' s.toks fun b o hb e => eb b o (fun z => hb (by simp [z])) e
 self := fun i s Q E st hQ => zlA st.1 hQ
theorem zgL {α : Type} {l : List α} {i : Nat} (h : i < l.length) : (l[i] :: l.eraseIdx i).Perm l := by
 have e : l.take i ++ l[i] :: l.drop (i + 1) = l := by rw [List.getElem_cons_drop]; exact List.take_append_drop i l
 rw [List.eraseIdx_eq_take_drop_succ]
 have := (List.perm_middle (a := l[i]) (l₁ := l.take i) (l₂ := l.drop (i + 1))).symm
 rwa [e] at this
theorem zn3 {α : Type} {f : Nat → Nat} : ∀ (n k : Nat) (left : List α) (out : Array α), left.length = n → (pickOrder.go f n k left out).toList.Perm (out.toList ++ left) := by
 intro n
 induction n with
 | zero => intro k left out h; have := List.eq_nil_of_length_eq_zero h; subst this; unfold pickOrder.go; simp
 | succ n ih =>
  intro k left out h
  unfold pickOrder.go
  have hi : f k % left.length < left.length := Nat.mod_lt _ (by lia)
  rw [List.getElem?_eq_getElem hi]
  dsimp only
  refine (ih (k + 1) _ _ (by rw [List.length_eraseIdx_of_lt hi]; lia)).trans ?_
  rw [Array.toList_push, List.append_assoc]
  exact List.Perm.append_left _ (zgL hi)
theorem zle {α : Type} {f : Nat → Nat} {xs : Array α} : (pickOrder f xs).toList.Perm xs.toList := by
 have := zn3 (f := f) xs.size 0 xs.toList #[] (by simp)
 simpa [pickOrder] using this
theorem zl1 {M : Model} {src : Source} {n : Nat} {Q : Nat → Shared → Prop} (hn : n ≠ 0) (h : ∀ i d, i < n → Q i { s with drawn := d }) : wpAny M A (choose src n) Q E s := fun Γ p hΓ => by
 unfold choose
 rw [Sem.wp_choose]
 exact ⟨hn, h _ _ (Nat.mod_lt _ (Nat.pos_of_ne_zero hn))⟩
theorem zoH {M : Model} : ∀ (n : Nat) (xs : List Nat) {s : Shared} {Q : List Nat → Shared → Prop}, xs.length = n → (∀ ys d, ys.Perm xs → Q ys { s with drawn := d }) → wpAny M A (drawOrder n xs) Q E s := by
 intro n
 induction n with
 | zero => intro xs s Q h hQ; have := List.eq_nil_of_length_eq_zero h; subst this; exact wpAny_pure (hQ [] s.drawn (.refl _))
 | succ n ih =>
  intro xs s Q h hQ
  cases xs with
  | nil => cases h
  | cons x xs =>
   show wpAny M A (choose .order (x :: xs).length >>= _) Q E s
   refine wpAny_bind (zl1 (by simp) fun i d hi => ?_)
   rw [List.getElem?_eq_getElem hi]
   dsimp only
   refine wpAny_bind (ih _ (by rw [List.length_eraseIdx_of_lt hi]; lia) fun ys d' hp => ?_)
   exact wpAny_pure (hQ _ d' ((hp.cons _).trans (zgL hi)))
theorem zhZ {es : Array (Int × Value)} {t : SetTable} {k i : Nat} {Q : Option (Value × Nat) → Shared → Prop} (hb : w.params.followText "set-order" = true) (hs : s.heap.get? S = some (zdp es ep t)) (hf : t.fits es.size = true)
  (h : Q (((pickOrder (w.params.setOrder S ep) es)[i]?).map fun e => (e.2, k)) s) : wpAny (model prog w) A (setNext S k i ep) Q E s := by
 unfold setNext
 refine wpAny_bind (wpAny_setState_of hs rfl hf ?_)
 dsimp only
 refine wpAny_bind ?_
 unfold setsByText
 refine wpAny_bind (wpAny_askSetting (wpAny_pure ?_))
 refine wpAny_ite_split (fun _ => ?_) fun c => absurd hb c
 rw [if_neg (by simp)]
 refine wpAny_bind ?_
 unfold setWalk
 refine wpAny_bind (wpAny_setState_of hs rfl hf ?_)
 dsimp only
 refine wpAny_bind ?_
 unfold setsByText
 refine wpAny_bind (wpAny_askSetting (wpAny_pure ?_))
 refine wpAny_ite_split (fun _ => ?_) fun c => absurd hb c
 refine wpAny_bind (wpAny_askSetting (wpAny_pure ?_))
 exact wpAny_pure h
theorem zh0 {es : Array (Int × Value)} {t : SetTable} {k i : Nat} {Q : Option (Value × Nat) → Shared → Prop} (hb : w.params.followText "set-order" = false) (hd : (!t.plain && decide (es.size > 1)) = false) (hl : t.led = true) (hs : s.heap.get? S = some (zdp es ep t)) (hf : t.fits es.size = true)
  (h : Q (match es[SetTable.below t.place k]?, t.place[SetTable.below t.place k]? with | some (_, x), some j => some (x, j + 1) | _, _ => none) s) : wpAny (model prog w) A (setNext S k i ep) Q E s := by
 unfold setNext
 refine wpAny_bind (wpAny_setState_of hs rfl hf ?_)
 dsimp only
 refine wpAny_bind ?_
 unfold setsByText
 refine wpAny_bind (wpAny_askSetting (wpAny_pure ?_))
 refine wpAny_ite_split (fun c => Bool.noConfusion (hb.symm.trans c)) fun _ => ?_
 refine wpAny_ite_split (fun c => Bool.noConfusion (hd.symm.trans c)) fun _ => ?_
 refine wpAny_bind ?_
 show wpAny _ _ (if (!t.led && !es.isEmpty) = true then _ else _) _ _ _
 rw [if_neg (by rw [hl]; simp)]
 refine wpAny_pure ?_
 exact wpAny_pure h
theorem zmE {l : List Int} {Q : Value → Shared → Prop} (hS : SetR prog w (zdm w) s.heap S l) (hlen : l.length ≤ 1000)
  (h : ∀ (h1 : Heap) (d1 : Drawn) (I : Addr) (items : List Value) (fp : List Addr) (St : Nat → Heap → Prop), (∀ b o, s.heap.get? b = some o → h1.get? b = some o) → s.heap.objs.size ≤ I → (∃ ns, IntsAre items ns ∧ ns.Perm l) → (∀ b ∈ fp, b = S ∨ s.heap.objs.size ≤ b) →
   (∀ A' : Around, A'.handled = none → Walks prog w A' I fp [I] items.length (fun i v => items[i]? = some v) St) → St 0 h1 → Q (.ref I) { s with heap := h1, drawn := d1 }) : wpAny (model prog w) A (pyIter (.ref S)) Q E s := by
 refine ob26 hS ?_
 clear hS
 intro es ep t ho hel ns hi hp hf up hl
 have hT : s.TypeIs (.ref S) "set" := ⟨_, ho, rfl⟩
 have hS0 : S < s.heap.objs.size := Heap.lt_size ho
 refine wpAny_pyIter_slot hT PySem.F.slot_set_iter (wpAny_call_entry PySem.F.slot_set_iter hT zhg ?_ (PySem.F.args_set_iter_1 _))
 unfold Builtin.«frozenset.__iter__»
 refine wpAny_bind ?_
 show wpAny _ _ (pure S) _ _ _
 refine wpAny_pure ?_
 refine wpAny_bind ?_
 unfold Builtin.Frozenset.sizeOf
 refine wpAny_bind (wpAny_setEntries_of ho rfl hf (wpAny_pure ?_))
 refine wpAny_bind ?_
 unfold setDrawn
 refine wpAny_bind (wpAny_setState_of ho rfl hf ?_)
 dsimp only
 refine wpAny_bind ?_
 unfold setsByText
 refine wpAny_bind (wpAny_askSetting (wpAny_pure ?_))
 refine wpAny_pure ?_
 have fin : ∀ {s1 : Shared} {first : Value}, s1.heap.get? S = some (zdp es ep t) → (∀ b o, s.heap.get? b = some o → s1.heap.get? b = some o) →
   Q (.ref s1.heap.objs.size) { s1 with heap := s1.heap.push (zf1 S es.size ep first 0) } →
   wpAny (model prog w) A.in1 (do
    let e ← setEpoch S
    let r ← newFields "set_iterator" [first, rawInt 0, Value.ref S, rawInt es.size, rawInt e]
    ret r) (fun fin s' => ∃ v, fin = Fin.done (Flow.ret v) ∧ ∃ T' r, s'.TypeIs v T' ∧ typeLookup (Value.type T') (Str.ofString "__next__") = pure (some r) ∧ Q v s') E s1 := fun {s1 first} h1 h2 h3 => by
  refine wpAny_bind (wpAny_setEpoch_of h1 rfl hf ?_)
  simp only [newFields]
  refine wpAny_bind (wpAny_newObj_type ?_)
  exact wpAny_pure ⟨_, rfl, "set_iterator", _, ⟨_, Heap.get?_push_size _ rfl, rfl⟩, ms_slot_next.lookup, h3⟩
 refine wpAny_ite_split (fun c => ?_) fun c => ?_
 ·refine wpAny_bind (zoH _ _ (by simp) fun ys d hy => ?_)
  simp only [newTuple]
  refine wpAny_bind (wpAny_newObj_type ?_ ?_)
  ·refine fin (zak _ _ ho) (fun b o e => zak _ _ e) ?_
   have hlt : ∀ j ∈ ys, j < es.size := fun j hj => List.mem_range.mp (hy.mem_iff.mp hj)
   have hyl : ys.length = es.size := by rw [hy.length_eq, List.length_range]
   have hpm : (ys.map fun j => (es.getD j (0, .none)).2).Perm (es.toList.map (·.2)) := by
    refine (hy.map _).trans (List.Perm.of_eq ?_)
    refine List.ext_getElem (by simp) fun i h1 h2 => ?_
    simp only [List.getElem_map, List.getElem_range, Array.getElem_toList]
    have : i < es.size := by simpa using h1
    simp [Array.getD, this]
   refine ob7 (zeB hpm hi) ?_
   intro m m1 m2
   have hsz : (s.heap.push { cls := .type "tuple", data := .seq (ys.map fun (j : Nat) => rawInt j).toArray }).objs.size = s.heap.objs.size + 1 := Heap.size_push ..
   refine h _ d _ (ys.map fun j => (es.getD j (0, .none)).2) [_, S, s.heap.objs.size] _ (fun b o e => zak _ _ (zak _ _ e)) (by rw [hsz]; lia) ⟨m, m1, m2.trans hp⟩ ?_
    (fun A' hA => znH (es := es) (t := t) (ep := ep) (pl := ys) (tp := s.heap.objs.size) (m := 0) hA (Nat.ne_of_lt (by rw [hsz]; exact Nat.lt_succ_of_lt hS0)) (Nat.ne_of_lt (by rw [hsz]; exact Nat.lt_succ_self _)) hf (by simp) fun i j hj => ?_) ⟨Heap.get?_push_size _ rfl, zak _ _ (zak _ _ ho), zak _ _ (Heap.get?_push_size _ rfl)⟩
   ·intro b hb
    simp only [List.mem_cons, List.not_mem_nil, or_false] at hb
    rcases hb with rfl | rfl | rfl
    ·exact .inr (by rw [hsz]; lia)
    ·exact .inl rfl
    ·exact .inr (Nat.le_refl _)
   ·have := hlt j (List.mem_of_getElem? hj)
    exact ⟨es[j], Array.getElem?_eq_getElem this, by rw [List.getElem?_map, hj]; simp [Array.getD, this]⟩
  ·have e1 := hy.length_eq
   have e2 := SetR.len (led := zdm w) (h := s.heap) (a := S) hi hp
   rw [List.length_range] at e1
   show (ys.map fun (j : Nat) => rawInt j).toArray.size ≤ sizeLine
   rw [List.size_toArray, List.length_map, e1, e2, sizeLine_eq]; lia
 ·refine wpAny_bind (wpAny_pure (fin ho (fun b o e => e) ?_))
  have hIS : S ≠ s.heap.objs.size := Nat.ne_of_lt hS0
  have fp2 : ∀ b ∈ [s.heap.objs.size, S], b = S ∨ s.heap.objs.size ≤ b := fun b hb => by
   simp only [List.mem_cons, List.not_mem_nil, or_false] at hb
   rcases hb with rfl | rfl
   ·exact .inr (Nat.le_refl _)
   ·exact .inl rfl
  by_cases hb : w.params.followText "set-order" = true
  ·have hpm := (zle (f := w.params.setOrder S ep) (xs := es)).map (fun e : Int × Value => e.2)
   refine ob7 (zeB hpm hi) ?_
   intro m m1 m2
   have hln : es.size = ((pickOrder (w.params.setOrder S ep) es).toList.map fun e : Int × Value => e.2).length := by rw [hpm.length_eq]; simp
   refine h _ s.drawn _ ((pickOrder (w.params.setOrder S ep) es).toList.map fun e : Int × Value => e.2) [_, S] _ (fun b o e => zak _ _ e) (Nat.le_refl _) ⟨m, m1, m2.trans hp⟩ fp2
    (fun A' hA => zjl (es := es) (t := t) (ep := ep) (k := fun _ => 0) hA hIS hf hln (fun {_ _ _ _ i v} hv hs q => zhZ hb hs hf ?_) fun {_ _ _ _} hs q => zhZ hb hs hf ?_) ⟨Heap.get?_push_size _ rfl, zak _ _ ho⟩
   ·rw [List.getElem?_map, Array.getElem?_toList] at hv
    refine ob7 (Option.map_eq_some_iff.mp hv) ?_
    intro e e1 e2
    rw [e1, Option.map_some, e2]; exact q
   ·rw [Array.getElem?_eq_none (by simp)]; exact q
  ·have hb' : w.params.followText "set-order" = false := by simpa using hb
   have hd : (!t.plain && decide (es.size > 1)) = false := by
    cases z : (!t.plain && decide (es.size > 1)) with
    | false => rfl
    | true => exact absurd (show (!w.params.followText "set-order" && (!t.plain && decide (es.size > 1))) = true by rw [hb', z]; rfl) c
   have hled : t.led = true := by rw [hl]; unfold zdm; rw [hb']; rfl
   have hps : t.place.size = es.size := by simp only [SetTable.fits, Bool.and_eq_true, beq_iff_eq] at hf; exact hf.1
   have hk : ∀ i, i ≤ es.size → SetTable.below t.place (match i with | 0 => 0 | i + 1 => t.place.getD i 0 + 1) = i := fun i hi' => by
    cases i with
    | zero => exact zkL up
    | succ i =>
     have : i < t.place.size := by lia
     exact zkM up (by rw [Array.getElem?_eq_getElem this]; simp [Array.getD, this])
   refine h _ s.drawn _ (es.toList.map fun e : Int × Value => e.2) [_, S] _ (fun b o e => zak _ _ e) (Nat.le_refl _) ⟨ns, hi, hp⟩ fp2
    (fun A' hA => zjl (es := es) (t := t) (ep := ep) (k := fun i => match i with | 0 => 0 | i + 1 => t.place.getD i 0 + 1) hA hIS hf (by simp) (fun {_ _ _ _ i v} hv hs q => zh0 hb' hd hled hs hf ?_) fun {_ _ _ _} hs q => zh0 hb' hd hled hs hf ?_) ⟨Heap.get?_push_size _ rfl, zak _ _ ho⟩
   ·rw [List.getElem?_map, Array.getElem?_toList] at hv
    refine ob7 (Option.map_eq_some_iff.mp hv) ?_
    intro e e1 e2
    have hlt : i < es.size := by
     rcases Nat.lt_or_ge i es.size with g | g
     ·exact g
     ·rw [Array.getElem?_eq_none g] at e1; cases e1
    rw [hk i (by lia), e1, Array.getElem?_eq_getElem (show i < t.place.size by lia)]
    subst e2
    have : i < t.place.size := by lia
    simpa [Array.getD, this] using q
   ·rw [hk _ (by simp), Array.getElem?_eq_none (by simp)]; exact q
end
end Mine.Internal
end
section
set_option maxRecDepth 100000
namespace Mine.Internal
open PySem PySem.W PySem.Calls PyProof.Rows
section
variable {prog : Program} {w : World} {A : Around} {E : Value → Shared → Prop} {s : Shared} {S : Addr}
theorem zmF {Q : Bool → Shared → Prop} (hT : s.TypeIs (.ref S) "set") (h : Q false s) : wpAny (model prog w) A (Builtin.List.listLengthHint (.ref S)) Q E s := by
 unfold Builtin.List.listLengthHint
 refine wpAny_bind (wpAny_specialOf hT PySem.F.slot_set_len.lookup ?_)
 generalize hid : ("set.__len__" : String) = id0
 wp_delta
 rw [show splitId id0 = some ("set", "__len__") from by subst hid; decide +kernel]
 subst hid
 refine wpAny_bind (wpAny_isInstance (T := "set") (b := true) hT sub_set_self ?_)
 refine wpAny_ite_split (fun hab => absurd hab (by decide)) (fun _ => ?_)
 refine wpAny_ite_split (fun _ => ?_) (fun hab => absurd (by decide +kernel) hab)
 refine wpAny_bind (wpAny_typeOf hT ?_)
 exact wpAny_pure h
theorem zkx {items : List Value} {acc : Array Value} (h : ItemsOf (fun i v => items[i]? = some v) acc items.length) : acc.toList = items := by
 refine List.ext_getElem? fun i => ?_
 rcases Nat.lt_or_ge i items.length with g | g
 ·have hi : i < acc.size := by rw [h.1]; exact g
  rw [Array.getElem?_toList, Array.getElem?_eq_getElem hi]
  exact (h.2 i _ (Array.getElem?_eq_getElem hi)).symm
 ·rw [List.getElem?_eq_none g, List.getElem?_eq_none (by rw [Array.length_toList, h.1]; exact g)]
theorem ziN {l : List Int} {R : List Value → Shared → Prop} (hh : A.handled = none) (hS : SetR prog w (zdm w) s.heap S l) (hlen : l.length ≤ 1000)
  (h : ∀ (h' : Heap) (tk : Nat) (d : Drawn) (vs : List Value), (∀ b o, s.heap.get? b = some o → h'.get? b = some o) → s.heap.objs.size ≤ h'.objs.size → (∃ ns, IntsAre vs ns ∧ ns.Perm l) → R vs { s with heap := h', toks := tk, drawn := d }) :
  wpAny (model prog w) A (collect (.ref S)) R E s := by
 have keepS : ∀ {h h' : Heap}, SetR prog w (zdm w) h S l → (∀ o, h.get? S = some o → h'.get? S = some o) → SetR prog w (zdm w) h' S l := fun ⟨es, ep, t, ho, r⟩ e => ⟨es, ep, t, e _ ho, r⟩
 have hS0 : S < s.heap.objs.size := by obtain ⟨es, ep, t, ho, _⟩ := hS; exact Heap.lt_size ho
 refine zaO ?_
 unfold collect
 refine wpAny_bind (wpAny_runValue (codeAny_builtin entry_proto_collect' ?_))
 rw [Around.under_plainId PySem.F.plain_proto_collect _]
 show wpAny _ A.in1 (newList [] >>= fun l => again (.builtin "list.__iadd__" ⟨[l, .ref S], []⟩)) _ _ s
 refine wpAny_bind (wpAny_newObj_type ?_)
 refine wpAny_pure ⟨plainId_quiet PySem.F.plain_list_iadd _, codeAny_builtin entry_list_iadd' ?_⟩
 rw [Around.under_plainId PySem.F.plain_list_iadd _]
 have hS1 := keepS (h' := s.heap.push { cls := .type "list", data := .seq ([] : List Value).toArray }) hS fun o e => zak _ _ e
 have hL : (s.heap.push { cls := .type "list", data := .seq ([] : List Value).toArray }).get? s.heap.objs.size = some { cls := .type "list", dict := none, data := .seq #[] 0, slots := #[] } := Heap.get?_push_size _ rfl
 show wpAny _ A.in1 (Builtin.List.listExtendWith (.ref s.heap.objs.size) (.ref S) (.ref s.heap.objs.size)) _ _ _
 unfold Builtin.List.listExtendWith
 have hT : Shared.TypeIs { s with heap := s.heap.push { cls := .type "list", data := .seq ([] : List Value).toArray } } (.ref S) "set" := by
  refine ob24 hS1 ?_
  clear hS1
  intro es ep t ho _
  exact ⟨_, ho, rfl⟩
 refine wpAny_bind (wpAny_typeOf (T := "set") hT ?_)
 have e1 : Builtin.List.listSameRef (.ref s.heap.objs.size) (.ref S) = false := by simp only [Builtin.List.listSameRef, beq_eq_false_iff_ne]; exact Nat.ne_of_gt hS0
 have e2 : (Value.type "set" == Value.type "list") = false := by decide
 have e3 : (Value.type "set" == Value.type "tuple") = false := by decide
 simp only [e1, e2, e3, Bool.or_false, Bool.false_eq_true, if_false]
 refine wpAny_bind (zmE (s := { s with heap := s.heap.push { cls := .type "list", data := .seq ([] : List Value).toArray } }) hS1 hlen fun h1 d1 I items fp St k1 hI hit hfp W st => ?_)
 have hsz0 : (s.heap.push { cls := .type "list", data := .seq ([] : List Value).toArray }).objs.size = s.heap.objs.size + 1 := Heap.size_push ..
 have hLf : s.heap.objs.size ∉ fp := fun m => by
  rcases hfp _ m with e | e
  ·exact absurd e (Nat.ne_of_gt hS0)
  ·have : (s.heap.push { cls := .type "list", data := .seq ([] : List Value).toArray }).objs.size ≤ s.heap.objs.size := e
   rw [hsz0] at this; lia
 have hIL : s.heap.objs.size + 1 ≤ I := by rw [← hsz0]; exact hI
 have hil : items.length = l.length := by obtain ⟨m, m1, m2⟩ := hit; rw [m1.length, m2.length_eq]
 have key : ∀ (h2 : Heap) (c₁ : Nat) {R' : Result → Shared → Prop}, St 0 h2 → (∀ b o, b ≠ s.heap.objs.size → h1.get? b = some o → h2.get? b = some o) → h2.get? s.heap.objs.size = some { cls := .type "list", dict := none, data := .seq #[] c₁, slots := #[] } →
   (∀ h' tk c', (∀ b o, s.heap.get? b = some o → h'.get? b = some o) → h'.get? s.heap.objs.size = some { cls := .type "list", dict := none, data := .seq items.toArray c', slots := #[] } → R' (.ok (.ret (.ref s.heap.objs.size))) { s with heap := h', toks := tk, drawn := d1 }) →
   codeAny (model prog w) A (.builtin "list.extend.loop" ⟨[.ref s.heap.objs.size, .ref I, .ref s.heap.objs.size], []⟩) R' { s with heap := h2, drawn := d1 } := by
  intro h2 c₁ R' hst hk hL2 hR
  refine codeAny_extend_loopS (W A.in1 hh).toS (by rw [hil, sizeLine_eq]; lia) s.heap.objs.size hLf _ items.length 0 { s with heap := h2, drawn := d1 } #[] c₁ rfl (Nat.zero_le _) hst hL2 (ItemsOf.nil _) fun s' acc' c' hm hS' hacc => ?_
  have e := zkx hacc
  have e' : acc' = items.toArray := by rw [← e]
  rw [Moved.eq_with hm]
  refine hR s'.heap s'.toks c' (fun b o hb => ?_) (by rw [hS', e'])
  have hlt := Heap.lt_size hb
  refine hm.heap b o ?_ (hk b o (Nat.ne_of_lt hlt) (k1 b o (zak _ _ hb)))
  simp only [List.mem_cons, List.not_mem_nil, or_false, not_or]
  exact ⟨Nat.ne_of_lt hlt, Nat.ne_of_lt (Nat.lt_of_lt_of_le hlt (Nat.le_of_succ_le hIL))⟩
 have hT1 : Shared.TypeIs { s with heap := h1, drawn := d1 } (.ref S) "set" := by
  refine ob24 hS1 ?_
  clear hS1
  intro es ep t ho _
  exact ⟨_, k1 _ _ ho, rfl⟩
 have hL1 := k1 _ _ hL
 have last : ∀ (h' : Heap) (tk c' : Nat), (∀ b o, s.heap.get? b = some o → h'.get? b = some o) → h'.get? s.heap.objs.size = some { cls := .type "list", dict := none, data := .seq items.toArray c', slots := #[] } →
   wpAny (model prog w) A (do
    let o ← load s.heap.objs.size
    match o.data with
    | .seq xs _ => pure xs.toList
    | _ => unsupported "internal:collect") (fun a s' => s.heap.objs.size ≤ s'.heap.objs.size → R a s') (fun e s' => s.heap.objs.size ≤ s'.heap.objs.size → E e s') { s with heap := h', toks := tk, drawn := d1 } := fun h' tk c' g1 g2 => by
  refine wpAny_bind (wpAny_load g2 ?_)
  exact wpAny_pure fun hz => h h' tk d1 items g1 hz hit
 refine wpAny_bind (wpAny_holding (zmF hT1 ?_))
 refine wpAny_ite_split (fun _ => ?_) fun _ => wpAny_pure ⟨plainId_quiet PySem.F.plain_extend_loop _, key h1 0 st (fun b o _ e => e) hL1 last⟩
 refine wpAny_bind (wpAny_rule ?_)
 refine wpAny_bind ?_
 show wpAny _ _ (updateSeq s.heap.objs.size (·.push .none) >>= fun _ => updateSeq s.heap.objs.size (·.pop)) _ _ _
 refine wpAny_bind (wpAny_updateSeq hL1 rfl ?_)
 have hL2 := Heap.get?_update_self (Obj.mapSeq (·.push Value.none)) hL1 rfl
 refine wpAny_updateSeq (hz := by seq_fits) hL2 rfl ?_
 have hL3 := Heap.get?_update_self (Obj.mapSeq (·.pop)) hL2 rfl
 refine wpAny_pure ⟨plainId_quiet PySem.F.plain_extend_loop _, key _ _ ?_ (fun b o hb e => ?_) hL3 last⟩
 ·refine (W A.in1 hh).frame 0 _ _ st fun b hb o e => ?_
  have hbS : b ≠ s.heap.objs.size := fun z => hLf (z ▸ hb)
  exact (Heap.get?_update_other _ _ (Ne.symm hbS)).trans ((Heap.get?_update_other _ _ (Ne.symm hbS)).trans e)
 ·exact (Heap.get?_update_other _ _ (Ne.symm hb)).trans ((Heap.get?_update_other _ _ (Ne.symm hb)).trans e)
variable {C : Cx} {σ : Store} {Q : V → Store → Prop}
theorem PostV.drawn {d : Drawn} {v : Value} {s' : Shared} (h : PostV C σ { s with drawn := d } Q v s') : PostV C σ s Q v s' := by
 refine ob1 h ?_
 clear h
 intro V σ' q hv st
 exact ⟨V, σ', q, hv, ⟨st.h, st.rel, st.dom, st.fresh, st.gens, st.os⟩⟩
theorem znU {u : V} {x : Value} (hh : A.handled = none) (r : Rel C σ s.heap) (hu : VR s.heap u x) (q : znV true u σ Q) :
  wpAny C.M A (call (.type "set") [x]) (fun v s₁ => wpAny C.M A (call (.builtin "sorted") [v]) (PostV C σ s Q) E s₁) E s := by
 refine lift fun g9 k9 => ?_
 refine ob14 q ?_
 clear q
 intro _ q
 refine ob1 (zaG q) ?_
 intro a vs ee66
 subst ee66
 intro ha q
 refine ob22 (zap q) ?_
 intro ns hn h64 nd q
 cases hu.ref_of
 refine ob1 (r.list ha) ?_
 intro xs m hL hX _
 refine k9 ?_
 clear k9 g9
 have hvs := ints_get' hn
 have hI : IntsAre xs ns := zhl (hvs ▸ hX)
 have hnl : ns.length < 64 := by have := hI.length; have := hX.length; lia
 refine zaO (zmG (prog := C.prog) (w := C.w) hh hL hI (by lia) nd fun h1 t1 hS k1 hz1 => ?_)
 refine Calls.call_function_entry kind_sorted plain_sorted entry_sorted (args_sorted1 _) ?_
 unfold Builtin.«sorted»
 refine wpAny_bind (m := checkCount "sorted" 1 1 _) (wpAny_pure ?_)
 refine wpAny_bind (ziN (s := { s with heap := h1, toks := t1 }) hh hS (by lia) fun h2 t2 d2 ys k2 hz2 hy => ?_)
 refine ob7 hy ?_
 clear hy
 intro ms hI2 hp
 have hyl : ys.length < 64 := by rw [hI2.length, hp.length_eq]; exact hnl
 refine wpAny_bind (wpAny_newList ?_ (by rw [sizeLine_eq]; lia))
 have hoL : (h2.push (seqObj "list" ys.toArray 0)).get? h2.objs.size = some (seqObj "list" ys.toArray 0) := Heap.get?_push_size _ rfl
 refine wpAny_bind (wpAny_holding (wpAny_call_entry slot_list_sort ⟨_, hoL, rfl⟩ entry_list_sort (list_sort_tree hoL hI2 (by lia) fun out ns' a1 a2 a3 => ⟨_, rfl, ?_⟩) (args_list_sort _)))
 refine wpAny_pure ⟨_, rfl, PostV.drawn (d := d2) ?_⟩
 have hws : ns'.Pairwise (· < ·) := by
  have hnd : ns'.Nodup := (a2.trans hp).nodup_iff.mpr nd
  refine (List.pairwise_and_iff.mpr ⟨a3, hnd⟩).imp fun ⟨z1, z2⟩ => by lia
 have q := q ns' hws fun y => (a2.trans hp).mem_iff
 refine ob12 (sortedHeap_at (h := h2.push (seqObj "list" ys.toArray 0)) (vs := ys) (out := out) (Heap.get?_push_size h2 (o := seqObj "list" ys.toArray 0) rfl)) ?_
 intro c hc
 have hk : ∀ b ob, s.heap.get? b = some ob → h2.get? b = some ob := fun b ob e => k2 b ob (k1 b ob e)
 have hsz : s.heap.objs.size ≤ h2.objs.size := Nat.le_trans hz1 hz2
 refine zcU (s := { s with drawn := d2 }) (h' := sortedHeap (h2.push (seqObj "list" ys.toArray 0)) h2.objs.size ys out) (xs := out.toList) (n := c) (t := t2) r q (fun b ob hb => ?_) ?_ hsz (by simpa using hc) (zhk a1) ?_
 ·have hlt : b < h2.objs.size := Heap.lt_size (hk b ob hb)
  rw [sortedHeap_old (Nat.ne_of_lt hlt) (by rw [Heap.size_push]; exact Nat.lt_succ_of_lt hlt)]
  exact zak _ _ (hk b ob hb)
 ·unfold sortedHeap
  simp only [Heap.size_update, Heap.size_push]; lia
 ·have := (a2.trans hp).length_eq
  simp only [List.length_map, zax]; lia
end
end Mine.Internal
end
section
namespace Mine.Internal
open PySem PySem.W PySem.Calls PyProof.Rows
noncomputable def zoX (K : Frag) (Cl : Addr) : Prop :=
 plainGet K Cl ("x" : Str) = true ∧ findIn K (.ref Cl) "__setattr__" = some (some (.builtin "object.__setattr__")) ∧ plainOver K Cl = true ∧ hasDictIn K Cl = true
structure CxOk (C : Cx) : Prop where
 inK : C.K.In C.base
 g : C.base.Ns mainGlobals C.mg
 b : C.base.Ns builtinsNs C.mb
 nolimit : C.base.NoLimit
 bn : ∀ x v, (x, v) ∈ bNames → C.mg (Str.ofString x) = none ∧ C.mb (Str.ofString x) = some v
 glob : ∀ x i, zlO x = some i → ∃ t, C.mg (Str.ofString x) = some (.int i t)
 clsNe : C.cls "" = none
 clsG : ∀ c Cl, C.cls c = some Cl → C.mg (Str.ofString c) = some (.ref Cl)
 fnG : ∀ f a, C.fn "" f = some a → C.mg (Str.ofString f) = some (.ref a) ∧ ∃ o fd, C.base.get? a = some o ∧ o.data = .func fd
 made : ∀ c fa, C.fn c "__init__" = some fa → c ≠ "" → ∃ Cl, C.cls c = some Cl ∧ keepIn C.K (.ref Cl) = true ∧ makesIn C.K Cl = true ∧ findIn C.K (.ref Cl) "__init__" = some (some (.ref fa)) ∧ typeIn C.K (.ref fa) = some (.type "function")
 meth : ∀ c name fa Cl, C.fn c name = some fa → c ≠ "" → C.cls c = some Cl → zoX C.K Cl ∧ findIn C.K (.ref Cl) (Str.ofString name) = some (some (.ref fa)) ∧ isFn C.K (.ref fa) = true ∧ ∃ o fd, C.base.get? fa = some o ∧ o.data = .func fd
 flds : ∀ c name Cl, C.fld c name = true → C.cls c = some Cl → zoX C.K Cl ∧ findIn C.K (.ref Cl) (Str.ofString name) = some none
section
variable {C : Cx} {A : Around} {E : Value → Shared → Prop} {σ : Store} {s : Shared} {Q : V → Store → Prop}
theorem zgI (X : CxOk C) (r : Rel C σ s.heap) : C.K.In s.heap := X.inK.keeps r.stays
theorem isStr_iff {n name : String} {t : Tok} : (Value.str (Str.ofString n) t).isStr (Str.ofString name) = true ↔ n = name := by
 show (Str.ofString n == Str.ofString name) = true ↔ _
 rw [beq_iff_eq]
 exact ⟨ofString_inj, fun e => by rw [e]⟩
theorem zi1 {n name : String} {t : Tok} (h : n ≠ name) : (Value.str (Str.ofString n) t).isStr (Str.ofString name) = false := by
 rw [← Bool.not_eq_true]; exact fun e => h (isStr_iff.mp e)
theorem NR.noRef {h : Heap} : ∀ {fs : List (String × V)} {es : List DictEntry}, NR h fs es → es.any (·.refKey) = false
 | [], [], _ => rfl
 | (_, _) :: _, e :: _, ⟨⟨t, ht⟩, _, c⟩ => by
  rw [List.any_cons, NR.noRef c, Bool.or_false]
  unfold DictEntry.refKey; rw [ht]
 | [], _ :: _, f => f.elim
 | _ :: _, [], f => f.elim
theorem NR.find {h : Heap} {name : String} : ∀ {fs : List (String × V)} {es : List DictEntry}, NR h fs es →
  (∀ v, fs.lookup name = some v → ∃ x, getL (Str.ofString name) es = some (some x) ∧ VR h v x) ∧ (fs.lookup name = none → getL (Str.ofString name) es = some none)
 | [], [], _ => ⟨fun v e => (by simp at e), fun _ => rfl⟩
 | (n, u) :: fs, e :: es, ⟨⟨t, ht⟩, b, c⟩ => by
  refine ob14 (NR.find (name := name) c) ?_
  intro h1 h2
  have hr := NR.noRef c
  have hre : e.refKey = false := by unfold DictEntry.refKey; rw [ht]
  by_cases q : n = name
  ·subst q
   have hs : e.key.isStr (Str.ofString n) = true := by rw [ht]; exact isStr_iff.mpr rfl
   refine ⟨fun v hv => ?_, fun hv => ?_⟩
   ·rw [List.lookup_cons, beq_self_eq_true] at hv; cases hv
    exact ⟨e.val, by unfold getL; rw [List.find?_cons, hs], b⟩
   ·rw [List.lookup_cons, beq_self_eq_true] at hv; cases hv
  ·have hs : e.key.isStr (Str.ofString name) = false := by rw [ht]; exact zi1 q
   have hg : getL (Str.ofString name) (e :: es) = getL (Str.ofString name) es := by unfold getL; rw [List.find?_cons, hs, List.any_cons, hre, Bool.false_or]
   have hl : List.lookup name ((n, u) :: fs) = List.lookup name fs := by rw [List.lookup_cons, beq_eq_false_iff_ne.mpr (Ne.symm q)]
   rw [hg, hl]; exact ⟨h1, h2⟩
 | [], _ :: _, f => f.elim
 | _ :: _, [], f => f.elim
theorem NR.put {h : Heap} {name : String} {v : V} {x : Value} {hsh : Int} {t : Tok} (hv : VR h v x) : ∀ {fs : List (String × V)} {es : List DictEntry}, NR h fs es → NR h (putF name v fs) (putL (Str.ofString name) hsh (.str (Str.ofString name) t) x es)
 | [], [], _ => ⟨⟨t, rfl⟩, hv, trivial⟩
 | (n, u) :: fs, e :: es, ⟨⟨t', ht⟩, b, c⟩ => by
  unfold putF putL
  by_cases q : n = name
  ·subst q
   have hs : e.key.isStr (Str.ofString n) = true := by rw [ht]; exact isStr_iff.mpr rfl
   rw [if_pos rfl, if_pos hs]
   exact ⟨⟨t', ht⟩, hv, c⟩
  ·have hs : ¬ e.key.isStr (Str.ofString name) = true := by rw [ht]; exact fun z => q (isStr_iff.mp z)
   rw [if_neg q, if_neg hs]
   exact ⟨⟨t', ht⟩, b, NR.put hv c⟩
 | [], _ :: _, f => f.elim
 | _ :: _, [], f => f.elim
theorem NR.length {h : Heap} : ∀ {fs : List (String × V)} {es : List DictEntry}, NR h fs es → fs.length = es.length
 | [], [], _ => rfl
 | (_, _) :: _, e :: _, ⟨_, _, c⟩ => by simp [NR.length c]
 | [], _ :: _, f => f.elim
 | _ :: _, [], f => f.elim
theorem zfT (name : String) (v : V) : ∀ fs, (putF name v fs).length ≤ fs.length + 1
 | [] => by simp [putF]
 | (n, u) :: r => by
  unfold putF
  split
  ·simp
  ·have := zfT name v r; simp; lia
theorem zgA (name : String) (v : V) : ∀ {fs : List (String × V)}, (fs.map (·.1)).Nodup → ((putF name v fs).map (·.1)).Nodup ∧ ∀ y, y ∈ (putF name v fs).map (·.1) → y = name ∨ y ∈ fs.map (·.1)
 | [], _ => by simp [putF]
 | (n, u) :: r, hn => by
  simp only [List.map_cons, List.nodup_cons] at hn
  refine ob14 (zgA name v hn.2) ?_
  intro h1 h2
  unfold putF
  split
  ·rename_i e
   simp only [List.map_cons, List.nodup_cons]
   exact ⟨hn, fun y hy => by rcases List.mem_cons.mp hy with rfl | hy <;> simp_all⟩
  ·rename_i e
   simp only [List.map_cons, List.nodup_cons, List.mem_cons]
   refine ⟨⟨fun hm => ?_, h1⟩, fun y hy => ?_⟩
   ·rcases h2 _ hm with q | q
    ·exact e q
    ·exact hn.1 q
   ·rcases hy with rfl | hy
    ·exact .inr (.inl rfl)
    ·rcases h2 _ hy with q | q
     ·exact .inl q
     ·exact .inr (.inr q)
theorem zi3 {a d Cl : Addr} {es : List DictEntry} {n : Nat} {h : Heap} (h1 : h.get? a = some (instObj Cl d)) (h2 : h.get? d = some (dictOf es n)) : InstAt h a (instObj Cl d) Cl (some (dictOf es n)) := ⟨h1, rfl, rfl, h2⟩
theorem zlN {v : V} {x : Value} (h : VR s.heap v x) : handedIn x = true := by cases h <;> rfl
theorem zoV {F : String → String → Prop} {u : V} {x : Value} {name : String} {K : V → Prop} {Q' : Value → Shared → Prop} {expr : Bool} (X : CxOk C) (r : Rel C σ s.heap) (hu : VR s.heap u x) (hF : ∀ c, F c name → C.fld c name = true)
  (q : zdw F u name σ K) (h : ∀ z w t, K z → VR s.heap z w → Q' w { s with toks := t }) : wpAny C.M A (getAttr x (Str.ofString name) expr) Q' E s := by
 refine lift fun g9 k9 => ?_
 obtain ⟨a, c, d, fs, rfl, ha, hd, hf, q⟩ := zei q
 refine ob7 (zap q) ?_
 intro v hv q
 cases hu.ref_of
 refine ob7 (r.tr a _ ha) ?_
 intro Cl hc hi
 refine ob1 (r.tr d _ hd) ?_
 intro es n hdo hn _
 refine ob28 (X.flds c name Cl (hF c hf) hc) ?_
 intro k1 k2 k3 k4 k5
 refine ob7 ((NR.find (name := name) hn).1 v hv) ?_
 intro y hy hvy
 refine k9 ?_
 clear k9 g9
 exact get_value (K := C.K) (zgI X r) (zi3 hi hdo) (plainGet_of k1).1 (findObj_own (attr := none) k4 k5 rfl hy) (zlN hvy) (h v y _ q hvy)
theorem zig {a d Cl : Addr} {c name : String} {fs : List (String × V)} {fa : Addr} {pl : Sem Bool} {Q' : Value × List Value → Shared → Prop} (X : CxOk C) (r : Rel C σ s.heap) (ha : σ a = some (.inst c d)) (hd : σ d = some (.ns fs)) (hl : fs.lookup name = none)
  (hfa : C.fn c name = some fa) (hc0 : c ≠ "") (h : Q' (.ref fa, [.ref a]) s) : wpAny C.M A (getMethod (.ref a) (Str.ofString name) pl) Q' E s := by
 refine lift fun g9 k9 => ?_
 refine ob7 (r.tr a _ ha) ?_
 intro Cl hc hi
 refine ob1 (r.tr d _ hd) ?_
 intro es n hdo hn _
 refine ob29 (X.meth c name fa Cl hfa hc0 hc) ?_
 intro k1 k2 k3 k4 k5 k6 _
 refine k9 ?_
 clear k9 g9
 exact method_fn (zgI X r) (zi3 hi hdo) (plainGet_of k1).1 (plainGet_of k1).2 k5 (beq_iff_eq.mp k6) (by show (lookIn _ (dictOf es n)).map _ = _; rw [lookIn_dict, (NR.find (name := name) hn).2 hl]; rfl) h
theorem zkh {F : String → String → Prop} {u v : V} {x y : Value} {name : String} {K : Store → Prop} (X : CxOk C) (r : Rel C σ s.heap) (hu : VR s.heap u x) (hv : VR s.heap v y) (hF : ∀ c, F c name → C.fld c name = true)
  (q : zfy F u name v σ K) : wpAny C.M A (setAttr x (Str.ofString name) y) (fun _ s' => ∃ σ', K σ' ∧ Step C No σ s σ' s') E s := by
 refine lift fun g9 k9 => ?_
 obtain ⟨a, c, d, fs, rfl, ha, hd, ⟨hf, hlen⟩, q⟩ := zei q
 cases hu.ref_of
 refine ob7 (r.tr a _ ha) ?_
 intro Cl hc hi
 refine ob1 (r.tr d _ hd) ?_
 intro es n hdo hn hnd
 refine ob28 (X.flds c name Cl (hF c hf) hc) ?_
 intro k1 k2 k3 k4 k5
 refine k9 ?_
 clear k9 g9
 have hK := zgI X r
 have I := zi3 hi hdo
 refine set_plain hK I k2 (osa_open (s := { s with toks := s.toks + 1 }) (r := none) hK I k3 (by unfold takerIn; rw [k5]; rfl) fun b => ?_)
 refine ob7 (any_some k4) ?_
 intro cd hcc hd'
 have hsb : Heap.SameBut d s.heap (s.heap.update d (Obj.putName (Str.ofString name) (PyData.keyHash C.w.params (Str.ofString name)) (.str (Str.ofString name) (s.toks + 1)) y)) := ⟨Heap.size_update .., fun b hb => Heap.get?_update_other _ _ (Ne.symm hb)⟩
 have D' : (s.heap.update d (Obj.putName (Str.ofString name) (PyData.keyHash C.w.params (Str.ofString name)) (.str (Str.ofString name) (s.toks + 1)) y)).get? d =
   some (dictOf (putL (Str.ofString name) (PyData.keyHash C.w.params (Str.ofString name)) (.str (Str.ofString name) (s.toks + 1)) y es) (putN (Str.ofString name) es n)) := by
  rw [← putName_dict]
  exact Heap.get?_update_self _ hdo (by rw [putName_dict]; rfl)
 have hlen' : (putL (Str.ofString name) (PyData.keyHash C.w.params (Str.ofString name)) (.str (Str.ofString name) (s.toks + 1)) y es).length ≤ 101 := by
  have h1 := (NR.put (hsh := PyData.keyHash C.w.params (Str.ofString name)) (t := s.toks + 1) (name := name) hv hn).length
  have h2 := zfT name v fs
  lia
 have fin : ∀ t, ∃ σ', K σ' ∧ Step C No σ s σ' { s with heap := s.heap.update d (Obj.putName (Str.ofString name) (PyData.keyHash C.w.params (Str.ofString name)) (.str (Str.ofString name) (s.toks + 1)) y), toks := t } := fun t =>
  ⟨_, q, .turn r hd (fun _ e => by cases e) hsb fun k => ⟨_, _, D', (NR.put hv hn).keep k, (zgA name v hnd).1⟩⟩
 refine wpAny_bind (wpAny_pure (wpAny_bind (wpAny_bind (wpAny_loadPart hi (wpAny_bind (Looks.here (s := { s with toks := s.toks + 1 }) (looks_clsIn hK hcc) ?_))))))
 rw [hd']
 refine wpAny_pure (a := some d) (wpAny_bind (wpAny_pure (wpAny_bind ?_)))
 unfold nsSet
 refine wpAny_bind (wpAny_bind (wpAny_askSetting (wpAny_pure (wpAny_bind (wpAny_mkText (wpAny_bind (wpAny_loadPart hdo ?_)))))))
 have cc : (!es.toArray.any (·.key.isStr (Str.ofString name)) && es.toArray.any (·.refKey)) = false := by
  rw [← Array.any_toList, ← Array.any_toList]
  simp only [hn.noRef, Bool.and_false]
 dsimp only
 rw [aRefKeyMayBeTheName_at, cc]
 refine wpAny_updatePart hdo ?_
 refine wpAny_bind (wpAny_lookBehind D' (pastItsLine_dict (by rw [List.size_toArray, sizeLine_eq]; lia)) ?_)
 exact wpAny_pure (fin _)
end
end Mine.Internal
end
section
namespace Mine.Internal
open PySem PySem.W PySem.Calls PyProof.Rows
structure EnvS (S : Sc) (env : Env) : Prop extends EnvOk env where
 names : env.scope.names = S.names
 nm : NmOk S.nm S.size
 cells : ∀ x, (S.names.lookup x = some .cell ∨ S.names.lookup x = some .free) → (env.cells.lookup x).isSome = true
theorem EnvS.kindOf {S : Sc} {env : Env} (h : EnvS S env) (x : Str) : env.kindOf x = S.names.lookup x := by unfold Env.kindOf; rw [h.names]
structure Dyn (C : Cx) (k : Nat) (md : Bool) (S : Sc) (A : Around) (env : Env) (ρ : Loc) (σ : Store) (s : Shared) : Prop where
 a : AOk C (k + 1) md A σ s.heap
 r : Rel C σ s.heap
 l : LR C σ s.heap env S.nm ρ
 len : ρ.length = S.size
structure ARun (C : Cx) (k : Nat) (md : Bool) (A : Around) (σ : Store) (h : Heap) : Prop where
 frames : FramesOk C A σ h
 handled : md = true → A.handled = none
 depth : A.depth + 3 * k + 1 < 990
 units : A.units + 40 * k + 10 < 9000
structure CallsOk (C : Cx) (k : Nat) (md : Bool) (Φ : Calls) : Prop where
 dom : ∀ c f, Φ.has c f = true → ∃ a, C.fn c f = some a
 fld : ∀ c f, Φ.fld c f → C.fld c f = true
 run : ∀ {c f : String} {a : Addr} {vs : List V} {xs : List Value} {σ : Store} {s : Shared} {A : Around} {Q : V → Store → Prop} {X : XP}, C.fn c f = some a → ARun C k md A σ s.heap → Rel C σ s.heap → VRs s.heap vs xs → Φ.run c f vs σ Q X →
  codeAny C.M A (.call (.ref a) ⟨xs, []⟩) (fun r s' => match r with | .ok (.ret v) => PostV C σ s Q v s' | .ok _ => False | .error e => PostX C σ s X e s') s
structure Sur (C : Cx) (k : Nat) (md : Bool) (Φ : Calls) (S : Sc) (env : Env) : Prop where
 X : CxOk C
 ca : CallsOk C k md Φ
 ev : EnvS S env
noncomputable def EvP (C : Cx) (e : Ex) : Prop := ∀ {k : Nat} {md : Bool} {Φ : Calls} {S : Sc} {x : Expr} {env : Env} {A : Around} {ρ : Loc} {σ : Store} {s : Shared} {Q : V → Store → Prop} {X : XP},
 Sur C k md Φ S env → Dyn C k md S A env ρ σ s → zau S e x = true → wpE Φ md e ρ σ Q X → wpAny C.M A (eval x env) (PostV C σ s Q) (PostX C σ s X) s
noncomputable def zkR (C : Cx) (σ : Store) (s : Shared) (Q : V → Store → Prop) : Bool → Shared → Prop := fun b s' => ∃ V σ', Q V σ' ∧ Mine.Internal.truthy σ' V = some b ∧ Step C No σ s σ' s'
noncomputable def TrP (C : Cx) (e : Ex) : Prop := ∀ {k : Nat} {md : Bool} {Φ : Calls} {S : Sc} {x : Expr} {env : Env} {A : Around} {ρ : Loc} {σ : Store} {s : Shared} {Q : V → Store → Prop} {X : XP},
 Sur C k md Φ S env → Dyn C k md S A env ρ σ s → zau S e x = true → wpE Φ md e ρ σ Q X → (∀ V σ', Q V σ' → ∃ b, Mine.Internal.truthy σ' V = some b) → wpAny C.M A (isTrue x env (eval x env)) (zkR C σ s Q) (PostX C σ s X) s
noncomputable def zpO (C : Cx) (σ : Store) (s : Shared) (Q : List V → Store → Prop) : List Value → Shared → Prop := fun xs s' => ∃ vs σ', Q vs σ' ∧ VRs s'.heap vs xs ∧ Step C No σ s σ' s'
noncomputable def EvsP (C : Cx) (es : Exs) : Prop := ∀ {k : Nat} {md : Bool} {Φ : Calls} {S : Sc} {xs : List Expr} {env : Env} {A : Around} {ρ : Loc} {σ : Store} {s : Shared} {Q : List V → Store → Prop} {X : XP} {pos : Pos},
 Sur C k md Φ S env → Dyn C k md S A env ρ σ s → za8 S es xs = true → wpEs Φ md es ρ σ Q X → wpAny C.M A (spliced (backTo pos (starEach xs env))) (zpO C σ s Q) (PostX C σ s X) s
noncomputable def EvoP (C : Cx) (o : ExO) : Prop := ∀ {k : Nat} {md : Bool} {Φ : Calls} {S : Sc} {x : Option Expr} {env : Env} {A : Around} {ρ : Loc} {σ : Store} {s : Shared} {Q : V → Store → Prop} {X : XP},
 Sur C k md Φ S env → Dyn C k md S A env ρ σ s → zfY S o x = true → wpO Φ md o ρ σ Q X → wpAny C.M A (evalPart x env) (PostV C σ s Q) (PostX C σ s X) s
section
variable {C : Cx} {k : Nat} {md : Bool} {Φ : Calls} {S : Sc} {env : Env} {A : Around} {ρ : Loc} {σ σ₁ : Store} {s s₁ : Shared} {X : XP} {Q : V → Store → Prop}
theorem Dyn.step {σ' : Store} {s' : Shared} (d : Dyn C k md S A env ρ σ s) (st : Step C No σ s σ' s') : Dyn C k md S A env ρ σ' s' := ⟨d.a.step st, st.rel, d.l.step st, d.len⟩
theorem seqE {t : Sem Value} {Q₁ : V → Store → Prop} {K : Value → Shared → Prop} (st : Step C No σ s σ₁ s₁) (h : wpAny C.M A t (PostV C σ₁ s₁ Q₁) (PostX C σ₁ s₁ X) s₁)
  (k : ∀ v V σ₂ s₂, Q₁ V σ₂ → VR s₂.heap V v → Step C No σ₁ s₁ σ₂ s₂ → Step C No σ s σ₂ s₂ → K v s₂) : wpAny C.M A t K (PostX C σ s X) s₁ :=
 wpAny_mono h (fun v s₂ ⟨V, σ₂, q, hv, st₂⟩ => k v V σ₂ s₂ q hv st₂ (st.trans st₂)) fun _ _ hx => hx.from st
theorem seqL {t : Sem (List Value)} {Q₁ : List V → Store → Prop} {K : List Value → Shared → Prop} (st : Step C No σ s σ₁ s₁) (h : wpAny C.M A t (zpO C σ₁ s₁ Q₁) (PostX C σ₁ s₁ X) s₁)
  (k : ∀ v V σ₂ s₂, Q₁ V σ₂ → VRs s₂.heap V v → Step C No σ₁ s₁ σ₂ s₂ → Step C No σ s σ₂ s₂ → K v s₂) : wpAny C.M A t K (PostX C σ s X) s₁ :=
 wpAny_mono h (fun v s₂ ⟨V, σ₂, q, hv, st₂⟩ => k v V σ₂ s₂ q hv st₂ (st.trans st₂)) fun _ _ hx => hx.from st
theorem seqB {t : Sem Bool} {Q₁ : V → Store → Prop} {K : Bool → Shared → Prop} (st : Step C No σ s σ₁ s₁) (h : wpAny C.M A t (zkR C σ₁ s₁ Q₁) (PostX C σ₁ s₁ X) s₁)
  (k : ∀ b V σ₂ s₂, Q₁ V σ₂ → Mine.Internal.truthy σ₂ V = some b → Step C No σ₁ s₁ σ₂ s₂ → Step C No σ s σ₂ s₂ → K b s₂) : wpAny C.M A t K (PostX C σ s X) s₁ :=
 wpAny_mono h (fun v s₂ ⟨V, σ₂, q, hv, st₂⟩ => k v V σ₂ s₂ q hv st₂ (st.trans st₂)) fun _ _ hx => hx.from st
theorem fin {s₂ : Shared} {t : Sem Value} {E : Value → Shared → Prop} (st : Step C No σ s σ₁ s₁) (h : wpAny C.M A t (PostV C σ₁ s₁ Q) E s₂) : wpAny C.M A t (PostV C σ s Q) E s₂ :=
 wpAny_mono h (fun _ _ hx => hx.from st) fun _ _ hx => hx
theorem Sc.var_elim {id : Str} {i : Nat} (h : S.var id i = true) : ∃ x, id = Str.ofString x ∧ S.nm.lookup x = some i ∧ (S.names.lookup id = some .local ∨ S.names.lookup id = some .cell ∨ S.names.lookup id = some .free) ∧
  (id == ("__debug__" : Str)) = false ∧ (id == ("__classdict__" : Str)) = false := by
 unfold Sc.var at h
 simp only [Bool.and_eq_true, Bool.not_eq_true', List.any_eq_true, Bool.or_eq_true, beq_iff_eq, decide_eq_true_eq] at h
 refine ob30 h ?_
 clear h
 intro p hp h1 h2 h3 h4 h5
 exact ⟨p.1, h1.symm, h2, by rcases h3 with (h3 | h3) | h3; exact .inl h3; exact .inr (.inl h3); exact .inr (.inr h3), h4, h5⟩
theorem Sc.own_elim {id : Str} {i : Nat} (h : S.own id i = true) : ∃ x, id = Str.ofString x ∧ S.nm.lookup x = some i ∧ (S.names.lookup id = some .local ∨ S.names.lookup id = some .cell) := by
 unfold Sc.own at h
 simp only [Bool.and_eq_true, List.any_eq_true, Bool.or_eq_true, beq_iff_eq, decide_eq_true_eq] at h
 refine ob31 h ?_
 clear h
 intro p hp h1 h2 h3
 exact ⟨p.1, h1.symm, h2, h3⟩
theorem Sc.glb_elim {id : Str} {x : String} (h : S.glb id x = true) : id = Str.ofString x ∧ S.names.lookup id = some .globalImplicit ∧ (id == ("__debug__" : Str)) = false := by
 unfold Sc.glb at h
 simp only [Bool.and_eq_true, Bool.not_eq_true', beq_iff_eq, decide_eq_true_eq] at h
 exact ⟨h.1.1, h.1.2, h.2⟩
theorem g_at (X : CxOk C) (r : Rel C σ s.heap) : s.heap.Ns mainGlobals C.mg := X.g.keeps r.stays
theorem b_at (X : CxOk C) (r : Rel C σ s.heap) : s.heap.Ns builtinsNs C.mb := X.b.keeps r.stays
theorem zlQ {id : Str} {x : String} {v : Value} {pos : Pos} {K : Value → Shared → Prop} {E : Value → Shared → Prop} (U : Sur C k md Φ S env) (r : Rel C σ s.heap) (h : S.glb id x = true) (hv : C.mg (Str.ofString x) = some v) (q : K v s) :
  wpAny C.M A (eval (.Name id pos) env) K E s := by
 refine ob16 (Sc.glb_elim h) ?_
 intro ee67
 subst ee67
 intro h1 h2
 refine Name_function_global U.ev.kind (by rw [U.ev.kindOf]; exact h1) (loadGlobal_global (mg := C.mg) ?_ hv q) h2
 rw [U.ev.globals]; exact g_at U.X r
theorem zeC {id : Str} {x : String} {v : Value} {pos : Pos} {K : Value → Shared → Prop} {E : Value → Shared → Prop} (U : Sur C k md Φ S env) (r : Rel C σ s.heap) (h : S.glb id x = true) (hv : (x, v) ∈ bNames) (q : K v s) :
  wpAny C.M A (eval (.Name id pos) env) K E s := by
 refine ob16 (Sc.glb_elim h) ?_
 intro ee68
 subst ee68
 intro h1 h2
 refine ob14 (U.X.bn x v hv) ?_
 intro h3 h4
 refine Name_function_global U.ev.kind (by rw [U.ev.kindOf]; exact h1) (loadGlobal_builtin (mg := C.mg) (mb := C.mb) ?_ h3 ?_ h4 q) h2
 ·rw [U.ev.globals]; exact g_at U.X r
 ·rw [U.ev.builtins]; exact b_at U.X r
theorem zjd (d : Dyn C k md S A env ρ σ s) : A.units + 16 < cLine := by
 have := d.a.units
 have e : cLine = 9000 ∨ 9000 ≤ cLine := by decide
 rcases e with e | e <;> lia
theorem zlk {u : V} {x : Value} {b : Bool} {K : Value → Shared → Prop} {E : Value → Shared → Prop} (hu : VR s.heap u x) (e : Mine.Internal.truthy σ u = some b) (h : K (.bool (!b)) s) : wpAny C.M A (unaryOp .Not x) K E s := by
 unfold unaryOp
 refine wpAny_holding ?_
 dsimp only
 rw [if_pos (by decide)]
 exact wpAny_bind (zfJ hu e (wpAny_pure h))
/- simple expressions -/
theorem zou : EvP C .none := by
 intro k md Φ S x env A ρ σ s Q X U d hm h
 dsimp only [za1] at h
 refine cME hm ?_
 intro c kk p hm
 cases of_decide_eq_true hm
 ·exact wpAny_Constant_none (.now d.r h .none)
theorem zp4 : EvP C .tt := by
 intro k md Φ S x env A ρ σ s Q X U d hm h
 dsimp only [E_tt] at h
 refine cME hm ?_
 intro c kk p hm
 cases of_decide_eq_true hm
 ·exact wpAny_Constant_bool (.now d.r h .bool)
theorem zp7 : EvP C .ff := by
 intro k md Φ S x env A ρ σ s Q X U d hm h
 dsimp only [E_ff] at h
 refine cME hm ?_
 intro c kk p hm
 cases of_decide_eq_true hm
 ·exact wpAny_Constant_bool (.now d.r h .bool)
theorem zpx {i : Int} : EvP C (.int i) := by
 intro k md Φ S x env A ρ σ s Q X U d hm h
 dsimp only [zaL] at h
 refine cME hm ?_
 intro c kk p hm
 ·cases of_decide_eq_true hm
  exact wpAny_Constant_int (.tok d.r h .int)
theorem zpu {i : Nat} : EvP C (.var i) := by
 intro k md Φ S x env A ρ σ s Q X U d hm h
 dsimp only [zam] at h
 refine nmME hm ?_
 intro id p hm
 ·refine ob32 (Sc.var_elim hm) ?_
  intro x ee69
  subst ee69
  intro h1 h2 h3 h4
  refine ob7 (zap h) ?_
  intro v hv q
  refine zls U.ev.toEnvOk d.l h1 hv ?_ h3 h4 fun u hu => .now d.r q hu
  rw [U.ev.kindOf]; exact h2
theorem zoz {g : String} : EvP C (.glob g) := by
 intro k md Φ S x env A ρ σ s Q X U d hm h
 dsimp only [zfv] at h
 refine nmME hm ?_
 intro id p hm
 ·refine ob7 (zap h) ?_
  intro i hi q
  refine ob12 (U.X.glob g i hi) ?_
  intro t ht
  exact zlQ U d.r hm ht (.now d.r q .int)
theorem zpA {op : Operator} {a b : Ex} (ha : EvP C a) (hb : EvP C b) : EvP C (.bin op a b) := by
 intro k md Φ S x env A ρ σ s Q X U d hm h
 dsimp only [zbX] at h
 refine biME hm ?_
 intro l op' r p hm
 ·simp only [Bool.and_eq_true, decide_eq_true_eq] at hm
  refine ob33 hm ?_
  clear hm
  intro ee70
  subst ee70
  intro h1 h2
  refine wpAny_BinOp (seqE (.refl d.r) (ha U d h1 h) fun x u σ₁ s₁ q hu _ st => seqE st (hb U (d.step st) h2 q) fun y v σ₂ s₂ q hv st₂ st' => fin st' ?_)
  exact zpH st'.rel (st₂.vr hu) hv q
theorem zpw {a : Ex} (ha : EvP C a) : EvP C (.neg a) := by
 intro k md Φ S x env A ρ σ s Q X U d hm h
 dsimp only [zd2] at h
 refine unME hm ?_
 intro op l p hm
 simp only [Bool.and_eq_true, decide_eq_true_eq] at hm
 refine ob14 hm ?_
 clear hm
 intro ee71
 subst ee71
 intro hm
 ·refine wpAny_UnaryOp (seqE (.refl d.r) (ha U d hm h) fun x u σ₁ s₁ q hu _ st => fin st ?_)
  refine ob7 (zbc q) ?_
  intro i ee72
  subst ee72
  intro q
  refine ob12 hu.int_of ?_
  intro t ee73
  subst ee73
  exact neg_int (.tok st.rel q .int)
theorem zpv {a : Ex} (ha : EvP C a) : EvP C (.not a) := by
 intro k md Φ S x env A ρ σ s Q X U d hm h
 dsimp only [zb9] at h
 refine unME hm ?_
 intro op l p hm
 simp only [Bool.and_eq_true, decide_eq_true_eq] at hm
 refine ob14 hm ?_
 clear hm
 intro ee74
 subst ee74
 intro hm
 ·refine wpAny_UnaryOp (seqE (.refl d.r) (ha U d hm h) fun x u σ₁ s₁ q hu _ st => fin st ?_)
  refine ob7 (zap q) ?_
  intro b hb q
  exact zlk hu hb (.now st.rel q .bool)
theorem zpz {op : CmpOp} {a b : Ex} (ha : EvP C a) (hb : EvP C b) : EvP C (.cmp op a b) := by
 intro k md Φ S x env A ρ σ s Q X U d hm h
 dsimp only [zaM] at h
 refine zpE hm ?_
 intro l op' r p hm
 ·simp only [Bool.and_eq_true, decide_eq_true_eq] at hm
  refine ob33 hm ?_
  clear hm
  intro ee75
  subst ee75
  intro h1 h2
  refine wpAny_Compare1 (seqE (.refl d.r) (ha U d h1 h) fun x u σ₁ s₁ q hu _ st => seqE st (hb U (d.step st) h2 q) fun y v σ₂ s₂ q hv st₂ st' => fin st' ?_) (zfA h2)
  refine ob7 (zap q) ?_
  intro c hc q
  exact zgO U.X.nolimit (zjd d) st'.rel (st₂.vr hu) hv hc fun t => .tok st'.rel q .bool
theorem zpS {e : Ex} {x : Expr} (he : EvP C e) (U : Sur C k md Φ S env) (d : Dyn C k md S A env ρ σ s) (hm : zau S e x = true) (h : wpE Φ md e ρ σ Q X) (hq : ∀ V σ', Q V σ' → ∃ b, Mine.Internal.truthy σ' V = some b)
  (hx : isTrue x env (eval x env) = (do let v ← eval x env; standAt x.pos; holding [v] (PySem.truthy v))) : wpAny C.M A (isTrue x env (eval x env)) (zkR C σ s Q) (PostX C σ s X) s := by
 refine wpAny_isTrue_value (seqE (.refl d.r) (he U d hm h) fun x u σ₁ s₁ q hu _ st => ?_) hx
 refine ob12 (hq _ _ q) ?_
 intro b hb
 exact zfJ hu hb ⟨u, σ₁, q, hb, st⟩
theorem zoZ {a : Ex} (ha : TrP C a) : TrP C (.not a) := by
 intro k md Φ S x env A ρ σ s Q X U d hm h hq
 dsimp only [zb9] at h
 refine unME hm ?_
 intro op l p hm
 simp only [Bool.and_eq_true, decide_eq_true_eq] at hm
 refine ob14 hm ?_
 clear hm
 intro ee76
 subst ee76
 intro hm
 ·refine wpAny_isTrue_Not (seqB (.refl d.r) (ha U d hm h fun V σ' q => ?_) fun b V σ₁ s₁ q hb _ st => ?_)
  ·refine ob7 (zap q) ?_
   intro b hb _
   exact ⟨b, hb⟩
  ·refine ob7 (zap q) ?_
   intro b' hb' q
   rw [hb] at hb'; cases hb'
   exact ⟨.bool (!b), σ₁, q, rfl, st⟩
theorem zo0 {op : CmpOp} {a b : Ex} (ha : EvP C a) (hb : EvP C b) : TrP C (.cmp op a b) := by
 intro k md Φ S x env A ρ σ s Q X U d hm h hq
 dsimp only [zaM] at h
 refine zpE hm ?_
 intro l op' r p hm
 ·simp only [Bool.and_eq_true, decide_eq_true_eq] at hm
  refine ob33 hm ?_
  clear hm
  intro ee77
  subst ee77
  intro h1 h2
  refine wpAny_isTrue_Compare1 (seqE (.refl d.r) (ha U d h1 h) fun x u σ₁ s₁ q hu _ st => seqE st (hb U (d.step st) h2 q) fun y v σ₂ s₂ q hv st₂ st' => ?_) (zfA h2)
  refine ob7 (zap q) ?_
  intro c hc q
  exact zgO U.X.nolimit (zjd d) st'.rel (st₂.vr hu) hv hc fun t => wpAny_truthy_bool ⟨.bool c, σ₂, q, rfl, st'.trans (.toks st'.rel t)⟩
theorem zoB {o₁ o₂ : CmpOp} {a b c : Ex} (ha : EvP C a) (hb : EvP C b) (hc : EvP C c) : EvP C (.cmp2 o₁ o₂ a b c) := by
 intro k md Φ S x env A ρ σ s Q X U d hm h
 dsimp only [zfw] at h
 refine zpD hm ?_
 intro l p₁ p₂ m r p hm
 ·simp only [Bool.and_eq_true, decide_eq_true_eq] at hm
  refine ob34 hm ?_
  clear hm
  intro ee78
  subst ee78
  intro ee79
  subst ee79
  intro h1 h2 h3
  refine Compare_chain (seqE (.refl d.r) (ha U d h1 h) fun x u σ₁ s₁ q hu _ st => chain_link (seqE st (hb U (d.step st) h2 q) fun y v σ₂ s₂ q hv st₂ st' => ?_)) (by show behindInMarks _ _ = false; exact zfA h3)
  refine ob7 (zap q) ?_
  intro r hr q
  refine zgO U.X.nolimit (zjd d) st'.rel (st₂.vr hu) hv hr fun t => wpAny_truthy_bool ?_
  have st3 := st'.trans (.toks st'.rel t)
  cases r with
  | false => exact ⟨.bool false, σ₂, q, .bool, st3⟩
  | true =>
   refine chain_last (seqE st3 (hc U (d.step st3) h3 q) fun z w σ₃ s₃ q hw st₃ st' => fin st' ?_)
   refine ob7 (zap q) ?_
   intro r hr q
   exact zgO U.X.nolimit (zjd d) st'.rel (st₃.vr (Step.vr (.toks (D := No) st3.rel t) hv)) hw hr fun t => .tok st'.rel q .bool
theorem znK {o₁ o₂ : CmpOp} {a b c : Ex} (ha : EvP C a) (hb : EvP C b) (hc : EvP C c) : TrP C (.cmp2 o₁ o₂ a b c) := by
 intro k md Φ S x env A ρ σ s Q X U d hm h hq
 dsimp only [zfw] at h
 refine zpD hm ?_
 intro l p₁ p₂ m r p hm
 ·simp only [Bool.and_eq_true, decide_eq_true_eq] at hm
  refine ob34 hm ?_
  clear hm
  intro ee80
  subst ee80
  intro ee81
  subst ee81
  intro h1 h2 h3
  refine isTrue_chain (seqE (.refl d.r) (ha U d h1 h) fun x u σ₁ s₁ q hu _ st => test_link (seqE st (hb U (d.step st) h2 q) fun y v σ₂ s₂ q hv st₂ st' => ?_)) (by show behindInMarks _ _ = false; exact zfA h3)
  refine ob7 (zap q) ?_
  intro r hr q
  refine zgO U.X.nolimit (zjd d) st'.rel (st₂.vr hu) hv hr fun t => wpAny_truthy_bool ?_
  have st3 := st'.trans (.toks st'.rel t)
  cases r with
  | false => exact ⟨.bool false, σ₂, q, rfl, st3⟩
  | true =>
   refine test_last (seqE st3 (hc U (d.step st3) h3 q) fun z w σ₃ s₃ q hw st₃ st' => ?_)
   refine ob7 (zap q) ?_
   intro r hr q
   exact zgO U.X.nolimit (zjd d) st'.rel (st₃.vr (Step.vr (.toks (D := No) st3.rel t) hv)) hw hr fun t => wpAny_truthy_bool ⟨.bool r, σ₃, q, rfl, st'.trans (.toks st'.rel t)⟩
theorem evs_nil : EvsP C .nil := by
 intro k md Φ S xs env A ρ σ s Q X pos U d hm h
 cases xs with
 | nil => simp only [zar, zal] at h; exact args_nil ⟨[], σ, h, .nil, .refl d.r⟩
 | cons _ _ => simp [zbw, zbx, zby, zbz] at hm
theorem zna {e : Ex} {es : Exs} (he : EvP C e) (hs : EvsP C es) : EvsP C (.cons e es) := by
 intro k md Φ S xs env A ρ σ s Q X pos U d hm h
 cases xs with
 | nil => simp [zbw, zbx, zby, zbz] at hm
 | cons x xs =>
  simp only [zbw, zbx, zby, zbz, Bool.and_eq_true] at hm; simp only [zar, zal] at h
  refine args_cons (seqE (.refl d.r) (he U d hm.1 h) fun y u σ₁ s₁ q hu _ st => seqL st (hs U (d.step st) hm.2 q) fun ys vs σ₂ s₂ q hv st₂ st' => ⟨_, σ₂, q, .cons (st₂.vr hu) hv, st'⟩) (zbD hm.1)
theorem zhy {pos : Pos} : ∀ {es : Exs} {xs : List Expr}, za8 S es xs = true → (backTo pos (starEach xs env)).any (·.1) = false
 | .nil, [], _ => rfl
 | .cons e es, x :: xs, h => by
  simp only [zbw, zbx, zby, zbz, Bool.and_eq_true] at h
  rw [zbD h.1]
  show (false || (backTo pos (starEach xs env)).any (·.1)) = false
  rw [zhy (es := es) h.2]; rfl
 | .nil, _ :: _, h => by simp [zbw, zbx, zby, zbz] at h
 | .cons _ _, [], h => by simp [zbw, zbx, zby, zbz] at h
theorem zl7 {es : Exs} {xs : List Expr} {f : Value} {pos : Pos} {K : Args → Shared → Prop} {E : Value → Shared → Prop} (hm : za8 S es xs = true) (h : wpAny C.M A (spliced (backTo pos (starEach xs env))) (fun vs s' => K ⟨vs, []⟩ s') E s) :
  wpAny C.M A (evalArgs f true (backTo pos (starEach xs env)) []) K E s := by
 cases xs with
 | nil =>
  unfold evalArgs
  first
   | exact wpAny_bind (wpAny_mono h (fun vs s' h' => wpAny_holding (wpAny_bind (wpAny_pure (wpAny_bind (wpAny_pure (wpAny_pure h')))))) fun _ _ e => e)
   | exact wpAny_bind (wpAny_mono h (fun vs s' h' => wpAny_bind (wpAny_pure (wpAny_holding (wpAny_bind (wpAny_pure (wpAny_bind (wpAny_pure (wpAny_pure h')))))))) fun _ _ e => e)
 | cons x xs =>
  cases es with
  | nil => simp [zbw, zbx, zby, zbz] at hm
  | cons e es =>
   simp only [zbw, zbx, zby, zbz, Bool.and_eq_true] at hm
   rw [zbD hm.1] at h ⊢
   exact evalArgs_plain h
theorem Dyn.run (d : Dyn C k md S A env ρ σ s) : ARun C k md A σ s.heap := by
 refine lift fun g9 k9 => ?_
 obtain ⟨a1, a2, a3, a4⟩ := d.a
 refine k9 ?_
 clear k9 g9
 exact ⟨a1, a2, by lia, by lia⟩
theorem zoC {f : String} {es : Exs} (hs : EvsP C es) : EvP C (.call f es) := by
 intro k md Φ S x env A ρ σ s Q X U d hm h
 dsimp only [zaB] at h
 replace h := zex h
 refine ncME hm ?_
 intro id p xs pos hm
 ·simp only [Bool.and_eq_true] at hm
  refine ob12 (U.ca.dom _ _ h.1) ?_
  intro a ha
  refine ob35 (U.X.fnG f a ha) ?_
  intro hg o fd ho hd
  refine Call_Name rfl (zlQ U d.r hm.1 hg (callWith_function (o := o) (fd := fd) (zl7 hm.2 (seqL (.refl d.r) (hs U d hm.2 h.2) fun xs vs σ₁ s₁ q hv _ st => ⟨⟨st.rel.stays a o ho, hd⟩, ?_⟩))))
  refine wpAny_mono (wpAny_call (U.ca.run ha (d.step st).run st.rel hv q)) (fun _ _ hx => hx.from st) fun _ _ hx => hx.from st
theorem zov {o : Ex} {name : String} {es : Exs} (ho : EvP C o) (hs : EvsP C es) : EvP C (.meth o name es) := by
 intro k md Φ S x env A ρ σ s Q X U d hm h
 dsimp only [zbO] at h
 refine acME hm ?_
 intro x id apos xs pos hm
 ·simp only [Bool.and_eq_true, decide_eq_true_eq] at hm
  refine ob36 hm ?_
  clear hm
  intro ee82
  subst ee82
  intro hline hb hlen h1 h2
  rw [arm_eval_Call, zhw hb]
  refine wpAny_bind (seqE (.refl d.r) (ho U d h1 h) fun y u σ₁ s₁ q hu _ st => wpAny_bind (wpAny_standAt ?_))
  refine lift fun g9 k9 => ?_
  obtain ⟨a, c, dd, fs, rfl, ha, hd, ⟨hl, hh⟩, q⟩ := zei q
  refine ob12 (U.ca.dom _ _ hh) ?_
  intro fa hfa
  cases hu.ref_of
  refine ob7 (st.rel.tr a _ ha) ?_
  intro Cl hcl hi
  refine k9 ?_
  clear k9 g9
  have hne : c ≠ "" := fun e => by rw [e, U.X.clsNe] at hcl; cases hcl
  refine ob37 (U.X.meth c name fa Cl hfa hne hcl) ?_
  intro _ _ _ ob fd hob hdat
  have hform : methodCallForm (xs.length + ([] : List Keyword).length) (backTo pos (starEach xs env)) (backToKw pos (keywordEach [] env)) = true := by
   unfold methodCallForm
   have := zhy (env := env) (pos := pos) (es := es) h2
   have h0 : (backTo pos (starEach xs env)).all (fun x => !x.1) = true := by
    rw [List.all_eq_true]
    intro y hy
    rw [List.any_eq_false] at this
    simpa using this y hy
   rw [h0]
   simp only [List.length_nil, Nat.add_zero, Bool.true_and, Bool.and_eq_true, decide_eq_true_eq]
   exact ⟨rfl, hlen⟩
  have hpos : methodCallPos true x env apos pos = pure pos := by unfold methodCallPos; rw [hline]; rfl
  unfold methodCall
  rw [hform]
  refine wpAny_bind (wpAny_holding ?_)
  show wpAny _ _ (getMethod _ _ _) _ _ _
  refine zig (Cl := Cl) U.X st.rel ha hd hl hfa hne ?_
  refine wpAny_bind (wpAny_of_eq hpos ?_)
  refine callWith_function (o := ob) (fd := fd) (zl7 h2 (seqL st (hs U (d.step st) h2 q) fun xs vs σ₂ s₂ q hv st₂ st' => ⟨⟨st'.rel.stays fa ob hob, hdat⟩, ?_⟩))
  exact wpAny_mono (wpAny_call (U.ca.run hfa (d.step st').run st'.rel (.cons .ref hv) q)) (fun _ _ hx => hx.from st') fun _ _ hx => hx.from st'
theorem zht {es : Exs} {xs : List Expr} {Cl : Addr} {pos : Pos} {K : Value → Shared → Prop} {E : Value → Shared → Prop} (hK : C.K.In s.heap) (hk : keepIn C.K (.ref Cl) = true) (hm : za8 S es xs = true)
  (h : wpAny C.M A (spliced (backTo pos (starEach xs env))) (fun vs s₁ => C.K.In s₁.heap ∧ wpAny C.M A (call (.ref Cl) vs) K E s₁) E s) : wpAny C.M A (callWith pos (.ref Cl) [] (backTo pos (starEach xs env)) []) K E s := by
 cases xs with
 | nil => exact callWith_K0 hK hk (fun Γ p hΓ => ((h Γ p hΓ : C.K.In s.heap ∧ wpAny C.M A (call (.ref Cl) []) K E s)).2 Γ p hΓ)
 | cons x xs =>
  cases es with
  | nil => simp [zbw, zbx, zby, zbz] at hm
  | cons e es =>
   have hm' := hm
   simp only [zbw, zbx, zby, zbz, Bool.and_eq_true] at hm
   exact callWith_K hK hk h (zbD hm.1) (zhy hm.2)
theorem zow {c : String} {es : Exs} (hs : EvsP C es) : EvP C (.make c es) := by
 intro k md Φ S x env A ρ σ s Q X U d hm h
 dsimp only [zee] at h
 replace h := zex h
 refine ncME hm ?_
 intro id p xs pos hm
 ·simp only [Bool.and_eq_true, decide_eq_true_eq] at hm
  refine lift fun g9 k9 => ?_
  refine ob12 (U.ca.dom _ _ h.1) ?_
  intro fa hfa
  refine ob33 hm ?_
  clear hm
  intro hne hg hmm
  refine ob32 (U.X.made c fa hfa hne) ?_
  intro Cl hcl hkp hmk hfi hty
  refine k9 ?_
  clear k9 g9
  refine Call_Name rfl (zlQ U d.r hg (U.X.clsG c Cl hcl) (zht (zgI U.X d.r) hkp hmm (seqL (.refl d.r) (hs U d hmm h.2) fun xs vs σ₁ s₁ q hv _ st => ⟨zgI U.X st.rel, ?_⟩)))
  refine lift fun g9 k9 => ?_
  obtain ⟨hh, g, dr, tk, os⟩ := s₁
  refine k9 ?_
  clear k9 g9
  have hK : C.K.In hh := zgI U.X st.rel
  refine wpAny_call (make_core (makes_of hK hmk) (looks_findIn hK hfi) (fun self => bind_fn hK self hty) (.inl rfl) ?_)
  have hsz : (hh.push emptyDict).objs.size = hh.objs.size + 1 := Heap.size_push ..
  have st1 : Step C No σ₁ ⟨hh, g, dr, tk, os⟩ (σ₁.upd hh.objs.size (.ns [])) ⟨hh.push emptyDict, g, dr, tk, os⟩ :=
   Step.alloc (s := ⟨hh, g, dr, tk, os⟩) (t := tk) st.rel zak zaI (Nat.le_refl _) ⟨[], 0, Heap.get?_push_size _ rfl, trivial, .nil⟩
  have st2 : Step C No (σ₁.upd hh.objs.size (.ns [])) ⟨hh.push emptyDict, g, dr, tk, os⟩ ((σ₁.upd hh.objs.size (.ns [])).upd (hh.objs.size + 1) (.inst c hh.objs.size)) ⟨(hh.push emptyDict).push (instObj Cl hh.objs.size), g, dr, tk, os⟩ :=
   Step.alloc (s := ⟨hh.push emptyDict, g, dr, tk, os⟩) (t := tk) st1.rel zak zaI (by rw [hsz]; exact Nat.le_refl _) ⟨Cl, hcl, by rw [← hsz]; exact Heap.get?_push_size _ rfl⟩
  have st12 := st1.trans st2
  have hq := q (hh.objs.size + 1) hh.objs.size (st.rel.none_of_ge (Nat.le_succ _)) (st.rel.none_of_ge (Nat.le_refl _)) (Nat.succ_ne_self _)
  have a' := (d.step (st.trans st12)).a
  have ar : ARun C k md (A.under (.builtin "type.__call__" ⟨.ref Cl :: xs, []⟩)) ((σ₁.upd hh.objs.size (.ns [])).upd (hh.objs.size + 1) (.inst c hh.objs.size)) ((hh.push emptyDict).push (instObj Cl hh.objs.size)) := by
   refine lift fun g9 k9 => ?_
   obtain ⟨a1, a2, a3, a4⟩ := a'
   refine k9 ?_
   clear k9 g9
   refine ⟨a1, a2, ?_, ?_⟩
   ·show A.depth + 1 + 3 * k + 1 < 990; lia
   ·show A.units + (1 + 3 * (Code.builtin "type.__call__" ⟨.ref Cl :: xs, []⟩).frames) + 40 * k + 10 < 9000
    have : (Code.builtin "type.__call__" ⟨.ref Cl :: xs, []⟩).frames = 0 := by rfl
    lia
  refine codeAny_mono (U.ca.run hfa ar st12.rel (.cons .ref (st12.vrs hv)) hq) fun r s' z => ?_
  rcases r with e | (v | _ | _ | _)
  ·exact z.from (st.trans st12)
  all_goals first | exact z.elim | skip
  refine ob38 z ?_
  clear z
  intro V σ' ee83
  subst ee83
  intro q' hv' st'
  cases hv'.none_of
  exact ⟨rfl, .ref _, σ', q', .ref, (st.trans st12).trans st'⟩
theorem zoE {o : Ex} {name : String} (ho : EvP C o) : EvP C (.attr o name) := by
 intro k md Φ S x env A ρ σ s Q X U d hm h
 dsimp only [zaz] at h
 refine atME hm ?_
 intro y id p hm
 ·simp only [Bool.and_eq_true, decide_eq_true_eq] at hm
  refine ob33 hm ?_
  clear hm
  intro ee84
  subst ee84
  intro hb h1
  rw [arm_eval_Attribute, zhw hb]
  refine wpAny_bind (seqE (.refl d.r) (ho U d h1 h) fun y u σ₁ s₁ q hu _ st => wpAny_bind (wpAny_standAt (wpAny_bind (wpAny_holding ?_))))
  exact zoV U.X st.rel hu (fun c => U.ca.fld c name) q fun z w t q hz => wpAny_bind (wpAny_letTemporaryGo (wpAny_pure (PostV.from st (.tok st.rel q hz))))
theorem zpy {a b : Ex} (ha : EvP C a) (hb : EvP C b) : EvP C (.idx a b) := by
 intro k md Φ S x env A ρ σ s Q X U d hm h
 dsimp only [zaR] at h
 refine suME hm ?_
 intro y z p hm
 ·simp only [Bool.and_eq_true] at hm
  refine Subscript_ (seqE (.refl d.r) (ha U d hm.1 h) fun x u σ₁ s₁ q hu _ st => seqE st (hb U (d.step st) hm.2 q) fun y v σ₂ s₂ q hv st₂ st' => fin st' ?_)
  exact zol (K := fun z => Q z σ₂) st'.rel (st₂.vr hu) hv q fun z w q hz => .now st'.rel q hz
theorem evo_none : EvoP C .none := by
 intro k md Φ S x env A ρ σ s Q X U d hm h
 cases x with
 | none => simp only [zeT, zeS] at h; exact wpAny_pure (.now d.r h .none)
 | some _ => simp [zoe, zod, zoc, zob] at hm
theorem znb {e : Ex} (he : EvP C e) : EvoP C (.some e) := by
 intro k md Φ S x env A ρ σ s Q X U d hm h
 cases x with
 | none => simp [zoe, zod, zoc, zob] at hm
 | some x => simp only [zeT, zeS] at h; simp only [zoe, zod, zoc, zob] at hm; exact he U d hm h
theorem znd {a : Ex} {lo hi : ExO} (ha : EvP C a) (hlo : EvoP C lo) (hhi : EvoP C hi) : EvP C (.slice a lo hi) := by
 intro k md Φ S x env A ρ σ s Q X U d hm h
 dsimp only [zdV] at h
 refine zo9 hm ?_
 intro y l u q p hm
 ·simp only [Bool.and_eq_true] at hm
  refine ob33 hm ?_
  clear hm
  intro h1 h2 h3
  refine Subscript_ (seqE (.refl d.r) (ha U d h1 h) fun x u σ₁ s₁ q hu _ st => wpAny_Slice (seqE st (hlo U (d.step st) h2 q) fun y v σ₂ s₂ q hv st₂ st' => seqE st' (hhi U (d.step st') h3 q) fun z w σ₃ s₃ q hw st₃ st'' => ?_))
  rw [evalPart_none]
  exact wpAny_pure (fin st'' (zmA st''.rel (st₃.vr (st₂.vr hu)) (st₃.vr hv) hw q))
theorem zox {es : Exs} (hs : EvsP C es) : EvP C (.list es) := by
 intro k md Φ S x env A ρ σ s Q X U d hm h
 dsimp only [za2] at h
 refine liME hm ?_
 intro xs p hm
 ·refine wpAny_List (seqL (.refl d.r) (hs U d hm h) fun xs vs σ₁ s₁ q hv _ st => ?_)
  have e := hv.length
  exact ⟨zd5 (by lia), .from st (zcU (n := 0) (t := s₁.toks) st.rel q.2 zak zaI (Nat.le_refl _) (Heap.get?_push_size _ rfl) hv q.1)⟩
theorem znc {es : Exs} (hs : EvsP C es) : EvP C (.tuple es) := by
 intro k md Φ S x env A ρ σ s Q X U d hm h
 dsimp only [zbh] at h
 refine tuME hm ?_
 intro xs kk p hm
 ·refine wpAny_Tuple (seqL (.refl d.r) (hs U d hm h) fun xs vs σ₁ s₁ q hv _ st => ?_)
  have e := hv.length
  refine ⟨zd5 (by lia), .from st ⟨.tup vs, σ₁, q.2, .tup (n := 0) (Heap.get?_push_size _ rfl) (hv.keep fun b o e _ => zak _ _ e), .grow (t := s₁.toks) st.rel zak zaI⟩⟩
theorem zmP (h : Heap) : KR C.prog C.w (h.push { cls := .type "dict", data := .dict #[] }) h.objs.size [] :=
 .inl ⟨[], rfl, _, #[], 0, Heap.get?_push_size _ rfl, ⟨rfl, rfl, rfl⟩, rfl, fun _ h => by simp at h, .nil, .nil⟩
theorem znf : EvP C .dict0 := by
 intro k md Φ S x env A ρ σ s Q X U d hm h
 dsimp only [zbI] at h
 refine diME hm ?_
 intro ks vs p hm
 refine l0E hm ?_
 intro hm
 refine l0E hm ?_
 intro hm
 ·exact wpAny_Dict_empty ⟨.ref _, _, h _ (d.r.none_of_ge (Nat.le_refl _)), .ref, .alloc (t := s.toks) d.r zak zaI (Nat.le_refl _) ⟨zmP _, Nat.zero_le _⟩⟩
theorem zlf {env : Env} {x y : Expr} {pos : Pos} : (evalEachOpt [some x] env).zip ((evalEach [y] env).map fun v => do let x ← v; standAt pos; pure x) = [(eval x env, (do let v ← eval y env; standAt pos; pure v : Sem Value))].map fun p => (some p.1, p.2) := rfl
theorem zne {i : Nat} : EvP C (.dict1 i) := by
 intro k md Φ S x env A ρ σ s Q X U d hm h
 refine diME hm ?_
 intro ks vs p hm
 refine l1E hm ?_
 intro o hm
 refine o1E hm ?_
 intro y hm
 refine l1E hm ?_
 intro z hm
 simp only [Bool.and_eq_true] at hm
 refine lift fun g9 k9 => ?_
 refine ob14 hm ?_
 clear hm
 intro hm1 hm2
 refine ob2 (zap h) ?_
 intro u hu hi q
 refine ob12 (zel hi) ?_
 intro n ee85
 subst ee85
 refine k9 ?_
 clear k9 g9
 refine nmME hm1 ?_
 intro id np hm1
 refine ob32 (Sc.var_elim hm1) ?_
 intro nm ee86
 subst ee86
 intro h1 h2 h3 h4
 refine cME hm2 ?_
 intro c kk cp hm2
 cases of_decide_eq_true hm2
 have st : Step C No σ s σ { s with heap := s.heap.push { cls := .type "dict", data := .dict #[] } } := .grow (t := s.toks) d.r zak zaI
 have d' := d.step st
 refine wpAny_Dict_pairs (knd := intKind C.prog C.w) zlf (by simp) (by simp) (evalPairs_cons ?_)
 refine zls (s := { s with heap := s.heap.push { cls := .type "dict", data := .dict #[] } }) U.ev.toEnvOk d'.l h1 hu (by rw [U.ev.kindOf]; exact h2) h3 h4 fun w hw => ?_
 refine ob12 hw.int_of ?_
 intro t ee87
 subst ee87
 refine wpAny_bind (wpAny_Constant_bool (wpAny_bind (wpAny_standAt (wpAny_pure (evalPairs_nil ⟨[(n, .bool true)], ⟨zbm n t, rfl, trivial⟩, Heap.DictOf.new s.heap, fun h' hd hs => ?_⟩)))))
 refine ⟨.ref _, _, q _ (d.r.none_of_ge (Nat.le_refl _)), .ref, .alloc (t := s.toks + 1) d.r (fun b ob e => ?_) ?_ (Nat.le_refl _) ⟨.inl ⟨[n], rfl, hd⟩, by simp [zax]⟩⟩
 ·exact (hs.2 b (Nat.ne_of_lt (Heap.lt_size e))).trans (zak _ _ e)
 ·exact Nat.le_trans zaI (Nat.le_of_eq hs.1.symm)
theorem zpe {id : String} {x : Expr} {e : Ex} {pos : Pos} {K : Value → Shared → Prop} {E : Value → Shared → Prop} (hm : zau S e x = true) (h : wpAny C.M A (eval x env) (fun v s₁ => wpAny C.M A (call (.builtin id) [v]) K E s₁) E s) :
  wpAny C.M A (callWith pos (.builtin id) [] (backTo pos (starEach [x] env)) []) K E s := by
 rw [zbD hm]
 exact callWith_builtin (by rfl) (evalArgs_plain (spliced_cons (wpAny_mono h (fun v s₁ h₁ => spliced_nil h₁) fun _ _ e => e)))
theorem zld {id : String} {x : Expr} {e : Ex} {pos : Pos} {K : Value → Shared → Prop} {E : Value → Shared → Prop} (hm : zau S e x = true) (h : wpAny C.M A (eval x env) (fun v s₁ => wpAny C.M A (call (.type id) [v]) K E s₁) E s) :
  wpAny C.M A (callWith pos (.type id) [] (backTo pos (starEach [x] env)) []) K E s := by
 rw [zbD hm]
 exact PySem.callWith_type (by rfl) (evalArgs_plain (spliced_cons (wpAny_mono h (fun v s₁ h₁ => spliced_nil h₁) fun _ _ e => e)))
theorem zp8 {f : B1} {e : Ex} (he : EvP C e) : EvP C (.b1 f e) := by
 intro k md Φ S x env A ρ σ s Q X U d hm h
 dsimp only [E_b1] at h
 refine ncME hm ?_
 intro nid np xs pos hm
 refine l1E hm ?_
 intro x hm
 ·simp only [Bool.and_eq_true] at hm
  have hb : ∀ {id : String}, (zl6 f, Value.builtin id) ∈ bNames → (∀ v V σ₁ s₁, b1V md f V σ₁ Q → VR s₁.heap V v → Step C No σ s σ₁ s₁ → wpAny C.M A (call (.builtin id) [v]) (PostV C σ₁ s₁ Q) (PostX C σ s X) s₁) → wpAny C.M A (eval (.Call (.Name nid np) [x] [] pos) env) (PostV C σ s Q) (PostX C σ s X) s :=
   fun {id} hin go => Call_Name rfl (zeC U d.r hm.1 hin (zpe hm.2 (seqE (.refl d.r) (he U d hm.2 h) fun v V σ₁ s₁ q hv _ st => fin st (go v V σ₁ s₁ q hv st))))
  have ht : ∀ {id : String}, (zl6 f, Value.type id) ∈ bNames → (∀ v V σ₁ s₁, b1V md f V σ₁ Q → VR s₁.heap V v → Step C No σ s σ₁ s₁ → wpAny C.M A (call (.type id) [v]) (PostV C σ₁ s₁ Q) (PostX C σ s X) s₁) → wpAny C.M A (eval (.Call (.Name nid np) [x] [] pos) env) (PostV C σ s Q) (PostX C σ s X) s :=
   fun {id} hin go => Call_Name rfl (zeC U d.r hm.1 hin (zld hm.2 (seqE (.refl d.r) (he U d hm.2 h) fun v V σ₁ s₁ q hv _ st => fin st (go v V σ₁ s₁ q hv st))))
  cases f with
  | len => exact hb (id := "len") (List.mem_of_getElem? (i := 0) rfl) fun v V σ₁ s₁ q hv st => PostV.len st.rel hv q
  | list => exact ht (id := "list") (List.mem_of_getElem? (i := 1) rfl) fun v V σ₁ s₁ q hv st => zlu st.rel hv q
  | sorted => exact hb (id := "sorted") (List.mem_of_getElem? (i := 2) rfl) fun v V σ₁ s₁ q hv st => zk7 U.X.nolimit (fun h => d.a.handled h) st.rel hv q
  | all => exact hb (id := "all") (List.mem_of_getElem? (i := 4) rfl) fun v V σ₁ s₁ q hv st => zpM (d.a.handled q.1) st.rel hv q.2
  | any => exact hb (id := "any") (List.mem_of_getElem? (i := 5) rfl) fun v V σ₁ s₁ q hv st => zpJ (d.a.handled q.1) st.rel hv q.2
  | dict => exact ht (id := "dict") (List.mem_of_getElem? (i := 7) rfl) fun v V σ₁ s₁ q hv st => zlW (d.a.handled q.1) st.rel hv q.2
theorem zos {e : Ex} (he : EvP C e) : EvP C (.sset e) := by
 intro k md Φ S x env A ρ σ s Q X U d hm h
 dsimp only [zfu] at h
 refine ncME hm ?_
 intro nid np xs pos hm
 refine l1E hm ?_
 intro y hm
 ·simp only [Bool.and_eq_true] at hm
  refine ob14 hm ?_
  clear hm
  intro h0 hm2
  refine ncME hm2 ?_
  intro nid2 np2 ys pos2 hm2
  refine l1E hm2 ?_
  intro z hm2
  ·simp only [Bool.and_eq_true] at hm2
   refine Call_Name rfl (zeC (v := .builtin "sorted") U d.r h0 (List.mem_of_getElem? (i := 2) rfl) ?_)
   refine callWith_builtin (by rfl) (evalArgs_plain (spliced_cons (wpAny_mono (Q := fun v s₁ => wpAny C.M A (call (.builtin "sorted") [v]) (PostV C σ s Q) (PostX C σ s X) s₁) ?_ (fun v s₁ h₁ => spliced_nil h₁) fun _ _ e => e)))
   refine Call_Name rfl (zeC (v := .type "set") U d.r hm2.1 (List.mem_of_getElem? (i := 8) rfl) (zld hm2.2 (seqE (.refl d.r) (he U d hm2.2 h) fun v V σ₁ s₁ q hv _ st => ?_)))
   have hmd := q.1
   subst hmd
   exact wpAny_mono (znU (d.a.handled rfl) st.rel hv q) (fun _ _ h₂ => fin st h₂) fun _ _ e => e
theorem zoY {t : Ty} {c : Value} (h : tyV t = some c) : (znt t, c) ∈ bNames := by
 cases t with
 | int => cases h; exact List.mem_of_getElem? (i := 3) rfl
 | bool => cases h; exact List.mem_of_getElem? (i := 14) rfl
 | tuple => cases h; exact List.mem_of_getElem? (i := 6) rfl
 | list => cases h; exact List.mem_of_getElem? (i := 1) rfl
theorem zoy {e : Ex} {t : Ty} (he : EvP C e) : EvP C (.isin e t) := by
 intro k md Φ S x env A ρ σ s Q X U d hm h
 dsimp only [zcQ] at h
 refine ncME hm ?_
 intro id p xs pos hm
 refine l2E hm ?_
 intro x z hm
 refine nmME hm ?_
 intro id' p' hm
 ·simp only [Bool.and_eq_true] at hm
  refine ob33 hm ?_
  clear hm
  intro h0 h1 h2
  refine Call_Name rfl (zeC (v := .builtin "isinstance") U d.r h0 (List.mem_of_getElem? (i := 11) rfl) ?_)
  rw [zbD h2]
  refine callWith_builtin (by rfl) (evalArgs_plain (spliced_cons (seqE (.refl d.r) (he U d h2 h) fun x u σ₁ s₁ q hu _ st => ?_)))
  show wpAny _ _ (spliced ((false, eval (.Name id' p') env) :: [])) _ _ _
  refine spliced_cons ?_
  refine ob7 (zap q) ?_
  intro b hb q
  obtain ⟨c, hc⟩ : ∃ c, tyV t = some c := by cases t <;> exact ⟨_, rfl⟩
  exact zeC U st.rel h1 (zoY hc) (spliced_nil (zoo st.rel hu hc hb fun tk => .from st (.tok st.rel q .bool)))
/- and, or -/
noncomputable def BoP (C : Cx) (es : Exs) : Prop := ∀ {k : Nat} {md : Bool} {Φ : Calls} {S : Sc} {xs : List Expr} {env : Env} {A : Around} {ρ : Loc} {σ : Store} {s : Shared} {Q : V → Store → Prop} {X : XP} {pos : Pos} {isAnd : Bool},
 Sur C k md Φ S env → Dyn C k md S A env ρ σ s → za8 S es xs = true → zfb Φ md isAnd es ρ σ Q X → wpAny C.M A (boolOp pos (if isAnd then .And else .Or) (evalEach xs env)) (PostV C σ s Q) (PostX C σ s X) s
noncomputable def BtP (C : Cx) (es : Exs) : Prop := ∀ {k : Nat} {md : Bool} {Φ : Calls} {S : Sc} {xs : List Expr} {env : Env} {A : Around} {ρ : Loc} {σ : Store} {s : Shared} {Q : V → Store → Prop} {X : XP} {isAnd : Bool},
 Sur C k md Φ S env → Dyn C k md S A env ρ σ s → za8 S es xs = true → zfb Φ md isAnd es ρ σ Q X → (∀ V σ', Q V σ' → ∃ b, Mine.Internal.truthy σ' V = some b) → wpAny C.M A (allTrue (if isAnd then .And else .Or) xs env) (zkR C σ s Q) (PostX C σ s X) s
theorem bo_nil : BoP C .nil := by
 intro k md Φ S xs env A ρ σ s Q X pos isAnd U d hm h
 exact False.elim h
theorem bt_nil : BtP C .nil := by
 intro k md Φ S xs env A ρ σ s Q X isAnd U d hm h
 exact fun _ => False.elim h
theorem zoT {e : Ex} {es : Exs} (he : EvP C e) (hs : BoP C es) : BoP C (.cons e es) := by
 intro k md Φ S xs env A ρ σ s Q X pos isAnd U d hm h
 cases xs with
 | nil => simp [zbw, zbx, zby, zbz] at hm
 | cons x xs =>
  simp only [zbw, zbx, zby, zbz, Bool.and_eq_true] at hm
  cases es with
  | nil =>
   cases xs with
   | nil => simp only [zbn, zaW] at h; exact he U d hm.1 h
   | cons _ _ => simp [zbw, zbx, zby, zbz] at hm
  | cons e' es =>
   cases xs with
   | nil => simp [zbw, zbx, zby, zbz] at hm
   | cons y ys =>
    simp only [zbn, zaW] at h
    show wpAny C.M A (do
     let v ← eval x env
     standAt pos
     let c ← holding [v] (PySem.truthy v)
     match (if isAnd then BoolOp.And else BoolOp.Or), c with
     | .And, false | .Or, true => pure v
     | _, _ => boolOp pos (if isAnd then .And else .Or) (evalEach (y :: ys) env)) _ _ s
    refine wpAny_bind (seqE (.refl d.r) (he U d hm.1 h) fun v V σ₁ s₁ q hv _ st => wpAny_bind (wpAny_standAt (wpAny_bind (wpAny_holding ?_))))
    refine ob7 (zap q) ?_
    intro b hb q
    refine zfJ hv hb ?_
    have go : b = isAnd → wpAny C.M A (boolOp pos (if isAnd then .And else .Or) (evalEach (y :: ys) env)) (PostV C σ s Q) (PostX C σ s X) s₁ := fun e => by
     rw [if_pos e] at q
     exact wpAny_mono (hs U (d.step st) hm.2 q) (fun _ _ hx => hx.from st) fun _ _ hx => hx.from st
    have no : b ≠ isAnd → PostV C σ s Q v s₁ := fun e => by
     rw [if_neg e] at q
     exact ⟨V, σ₁, q, hv, st⟩
    cases isAnd <;> cases b
    ·exact go rfl
    ·exact wpAny_pure (no (by decide))
    ·exact wpAny_pure (no (by decide))
    ·exact go rfl
theorem zoQ {e : Ex} {es : Exs} (he : TrP C e) (hs : BtP C es) : BtP C (.cons e es) := by
 intro k md Φ S xs env A ρ σ s Q X isAnd U d hm h hq
 cases xs with
 | nil => simp [zbw, zbx, zby, zbz] at hm
 | cons x xs =>
  simp only [zbw, zbx, zby, zbz, Bool.and_eq_true] at hm
  show wpAny C.M A (do
   match (if isAnd then BoolOp.And else BoolOp.Or), ← isTrue x env (eval x env) with
   | .And, false => pure false
   | .Or, true => pure true
   | _, _ => allTrue (if isAnd then .And else .Or) xs env) _ _ s
  cases es with
  | nil =>
   cases xs with
   | nil =>
    simp only [zbn, zaW] at h
    refine wpAny_bind (seqB (.refl d.r) (he U d hm.1 h hq) fun b V σ₁ s₁ q hb _ st => ?_)
    cases isAnd <;> cases b <;> exact wpAny_pure ⟨V, σ₁, q, hb, st⟩
   | cons _ _ => simp [zbw, zbx, zby, zbz] at hm
  | cons e' es =>
   cases xs with
   | nil => simp [zbw, zbx, zby, zbz] at hm
   | cons y ys =>
    simp only [zbn, zaW] at h
    refine wpAny_bind (seqB (.refl d.r) (he U d hm.1 h fun V σ' q => ?_) fun b V σ₁ s₁ q hb _ st => ?_)
    ·refine ob7 (zap q) ?_
     intro b hb _
     exact ⟨b, hb⟩
    refine ob7 (zap q) ?_
    intro b' hb' q
    rw [hb] at hb'; cases hb'
    have go : b = isAnd → wpAny C.M A (allTrue (if isAnd then .And else .Or) (y :: ys) env) (zkR C σ s Q) (PostX C σ s X) s₁ := fun e => by
     rw [if_pos e] at q
     exact wpAny_mono (hs U (d.step st) hm.2 q hq) (fun _ _ ⟨V, σ', q1, q2, q3⟩ => ⟨V, σ', q1, q2, st.trans q3⟩) fun _ _ hx => hx.from st
    have no : b ≠ isAnd → zkR C σ s Q b s₁ := fun e => by
     rw [if_neg e] at q
     exact ⟨V, σ₁, q, hb, st⟩
    cases isAnd <;> cases b
    ·exact go rfl
    ·exact wpAny_pure (no (by decide))
    ·exact wpAny_pure (no (by decide))
    ·exact go rfl
theorem zoD {isAnd : Bool} {es : Exs} (hs : BoP C es) : EvP C (.bool isAnd es) := by
 intro k md Φ S x env A ρ σ s Q X U d hm h
 dsimp only [za3] at h
 refine boME hm ?_
 intro op xs p hm
 ·simp only [Bool.and_eq_true, decide_eq_true_eq] at hm
  refine ob14 hm ?_
  clear hm
  intro ee88
  subst ee88
  intro hm
  rw [arm_eval_BoolOp]
  exact hs U d hm h
theorem znL {isAnd : Bool} {es : Exs} (hs : BtP C es) : TrP C (.bool isAnd es) := by
 intro k md Φ S x env A ρ σ s Q X U d hm h hq
 dsimp only [za3] at h
 refine boME hm ?_
 intro op xs p hm
 ·simp only [Bool.and_eq_true, decide_eq_true_eq] at hm
  refine ob14 hm ?_
  clear hm
  intro ee89
  subst ee89
  intro hm
  exact wpAny_isTrue_BoolOp (hs U d hm h hq)
/- methods of lists -/
theorem zlt {a : Addr} {vs : List V} (r : Rel C σ s.heap) (ha : σ a = some (.list vs)) : s.TypeIs (.ref a) "list" ∧ ∀ b, Value.ref a = .ref b → ∃ ob, s.heap.get? b = some ob ∧ ob.dict = none := by
 refine ob17 (r.list ha) ?_
 intro xs n hL _
 exact ⟨⟨_, hL, rfl⟩, fun b e => by cases e; exact ⟨_, hL, rfl⟩⟩
theorem zp6 {o : Ex} {m : M0} (ho : EvP C o) : EvP C (.m0 o m) := by
 intro k md Φ S x env A ρ σ s Q X U d hm h
 dsimp only [E_m0] at h
 refine acME hm ?_
 intro x id apos xs pos hm
 refine l0E hm ?_
 intro hm
 ·simp only [Bool.and_eq_true, decide_eq_true_eq] at hm
  refine ob39 hm ?_
  clear hm
  intro ee90
  subst ee90
  intro hline hb h1
  refine Call_method0 (zhw hb _) hline (seqE (.refl d.r) (ho U d h1 h) fun y u σ₁ s₁ q hu _ st => ?_)
  refine lift fun g9 k9 => ?_
  refine ob1 (zaG q) ?_
  intro a vs ee91
  subst ee91
  intro ha _
  cases hu.ref_of
  refine ob14 (zlt st.rel ha) ?_
  intro hT hdn
  refine k9 ?_
  clear k9 g9
  cases m with
  | pop => exact ⟨"list", "list.pop", F.plainAttrs_list, F.slot_list_pop, F.type_list_pop, hT, hdn, fin st (zp0 st.rel hu rfl q)⟩
theorem zp5 {o e : Ex} {m : M1} (ho : EvP C o) (he : EvP C e) : EvP C (.m1 o m e) := by
 intro k md Φ S x env A ρ σ s Q X U d hm h
 dsimp only [E_m1] at h
 refine acME hm ?_
 intro x id apos xs pos hm
 refine l1E hm ?_
 intro y hm
 ·simp only [Bool.and_eq_true, decide_eq_true_eq] at hm
  refine ob34 hm ?_
  clear hm
  intro ee92
  subst ee92
  intro hline hb h1 h2
  refine Call_method1 (zhw hb _) (zbD h2) hline (seqE (.refl d.r) (ho U d h1 h) fun y u σ₁ s₁ q hu _ st => ?_)
  refine lift fun g9 k9 => ?_
  refine ob1 (zaG q) ?_
  intro a vs ee93
  subst ee93
  intro ha q
  cases hu.ref_of
  refine ob14 (zlt st.rel ha) ?_
  intro hT hdn
  refine k9 ?_
  clear k9 g9
  have go : ∀ {id : String}, id = m1Id m → wpAny C.M A (callWith pos (.builtin id) [.ref a] [(false, eval y env)] []) (PostV C σ s Q) (PostX C σ s X) s₁ := fun {id} hid =>
   zpZ (u := .ref a) (v := .none) (y := .none) hid (seqE st (he U (d.step st) h2 q) fun z v σ₂ s₂ q hv st₂ st' => ⟨σ₂, v, Q, st'.rel, .ref, hv, q, fun z s₂ hz => hz.from st'⟩) ⟨a, rfl⟩
  cases m with
  | append => exact ⟨"list", "list.append", F.plainAttrs_list, F.slot_list_append, F.type_list_append, hT, hdn, go rfl⟩
end
end Mine.Internal
end
section
namespace Mine.Internal
open PySem PySem.W PySem.Calls PyProof.Rows
section
variable {C : Cx} {k : Nat} {md : Bool} {Φ : Calls} {S : Sc} {env : Env} {A : Around} {ρ : Loc} {σ σ' σ₁ : Store} {s s' s₁ : Shared} {D : Addr → Prop}
theorem Step.old (x : Step C (fun a => D a ∨ s.heap.objs.size ≤ a) σ s σ' s') : Step C D σ s σ' s' :=
 ⟨⟨x.h.size, fun a o e n => x.h.keep a o e fun d => d.elim (fun z => n (.inl z)) fun z => z.elim (fun z => n (.inr z)) fun z => absurd (Heap.lt_size e) (Nat.not_lt.mpr z), x.h.tup⟩, x.rel, x.dom, x.fresh, x.gens, x.os⟩
structure Hold (C : Cx) (wr : List Addr) (σ : Store) (h : Heap) : Prop where
 no : ∀ b ∈ wr, σ b = none ∧ C.base.get? b = none
 at_ : ∀ b ∈ wr, ∃ o, h.get? b = some o ∧ ¬ IsT o ∧ ∀ es n, o.data ≠ .dict es n
theorem Step.wrote {wr : List Addr} {h' : Heap} {t : Nat} (r : Rel C σ s.heap) (m : Hold C wr σ s.heap) (k : ∀ b o, b ∉ wr → s.heap.get? b = some o → h'.get? b = some o) (hs : s.heap.objs.size ≤ h'.objs.size) :
  Step C (· ∈ wr) σ s σ { s with heap := h', toks := t } := by
 have tk : zbk s.heap h' := fun b o e ht => k b o (fun hb => by obtain ⟨o', e', nt, _⟩ := m.at_ b hb; rw [e] at e'; cases e'; exact nt ht) e
 refine ⟨⟨hs, fun a o e n => .inl (k a o (fun hb => n (.inr hb)) e), tk⟩, r.frame (fun a o q => ?_) tk (fun b o e => k b o (fun hb => ?_) (r.stays b o e)) hs, fun _ x => x, fun _ x => .inl x, rfl, rfl⟩
 ·refine ob7 ((r.tr a o q).there) ?_
  intro ob ho _
  rw [ho]
  exact k a ob (fun hb => by rw [(m.no a hb).1] at q; cases q) ho
 ·rw [(m.no b hb).2] at e; cases e
theorem LR.keep {nm : List (String × Nat)} (x : LR C σ s.heap env nm ρ) (y : Step C D σ s σ' s') (hO : ∀ a, Own env a → ¬ D a) : LR C σ' s'.heap env nm ρ := by
 refine ob8 x.locals ?_
 intro m o es ep hL hLd hLr
 have kL : ∀ o, s.heap.get? env.locals = some o → KeptAs o (s'.heap.get? env.locals) := fun o ho => y.h.keep _ o ho fun d => d.elim (fun z => z x.lnew.1) (hO _ (.inl rfl))
 have kN : ∀ m, s.heap.Ns env.locals m → s'.heap.Ns env.locals m := fun m hm => ziS hm hL (kL o hL)
 have kC : ∀ {n c v}, env.cells.lookup n = some c → s.heap.IsCell c v → s'.heap.IsCell c v := fun {n c v} hc hv => zio hv fun o ho => y.h.keep _ o ho fun d => d.elim (fun z => z (x.cells _ _ hc).2.1) (hO _ (.inr ⟨_, hc⟩))
 refine ⟨fun n i v hn hv => ?_, ⟨m, kN m ⟨o, es, ep, hL, hLd, hLr⟩⟩, ⟨zbZ y hL x.lnew.1, x.lnew.2⟩, fun n c hc => ?_, x.apart⟩
 ·have := x.holds n i v hn hv
  unfold Holds at this ⊢
  split at this
  ·refine ob1 this ?_
   clear this
   intro m u h1 h2 h3
   exact ⟨m, u, kN m h1, h2, y.vr h3⟩
  ·refine ob1 this ?_
   clear this
   intro c u h1 h2 h3
   exact ⟨c, u, h1, kC h1 h2, y.vr h3⟩
  ·refine ob1 this ?_
   clear this
   intro c u h1 h2 h3
   exact ⟨c, u, h1, kC h1 h2, y.vr h3⟩
  ·trivial
 ·refine ob9 (x.cells n c hc) ?_
  intro v hv h2 h3
  refine ob7 (id hv) ?_
  intro o' ho' _
  exact ⟨⟨v, kC hc hv⟩, zbZ y ho' h2, h3⟩
noncomputable def Low (A : Around) (n : Nat) : Prop := ∀ l, A.frames = some l → ∀ L ∈ l.filterMap (·.frame), L < n
theorem AOk.low {k : Nat} (x : AOk C k md A σ s.heap) : Low A s.heap.objs.size := by
 refine lift fun g9 k9 => ?_
 obtain ⟨⟨l, hl, hf, hn⟩, _⟩ := x
 refine k9 ?_
 clear k9 g9
 intro l' hl' L hL
 rw [hl] at hl'; cases hl'
 refine ob3 (hn L hL) ?_
 intro _ o _ _ ho _
 exact Heap.lt_size ho
theorem Dyn.apart {n : Nat} (d : Dyn C k md S A env ρ σ s) (y : Step C D σ s σ' s') (low : Low A n) (hn : ∀ a, D a → n ≤ a) (hO : ∀ a, Own env a → ¬ D a) : Dyn C k md S A env ρ σ' s' :=
 ⟨d.a.keep y fun l hl L hL hd => absurd (low l hl L hL) (Nat.not_lt.mpr (hn L hd)), y.rel, d.l.keep y hO, d.len⟩
theorem Hold.step {wr : List Addr} (m : Hold C wr σ s.heap) (y : Step C D σ s σ' s') (hD : ∀ b ∈ wr, ¬ D b) : Hold C wr σ' s'.heap ∧ ∀ b ∈ wr, ∀ o, s.heap.get? b = some o → s'.heap.get? b = some o := by
 have kp : ∀ b ∈ wr, ∀ o, s.heap.get? b = some o → s'.heap.get? b = some o := fun b hb o e => by
  refine ob2 (m.at_ b hb) ?_
  intro o' e' _ nd
  rw [e] at e'; cases e'
  exact (y.h.keep b o e fun q => q.elim (fun z => z (m.no b hb).1) (hD b hb)).plain nd
 refine ⟨⟨fun b hb => ?_, fun b hb => ?_⟩, kp⟩
 ·refine ob7 (m.at_ b hb) ?_
  intro o' e' _
  exact ⟨zbZ y e' (m.no b hb).1, (m.no b hb).2⟩
 ·refine ob7 (m.at_ b hb) ?_
  intro o' e' nd
  exact ⟨o', kp b hb o' e', nd⟩
structure ItOk (C : Cx) (A : Around) (I : Addr) (wr : List Addr) (items : List V) (chk : Store → Prop) (St : Nat → Heap → Prop) (Mid : Nat → Value → Heap → Prop) : Prop where
 at_ : ∀ i h, St i h → ∀ b ∈ wr, ∃ o, h.get? b = some o ∧ ¬ IsT o ∧ ∀ es n, o.data ≠ .dict es n
 frame : ∀ i h h', St i h → zbk h h' → (∀ b ∈ wr, ∀ o, h.get? b = some o → h'.get? b = some o) → St i h'
 item : ∀ i σ s (hi : i < items.length), St i s.heap → Rel C σ s.heap → chk σ → ∀ (Q : Option Value → Shared → Prop) (E : Value → Shared → Prop),
  (∀ v h' tk, VR h' items[i] v → Mid i v h' → (∀ b o, b ∉ wr → s.heap.get? b = some o → h'.get? b = some o) → Q (some v) { s with heap := h', toks := tk }) → wpAny C.M A (pyNext (.ref I)) Q E s
 midAt : ∀ i v h, Mid i v h → ∀ b ∈ wr, ∃ o, h.get? b = some o ∧ ¬ IsT o ∧ ∀ es n, o.data ≠ .dict es n
 go : ∀ (tg : Expr) i v s (Q : Unit → Shared → Prop) (E : Value → Shared → Prop), Mid i v s.heap →
  (∀ h', St (i + 1) h' → (∀ b o, b ∉ wr → s.heap.get? b = some o → h'.get? b = some o) → Q () { s with heap := h' }) → wpAny C.M A (letOwnedTupleGo tg (.ref I) v) Q E s
 done : ∀ σ s, St items.length s.heap → Rel C σ s.heap → chk σ → ∀ (Q : Option Value → Shared → Prop) (E : Value → Shared → Prop),
  (∀ h' tk, (∀ b o, b ∉ wr → s.heap.get? b = some o → h'.get? b = some o) → Q none { s with heap := h', toks := tk }) → wpAny C.M A (pyNext (.ref I)) Q E s
 self : ∀ i s (Q : Value → Shared → Prop) (E : Value → Shared → Prop), St i s.heap → Q (.ref I) s → wpAny C.M A (pyIter (.ref I)) Q E s
theorem zco {I : Addr} {o : Obj} {n : String} {tg : Expr} {v : Value} {Q : Unit → Shared → Prop} {E : Value → Shared → Prop} (ho : s.heap.get? I = some o) (hc : o.cls = .type n)
  (hn : (["enumerate", "zip", "dict_itemiterator", "dict_reverseitemiterator", "odict_iterator", "itertools.zip_longest", "itertools.pairwise"].contains n) = false) (h : Q () s) : wpAny C.M A (letOwnedTupleGo tg (.ref I) v) Q E s := by
 have body : wpAny C.M A (do
   let (.ref r, .ref a) := ((Value.ref I), v) | return
   let o ← load r
   match o.cls, o.data with
   | .type n, .fields vs =>
    if ["enumerate", "zip", "dict_itemiterator", "dict_reverseitemiterator", "odict_iterator", "itertools.zip_longest", "itertools.pairwise"].contains n && vs[0]? == some (rawInt a) then
     rule "for.unpacks-the-owned-tuple"
     updateField r 0 .none
   | _, _ => pure ()) Q E s := by
  cases v with
  | ref a =>
   refine wpAny_bind (wpAny_load ho ?_)
   rw [hc]
   cases o.data with
   | fields vs =>
    show wpAny C.M A (if (_ && _) = true then _ else _) Q E s
    rw [hn, Bool.false_and]
    exact wpAny_pure h
   | _ => exact wpAny_pure h
  | _ => exact wpAny_pure h
 cases tg <;> first | exact body | exact wpAny_pure h
theorem zaP {o : Obj} {vs : Array Value} (h : o.data = .fields vs) : ¬ IsT o ∧ ∀ es n, o.data ≠ .dict es n := ⟨fun ⟨_, _, _, q⟩ => (by rw [h] at q; cases q), fun es n q => (by rw [h] at q; cases q)⟩
theorem ItOk.list {I a : Addr} {vs : List V} (hh : A.handled = none) (hne : a ≠ I) : ItOk C A I [I] vs (fun σ => σ a = some (.list vs)) (fun i h => h.IsListIter I a i) (fun i _ h => h.IsListIter I a (i + 1)) where
 at_ := fun i h ⟨o, ho, hc, hd⟩ b hb => by simp only [List.mem_singleton] at hb; subst hb; exact ⟨o, ho, zaP hd⟩
 frame := fun i h h' hst _ k => hst.at fun o e => k I (by simp) o e
 item := fun i σ s hi hst r hc Q E h => by
  refine ob1 (r.list hc) ?_
  intro xs n hL hX _
  have hi' : i < xs.length := hX.length ▸ hi
  refine wpAny_pyNext_list_item hst hL.isList (x := xs[i]) (by simp [hi']) fun h' hit hs => ?_
  have kk : ∀ b o, b ∉ [I] → s.heap.get? b = some o → h'.get? b = some o := fun b o hb e => (hs.2 b fun q => hb (by simp [q])).trans e
  refine h _ h' s.toks ((hX.at i hi hi').keep fun b o e ht => ?_) hit kk
  refine ob2 hst ?_
  clear hst
  intro oi hoi _ hd
  exact kk b o (fun q => by simp only [List.mem_singleton] at q; subst q; rw [hoi] at e; cases e; exact (zaP hd).1 ht) e
 midAt := fun i v h ⟨o, ho, hc, hd⟩ b hb => by simp only [List.mem_singleton] at hb; subst hb; exact ⟨o, ho, zaP hd⟩
 go := fun tg i v s Q E hm h => by
  refine ob2 (id hm) ?_
  intro o ho hc hd
  exact zco ho hc (by decide) (h s.heap hm fun _ _ _ e => e)
 done := fun σ s hst r hc Q E h => by
  refine ob1 (r.list hc) ?_
  intro xs n hL hX _
  refine wpAny_pyNext_list_end hh hst hL.isList (by simp [hX.length]) fun h' he => h h' s.toks fun b o hb e => he b o (fun q => hb (by simp [q])) e
 self := fun i s Q E hst h => wpAny_pyIter_listiter hst h
theorem ItOk.tuple {I a : Addr} {vs : List V} {xs : List Value} {n : Nat} (hh : A.handled = none) (hne : a ≠ I) :
  ItOk C A I [I] vs (fun _ => True) (fun i h => h.IsTupleIter I a i ∧ h.get? a = some (seqObj "tuple" xs.toArray n) ∧ VRs h vs xs) (fun i _ h => h.IsTupleIter I a (i + 1) ∧ h.get? a = some (seqObj "tuple" xs.toArray n) ∧ VRs h vs xs) where
 at_ := fun i h ⟨⟨o, ho, hc, hd⟩, _⟩ b hb => by simp only [List.mem_singleton] at hb; subst hb; exact ⟨o, ho, zaP hd⟩
 frame := fun i h h' ⟨h1, h2, h3⟩ tk k => ⟨h1.at fun o e => k I (by simp) o e, tk _ _ h2 ⟨rfl, _, _, rfl⟩, h3.keep tk⟩
 item := fun i σ s hi ⟨hst, hT, hX⟩ r _ Q E h => by
  have hi' : i < xs.length := hX.length ▸ hi
  refine wpAny_pyNext_tuple_item hst (zbW hT) (x := xs[i]) (by simp [hi']) fun h' hit hs => ?_
  have kk : ∀ b o, b ∉ [I] → s.heap.get? b = some o → h'.get? b = some o := fun b o hb e => (hs.2 b fun q => hb (by simp [q])).trans e
  have tk : zbk s.heap h' := fun b o e ht => by
   refine ob2 hst ?_
   clear hst
   intro oi hoi _ hd
   exact kk b o (fun q => by simp only [List.mem_singleton] at q; subst q; rw [hoi] at e; cases e; exact (zaP hd).1 ht) e
  exact h _ h' s.toks ((hX.at i hi hi').keep tk) ⟨hit, tk _ _ hT ⟨rfl, _, _, rfl⟩, hX.keep tk⟩ kk
 midAt := fun i v h ⟨⟨o, ho, hc, hd⟩, _⟩ b hb => by simp only [List.mem_singleton] at hb; subst hb; exact ⟨o, ho, zaP hd⟩
 go := fun tg i v s Q E hm h => by
  refine ob31 (id hm) ?_
  intro o ho hc hd _
  exact zco ho hc (by decide) (h s.heap hm fun _ _ _ e => e)
 done := fun σ s ⟨hst, hT, hX⟩ r _ Q E h => by
  refine wpAny_pyNext_tuple_end hh hst (zbW hT) (by simp [hX.length]) fun h' he => h h' s.toks fun b o hb e => he b o (fun q => hb (by simp [q])) e
 self := fun i s Q E hst h => wpAny_pyIter_tupleiter hst.1 h
theorem zmr {a b c : Int} {i : Nat} (h : i < ((upto a b c).map V.int).length) : ((upto a b c).map V.int)[i] = V.int (a + i * c) := by
 simp only [List.length_map] at h
 unfold upto at h ⊢
 split at h
 ·rename_i hc
  simp only [List.getElem_map, if_pos hc, List.getElem_range]
  rw [Int.mul_comm]
 ·simp at h
theorem ItOk.range {I : Addr} {a b c : Int} {n : Nat} (hh : A.handled = none) (hn : (upto a b c).length = n) :
  ItOk C A I [I] ((upto a b c).map V.int) (fun _ => True) (fun i h => IsRangeIter h I (a + (i : Nat) * c) ((n : Int) - (i : Nat)) c) (fun i _ h => IsRangeIter h I (a + (i + 1 : Nat) * c) ((n : Int) - (i + 1 : Nat)) c) where
 at_ := fun i h ho b hb => by simp only [List.mem_singleton] at hb; subst hb; exact ⟨_, ho, zaP rfl⟩
 frame := fun i h h' hst _ k => k I (by simp) _ hst
 item := fun i σ s hi hst r hc Q E h => by
  have hi' : i < n := by simp only [List.length_map] at hi; lia
  refine wpAny_pyNext_range_item hst (by lia) fun h' hit hs => ?_
  have e1 : a + ((i + 1 : Nat) : Int) * c = a + (i : Int) * c + c := by push_cast; rw [Int.add_mul, Int.one_mul, Int.add_assoc]
  have e2 : (n : Int) - ((i + 1 : Nat) : Int) = (n : Int) - (i : Int) - 1 := by push_cast; lia
  refine h _ h' _ ?_ ?_ fun b o hb e => (hs.2 b fun q => hb (by simp [q])).trans e
  ·rw [zmr hi]; exact .int
  ·rw [e1, e2]; exact hit
 midAt := fun i v h ho b hb => by simp only [List.mem_singleton] at hb; subst hb; exact ⟨_, ho, zaP rfl⟩
 go := fun tg i v s Q E hm h => zco hm rfl (by decide) (h s.heap hm fun _ _ _ e => e)
 done := fun σ s hst r hc Q E h => by
  simp only [List.length_map, hn] at hst
  exact wpAny_pyNext_range_end hh hst (by lia) fun h' he => h h' s.toks fun b o hb e => he b o (fun q => hb (by simp [q])) e
 self := fun i s Q E hst h => wpAny_pyIter_rangeiter hst h
end
end Mine.Internal
end
section
namespace Mine.Internal
open PySem PySem.W PySem.Calls PyProof.Rows
section
variable {C : Cx} {k : Nat} {md : Bool} {Φ : Calls} {S : Sc} {env : Env} {A : Around} {ρ : Loc} {σ σ' σ₁ : Store} {s s' s₁ : Shared} {D : Addr → Prop} {X : XP}
noncomputable def znE (C : Cx) (A : Around) (e : Ex) (σ : Store) (s : Shared) (Q : List V → (Store → Prop) → Store → Prop) : Value → Shared → Prop := fun v s₂ =>
 ∃ I wr items chk St Mid σ₁, v = .ref I ∧ ItOk C A I wr items chk St Mid ∧ St 0 s₂.heap ∧ Hold C wr σ₁ s₂.heap ∧ (∀ b ∈ wr, s.heap.objs.size ≤ b) ∧ Step C No σ s σ₁ s₂ ∧ Q items chk σ₁
noncomputable def ItP (C : Cx) (e : Ex) : Prop := ∀ {k : Nat} {md : Bool} {Φ : Calls} {S : Sc} {x : Expr} {env : Env} {A : Around} {ρ : Loc} {σ : Store} {s : Shared} {Q : List V → (Store → Prop) → Store → Prop} {X : XP},
 Sur C k md Φ S env → Dyn C k md S A env ρ σ s → zau S e x = true → md = true → wpIt Φ md e ρ σ Q X → wpAny C.M A (eval x env) (fun v s₁ => wpAny C.M A (pyIter v) (znE C A e σ s Q) (PostX C σ s X) s₁) (PostX C σ s X) s
theorem zhd {h : Heap} {o : Obj} (r : Rel C σ₁ s₁.heap) (hb : ¬ IsT o) (hd : ∀ es n, o.data ≠ .dict es n) (hf : o.isFreed = false) (ho : (s₁.heap.push o).get? s₁.heap.objs.size = some o) : Hold C [s₁.heap.objs.size] σ₁ (s₁.heap.push o) :=
 ⟨fun b hb => by simp only [List.mem_singleton] at hb; subst hb; exact ⟨r.none_of_ge (Nat.le_refl _), zbu r (Nat.le_refl _)⟩, fun b hb => by simp only [List.mem_singleton] at hb; subst hb; exact ⟨o, ho, ‹_›, hd⟩⟩
theorem zky {e : Ex} (he : EvP C e) (hw : ∀ Φ md ρ σ Q X, wpIt Φ md e ρ σ Q X = wpE Φ md e ρ σ (fun u σ₁ => zdn u σ₁ fun items chk => Q items chk σ₁) X) : ItP C e := by
 intro k md Φ S x env A ρ σ s Q X U d hm hmd h
 rw [hw] at h
 refine seqE (.refl d.r) (he U d hm h) fun v u σ₁ s₁ q hu _ st => ?_
 have hh := d.a.handled hmd
 unfold zdn at q
 split at q
 ·refine ob6 hu.tup_of ?_
  intro a xs n ee94
  subst ee94
  intro ha hX
  refine wpAny_pyIter_tuple (zbW ha) ?_
  refine ⟨_, [s₁.heap.objs.size], _, _, _, _, σ₁, rfl, ItOk.tuple (a := a) (xs := xs) (n := n) hh (Nat.ne_of_lt (Heap.lt_size ha)), ⟨⟨_, Heap.get?_push_size _ rfl, rfl, rfl⟩, zak _ _ ha, hX.keep fun b o e _ => zak _ _ e⟩,
   zhd (h := s₁.heap) st.rel (zaP rfl).1 (zaP rfl).2 rfl (Heap.get?_push_size _ rfl), fun b hb => by simp only [List.mem_singleton] at hb; subst hb; exact st.h.size, st.trans (.grow (t := s₁.toks) st.rel zak zaI), q⟩
 ·refine ob1 (zaG q) ?_
  intro a vs e ha q
  cases e
  refine lift fun g9 k9 => ?_
  cases hu.ref_of
  refine ob1 (st.rel.list ha) ?_
  intro xs n hL hX _
  refine k9 ?_
  clear k9 g9
  refine wpAny_pyIter_list hL.isList ?_
  refine ⟨_, [s₁.heap.objs.size], _, _, _, _, σ₁, rfl, ItOk.list hh (Nat.ne_of_lt (Heap.lt_size hL)), ⟨_, Heap.get?_push_size _ rfl, rfl, rfl⟩,
   zhd (h := s₁.heap) st.rel (zaP rfl).1 (zaP rfl).2 rfl (Heap.get?_push_size _ rfl), fun b hb => by simp only [List.mem_singleton] at hb; subst hb; exact st.h.size, st.trans (.grow (t := s₁.toks) st.rel zak zaI), q⟩
 ·exact q.elim
theorem zmq (a b c : Int) (hc : 0 < c) : Builtin.Range.rangeSize a b c = ((upto a b c).length : Int) := by
 unfold Builtin.Range.rangeSize upto
 rw [if_pos hc, if_pos hc]
 simp only [List.length_map, List.length_range]
 split
 ·rename_i h
  have e : (b - a + c - 1) / c = (b - a - 1) / c + 1 := by
   rw [show b - a + c - 1 = (b - a - 1) + c * 1 by lia, Int.add_mul_ediv_left _ _ (by lia)]
  have : 0 ≤ (b - a - 1) / c := Int.ediv_nonneg (by lia) (by lia)
  rw [e]; lia
 ·rename_i h
  have : (b - a + c - 1) / c ≤ 0 := by
   have := Int.ediv_lt_of_lt_mul hc (show b - a + c - 1 < 1 * c by lia)
   lia
  lia
theorem zdv {i : Int} (h : -(2 ^ 40) ≤ i) (h' : i ≤ 2 ^ 40) : Builtin.Range.rangeFitsLong i = true := Bool.and_eq_true_iff.mpr ⟨decide_eq_true (Int.le_trans (by decide) h), decide_eq_true (Int.lt_of_le_of_lt h' (by decide))⟩
theorem zeh {a b c : Int} (ha : a < 2 ^ 31) (ha' : -(2 ^ 31) < a) (hb : b < 2 ^ 31) (hb' : -(2 ^ 31) < b) (hc : 0 < c) (hc' : c < 2 ^ 31) : Builtin.Range.small a b c = true := by
 have hl : -(2 ^ 40) ≤ Builtin.Range.rangeSize a b c ∧ Builtin.Range.rangeSize a b c ≤ 2 ^ 40 := by
  unfold Builtin.Range.rangeSize
  rw [if_pos hc]
  by_cases z : a < b
  ·rw [if_pos z]
   have h0 : 0 ≤ (b - a - 1) / c := Int.ediv_nonneg (by lia) (Int.le_of_lt hc)
   have h1 : (b - a - 1) / c ≤ b - a - 1 := Int.ediv_le_self _ (by lia)
   exact ⟨by lia, by lia⟩
  ·rw [if_neg z]; exact ⟨by decide, by decide⟩
 refine Bool.and_eq_true_iff.mpr ⟨Bool.and_eq_true_iff.mpr ⟨Bool.and_eq_true_iff.mpr ⟨Bool.and_eq_true_iff.mpr ⟨zdv (by lia) (by lia), zdv (by lia) (by lia)⟩, zdv (by lia) (by lia)⟩, zdv hl.1 hl.2⟩, ?_⟩
 rw [if_pos hc, zdv (by lia) (by lia), Bool.or_true]
theorem zha {e : Ex} {a b c : Int} {t u v : Tok} {r : Addr} {Q : List V → (Store → Prop) → Store → Prop} {E : Value → Shared → Prop} (hh : A.handled = none) (st : Step C No σ s σ₁ s₁) (hr : IsRange s₁.heap r a b c t u v)
  (hc : 0 < c) (hs : Builtin.Range.small a b c = true) (q : Q ((upto a b c).map V.int) (fun _ => True) σ₁) : wpAny C.M A (pyIter (.ref r)) (znE C A e σ s Q) E s₁ := by
 refine wpAny_pyIter_range hr hs ?_
 refine ⟨_, [s₁.heap.objs.size], _, _, _, _, σ₁, rfl, ItOk.range (a := a) (b := b) (c := c) hh rfl, ?_,
   zhd (h := s₁.heap) st.rel (zaP rfl).1 (zaP rfl).2 rfl (Heap.get?_push_size _ rfl), fun b hb => by simp only [List.mem_singleton] at hb; subst hb; exact st.h.size, st.trans (.grow (t := s₁.toks) st.rel zak zaI), q⟩
 show (s₁.heap.push _).get? _ = _
 rw [zmq a b c hc, Heap.get?_push_size _ rfl]
 simp
theorem zlD {a : Ex} (ha : EvP C a) : ItP C (.range1 a) := by
 intro k md Φ S x env A ρ σ s Q X U d hm hmd h
 dsimp only [I_r1, I_r2, I_r3, za0, zmi, zbf, zmh, zdl, zjh] at h
 refine ncME hm ?_
 intro id np xs pos hm
 refine l1E hm ?_
 intro x hm
 ·simp only [Bool.and_eq_true] at hm
  refine Call_Name rfl (zeC (v := .type "range") U d.r hm.1 (List.mem_of_getElem? (i := 12) rfl) (zld hm.2 (seqE (.refl d.r) (ha U d hm.2 h) fun v u σ₁ s₁ q hu _ st => ?_)))
  refine ob22 (zbc q) ?_
  intro i ee95
  subst ee95
  intro h1 h2 q
  refine ob12 hu.int_of ?_
  intro t ee96
  subst ee96
  exact call_range_1 (zha (s₁ := { s₁ with heap := _, toks := _ }) (d.a.handled hmd) (st.trans (.grow st.rel zak zaI)) (IsRange.new ..) (by decide) (zeh (by lia) (by lia) h1 h2 (by lia) (by lia)) q)
theorem zn2 {id : String} {x y : Expr} {e e' : Ex} {pos : Pos} {K : Value → Shared → Prop} {E : Value → Shared → Prop} (hm : zau S e x = true) (hm' : zau S e' y = true)
  (h : wpAny C.M A (eval x env) (fun v s₁ => wpAny C.M A (eval y env) (fun u s₂ => wpAny C.M A (call (.type id) [v, u]) K E s₂) E s₁) E s) :
  wpAny C.M A (callWith pos (.type id) [] (backTo pos (starEach [x, y] env)) []) K E s := by
 rw [zbD hm, zbD hm']
 exact PySem.callWith_type (by rfl) (evalArgs_plain (spliced_cons (wpAny_mono h (fun v s₁ h₁ => spliced_cons (wpAny_mono h₁ (fun u s₂ h₂ => spliced_nil h₂) fun _ _ e => e)) fun _ _ e => e)))
theorem zn1 {id : String} {x y z : Expr} {e e' e'' : Ex} {pos : Pos} {K : Value → Shared → Prop} {E : Value → Shared → Prop} (hm : zau S e x = true) (hm' : zau S e' y = true) (hm'' : zau S e'' z = true)
  (h : wpAny C.M A (eval x env) (fun v s₁ => wpAny C.M A (eval y env) (fun u s₂ => wpAny C.M A (eval z env) (fun w s₃ => wpAny C.M A (call (.type id) [v, u, w]) K E s₃) E s₂) E s₁) E s) :
  wpAny C.M A (callWith pos (.type id) [] (backTo pos (starEach [x, y, z] env)) []) K E s := by
 rw [zbD hm, zbD hm', zbD hm'']
 exact PySem.callWith_type (by rfl) (evalArgs_plain (spliced_cons (wpAny_mono h (fun v s₁ h₁ => spliced_cons (wpAny_mono h₁ (fun u s₂ h₂ => spliced_cons (wpAny_mono h₂ (fun w s₃ h₃ => spliced_nil h₃) fun _ _ e => e)) fun _ _ e => e)) fun _ _ e => e)))
theorem zlC {a b : Ex} (ha : EvP C a) (hb : EvP C b) : ItP C (.range2 a b) := by
 intro k md Φ S x env A ρ σ s Q X U d hm hmd h
 dsimp only [I_r1, I_r2, I_r3, za0, zmi, zbf, zmh, zdl, zjh] at h
 refine ncME hm ?_
 intro id np xs pos hm
 refine l2E hm ?_
 intro x y hm
 ·simp only [Bool.and_eq_true] at hm
  refine ob33 hm ?_
  clear hm
  intro h0 h1 h2
  refine Call_Name rfl (zeC (v := .type "range") U d.r h0 (List.mem_of_getElem? (i := 12) rfl) (zn2 h1 h2 (seqE (.refl d.r) (ha U d h1 h) fun x u σ₁ s₁ q hu _ st => seqE st (hb U (d.step st) h2 q) fun y v σ₂ s₂ q hv st₂ st' => ?_)))
  refine lift fun g9 k9 => ?_
  refine ob7 (zbc q) ?_
  intro i ee97
  subst ee97
  intro q1
  refine ob40 (zbc q1) ?_
  intro j ee98
  subst ee98
  intro h3 h4 h5 h6 q2
  refine ob12 hu.int_of ?_
  intro t ee99
  subst ee99
  refine ob12 hv.int_of ?_
  intro t' ee100
  subst ee100
  refine k9 ?_
  clear k9 g9
  exact call_range_2 (zha (s₁ := { s₂ with heap := _, toks := _ }) (d.a.handled hmd) (st'.trans (.grow st'.rel zak zaI)) (IsRange.new ..) (by decide) (zeh h5 h6 h3 h4 (by lia) (by lia)) q2)
theorem zlB {a b c : Ex} (ha : EvP C a) (hb : EvP C b) (hc : EvP C c) : ItP C (.range3 a b c) := by
 intro k md Φ S x env A ρ σ s Q X U d hm hmd h
 dsimp only [I_r1, I_r2, I_r3, za0, zmi, zbf, zmh, zdl, zjh] at h
 refine ncME hm ?_
 intro id np xs pos hm
 refine l3E hm ?_
 intro x y z hm
 ·simp only [Bool.and_eq_true] at hm
  refine ob39 hm ?_
  clear hm
  intro h0 h1 h2 h3
  refine Call_Name rfl (zeC (v := .type "range") U d.r h0 (List.mem_of_getElem? (i := 12) rfl) (zn1 h1 h2 h3 (seqE (.refl d.r) (ha U d h1 h) fun x u σ₁ s₁ q hu _ st => seqE st (hb U (d.step st) h2 q) fun y v σ₂ s₂ q hv st₂ st' =>
   seqE st' (hc U (d.step st') h3 q) fun z w σ₃ s₃ q hw st₃ st'' => ?_)))
  refine lift fun g9 k9 => ?_
  refine ob7 (zbc q) ?_
  intro i ee101
  subst ee101
  intro q1
  refine ob7 (zbc q1) ?_
  intro j ee102
  subst ee102
  intro q2
  refine ob41 (zbc q2) ?_
  intro l ee103
  subst ee103
  intro h3 h4 h5 h6 h7 h8 q3
  refine ob12 hu.int_of ?_
  intro t ee104
  subst ee104
  refine ob12 hv.int_of ?_
  intro t' ee105
  subst ee105
  refine ob12 hw.int_of ?_
  intro t'' ee106
  subst ee106
  refine k9 ?_
  clear k9 g9
  refine call_range_3 (by lia) (zha (s₁ := { s₃ with heap := _, toks := _ }) (d.a.handled hmd) (st''.trans (.grow st''.rel zak zaI)) (IsRange.new ..) h7 (zeh h5 h6 h3 h4 h7 (by lia)) q3) (.inl (PyProof.noPylong_small (by lia)))
theorem Dyn.own {ρ' : Loc} {P : Addr → Prop} (d : Dyn C k md S A env ρ σ s) (st : Step C P σ s σ' s') (hP : ∀ a, P a → Own env a) (l : LR C σ' s'.heap env S.nm ρ') (hl : ρ'.length = ρ.length) : Dyn C k md S A env ρ' σ' s' :=
 ⟨d.a.keep st fun fl hfl L hL hp => (by
  rcases hP L hp with rfl | ⟨n, hc⟩
  ·refine ob8 l.locals ?_
   intro m o es ep ho hd _
   exact ⟨o, es, ep, ho, hd⟩
  ·exfalso
   refine ob10 (d.l.cells n L hc) ?_
   intro v o ho hd _
   refine ob2 d.a.frames ?_
   intro fl' hfl' _ hn
   rw [hfl] at hfl'; cases hfl'
   refine ob3 (hn L hL) ?_
   intro _ o' es n' ho' hd'
   rw [ho] at ho'; cases ho'; rw [hd] at hd'; cases hd'), st.rel, l, hl.trans d.len⟩
theorem zfM {id : Str} {i : Nat} {v : V} {x : Value} {Q : Unit → Shared → Prop} {E : Value → Shared → Prop} (U : Sur C k md Φ S env) (d : Dyn C k md S A env ρ σ s) (hm : S.own id i = true) (hv : VR s.heap v x)
  (h : ∀ s', Step C (OwnAt env id) σ s σ s' → Dyn C k md S A env (ρ.set i (some v)) σ s' → Q () s') : wpAny C.M A (storeName env id x) Q E s := by
 refine ob2 (Sc.own_elim hm) ?_
 intro n ee107
 subst ee107
 intro hn hk
 refine zmx U.ev.toEnvOk d.r d.l hn U.ev.nm d.len (by rw [U.ev.kindOf]; exact hk) (fun hc => U.ev.cells _ (.inl (by rw [← U.ev.kindOf]; exact hc))) hv fun s' st l => h s' st (d.own st (fun _ q => q.own) l (by simp))
theorem zjf {P : Addr → Prop} {E : Value → Shared → Prop} (U : Sur C k md Φ S env) {Q : Unit → Shared → Prop} (is : List Nat) : (∀ id i, S.own id i = true → i ∈ is → ∀ a, OwnAt env id a → P a) → ∀ (elts : List Expr) (vs : List V) (xs : List Value) (ρ : Loc) (s : Shared), zhh S is elts = true → is.length = vs.length → VRs s.heap vs xs →
  Dyn C k md S A env ρ σ s → (∀ s', Step C P σ s σ s' → Dyn C k md S A env ((is.zip vs).foldl (fun r p => r.set p.1 (some p.2)) ρ) σ s' → Q () s') → wpAny C.M A (assignInOrder ((assignEach elts env).map (·.2)) xs) Q E s := by
 induction is with
 | nil =>
  intro hP elts vs xs ρ s hm hl hv d h
  cases elts with
  | nil => exact wpAny_pure (h s (.refl d.r) (by simpa using d))
  | cons _ _ => exact absurd hm Bool.false_ne_true
 | cons i is ih =>
  intro hP elts vs xs ρ s hm hl hv d h
  refine lcE hm ?_
  intro e elts hm
  refine nmME hm ?_
  intro id p hm
  simp only [Bool.and_eq_true] at hm
  cases hv with
  | nil => cases hl
  | cons hv r =>
   rename_i v vs x xs
   show wpAny C.M A (do holding xs (assign (.Name id p) env x); assignInOrder ((assignEach elts env).map (·.2)) xs) Q E s
   refine wpAny_bind (wpAny_holding (wpAny_assign_Name (zfM U d hm.1 hv fun s' st d' => ?_)))
   exact ih (fun id i hi hm => hP id i hi (List.mem_cons_of_mem _ hm)) elts vs xs _ s' hm.2 (Nat.succ.inj hl) (st.vrs r) d' fun s'' st' d'' => h s'' ((st.mono (hP id i hm.1 List.mem_cons_self)).trans st') d''
theorem zjP : ∀ {is : List Nat} {elts : List Expr}, zhh S is elts = true → (assignEach elts env).length = is.length ∧ (assignEach elts env).findIdx? (·.1) = none
 | [], elts, h => by
  cases elts with
  | nil => exact ⟨rfl, rfl⟩
  | cons _ _ => exact nft h
 | i :: is, elts, h => by
  refine lcE h ?_
  intro x r h
  refine nmME h ?_
  intro id p h
  simp only [Bool.and_eq_true] at h
  have hr := zjP (is := is) h.2
  have e : assignEach (.Name id p :: r) env = (false, assign (.Name id p) env) :: assignEach r env := rfl
  rw [e]
  exact ⟨by simp [hr.1], by rw [List.findIdx?_cons]; simp [hr.2]⟩
theorem zgg {P : Addr → Prop} {t : Tg} {tg : Expr} {v : V} {x : Value} {ρ' : Loc} {Q : Unit → Shared → Prop} {E : Value → Shared → Prop} (U : Sur C k md Φ S env) (d : Dyn C k md S A env ρ σ s) (hm : zfX S t tg = true) (hv : VR s.heap v x) (hb : zaE t v ρ = some ρ')
  (hh : tgOk md t) (hP : ∀ id i, S.own id i = true → i ∈ tgOf t → ∀ a, OwnAt env id a → P a) (h : ∀ s', Step C P σ s σ s' → Dyn C k md S A env ρ' σ s' → Q () s') : wpAny C.M A (assign tg env x) Q E s := by
 cases t with
 | one i =>
  refine nmME hm ?_
  intro id p hm
  cases hb
  exact wpAny_assign_Name (zfM U d hm hv fun s' st d' => h s' (st.mono (hP _ _ hm (by simp [tgOf]))) d')
 | many is =>
  refine tuME hm ?_
  intro xs kk p hm
  simp only [Bool.and_eq_true] at hm
  cases v with
  | tup vs =>
   dsimp only [zaE] at hb
   split at hb
   ·rename_i hlen
    cases hb
    refine ob6 hv.tup_of ?_
    intro a ys n ee108
    subst ee108
    intro ha hY
    have hE := zjP (env := env) hm.1
    rw [arm_assign_Tuple]
    refine wpAny_bind (wpAny_standAt ?_)
    unfold unpack
    have e := hY.length
    rw [hE.1, hE.2, show is.length = ys.toArray.size by rw [List.size_toArray, hlen, e]]
    refine wpAny_bind (wpAny_holding (zaO (wpAny_unpackItems_tuple (d.a.handled hh) (zbW ha) fun h' hx hsz => ?_)))
    have st : Step C No σ s σ { s with heap := h' } := .grow (t := s.toks) d.r (fun b o e => hx b o (Nat.ne_of_lt (Heap.lt_size e)) e) hsz
    exact zjf U is hP _ _ _ _ _ hm.1 hlen (st.vrs hY) (d.step st) fun s' st' d' => h s' (st.no.trans st') d'
   ·cases hb
  | _ => cases hb
end
end Mine.Internal
end
section
namespace Mine.Internal
open PySem PySem.W PySem.Calls PyProof.Rows
noncomputable def zqh (C : Cx) (σ : Store) (s : Shared) (Q : Bool → Store → Prop) : Bool → Shared → Prop := fun b s' => ∃ σ', Q b σ' ∧ Step C No σ s σ' s'
noncomputable def CoP (C : Cx) (o : ExO) : Prop := ∀ {k : Nat} {md : Bool} {Φ : Calls} {S : Sc} {ifs : List Expr} {env : Env} {A : Around} {ρ : Loc} {σ : Store} {s : Shared} {Q : Bool → Store → Prop} {X : XP},
 Sur C k md Φ S env → Dyn C k md S A env ρ σ s → zez S o ifs = true → wpC Φ md o ρ σ Q X →
  wpAny C.M A (forIn ifs true fun c r => if r = true then do let ok ← isTrue c env (eval c env); pure (ForInStep.yield ok) else pure (ForInStep.yield r)) (zqh C σ s Q) (PostX C σ s X) s
section
variable {C : Cx} {k : Nat} {md : Bool} {Φ : Calls} {S : Sc} {env : Env} {A : Around} {ρ : Loc} {σ σ' σ₁ : Store} {s s' s₁ : Shared} {D : Addr → Prop} {X : XP}
theorem co_none : CoP C .none := by
 intro k md Φ S ifs env A ρ σ s Q X U d hm h
 cases ifs with
 | nil => simp only [zba, za9] at h; exact wpAny_tests_nil ⟨σ, h, .refl d.r⟩
 | cons _ _ => simp [zmY, zmZ, zmV, zmX, zmW] at hm
theorem zoN {e : Ex} (he : TrP C e) : CoP C (.some e) := by
 intro k md Φ S ifs env A ρ σ s Q X U d hm h
 cases ifs with
 | nil => simp [zmY, zmZ, zmV, zmX, zmW] at hm
 | cons x r =>
  cases r with
  | cons _ _ => simp [zmY, zmZ, zmV, zmX, zmW] at hm
  | nil =>
   simp only [zmY, zmZ, zmV, zmX, zmW] at hm; simp only [zba, za9] at h
   refine wpAny_tests_one (seqB (.refl d.r) (he U d hm h fun V σ' q => ?_) fun b V σ₁ s₁ q hb _ st => ?_)
   ·refine ob7 (zap q) ?_
    intro b hb _
    exact ⟨b, hb⟩
   ·refine ob7 (zap q) ?_
    intro b' hb' q
    rw [hb] at hb'; cases hb'
    exact ⟨σ₁, q, st⟩
theorem Step.adopt {a : Addr} {o : AO} (x : Step C D σ s σ' s') (ha : s.heap.objs.size ≤ a) (hn : σ' a = none) (hO : OR C.cls C.prog C.w s'.heap a o) (hb : C.base.objs.size ≤ a) : Step C D σ s (σ'.upd a o) s' := by
 refine ⟨x.h, ⟨x.rel.stays, fun b ob q => ?_, fun b ob q => ?_, x.rel.size⟩, fun b n => ?_, fun b n => ?_, x.gens, x.os⟩
 ·by_cases e : b = a
  ·subst e; rw [zdX] at q; cases q; exact hO
  ·rw [zcv e] at q; exact x.rel.tr b ob q
 ·by_cases e : b = a
  ·subst e; exact .inl hb
  ·rw [zcv e] at q; exact x.rel.new b ob q
 ·by_cases e : b = a
  ·subst e; rw [zdX]; simp
  ·rw [zcv e]; exact x.dom b n
 ·by_cases e : b = a
  ·subst e; exact .inr ha
  ·rw [zcv e] at n; exact x.fresh b n
theorem zhq {elt target iter : Expr} {ifs : List Expr} {scope : Scope} {pos : Pos} {it acc : Value} {R : Result → Shared → Prop} (I : Nat → Shared → Prop)
  (turn : ∀ n s, I n s → wpAny C.M A (pyNext it) (fun r s₁ => match r with
   | none => R (.ok .next) s₁
   | some v => wpAny C.M A (letOwnedTupleGo target it v) (fun _ s₁ => wpAny C.M A (assign target env v) (fun _ s₂ =>
     wpAny C.M A (forIn ifs true fun c r => if r = true then do let ok ← isTrue c env (eval c env); pure (ForInStep.yield ok) else pure (ForInStep.yield r)) (fun ok s₃ =>
      if ok = true then wpAny C.M A (eval elt env) (fun x s₄ => wpAny C.M A (call (.builtin "list.append") [acc, x]) (fun _ s₅ => ∃ m, m < n ∧ I m s₅) (fun _ _ => False) s₄) (fun _ _ => False) s₃
      else ∃ m, m < n ∧ I m s₃) (fun _ _ => False) s₂) (fun _ _ => False) s₁) (fun _ _ => False) s₁) (fun _ _ => False) s)
  (n : Nat) (h : I n s) : codeAny C.M A (.compLoop (.ListComp elt [⟨target, iter, ifs, 0⟩] scope pos) 0 it acc env) R s := by
 refine codeAny_loop rfl I (fun n s hI => ?_) n h
 show wpAny _ A ((compTurn (.ListComp elt [⟨target, iter, ifs, 0⟩] scope pos) 0 it acc env).onRaise (fun x => do noteFrame x env; theTreesLotGoes x)) _ _ s
 refine wpAny_noted ?_
 rw [compTurn_list]
 refine wpAny_bind (wpAny_standAt (wpAny_bind (wpAny_mono (turn n s hI) (fun r s₁ h₁ => ?_) fun _ _ h' => h'.elim)))
 cases r with
 | none => exact wpAny_pure h₁
 | some v =>
  refine wpAny_bind (wpAny_mono h₁ (fun _ s₁ h₁ => ?_) fun _ _ h' => h'.elim)
  refine wpAny_bind (wpAny_mono h₁ (fun _ s₂ h₂ => wpAny_bind (wpAny_mono h₂ (fun ok s₃ h₃ => ?_) fun _ _ h' => h'.elim)) fun _ _ h' => h'.elim)
  cases ok with
  | false => exact wpAny_pure ⟨rfl, h₃⟩
  | true =>
   exact wpAny_bind (wpAny_bind (wpAny_mono h₃ (fun x s₄ h₄ => wpAny_bind (wpAny_mono h₄ (fun _ s₅ h₅ => wpAny_pure (wpAny_pure ⟨rfl, h₅⟩)) fun _ _ h' => h'.elim)) fun _ _ h' => h'.elim))
structure CInv (C : Cx) (k : Nat) (md : Bool) (S : Sc) (A : Around) (cenv : Env) (ρ : Loc) (wr : List Addr) (acc : Addr) (St : Nat → Heap → Prop) (σ : Store) (s : Shared) (i : Nat) (vs : List V) (σ' : Store) (s' : Shared) : Prop where
 st : St i s'.heap
 hold : Hold C wr σ' s'.heap
 obj : ∃ xs n, IsL s'.heap acc xs.toArray n ∧ VRs s'.heap vs xs
 len : vs.length ≤ zax
 accN : σ' acc = none
 step : Step C (fun a => s.heap.objs.size ≤ a) σ s σ' s'
 dyn : Dyn C k md S A cenv ρ σ' s'
theorem CInv.no {cenv : Env} {wr : List Addr} {acc : Addr} {St : Nat → Heap → Prop} {i : Nat} {vs : List V} {σ₂ : Store} {s₂ : Shared} {I : Addr} {items : List V} {chk : Store → Prop} {Mid : Nat → Value → Heap → Prop} {ρ' : Loc}
  (W : ItOk C A I wr items chk St Mid) (v : CInv C k md S A cenv ρ wr acc St σ s i vs σ₁ s₁) (y : Step C D σ₁ s₁ σ₂ s₂) (hw : ∀ b ∈ wr, ¬ D b) (ha : ¬ D acc) (hD : ∀ a, D a → s.heap.objs.size ≤ a) (d : Dyn C k md S A cenv ρ' σ₂ s₂) :
  CInv C k md S A cenv ρ' wr acc St σ s i vs σ₂ s₂ := by
 refine ob14 (v.hold.step y hw) ?_
 intro h1 h2
 refine ob17 v.obj ?_
 intro xs n hL hX
 have hL' : IsL s₂.heap acc xs.toArray n := (y.h.keep acc _ hL fun q => q.elim (fun z => z v.accN) ha).plain (fun es m q => by cases q)
 exact ⟨W.frame i _ _ v.st y.h.tup h2, h1, ⟨xs, n, hL', y.vrs hX⟩, v.len, zbZ y hL v.accN, v.step.trans (y.mono hD), d⟩
theorem ItOk.next {I : Addr} {wr : List Addr} {items : List V} {chk : Store → Prop} {St : Nat → Heap → Prop} {Mid : Nat → Value → Heap → Prop} {i : Nat} {tg : Expr} {K : Option Value → Shared → Prop} {E : Value → Shared → Prop}
  (W : ItOk C A I wr items chk St Mid) (hi : i < items.length) (hst : St i s.heap) (r : Rel C σ s.heap) (m : Hold C wr σ s.heap) (hc : chk σ) 
  (h : ∀ v s₁, (∀ (Q' : Unit → Shared → Prop) (E' : Value → Shared → Prop), (∀ s₂, VR s₂.heap items[i] v → Step C (· ∈ wr) σ s σ s₂ → St (i + 1) s₂.heap → Hold C wr σ s₂.heap → Q' () s₂) → wpAny C.M A (letOwnedTupleGo tg (.ref I) v) Q' E' s₁) → K (some v) s₁) :
  wpAny C.M A (pyNext (.ref I)) K E s := by
 refine zaO (W.item i σ s hi hst r hc _ _ fun v h' tk hv hmid kk hsz => h v _ fun Q' E' hQ => ?_)
 have st1 : Step C (· ∈ wr) σ s σ { s with heap := h', toks := tk } := .wrote r m kk hsz
 refine zaO (W.go tg i v _ _ _ hmid fun h'' hst' kk' hsz' => ?_)
 have m1 : Hold C wr σ h' := ⟨m.no, W.midAt i v h' hmid⟩
 have st2 : Step C (· ∈ wr) σ { s with heap := h', toks := tk } σ { s with heap := h'', toks := tk } := .wrote (t := tk) st1.rel m1 kk' hsz'
 exact hQ _ (st2.vr hv) (st1.trans st2) hst' ⟨m.no, W.at_ _ _ hst'⟩
theorem ItOk.stop {I : Addr} {wr : List Addr} {items : List V} {chk : Store → Prop} {St : Nat → Heap → Prop} {Mid : Nat → Value → Heap → Prop} {K : Option Value → Shared → Prop} {E : Value → Shared → Prop}
  (W : ItOk C A I wr items chk St Mid) (hst : St items.length s.heap) (r : Rel C σ s.heap) (m : Hold C wr σ s.heap) (hc : chk σ) (h : ∀ s₁, Step C (· ∈ wr) σ s σ s₁ → K none s₁) : wpAny C.M A (pyNext (.ref I)) K E s :=
 zaO (W.done σ s hst r hc _ _ fun h' tk kk hsz => h _ (.wrote r m kk hsz))
theorem zkN {acc : Addr} {xs : List Value} {n : Nat} {x : Value} {K : Value → Shared → Prop} {E : Value → Shared → Prop} (r : Rel C σ s.heap) (hn : σ acc = none) (hb : C.base.get? acc = none) (hL : IsL s.heap acc xs.toArray n) (hz : xs.length ≤ zax)
  (h : ∀ s', Step C (· = acc) σ s σ s' → (∃ n', IsL s'.heap acc (xs ++ [x]).toArray n') → K .none s') : wpAny C.M A (call (.builtin "list.append") [.ref acc, x]) K E s := by
 refine call_meets F.slot_list_append ⟨_, hL, rfl⟩ F.entry_list_append (F.args_list_append_2 _ _) (list_append acc xs.toArray n x (by simp only [List.size_toArray]; exact zd5 hz)) ⟨hL, ?_⟩
 refine h _ (Step.oneBut (t := s.toks) r ⟨Heap.size_update .., fun b hb => Heap.get?_update_other _ _ (Ne.symm hb)⟩ hn hb rfl hL (fun q => by have := q.1; injection this with this; exact absurd this (by decide))) ?_
 have := hL.update (·.push x)
 refine ⟨if (xs.toArray.push x).size == xs.toArray.size then n else n + 1, ?_⟩
 rw [show (xs ++ [x]).toArray = xs.toArray.push x by simp]
 exact this
theorem zhU {i : Nat} {v : Option V} : ∀ {is : List Nat} {ws : List V} {ρ : Loc}, i ∉ is → ((is.zip ws).foldl (fun r p => r.set p.1 (some p.2)) ρ).set i v = (is.zip ws).foldl (fun r p => r.set p.1 (some p.2)) (ρ.set i v)
 | [], _, _, _ => by simp
 | _ :: _, [], _, _ => by simp
 | j :: is, w :: ws, ρ, h => by
  simp only [List.mem_cons, not_or] at h
  simp only [List.zip_cons_cons, List.foldl_cons]
  rw [zhU h.2, List.set_comm _ _ (Ne.symm h.1)]
theorem zgw : ∀ {is : List Nat} {vs ws : List V} {ρ : Loc}, is.Nodup → is.length = vs.length → (is.zip vs).foldl (fun r p => r.set p.1 (some p.2)) ((is.zip ws).foldl (fun r p => r.set p.1 (some p.2)) ρ) = (is.zip vs).foldl (fun r p => r.set p.1 (some p.2)) ρ
 | [], _, _, _, _, _ => by simp
 | _ :: _, [], _, _, _, h => by simp at h
 | _ :: _, _ :: _, [], _, _, _ => by simp
 | i :: is, v :: vs, w :: ws, ρ, hn, hl => by
  simp only [List.nodup_cons] at hn
  simp only [List.zip_cons_cons, List.foldl_cons]
  rw [zhU hn.1, List.set_set, zgw hn.2 (by simpa using hl)]
theorem zkK {t : Tg} {v w : V} {ρ ρ' ρ₁ : Loc} (hn : (tgOf t).Nodup) (h : zaE t w ρ = some ρ') (h' : zaE t v ρ = some ρ₁) : zaE t v ρ' = some ρ₁ := by
 cases t with
 | one i =>
  simp only [zaE, Option.some.injEq] at h h' ⊢
  subst h; subst h'
  rw [List.set_set]
 | many is =>
  cases v with
  | tup vs =>
   cases w with
   | tup ws =>
    simp only [zaE] at h h' ⊢
    split at h
    ·split at h'
     ·cases h; cases h'
      rename_i h1 h2
      rw [if_pos h2, zgw (is := is) hn h2]
     ·cases h'
    ·cases h
   | _ => simp [zaE] at h
  | _ => simp [zaE] at h'
theorem zkG {I acc : Addr} {wr : List Addr} {items : List V} {chk : Store → Prop} {St : Nat → Heap → Prop} {Mid : Nat → Value → Heap → Prop} {cenv : Env} {S' : Sc} {t : Tg} {tg x y : Expr} {ifs : List Expr} {elt : Ex} {cond : ExO} {scope : Scope} {pos : Pos}
  {Q : V → Store → Prop} {R : Result → Shared → Prop} (W : ItOk C A I wr items chk St Mid) (U : Sur C k md Φ S' cenv) (helt : EvP C elt) (hcond : CoP C cond) (hT : zfX S' t tg = true) (hE : zau S' elt x = true) (hC : zez S' cond ifs = true)
  (hmd : md = true)  (hP : ∀ id i, S'.own id i = true → i ∈ tgOf t → ∀ a, OwnAt cenv id a → a = cenv.locals) (hnd : (tgOf t).Nodup)
  (hwr : ∀ b ∈ wr, s.heap.objs.size ≤ b ∧ ¬ Own cenv b ∧ b ≠ acc) (hacc : s.heap.objs.size ≤ acc ∧ ¬ Own cenv acc) (hbacc : C.base.get? acc = none) (hloc : s.heap.objs.size ≤ cenv.locals) (low : Low A s.heap.objs.size)
  (hR : ∀ vs σ' s', (∃ i ρ₀, CInv C k md S' A cenv ρ₀ wr acc St σ s i vs σ' s') → Mine.Internal.alloc σ' (.list vs) Q → ∀ s'', Step C (· ∈ wr) σ' s' σ' s'' → R (.ok .next) s'') {i : Nat} {vs : List V} {σ₁ : Store} {s₁ : Shared} {ρ₀ : Loc} (hbind : ∀ v ρ₁, zaE t v ρ = some ρ₁ → zaE t v ρ₀ = some ρ₁)
  (inv : CInv C k md S' A cenv ρ₀ wr acc St σ s i vs σ₁ s₁) (hi : i ≤ items.length)
  (h : zb4 chk (fun v σ₂ K => zav (zaE t v ρ) fun ρ' => wpC Φ md cond ρ' σ₂ (fun b σ₃ => if b then wpE Φ md elt ρ' σ₃ (fun x σ₄ => K (some x) σ₄) noX else K none σ₃) noX) Q (items.drop i) vs σ₁) :
  codeAny C.M A (.compLoop (.ListComp x [⟨tg, y, ifs, 0⟩] scope pos) 0 (.ref I) (.ref acc) cenv) R s₁ := by
 refine zhq (fun n s' => ∃ i vs σ' ρ₀, (∀ v ρ₁, zaE t v ρ = some ρ₁ → zaE t v ρ₀ = some ρ₁) ∧ CInv C k md S' A cenv ρ₀ wr acc St σ s i vs σ' s' ∧ i ≤ items.length ∧ n = items.length - i ∧
  zb4 chk (fun v σ₂ K => zav (zaE t v ρ) fun ρ' => wpC Φ md cond ρ' σ₂ (fun b σ₃ => if b then wpE Φ md elt ρ' σ₃ (fun x σ₄ => K (some x) σ₄) noX else K none σ₃) noX) Q (items.drop i) vs σ') ?_ (items.length - i) ⟨i, vs, σ₁, ρ₀, hbind, inv, hi, rfl, h⟩
 clear h hi inv hbind
 intro n s' zz9
 refine ob42 zz9 ?_
 clear zz9
 intro i vs σ' ρ₀ hbind inv hi ee109
 subst ee109
 intro h
 by_cases hlt : i < items.length
 ·rw [List.drop_eq_getElem_cons hlt] at h
  simp only [zb4] at h
  refine ob16 h ?_
  clear h
  intro hc hlen h
  refine ob7 (zap h) ?_
  intro ρ' hb h
  refine W.next hlt inv.st inv.dyn.r inv.hold hc fun v s₁ hgo => hgo _ _ fun s₂ hv st hst' hold' => ?_
  have hOwr : ∀ a, Own cenv a → ¬ a ∈ wr := fun a ha hb => (hwr a hb).2.1 ha
  have d2 : Dyn C k md S' A cenv ρ₀ σ' s₂ := inv.dyn.apart (n := s.heap.objs.size) st low (fun a ha => (hwr a ha).1) hOwr
  refine ob17 inv.obj ?_
  intro xs n hL hX
  have hL2 : IsL s₂.heap acc xs.toArray n := (st.h.keep acc _ hL fun q => q.elim (fun z => z inv.accN) fun z => (hwr acc z).2.2 rfl).plain (fun es m q => by cases q)
  have inv2 : CInv C k md S' A cenv ρ₀ wr acc St σ s (i + 1) vs σ' s₂ := ⟨hst', hold', ⟨xs, n, hL2, st.vrs hX⟩, inv.len, zbZ st hL inv.accN, inv.step.trans (st.mono fun a ha => (hwr a ha).1), d2⟩
  refine zgg (P := fun a => a = cenv.locals) U d2 hT hv (hbind _ _ hb) (by cases t <;> first | rfl | exact hmd) hP fun s₃ st3 d3 => ?_
  have locO : Own cenv cenv.locals := .inl rfl
  have inv3 : CInv C k md S' A cenv ρ' wr acc St σ s (i + 1) vs σ' s₃ := inv2.no W st3 (fun b hb q => (hwr b hb).2.1 (q ▸ locO)) (fun q => hacc.2 (q ▸ locO)) (fun a q => q ▸ hloc) d3
  refine wpAny_mono (hcond U d3 hC h) (fun b s₄ h₄ => ?_) fun _ _ hx => False.elim hx
  refine ob7 h₄ ?_
  clear h₄
  intro σ₄ h st4
  have inv4 := inv3.no W st4 (fun _ _ f => f) (fun f => f) (fun _ f => f.elim) (d3.step st4)
  have hb' := hbind _ _ hb
  have hbn : ∀ v ρ₁, zaE t v ρ = some ρ₁ → zaE t v ρ' = some ρ₁ := fun v ρ₁ hv => zkK hnd hb hv
  cases b with
  | false => exact ⟨items.length - (i + 1), by lia, i + 1, vs, σ₄, ρ', hbn, inv4, hlt, rfl, h⟩
  | true =>
   refine wpAny_mono (helt U (d3.step st4) hE h) (fun y s₅ h₅ => ?_) fun _ _ hx => False.elim hx
   refine ob1 h₅ ?_
   clear h₅
   intro V σ₅ h hv5 st5
   have inv5 := inv4.no W st5 (fun _ _ f => f) (fun f => f) (fun _ f => f.elim) ((d3.step st4).step st5)
   refine ob17 inv5.obj ?_
   intro xs5 n5 hL5 hX5
   have e5 := hX5.length
   refine zkN inv5.dyn.r inv5.accN hbacc hL5 (by have := inv5.len; lia) fun s₆ st6 hL6 => ?_
   refine ob12 hL6 ?_
   clear hL6
   intro n6 hL6
   refine ob14 (inv5.hold.step st6 fun b hb q => (hwr b hb).2.2 q) ?_
   intro hold6 kp6
   have d6 : Dyn C k md S' A cenv ρ' σ₅ s₆ := inv5.dyn.apart (n := s.heap.objs.size) st6 low (fun a ha => ha ▸ hacc.1) fun a ha q => hacc.2 (q ▸ ha)
   refine ⟨items.length - (i + 1), by lia, i + 1, vs ++ [V], σ₅, ρ', hbn, ⟨W.frame _ _ _ inv5.st st6.h.tup kp6, hold6, ⟨xs5 ++ [y], n6, hL6, (st6.vrs hX5).append (.cons (st6.vr hv5) .nil)⟩, ?_, inv5.accN, inv5.step.trans (st6.mono fun a ha => ha ▸ hacc.1), d6⟩, hlt, rfl, h⟩
   simp only [List.length_append, List.length_cons, List.length_nil]; lia
 ·have hi' : i = items.length := by lia
  subst hi'
  rw [List.drop_length] at h
  simp only [zb4] at h
  exact W.stop inv.st inv.dyn.r inv.hold h.1 fun s₁ st => hR vs σ' s' ⟨_, _, inv⟩ h.2 s₁ st
/- a comprehension's block -/
noncomputable def clOf (env : Env) (names : List (Str × NameKind)) : List (Str × Addr) := ((names.filter fun x => x.2 == .free).map fun x => (x.1, (env.cells.lookup x.1).getD 0)).reverse
theorem zgQ (f : Str × NameKind → List (Str × Addr) → Sem (ForInStep (List (Str × Addr))))
  (hf : ∀ name kind cs, f (name, kind) cs = if kind == .free then (do let a ← cellOf env name; pure (.yield ((name, a) :: cs))) else pure (.yield cs)) :
  ∀ (names : List (Str × NameKind)) (acc : List (Str × Addr)), (∀ x ∈ names, x.2 = .free → (env.cells.lookup x.1).isSome = true) → forIn names acc f = (pure (clOf env names ++ acc) : Sem _)
 | [], acc, _ => rfl
 | (n, kd) :: r, acc, h => by
  rw [List.forIn_cons, hf]
  have ih := fun acc => zgQ f hf r acc fun x hx => h x (List.mem_cons_of_mem _ hx)
  by_cases hk : kd = .free
  ·subst hk
   refine ob12 (Option.isSome_iff_exists.mp (h (n, .free) List.mem_cons_self rfl)) ?_
   intro c hc
   have e : cellOf env n = pure c := by unfold cellOf; rw [hc]
   rw [if_pos (by rfl), e]
   show forIn r ((n, c) :: acc) f = _
   rw [ih]
   simp [clOf, hc]
  ·rw [if_neg (by simpa using hk)]
   show forIn r acc f = _
   rw [ih]
   have : (kd == NameKind.free) = false := by simpa using hk
   simp [clOf, this]
theorem zkI {scope : Scope} (h : ∀ x ∈ scope.names, x.2 = .free → (env.cells.lookup x.1).isSome = true) : closureFor scope env = pure (clOf env scope.names) := by
 have key : forIn scope.names [] (fun (x : Str × NameKind) (cs : List (Str × Addr)) => match x with
   | (name, kind) => if (kind == NameKind.free) = true then (do let a ← cellOf env name; pure (ForInStep.yield ((name, a) :: cs))) else pure (ForInStep.yield cs)) = (pure (clOf env scope.names ++ []) : Sem _) :=
  zgQ _ (fun _ _ _ => rfl) scope.names [] h
 rw [List.append_nil] at key
 unfold closureFor
 exact congrArg (fun m : Sem (List (Str × Addr)) => m >>= fun cs => pure cs) key
theorem zh6 {α : Type} (f : Str → α) : ∀ (l : List Str) (n : Str), (l.map fun x => (x, f x)).lookup n = if n ∈ l then some (f n) else none
 | [], n => by simp
 | m :: l, n => by
  rw [List.map_cons, List.lookup_cons]
  by_cases h : n = m
  ·subst h; simp
  ·rw [beq_eq_false_iff_ne.mpr h, zh6 f l n]
   simp [h]
theorem zeq {names : List (Str × NameKind)} {n : Str} : (clOf env names).lookup n = if (n, NameKind.free) ∈ names then some ((env.cells.lookup n).getD 0) else none := by
 have e : clOf env names = (((names.filter fun x => x.2 == .free).map (·.1)).reverse).map fun x => (x, (env.cells.lookup x).getD 0) := by
  unfold clOf
  rw [List.map_reverse, List.map_map]; rfl
 rw [e, zh6]
 have : (n ∈ ((names.filter fun x => x.2 == .free).map (·.1)).reverse) ↔ (n, NameKind.free) ∈ names := by
  simp only [List.mem_reverse, List.mem_map, List.mem_filter, beq_iff_eq]
  constructor
  ·intro zz10
   refine lift fun g9 k9 => ?_
   obtain ⟨⟨a, b⟩, ⟨h1, h2⟩, h3⟩ := zz10
   refine k9 ?_
   clear k9 g9
   simp only at h2 h3
   subst h2; subst h3; exact h1
  ·intro h; exact ⟨_, ⟨h, rfl⟩, rfl⟩
 by_cases h : (n, NameKind.free) ∈ names
 ·rw [if_pos (this.mpr h), if_pos h]
 ·rw [if_neg (fun q => h (this.mp q)), if_neg h]
theorem zkr {names : List (Str × NameKind)} (hn : (names.map (·.1)).Nodup) {n : Str} {kd : NameKind} (h : (n, kd) ∈ names) : names.lookup n = some kd := by
 induction names with
 | nil => cases h
 | cons x r ih =>
  obtain ⟨m, j⟩ := x
  simp only [List.map_cons, List.nodup_cons] at hn
  rcases List.mem_cons.mp h with e | h
  ·cases e; simp [List.lookup_cons]
  ·have : n ≠ m := fun e => hn.1 (e ▸ List.mem_map_of_mem (f := (·.1)) h)
   rw [List.lookup_cons, beq_eq_false_iff_ne.mpr this]
   exact ih hn.2 h
theorem zeZ {names : List (Str × NameKind)} {n : Str} {kd : NameKind} (h : names.lookup n = some kd) : (n, kd) ∈ names := PySem.mem_of_lookup h
theorem zg9 {out names : List (Str × NameKind)} {n : Str} {kd : NameKind} (h : (n, kd) ∈ relN out names) : ∃ kd₀, (n, kd₀) ∈ names ∧ (kd = kd₀ ∨ (kd₀ = .free ∧ kd = .cell)) := by
 unfold relN at h
 refine lift fun g9 k9 => ?_
 obtain ⟨⟨m, j⟩, hm, e⟩ := List.mem_map.mp h
 refine k9 ?_
 clear k9 g9
 dsimp only at e
 split at e
 ·rename_i hc
  cases e
  simp only [Bool.and_eq_true, beq_iff_eq] at hc
  exact ⟨j, hm, .inr ⟨hc.1, rfl⟩⟩
 ·cases e; exact ⟨_, hm, .inl rfl⟩
theorem zki {out names : List (Str × NameKind)} {n : Str} (h : names.lookup n = some .local) : (relN out names).lookup n = some .local := by
 induction names with
 | nil => simp at h
 | cons x r ih =>
  obtain ⟨m, j⟩ := x
  rw [List.lookup_cons] at h
  show List.lookup n ((if j == .free && out.lookup m == some .cell then (m, .cell) else (m, j)) :: relN out r) = _
  cases hb : n == m with
  | true =>
   rw [hb] at h; cases h
   simp [List.lookup_cons, hb]
  | false =>
   rw [hb] at h
   split
   ·rw [List.lookup_cons, hb]; exact ih h
   ·rw [List.lookup_cons, hb]; exact ih h
structure CompOk (S : Sc) (bs : List (String × Nat)) (scope : Scope) : Prop where
 kind : scope.kind = .function
 nodup : (scope.names.map (·.1)).Nodup
 names : ∀ n kd, (n, kd) ∈ scope.names → (kd = .local ∧ (n = (".0" : Str) ∨ ∃ p ∈ bs, Str.ofString p.1 = n)) ∨ (kd = .free ∧ (S.names.lookup n = some .cell ∨ S.names.lookup n = some .free)) ∨ kd = .globalImplicit
 zero : ∀ q ∈ bs ++ S.nm, Str.ofString q.1 ≠ (".0" : Str)
 nm : (bs.map (·.1)).Nodup
 idx : (bs.map (·.2)).Nodup
 bs : ∀ p ∈ bs, scope.names.lookup (Str.ofString p.1) = some .local ∧ p.2 < S.size ∧ ∀ q ∈ S.nm, q.2 ≠ p.2
theorem zjb {bs : List (String × Nat)} {scope : Scope} (h : zjR S bs scope = true) : CompOk S bs scope := by
 unfold zjR at h
 simp only [Bool.and_eq_true, beq_iff_eq, decide_eq_true_eq, List.all_eq_true, bne_iff_ne] at h
 refine ob43 h ?_
 clear h
 intro h1 h2 h3 h4 h5 h6 h7
 refine ⟨h1, h2, fun n kd hm => ?_, h4, h5, h6, fun p hp => ⟨(h7 p hp).1.1, (h7 p hp).1.2, (h7 p hp).2⟩⟩
 have := h3 (n, kd) hm
 dsimp only at this
 cases kd with
 | «local» =>
  simp only [Bool.or_eq_true, decide_eq_true_eq, List.any_eq_true] at this
  exact .inl ⟨rfl, this⟩
 | free =>
  simp only [Bool.or_eq_true, beq_iff_eq] at this
  exact .inr (.inl ⟨rfl, this⟩)
 | globalImplicit => exact .inr (.inr rfl)
 | _ => cases this
theorem za6 : ∀ {l : List (String × Nat)} {x : String} {i : Nat}, l.lookup x = some i → (x, i) ∈ l
 | (y, j) :: r, x, i, h => by
  rw [List.lookup_cons] at h
  cases hb : x == y with
  | true => rw [hb] at h; cases h; rw [beq_iff_eq.mp hb]; exact List.mem_cons_self
  | false => rw [hb] at h; exact List.mem_cons_of_mem _ (za6 h)
theorem zgG : ∀ {l : List (String × Nat)} {x : String}, x ∈ l.map (·.1) → ∃ i, l.lookup x = some i
 | (y, j) :: r, x, h => by
  rw [List.lookup_cons]
  cases hb : x == y with
  | true => exact ⟨j, rfl⟩
  | false =>
   rcases List.mem_cons.mp h with e | h
   ·rw [e] at hb; simp at hb
   ·exact zgG h
theorem zop {l : List (String × Nat)} (hn : (l.map (·.2)).Nodup) {x y : String} {i : Nat} (hx : (x, i) ∈ l) (hy : (y, i) ∈ l) : x = y := by
 induction l with
 | nil => cases hx
 | cons p r ih =>
  simp only [List.map_cons, List.nodup_cons] at hn
  rcases List.mem_cons.mp hx with e | hx <;> rcases List.mem_cons.mp hy with e' | hy
  ·rw [← e'] at e; exact (Prod.mk.inj e).1
  ·exact absurd (List.mem_map_of_mem (f := (·.2)) hy) (by rw [← e] at hn; exact hn.1)
  ·exact absurd (List.mem_map_of_mem (f := (·.2)) hx) (by rw [← e'] at hn; exact hn.1)
  ·exact ih hn.2 hx hy
theorem zb2 {bs nm : List (String × Nat)} {x : String} {i : Nat} (h : (bs ++ nm).lookup x = some i) : bs.lookup x = some i ∨ (bs.lookup x = none ∧ nm.lookup x = some i) := by
 rw [List.lookup_append] at h
 cases hb : bs.lookup x with
 | none => rw [hb] at h; exact .inr ⟨rfl, h⟩
 | some j => rw [hb] at h; cases h; exact .inl rfl
theorem zoL {bs : List (String × Nat)} {scope : Scope} (K : CompOk S bs scope) (h : NmOk S.nm S.size) : NmOk (bs ++ S.nm) S.size := by
 refine ⟨fun x y i hx hy => ?_, fun x i hx => ?_⟩
 ·rcases zb2 hx with hx | ⟨_, hx⟩ <;> rcases zb2 hy with hy | ⟨_, hy⟩
  ·exact zop K.idx (za6 hx) (za6 hy)
  ·exact absurd rfl ((K.bs (x, i) (za6 hx)).2.2 (y, i) (za6 hy))
  ·exact absurd rfl ((K.bs (y, i) (za6 hy)).2.2 (x, i) (za6 hx))
  ·exact h.1 x y i hx hy
 ·rcases zb2 hx with hx | ⟨_, hx⟩
  ·exact (K.bs _ (za6 hx)).2.1
  ·exact h.2 x i hx
theorem zjQ {bs : List (String × Nat)} {scope : Scope} {L : Addr} (U : Sur C k md Φ S env) (K : CompOk S bs scope) : EnvS (zcE S bs scope.names) (compEnvC scope (clOf env scope.names) L env) := by
 have hrel : (relabel scope env).names = relN S.names scope.names := by
  unfold relabel relN
  dsimp only
  refine List.map_congr_left fun x _ => ?_
  obtain ⟨n, kd⟩ := x
  dsimp only
  rw [U.ev.kind, U.ev.kindOf, show (ScopeKind.function == ScopeKind.function) = true from rfl, Bool.and_true]
 refine ⟨⟨K.kind, U.ev.globals, U.ev.builtins⟩, hrel, zoL K U.ev.nm, fun x hx => ?_⟩
 show ((clOf env scope.names).lookup x).isSome = true
 have : (x, NameKind.free) ∈ scope.names := by
  rcases hx with hx | hx
  ·refine ob7 (zg9 (zeZ hx)) ?_
   intro kd₀ hm e
   rcases e with rfl | ⟨rfl, _⟩
   ·rcases K.names _ _ hm with ⟨e, _⟩ | ⟨e, _⟩ | e <;> cases e
   ·exact hm
  ·refine ob7 (zg9 (zeZ hx)) ?_
   intro kd₀ hm e
   rcases e with rfl | ⟨rfl, e⟩
   ·exact hm
   ·cases e
 rw [zeq, if_pos this]; rfl
noncomputable def zd4 (bs : List (String × Nat)) (ρ : Loc) : Loc := bs.foldl (fun r p => r.set p.2 none) ρ
theorem unbind_len : ∀ {bs : List (String × Nat)} {ρ : Loc}, (zd4 bs ρ).length = ρ.length
 | [], _ => rfl
 | p :: r, ρ => by rw [zd4, List.foldl_cons]; exact (unbind_len (bs := r)).trans (by simp)
theorem zgt : ∀ {bs : List (String × Nat)} {ρ : Loc} {i : Nat} {v : V}, (zd4 bs ρ).get i = some v → ρ.get i = some v ∧ i ∉ bs.map (·.2)
 | [], _, _, _, h => ⟨h, by simp⟩
 | p :: r, ρ, i, v, h => by
  rw [zd4, List.foldl_cons] at h
  refine ob14 (zgt (bs := r) h) ?_
  intro h1 h2
  by_cases e : i = p.2
  ·subst e
   by_cases hl : p.2 < ρ.length
   ·rw [Loc.get_set_self hl] at h1; cases h1
   ·simp [Loc.get, hl] at h1
  ·rw [Loc.get_set_ne e] at h1
   exact ⟨h1, by simp only [List.map_cons, List.mem_cons, not_or]; exact ⟨e, h2⟩⟩
theorem ziH {t : Tg} {bs : List (String × Nat)} {v : V} {ρ₁ : Loc} (hn : (tgOf t).Nodup) (ht : tgOf t = bs.map (·.2)) (h : zaE t v ρ = some ρ₁) : zaE t v (zd4 bs ρ) = some ρ₁ := by
 have comm : ∀ {is : List Nat} {i : Nat} {ρ : Loc} {u : Option V}, i ∉ is → (is.foldl (fun r j => r.set j none) ρ).set i u = is.foldl (fun r j => r.set j none) (ρ.set i u) := by
  intro is
  induction is with
  | nil => intros; rfl
  | cons j is ih =>
   intro i ρ u hi
   simp only [List.mem_cons, not_or] at hi
   simp only [List.foldl_cons]
   rw [ih hi.2, List.set_comm _ _ (Ne.symm hi.1)]
 have many : ∀ {is : List Nat} {vs : List V} {ρ : Loc}, is.Nodup → is.length = vs.length → (is.zip vs).foldl (fun r p => r.set p.1 (some p.2)) (is.foldl (fun r j => r.set j none) ρ) = (is.zip vs).foldl (fun r p => r.set p.1 (some p.2)) ρ := by
  intro is
  induction is with
  | nil => intros; rfl
  | cons j is ih =>
   intro vs ρ hn hl
   cases vs with
   | nil => simp at hl
   | cons v vs =>
    simp only [List.nodup_cons] at hn
    simp only [List.zip_cons_cons, List.foldl_cons]
    rw [comm hn.1, List.set_set, ih hn.2 (by simpa using hl)]
 have eu : zd4 bs ρ = (bs.map (·.2)).foldl (fun r j => r.set j none) ρ := by unfold zd4; rw [List.foldl_map]
 rw [eu, ← ht]
 cases t with
 | one i =>
  simp only [zaE, Option.some.injEq, tgOf, List.foldl_cons, List.foldl_nil] at h ⊢
  subst h
  rw [List.set_set]
 | many is =>
  cases v with
  | tup vs =>
   simp only [zaE, tgOf] at h ⊢
   split at h
   ·rename_i hl
    cases h
    rw [if_pos hl, many (is := is) hn hl]
   ·cases h
  | _ => simp [zaE] at h
theorem zoM {bs : List (String × Nat)} {scope : Scope} {L : Addr} {m : Str → Option Value} (U : Sur C k md Φ S env) (K : CompOk S bs scope) (l : LR C σ s.heap env S.nm ρ) (hN : s.heap.Ns L m) (hσ : σ L = none) (hb : C.base.get? L = none) :
  LR C σ s.heap (compEnvC scope (clOf env scope.names) L env) (bs ++ S.nm) (zd4 bs ρ) := by
 have ES := zjQ (L := L) U K
 have cl : ∀ {x c}, (clOf env scope.names).lookup x = some c → (x, NameKind.free) ∈ scope.names ∧ env.cells.lookup x = some c := fun {x c} h => by
  rw [zeq] at h
  split at h
  ·rename_i hf
   refine ⟨hf, ?_⟩
   rcases K.names _ _ hf with ⟨e, _⟩ | ⟨_, hx⟩ | e
   ·cases e
   ·refine ob12 (Option.isSome_iff_exists.mp (U.ev.cells x hx)) ?_
    intro c' hc'
    rw [hc'] at h ⊢
    exact h
   ·cases e
  ·cases h
 refine ⟨fun x i v hx hv => ?_, ⟨m, hN⟩, ⟨hσ, hb⟩, fun x c hc => l.cells x c (cl hc).2, fun x y c hx hy => l.apart x y c (cl hx).2 (cl hy).2⟩
 refine ob14 (zgt hv) ?_
 intro hv hni
 rcases zb2 hx with hx | ⟨hxn, hx⟩
 ·exact absurd (List.mem_map_of_mem (f := (·.2)) (za6 hx)) hni
 have hold := l.holds x i v hx hv
 have kk := ES.kindOf (Str.ofString x)
 unfold Holds at hold ⊢
 rw [kk]
 have free : (zcE S bs scope.names).names.lookup (Str.ofString x) = some .cell ∨ (zcE S bs scope.names).names.lookup (Str.ofString x) = some .free → ∃ c u, (clOf env scope.names).lookup (Str.ofString x) = some c ∧ s.heap.IsCell c (some u) ∧ VR s.heap v u := fun hx' => by
  refine ob12 (Option.isSome_iff_exists.mp (ES.cells _ hx')) ?_
  intro c hc
  refine ob14 (cl hc) ?_
  intro hf hc'
  rcases K.names _ _ hf with ⟨e, _⟩ | ⟨_, hy⟩ | e
  ·cases e
  ·rw [U.ev.kindOf] at hold
   rcases hy with hy | hy
   ·rw [hy] at hold
    refine ob1 hold ?_
    clear hold
    intro c₁ u h1 h2 h3
    rw [hc'] at h1; cases h1
    exact ⟨c, u, hc, h2, h3⟩
   ·rw [hy] at hold
    refine ob1 hold ?_
    clear hold
    intro c₁ u h1 h2 h3
    rw [hc'] at h1; cases h1
    exact ⟨c, u, hc, h2, h3⟩
  ·cases e
 split
 ·rename_i hk
  exfalso
  refine ob7 (zg9 (zeZ hk)) ?_
  intro kd₀ hm e
  rcases e with rfl | ⟨rfl, e⟩
  ·rcases K.names _ _ hm with ⟨_, e | ⟨p, hp, e⟩⟩ | ⟨e, _⟩ | e
   ·exact K.zero (x, i) (List.mem_append_right _ (za6 hx)) e
   ·have := ofString_inj e
    obtain ⟨j, hj⟩ := zgG (l := bs) (x := x) (by rw [← this]; exact List.mem_map_of_mem (f := (·.1)) hp)
    rw [hxn] at hj; cases hj
   ·cases e
   ·cases e
  ·cases e
 ·rename_i hk; exact free (.inl hk)
 ·rename_i hk; exact free (.inr hk)
 ·trivial
noncomputable def CEnd (C : Cx) (σ : Store) (s : Shared) (Q : V → Store → Prop) (acc L : Addr) (s' : Shared) : Prop :=
 ∃ σ', Q (.ref acc) σ' ∧ Step C No σ s σ' s' ∧ (∃ m, s'.heap.Ns L m) ∧ σ' L = none ∧ C.base.get? L = none ∧ s.heap.objs.size ≤ L
theorem zil {bs : List (String × Nat)} {elt it : Ex} {t : Tg} {cond : ExO} {x y tg : Expr} {ifs : List Expr} {scope : Scope} {pos : Pos} {Q : V → Store → Prop} {E : Value → Shared → Prop} {use : Option (Value → Sem Unit)} {QQ : Value → Shared → Prop}
  (hit : ItP C it) (helt : EvP C elt) (hcond : CoP C cond) (U : Sur C k md Φ S env) (d : Dyn C k md S A env ρ σ s) (hm : zau S (.comp bs elt t it cond) (.ListComp x [⟨tg, y, ifs, 0⟩] scope pos) = true)
  (h : wpE Φ md (.comp bs elt t it cond) ρ σ Q X) (hE : ∀ v s', PostX C σ s X v s' → E v s')
  (hend : ∀ acc L s', CEnd C σ s Q acc L s' → compPost C.M A E use QQ (.ref acc) L (.ok .next) s') :
  wpAny C.M A (comprehension (.ListComp x [⟨tg, y, ifs, 0⟩] scope pos) scope env y.pos (newList []) false (eval y env) use) QQ E s := by
 have hm : (zjR S bs scope && zfX (zcE S bs scope.names) t tg && decide (tgOf t = bs.map (·.2)) && zau S it y && zau (zcE S bs scope.names) elt x && zez (zcE S bs scope.names) cond ifs && decide ((0 : Int) = 0)) = true := hm
 simp only [Bool.and_eq_true, decide_eq_true_eq] at hm
 rw [zmo] at h
 replace h := zex h
 refine ob43 hm ?_
 clear hm
 intro hK hT htt h1 h2 h3 _
 refine ob14 h ?_
 clear h
 intro hmd h
 have K := zjb hK
 have hfree : ∀ z ∈ scope.names, z.2 = .free → (env.cells.lookup z.1).isSome = true := fun z hz hf => by
  obtain ⟨n, kd⟩ := z
  simp only at hf
  subst hf
  rcases K.names _ _ hz with ⟨e, _⟩ | ⟨_, hy⟩ | e
  ·cases e
  ·exact U.ev.cells n hy
  ·cases e
 refine wpAny_comprehension_free (cl := clOf env scope.names) rfl (fun v => zih h1 v) (zkI hfree) K.kind (fun z hz hl => zkr K.nodup (by obtain ⟨n, kd⟩ := z; simp only at hl; subst hl; exact hz)) ?_
 refine wpAny_mono (hit U d h1 hmd h) (fun v s₁ h₁ => wpAny_mono h₁ (fun v s₂ h₂ => ?_) fun _ _ hx => hE _ _ hx) fun _ _ hx => hE _ _ hx
 refine ob44 h₂ ?_
 clear h₂
 intro I wr items chk St Mid σ₁ ee110
 subst ee110
 intro W hst hold hwr st q
 refine wpAny_newList ?_ (by simp [sizeLine_eq])
 refine wpAny_newFunctionEnv (fun z hz e => ?_) (fun z hz => by cases hz) (fun h' hN hs => ?_) K.kind
 ·obtain ⟨n, kd⟩ := z
  simp only at e
  subst e
  rcases K.names _ _ hz with ⟨e, _⟩ | ⟨e, _⟩ | e <;> cases e
 have hsz3 : (s₂.heap.push { cls := .type "list", data := .seq #[] }).objs.size = s₂.heap.objs.size + 1 := Heap.size_push ..
 generalize hacc : s₂.heap.objs.size = acc at hsz3 ⊢
 have hLe : ({ s₂ with heap := s₂.heap.push { cls := .type "list", data := .seq ([] : List Value).toArray } } : Shared).heap.objs.size = acc + 1 := hsz3
 rw [hLe] at hN hs ⊢
 show codeAny C.M A (.compStart _ 0 (.ref I) (.ref acc) (compEnvC scope (clOf env scope.names) (acc + 1) env)) _ _
 have kp : ∀ b o, s₂.heap.get? b = some o → h'.get? b = some o := fun b o e => by
  have hlt := Heap.lt_size e
  rw [hacc] at hlt
  rw [hs.2 b (Nat.ne_of_lt (Nat.lt_succ_of_lt hlt))]
  exact zak _ _ (zak _ _ e)
 have hsz : s₂.heap.objs.size ≤ h'.objs.size := by
  rw [hs.1, Heap.size_push, Heap.size_push]; lia
 have stg : Step C No σ₁ s₂ σ₁ { s₂ with heap := h', toks := s₂.toks + ([] : List (Str × Value)).length } := .grow st.rel kp hsz
 have st4 := st.trans stg
 have hss := st.h.size
 have d4 := d.step st4
 have haccO : h'.get? acc = some (seqObj "list" ([] : List Value).toArray 0) := by
  rw [hs.2 acc (Nat.ne_of_lt (Nat.lt_succ_self _))]
  refine zak _ _ ?_
  rw [← hacc]; exact Heap.get?_push_size _ rfl
 have sacc : s.heap.objs.size ≤ acc := hacc ▸ hss
 have naccσ : σ₁ acc = none := st.rel.none_of_ge (Nat.le_of_eq hacc)
 have nLσ : σ₁ (acc + 1) = none := st.rel.none_of_ge (by rw [hacc]; exact Nat.le_succ _)
 have nLb : C.base.get? (acc + 1) = none := zbu st.rel (by rw [hacc]; exact Nat.le_succ _)
 have naccb : C.base.get? acc = none := zbu st.rel (Nat.le_of_eq hacc)
 have U' : Sur C k md Φ (zcE S bs scope.names) (compEnvC scope (clOf env scope.names) (acc + 1) env) := ⟨U.X, U.ca, zjQ U K⟩
 have d' : Dyn C k md (zcE S bs scope.names) A (compEnvC scope (clOf env scope.names) (acc + 1) env) (zd4 bs ρ) σ₁ { s₂ with heap := h', toks := s₂.toks + ([] : List (Str × Value)).length } :=
  ⟨d4.a, d4.r, zoM U K d4.l hN nLσ nLb, unbind_len.trans d.len⟩
 refine ob14 (hold.step stg fun _ _ f => f) ?_
 intro hold4 kp4
 -- the cells of the outer block are old
 have cellOld : ∀ c, Own (compEnvC scope (clOf env scope.names) (acc + 1) env) c → c = acc + 1 ∨ c < s.heap.objs.size := fun c hc => by
  rcases hc with rfl | ⟨n, hc⟩
  ·exact .inl rfl
  ·right
   have hc : (clOf env scope.names).lookup n = some c := hc
   have hc' : env.cells.lookup n = some c := by
    rw [zeq] at hc
    split at hc
    ·rename_i hf
     refine ob12 (Option.isSome_iff_exists.mp (hfree _ hf rfl)) ?_
     intro c' hc'
     rw [hc'] at hc ⊢; exact hc
    ·cases hc
   refine ob10 (d.l.cells n c hc') ?_
   intro v o ho _ _
   exact Heap.lt_size ho
 have wrLt : ∀ b ∈ wr, b < acc := fun b hb => by
  refine ob7 (hold.at_ b hb) ?_
  intro o ho _
  exact hacc ▸ Heap.lt_size ho
 have inv : CInv C k md (zcE S bs scope.names) A (compEnvC scope (clOf env scope.names) (acc + 1) env) (zd4 bs ρ) wr acc St σ s 0 [] σ₁ { s₂ with heap := h', toks := s₂.toks + ([] : List (Str × Value)).length } :=
  ⟨W.frame 0 _ _ hst stg.h.tup kp4, hold4, ⟨[], 0, haccO, .nil⟩, Nat.zero_le _, naccσ, st4.no, d'⟩
 have hnd : (tgOf t).Nodup := htt ▸ K.idx
 have loop : codeAny C.M A (.compLoop (.ListComp x [⟨tg, y, ifs, 0⟩] scope pos) 0 (.ref I) (.ref acc) (compEnvC scope (clOf env scope.names) (acc + 1) env)) (compPost C.M A E use QQ (.ref acc) (acc + 1))
   { s₂ with heap := h', toks := s₂.toks + ([] : List (Str × Value)).length } := by
  refine zkG (y := y) (ρ := ρ) (t := t) (Q := Q) W U' helt hcond hT h2 h3 hmd (fun id i ho hi a ha => ?_) hnd (fun b hb => ⟨hwr b hb, fun ho => ?_, Nat.ne_of_lt (wrLt b hb)⟩) ⟨sacc, fun ho => ?_⟩ naccb
   (Nat.le_succ_of_le sacc) d.a.low (fun vs σ' s' hinv hal s'' stw => ?_) (fun v ρ₁ hb => ziH hnd htt hb) inv (Nat.zero_le _) q
  ·rcases ha with ⟨_, rfl⟩ | ⟨hk, _⟩
   ·rfl
   ·exfalso
    refine ob2 (Sc.own_elim ho) ?_
    intro n ee111
    subst ee111
    intro hn _
    rw [U'.ev.kindOf] at hk
    rcases zb2 hn with hn' | ⟨_, hn'⟩
    ·have := zki (out := S.names) (K.bs _ (za6 hn')).1
     have hk' : (relN S.names scope.names).lookup (Str.ofString n) = some .cell := hk
     rw [this] at hk'; cases hk'
    ·rw [htt] at hi
     refine ob7 (List.mem_map.mp hi) ?_
     intro p hp hpe
     exact (K.bs p hp).2.2 _ (za6 hn') hpe.symm
  ·rcases cellOld b ho with e | e
   ·exact absurd (wrLt b hb) (by rw [e]; exact Nat.not_lt.mpr (Nat.le_succ _))
   ·exact absurd (hwr b hb) (Nat.not_le.mpr e)
  ·rcases cellOld acc ho with e | e
   ·exact absurd e (Nat.ne_of_lt (Nat.lt_succ_self _))
   ·exact absurd sacc (Nat.not_le.mpr e)
  ·refine ob18 hinv ?_
   clear hinv
   intro i ρ₀ inv'
   have dEnd : Dyn C k md (zcE S bs scope.names) A (compEnvC scope (clOf env scope.names) (acc + 1) env) ρ₀ σ' s'' := inv'.dyn.apart (n := s.heap.objs.size) stw d.a.low (fun a ha => hwr a ha) fun a ha hb => by
    rcases cellOld a ha with e | e
    ·exact absurd (wrLt a hb) (by rw [e]; exact Nat.not_lt.mpr (Nat.le_succ _))
    ·exact absurd (hwr a hb) (Nat.not_le.mpr e)
   refine ob17 inv'.obj ?_
   intro xs n hL hX
   have hL' : IsL s''.heap acc xs.toArray n := (stw.h.keep acc _ hL fun z => z.elim (fun z => z inv'.accN) fun z => absurd (wrLt acc z) (Nat.lt_irrefl _)).plain (fun es m q => by cases q)
   have tot : Step C (fun a => s.heap.objs.size ≤ a) σ s σ' s'' := inv'.step.trans (stw.mono fun a ha => hwr a ha)
   have hbb : C.base.objs.size ≤ acc := Nat.le_trans d.r.size sacc
   have fin : Step C No σ s (σ'.upd acc (.list vs)) s'' := (tot.adopt (o := .list vs) sacc inv'.accN ⟨xs, n, hL', stw.vrs hX, inv'.len⟩ hbb).drop fun a ha => ha
   refine hend acc (acc + 1) s'' ⟨_, hal acc inv'.accN, fin, dEnd.l.locals, ?_, nLb, Nat.le_succ_of_le sacc⟩
   rw [zcv (Nat.succ_ne_self _)]
   exact dEnd.l.lnew.1
 exact codeAny_compStart_list loop (W.self 0 _ _ _ inv.st loop)
theorem CEnd.after {Q : V → Store → Prop} {acc L : Addr} {h' : Heap} (x : CEnd C σ s Q acc L s') (hs : Heap.SameBut L s'.heap h') : PostV C σ s Q (.ref acc) { s' with heap := h' } := by
 refine ob45 x ?_
 clear x
 intro σ' q st m o es ep ho hd _ hn hb hl
 have st2 : Step C (· = L) σ' s' σ' { s' with heap := h' } := Step.oneBut (t := s'.toks) st.rel hs hn hb rfl ho fun ⟨_, _, _, q⟩ => by rw [hd] at q; cases q
 exact ⟨_, σ', q, .ref, ((st.no (D := fun a => s.heap.objs.size ≤ a)).trans (st2.mono fun a e => e ▸ hl)).drop fun _ h => h⟩
theorem zgN {bs : List (String × Nat)} {elt it : Ex} {t : Tg} {cond : ExO} {x : Expr} (hm : zau S (.comp bs elt t it cond) x = true) : ∃ y tg z ifs scope pos, x = .ListComp y [⟨tg, z, ifs, 0⟩] scope pos := by
 refine lcME hm ?_
 intro y gs scope pos hm
 refine l1E hm ?_
 intro g hm
 simp only [Bool.and_eq_true, decide_eq_true_eq] at hm
 have ha := hm.2
 refine lift fun g9 k9 => ?_
 obtain ⟨tg, z, ifs, as⟩ := g
 refine k9 ?_
 clear k9 g9
 cases ha
 exact ⟨_, _, _, _, _, _, rfl⟩
theorem zoA {bs : List (String × Nat)} {elt it : Ex} {t : Tg} {cond : ExO} (hit : ItP C it) (helt : EvP C elt) (hcond : CoP C cond) : EvP C (.comp bs elt t it cond) := by
 intro k md Φ S x env A ρ σ s Q X U d hm h
 refine ob46 (zgN hm) ?_
 intro y tg z ifs scope pos ee112
 subst ee112
 rw [eval_ListComp]
 refine zil (use := none) hit helt hcond U d hm h (fun _ _ hx => hx) fun acc L s' hc => ?_
 have hc' := hc
 refine ob4 hc' ?_
 clear hc'
 intro σ' q st hm _
 refine ob12 hm ?_
 clear hm
 intro m hm
 exact ⟨m, hm, fun h' hs => hc.after hs⟩
/- all expressions -/
noncomputable def Both (C : Cx) (e : Ex) : Prop := EvP C e ∧ TrP C e ∧ ItP C e
noncomputable def zqi (C : Cx) (es : Exs) : Prop := EvsP C es ∧ BoP C es ∧ BtP C es
noncomputable def zqj (C : Cx) (o : ExO) : Prop := EvoP C o ∧ CoP C o
theorem zjn {e : Ex} (he : EvP C e) (hx : ∀ S x env, zau S e x = true → isTrue x env (eval x env) = (do let v ← eval x env; standAt x.pos; holding [v] (PySem.truthy v))) : TrP C e := by
 intro k md Φ S x env A ρ σ s Q X U d hm h hq
 exact zpS he U d hm h hq (hx S x env hm)
theorem zaU {e : Ex} (he : EvP C e) (hx : ∀ S x env, zau S e x = true → isTrue x env (eval x env) = (do let v ← eval x env; standAt x.pos; holding [v] (PySem.truthy v))) (hw : ∀ Φ md ρ σ Q X, wpIt Φ md e ρ σ Q X = wpE Φ md e ρ σ (fun u σ₁ => zdn u σ₁ fun items chk => Q items chk σ₁) X) : Both C e :=
 ⟨he, zjn he hx, zky he hw⟩
theorem zhc {e : Ex} (h : ∀ Φ md ρ σ Q X, wpE Φ md e ρ σ Q X = False) : EvP C e := by
 intro k md Φ S x env A ρ σ s Q X U d hm hw
 rw [h] at hw; exact hw.elim
theorem zfV {e : Ex} (h : ∀ Φ md ρ σ Q X, wpE Φ md e ρ σ Q X = False) : TrP C e := by
 intro k md Φ S x env A ρ σ s Q X U d hm hw
 rw [h] at hw; exact hw.elim
mutual
theorem zaQ : ∀ e : Ex, Both C e
 | .none => zaU zou (fun S x env hm => (cME hm fun _ _ _ _ => rfl)) fun _ _ _ _ _ _ => rfl
 | .tt => zaU zp4 (fun S x env hm => (cME hm fun _ _ _ _ => rfl)) fun _ _ _ _ _ _ => rfl
 | .ff => zaU zp7 (fun S x env hm => (cME hm fun _ _ _ _ => rfl)) fun _ _ _ _ _ _ => rfl
 | .int _ => zaU zpx (fun S x env hm => (cME hm fun _ _ _ _ => rfl)) fun _ _ _ _ _ _ => rfl
 | .var _ => zaU zpu (fun S x env hm => (nmME hm fun _ _ _ => rfl)) fun _ _ _ _ _ _ => rfl
 | .glob _ => zaU zoz (fun S x env hm => (nmME hm fun _ _ _ => rfl)) fun _ _ _ _ _ _ => rfl
 | .bin op a b => zaU (zpA (op := op) (zaQ a).1 (zaQ b).1) (fun S x env hm => (biME hm fun _ _ _ _ _ => rfl)) fun _ _ _ _ _ _ => rfl
 | .neg a => let e : EvP C (.neg a) := zpw (zaQ a).1; ⟨e, zjn e fun S x env hm => (by
   refine unME hm ?_
   intro op l p hm
   simp only [Bool.and_eq_true, decide_eq_true_eq] at hm
   refine ob14 hm ?_
   clear hm
   intro ee113
   subst ee113
   intro _
   rfl), zky e fun _ _ _ _ _ _ => rfl⟩
 | .not a => let e : EvP C (.not a) := zpv (zaQ a).1; ⟨e, zoZ (zaQ a).2.1, zky e fun _ _ _ _ _ _ => rfl⟩
 | .cmp op a b => let e : EvP C (.cmp op a b) := zpz (op := op) (zaQ a).1 (zaQ b).1; ⟨e, zo0 (zaQ a).1 (zaQ b).1, zky e fun _ _ _ _ _ _ => rfl⟩
 | .cmp2 o₁ o₂ a b c => let e : EvP C (.cmp2 o₁ o₂ a b c) := zoB (o₁ := o₁) (o₂ := o₂) (zaQ a).1 (zaQ b).1 (zaQ c).1; ⟨e, znK (zaQ a).1 (zaQ b).1 (zaQ c).1, zky e fun _ _ _ _ _ _ => rfl⟩
 | .bool i es => let e : EvP C (.bool i es) := zoD (isAnd := i) (zgr es).2.1; ⟨e, znL (zgr es).2.2, zky e fun _ _ _ _ _ _ => rfl⟩
 | .call f es => zaU (zoC (f := f) (zgr es).1) (fun S x env hm => (ncME hm fun _ _ _ _ _ => rfl)) fun _ _ _ _ _ _ => rfl
 | .make f es => zaU (zow (c := f) (zgr es).1) (fun S x env hm => (ncME hm fun _ _ _ _ _ => rfl)) fun _ _ _ _ _ _ => rfl
 | .meth o n es => zaU (zov (name := n) (zaQ o).1 (zgr es).1) (fun S x env hm => (acME hm fun _ _ _ _ _ _ => rfl)) fun _ _ _ _ _ _ => rfl
 | .m0 o m => zaU (zp6 (m := m) (zaQ o).1) (fun S x env hm => (acME hm fun _ _ _ _ _ _ => rfl)) fun _ _ _ _ _ _ => rfl
 | .m1 o m a => zaU (zp5 (m := m) (zaQ o).1 (zaQ a).1) (fun S x env hm => (acME hm fun _ _ _ _ _ _ => rfl)) fun _ _ _ _ _ _ => rfl
 | .attr o n => zaU (zoE (name := n) (zaQ o).1) (fun S x env hm => (atME hm fun _ _ _ _ => rfl)) fun _ _ _ _ _ _ => rfl
 | .idx a b => zaU (zpy (zaQ a).1 (zaQ b).1) (fun S x env hm => (suME hm fun _ _ _ _ => rfl)) fun _ _ _ _ _ _ => rfl
 | .slice a l h => zaU (znd (zaQ a).1 (znq l).1 (znq h).1) (fun S x env hm => (zo9 hm fun _ _ _ _ _ _ => rfl)) fun _ _ _ _ _ _ => rfl
 | .list es => zaU (zox (zgr es).1) (fun S x env hm => (liME hm fun _ _ _ => rfl)) fun _ _ _ _ _ _ => rfl
 | .tuple es => zaU (znc (zgr es).1) (fun S x env hm => (tuME hm fun _ _ _ _ => rfl)) fun _ _ _ _ _ _ => rfl
 | .dict0 => zaU znf (fun S x env hm => (diME hm fun _ _ _ _ => rfl)) fun _ _ _ _ _ _ => rfl
 | .dict1 i => zaU zne (fun S x env hm => (diME hm fun _ _ _ _ => rfl)) fun _ _ _ _ _ _ => rfl
 | .comp bs elt t it cond => zaU (zoA (bs := bs) (t := t) (zaQ it).2.2 (zaQ elt).1 (znq cond).2) (fun S x env hm => (lcME hm fun _ _ _ _ _ => rfl)) fun _ _ _ _ _ _ => rfl
 | .b1 f a => zaU (zp8 (f := f) (zaQ a).1) (fun S x env hm => (ncME hm fun _ _ _ _ _ => rfl)) fun _ _ _ _ _ _ => rfl
 | .sset a => zaU (zos (zaQ a).1) (fun S x env hm => (ncME hm fun _ _ _ _ _ => rfl)) fun _ _ _ _ _ _ => rfl
 | .isin a t => zaU (zoy (t := t) (zaQ a).1) (fun S x env hm => (ncME hm fun _ _ _ _ _ => rfl)) fun _ _ _ _ _ _ => rfl
 | .range1 a => ⟨zhc fun _ _ _ _ _ _ => rfl, zfV fun _ _ _ _ _ _ => rfl, zlD (zaQ a).1⟩
 | .range2 a b => ⟨zhc fun _ _ _ _ _ _ => rfl, zfV fun _ _ _ _ _ _ => rfl, zlC (zaQ a).1 (zaQ b).1⟩
 | .range3 a b c => ⟨zhc fun _ _ _ _ _ _ => rfl, zfV fun _ _ _ _ _ _ => rfl, zlB (zaQ a).1 (zaQ b).1 (zaQ c).1⟩
theorem zgr : ∀ es : Exs, zqi C es
 | .nil => ⟨evs_nil, bo_nil, bt_nil⟩
 | .cons e es => ⟨zna (zaQ e).1 (zgr es).1, zoT (zaQ e).1 (zgr es).2.1, zoQ (zaQ e).2.1 (zgr es).2.2⟩
theorem znq : ∀ o : ExO, zqj C o
 | .none => ⟨evo_none, co_none⟩
 | .some e => ⟨znb (zaQ e).1, zoN (zaQ e).2.1⟩
end
end
end Mine.Internal
end
section
namespace Mine.Internal
open PySem PySem.W PySem.Calls PyProof.Rows
structure SurS (C : Cx) (k : Nat) (Φ : Bool → Calls) (S : Sc) (env : Env) : Prop where
 X : CxOk C
 ca : ∀ md, CallsOk C k md (Φ md)
 ev : EnvS S env
 fr : env.frame = some env.locals
theorem SurS.sur {C : Cx} {k : Nat} {Φ : Bool → Calls} {S : Sc} {env : Env} (U : SurS C k Φ S env) (md : Bool) : Sur C k md (Φ md) S env := ⟨U.X, U.ca md, U.ev⟩
noncomputable def znr (A : Around) (env : Env) : Prop := ∃ outer, A.frames = some (env :: outer)
noncomputable def PostS (C : Cx) (S : Sc) (env : Env) (σ : Store) (s : Shared) (N : Loc → Store → Prop) (R : V → Store → Prop) : Flow → Shared → Prop := fun f s' => match f with
 | .next => ∃ ρ' σ', N ρ' σ' ∧ Step C (Own env) σ s σ' s' ∧ LR C σ' s'.heap env S.nm ρ' ∧ ρ'.length = S.size
 | .ret v => ∃ V σ', R V σ' ∧ VR s'.heap V v ∧ Step C (Own env) σ s σ' s' ∧ ∃ ρ', LR C σ' s'.heap env S.nm ρ' ∧ ρ'.length = S.size
 | _ => False
noncomputable def PostXS (_ : Cx) (_ : Sc) (_ : Env) (_ : Store) (_ : Shared) (_ : XL) : Value → Shared → Prop := fun _ _ => False
section
variable {C : Cx} {k : Nat} {md : Bool} {Φ : Bool → Calls} {S : Sc} {env : Env} {A : Around} {ρ : Loc} {σ σ₁ : Store} {s s₁ : Shared} {N : Loc → Store → Prop} {R : V → Store → Prop} {X : XL}
theorem Dyn.next {ρ' : Loc} {σ' : Store} {s' : Shared} (d : Dyn C k md S A env ρ σ s) (st : Step C (Own env) σ s σ' s') (l : LR C σ' s'.heap env S.nm ρ') (hl : ρ'.length = S.size) : Dyn C k md S A env ρ' σ' s' :=
 d.own st (fun _ h => h) l (hl.trans d.len.symm)
theorem PostS.from {f : Flow} {s' : Shared} (st : Step C (Own env) σ s σ₁ s₁) (h : PostS C S env σ₁ s₁ N R f s') : PostS C S env σ s N R f s' := by
 cases f with
 | next => obtain ⟨ρ', σ', q, st', r⟩ := h; exact ⟨ρ', σ', q, st.trans st', r⟩
 | ret v => obtain ⟨V, σ', q, hv, st', r⟩ := h; exact ⟨V, σ', q, hv, st.trans st', r⟩
 | _ => exact h.elim
theorem PostXS.from {x : Value} {s' : Shared} (_ : Step C (Own env) σ s σ₁ s₁) (h : PostXS C S env σ₁ s₁ X x s') : PostXS C S env σ s X x s' := h
theorem zkk {x : Value} {s' : Shared} (_ : Dyn C k md S A env ρ σ₁ s₁) (_ : Step C (Own env) σ s σ₁ s₁) (h : PostX C σ₁ s₁ (fun c a σ => X c a ρ σ) x s') : PostXS C S env σ s X x s' := h
theorem zeY (_ : SurS C k Φ S env) (_ : znr A env) (_ : Dyn C k md S A env ρ σ s) {x : Value} {s' : Shared} (h : PostXS C S env σ s X x s') : notedBy C.M A env (cameBackBy C.M A env (PostXS C S env σ s X)) x s' := False.elim h
theorem evS {t : Sem Value} {Q : V → Store → Prop} {K : Value → Shared → Prop} (d : Dyn C k md S A env ρ σ s) (h : wpAny C.M A t (PostV C σ s Q) (PostX C σ s (fun c a σ => X c a ρ σ)) s)
  (kk : ∀ v V σ₁ s₁, Q V σ₁ → VR s₁.heap V v → Step C No σ s σ₁ s₁ → K v s₁) : wpAny C.M A t K (PostXS C S env σ s X) s :=
 wpAny_mono h (fun v s₁ ⟨V, σ₁, q, hv, st⟩ => kk v V σ₁ s₁ q hv st) fun _ _ hx => zkk d (.refl d.r) hx
theorem evS2 {t : Sem Value} {Q : V → Store → Prop} {K : Value → Shared → Prop} (d : Dyn C k md S A env ρ σ s) (st : Step C No σ s σ₁ s₁) (h : wpAny C.M A t (PostV C σ₁ s₁ Q) (PostX C σ₁ s₁ (fun c a σ => X c a ρ σ)) s₁)
  (kk : ∀ v V σ₂ s₂, Q V σ₂ → VR s₂.heap V v → Step C No σ₁ s₁ σ₂ s₂ → Step C No σ s σ₂ s₂ → K v s₂) : wpAny C.M A t K (PostXS C S env σ s X) s₁ :=
 wpAny_mono h (fun v s₂ ⟨V, σ₂, q, hv, st₂⟩ => kk v V σ₂ s₂ q hv st₂ (st.trans st₂)) fun _ _ hx => zkk (d.step st) st.no hx
theorem Dyn.below (d : Dyn C k md S A env ρ σ s) : ∀ a, Own env a → a < s.heap.objs.size := fun a ha => by
 refine ob7 (d.l.own a ha) ?_
 intro o ho _
 exact Heap.lt_size ho
noncomputable def StP (C : Cx) (st : St) : Prop := ∀ {k : Nat} {md : Bool} {Φ : Bool → Calls} {S : Sc} {x : Stmt} {env : Env} {A : Around} {ρ : Loc} {σ : Store} {s : Shared} {N : Loc → Store → Prop} {R : V → Store → Prop} {X : XL},
 SurS C k Φ S env → znr A env → Dyn C k md S A env ρ σ s → zny S st x = true → wpS Φ md st ρ σ N R X → wpAny C.M A (exec x env) (PostS C S env σ s N R) (PostXS C S env σ s X) s
noncomputable def SsP (C : Cx) (ss : Sts) : Prop := ∀ {k : Nat} {md : Bool} {Φ : Bool → Calls} {S : Sc} {xs : List Stmt} {env : Env} {A : Around} {ρ : Loc} {σ : Store} {s : Shared} {N : Loc → Store → Prop} {R : V → Store → Prop} {X : XL},
 SurS C k Φ S env → znr A env → Dyn C k md S A env ρ σ s → zdr S ss xs = true → wpSs Φ md ss ρ σ N R X → wpAny C.M A (execs xs env) (PostS C S env σ s N R) (PostXS C S env σ s X) s
theorem zo8 : SsP C .nil := by
 intro k md Φ S xs env A ρ σ s N R X U tf d hm h
 dsimp only [zah, zag] at h
 refine l0E hm ?_
 intro hm
 ·exact wpAny_execs_nil ⟨ρ, σ, h, .refl d.r, d.l, d.len⟩
theorem znW {st : St} {r : Sts} (hs : StP C st) (hr : SsP C r) : SsP C (.cons st r) := by
 intro k md Φ S xs env A ρ σ s N R X U tf d hm h
 dsimp only [zah, zag] at h
 refine lcE hm ?_
 intro x xs hm
 ·simp only [Bool.and_eq_true] at hm
  refine wpAny_execs_cons (wpAny_mono (hs U tf d hm.1 h) (fun f s₁ h₁ => ?_) fun _ _ hx => hx)
  cases f with
  | next =>
   refine ob15 h₁ ?_
   clear h₁
   intro ρ₁ σ₁ q st l hl
   exact wpAny_mono (hr U tf (d.next st l hl) hm.2 q) (fun _ _ hx => hx.from st) fun _ _ hx => hx.from st
  | ret v => exact h₁
  | _ => exact h₁.elim
theorem zjt {x : PySem.Expr} {tg : Option PySem.Expr} {line : Nat} (h : zn8 x = true) : swapsWith x tg line env = pure false := by
 cases x <;> first | rfl | exact Bool.noConfusion h
theorem znT {e : Ex} : StP C (.expr e) := by
 intro k md Φ S x env A ρ σ s N R X U tf d hm h
 dsimp only [za7] at h
 refine sxME hm ?_
 intro x p hm
 ·simp only [Bool.and_eq_true, Bool.not_eq_true'] at hm
  rw [exec_Expr env _ _ (by unfold interactive; rw [U.ev.kind]; rfl) (zjt hm.2)]
  refine wpAny_bind (wpAny_standAt (wpAny_bind (evS d ((zaQ e).1 (U.sur md) d hm.1 h) fun v V σ₁ s₁ q hv st => ?_)))
  exact wpAny_dropValue ⟨ρ, σ₁, q, st.no, d.l.step st, d.len⟩
theorem zo5 {e : Ex} : StP C (.ret e) := by
 intro k md Φ S x env A ρ σ s N R X U tf d hm h
 dsimp only [zaK] at h
 refine zpU hm ?_
 intro o p hm
 refine o1E hm ?_
 intro x hm
 ·exact wpAny_Return_some (evS d ((zaQ e).1 (U.sur md) d hm h) fun v V σ₁ s₁ q hv st => ⟨V, σ₁, q, hv, st.no, ρ, d.l.step st, d.len⟩)
theorem trS {e : Ex} {x : Expr} {K : Bool → Shared → Prop} {Kb : Bool → Store → Prop} (U : SurS C k Φ S env) (d : Dyn C k md S A env ρ σ s) (hm : zau S e x = true)
  (h : wpE (Φ md) md e ρ σ (fun v σ₁ => zav (Mine.Internal.truthy σ₁ v) fun b => Kb b σ₁) fun c a σ₁ => X c a ρ σ₁) (kk : ∀ b σ₁ s₁, Kb b σ₁ → Step C No σ s σ₁ s₁ → K b s₁) : wpAny C.M A (isTrue x env (eval x env)) K (PostXS C S env σ s X) s := by
 refine wpAny_mono ((zaQ e).2.1 (U.sur md) d hm h fun V σ' q => ?_) (fun b s₁ h₁ => ?_) fun _ _ hx => zkk d (.refl d.r) hx
 ·refine ob7 (zap q) ?_
  intro b hb _
  exact ⟨b, hb⟩
 ·refine ob1 h₁ ?_
  clear h₁
  intro V σ₁ q hb st
  refine ob7 (zap q) ?_
  intro b' hb' q
  rw [hb] at hb'; cases hb'
  exact kk b σ₁ s₁ q st
theorem zo6 {c : Ex} {th el : Sts} (hth : SsP C th) (hel : SsP C el) : StP C (.iff c th el) := by
 intro k md Φ S x env A ρ σ s N R X U tf d hm h
 dsimp only [zaY] at h
 refine zpV hm ?_
 intro x b o p hm
 ·simp only [Bool.and_eq_true] at hm
  refine wpAny_If (trS U d hm.1.1 h fun b σ₁ s₁ q st => ?_)
  cases b with
  | true => exact wpAny_mono (hth U tf (d.step st) hm.1.2 q) (fun _ _ hx => hx.from st.no) fun _ _ hx => hx.from st.no
  | false => exact wpAny_mono (hel U tf (d.step st) hm.2 q) (fun _ _ hx => hx.from st.no) fun _ _ hx => hx.from st.no
theorem zmy {c : Ex} {body : Sts} (hb : SsP C body) : StP C (.whil c body) := by
 intro k md Φ S x env A ρ σ s N R X U tf d hm h
 dsimp only [zcl] at h
 refine zpT hm ?_
 intro x b o p hm
 refine l0E hm ?_
 intro hm
 ·simp only [Bool.and_eq_true] at hm
  refine ob12 h ?_
  clear h
  intro n h
  refine wpAny_While (codeAny_whileLoop (fun n s' => ∃ ρ' σ', Step C (Own env) σ s σ' s' ∧ LR C σ' s'.heap env S.nm ρ' ∧ ρ'.length = S.size ∧ zfc (fun ρ σ K => wpE (Φ md) md c ρ σ (fun v σ₁ => zav (Mine.Internal.truthy σ₁ v) fun b => K b σ₁) fun c a σ₁ => X c a ρ σ₁)
   (fun ρ σ K => wpSs Φ md body ρ σ K R X) N n ρ' σ') ?_ n ⟨ρ, σ, .refl d.r, d.l, d.len, h⟩)
  intro n s' zz11
  refine ob15 zz11 ?_
  clear zz11
  intro ρ' σ' st l hl h
  have d' := d.next st l hl
  cases n with
  | zero => exact h.elim
  | succ n =>
   simp only [zfc] at h
   refine wpAny_mono (trS (X := X) (K := fun b s₂ => ∃ σ₂, (if b = true then wpSs Φ md body ρ' σ₂ (fun ρ₁ σ₁ => zfc _ _ N n ρ₁ σ₁) R X else N ρ' σ₂) ∧ Step C No σ' s' σ₂ s₂) U d' hm.1 h fun b σ₂ s₂ q st₂ => ⟨σ₂, q, st₂⟩) (fun b s₂ h₂ => ?_) fun _ _ hx => zeY U tf d (hx.from st)
   refine ob7 h₂ ?_
   clear h₂
   intro σ₂ q st₂
   cases b with
   | false =>
    exact wpAny_execs_nil ⟨ρ', σ₂, q, st.trans st₂.no, l.step st₂, hl⟩
   | true =>
    refine wpAny_mono (hb U tf (d'.step st₂) hm.2 q) (fun f s₃ h₃ => ?_) fun _ _ hx => zeY U tf d (hx.from (st.trans st₂.no))
    cases f with
    | next =>
     refine ob15 h₃ ?_
     clear h₃
     intro ρ₃ σ₃ q st₃ l₃ hl₃
     exact ⟨n, Nat.lt_succ_self _, ρ₃, σ₃, (st.trans st₂.no).trans st₃, l₃, hl₃, q⟩
    | ret v => exact h₃.from (st.trans st₂.no)
    | _ => exact h₃.elim
/- stores -/
theorem zer {tg x : Expr} {pos : Pos} {Q : Flow → Shared → Prop} {E : Value → Shared → Prop} (hs : swapsWith x (some tg) pos.line env = pure false) (hw : swappedStores [tg] x env = pure none) (ht : assignEach [tg] env = [(false, assign tg env)])
  (h : wpAny C.M A (eval x env) (fun v s₁ => wpAny C.M A (assign tg env v) (fun _ s₂ => Q .next s₂) E s₁) E s) : wpAny C.M A (exec (.Assign [tg] x pos) env) Q E s := by
 rw [arm_exec_Assign]
 refine wpAny_bind (wpAny_standAt ?_)
 show wpAny C.M A (swapsWith x (some tg) pos.line env >>= _) _ _ _
 rw [hs]
 refine wpAny_bind (wpAny_pure ?_)
 simp only [Bool.false_eq_true, if_false]
 refine wpAny_bind (wpAny_mono h (fun v s₁ h₁ => ?_) fun _ _ hx => hx)
 rw [hw, ht]
 refine wpAny_bind (wpAny_pure ?_)
 show wpAny C.M A (assign tg env v >>= fun _ => pure Flow.next) _ _ _
 exact wpAny_bind (wpAny_mono h₁ (fun _ _ h₂ => wpAny_pure h₂) fun _ _ hx => hx)
theorem zeW {tg x : PySem.Expr} (hc : zpq x = false ∨ ∀ ts k p, tg ≠ .Tuple ts k p) (hl : ∀ ts p, tg ≠ .List ts p) : swappedStores [tg] x env = pure none := by
 cases tg with
 | Tuple ts k p =>
  have hc := hc.resolve_right fun g => g ts k p rfl
  cases x <;> first | rfl | exact Bool.noConfusion hc
 | List ts p => exact absurd rfl (hl ts p)
 | _ => rfl
theorem zng {t : Tg} {tg : Expr} (hm : zfX S t tg = true) : assignEach [tg] env = [(false, assign tg env)] ∧ (∀ ts p, tg ≠ .List ts p) ∧ (zo1 t = true → ∀ ts k p, tg ≠ .Tuple ts k p) := by
 cases t with
 | one i => exact nmME hm fun _ _ _ => ⟨rfl, fun _ _ q => (by cases q), fun _ _ _ _ q => (by cases q)⟩
 | many is => exact tuME hm fun _ _ _ _ => ⟨rfl, fun _ _ q => (by cases q), fun q => (by cases q)⟩
theorem zk6 {t : Tg} {e : Ex} : StP C (.assign t e) := by
 intro k md Φ S x env A ρ σ s N R X U tf d hm h
 dsimp only [zao] at h
 refine zn0 hm ?_
 intro ts x pos hm
 refine l1E hm ?_
 intro tg hm
 ·simp only [Bool.and_eq_true, Bool.or_eq_true, Bool.not_eq_true'] at hm
  refine lift fun g9 k9 => ?_
  refine ob39 hm ?_
  clear hm
  intro hT hE hor hnl
  refine ob14 (zex h) ?_
  intro htg h
  refine ob16 (zng (env := env) hT) ?_
  intro e1 e2 e3
  refine k9 ?_
  clear k9 g9
  have plain : swapsWith x (some tg) pos.line env = pure false → wpAny C.M A (exec (.Assign [tg] x pos) env) (PostS C S env σ s N R) (PostXS C S env σ s X) s := fun hsw => by
   refine zer hsw (zeW ?_ e2) e1 (evS d ((zaQ e).1 (U.sur md) d hE h) fun v V σ₁ s₁ q hv st => ?_)
   ·rcases hor with ho | ho
    ·exact .inr (e3 ho)
    ·exact .inl ho.1
   ·refine ob7 (zap q) ?_
    intro ρ' hb q
    exact zgg (P := Own env) (U.sur md) (d.step st) hT hv hb htg (fun id i _ _ a ha => ha.own) fun s₂ st₂ d₂ => ⟨ρ', σ₁, q, st.no.trans st₂, d₂.l, d₂.len⟩
  cases hc : zlG e with
  | false => exact plain (zjt (hnl.resolve_left fun z => Bool.noConfusion (z.symm.trans hc)))
  | true =>
   rcases hor with ho | ho
   ·cases e with
    | comp bs elt tt it cond =>
     refine ob46 (zgN hE) ?_
     intro x tg' y ifs scope pos' ee114
     subst ee114
     ·cases t with
      | many _ => cases ho
      | one i =>
       have hT : (nmM tg fun id => S.own id i) = true := hT
       obtain ⟨id, p, rfl, hT⟩ : ∃ id p, tg = .Name id p ∧ S.own id i = true := by
        refine nmME hT ?_
        intro id p hT
        exact ⟨id, p, rfl, hT⟩
       ·
        have hsb : ∃ b, swapsWith (.ListComp x [⟨tg', y, ifs, 0⟩] scope pos') (some (.Name id p)) pos.line env = pure b := ⟨_, rfl⟩
        refine ob12 hsb ?_
        clear hsb
        intro b hsb
        cases b with
        | false => exact plain hsb
        | true =>
         rw [exec_Assign_Name_used id p _ pos hsb]
         refine wpAny_bind (wpAny_standAt (wpAny_bind ?_))
         show wpAny C.M A (comprehension (.ListComp x [⟨tg', y, ifs, 0⟩] scope pos') scope env y.pos (newList []) false (eval y env) (some (assign (.Name id p) env)) >>= fun _ => pure ()) _ _ _
         refine wpAny_bind (zil (QQ := fun _ s' => wpAny C.M A (pure () : Sem Unit) (fun _ s₁ => wpAny C.M A (pure Flow.next) (PostS C S env σ s N R) (PostXS C S env σ s X) s₁) (PostXS C S env σ s X) s') (zaQ it).2.2 (zaQ elt).1 (znq cond).2 (U.sur md) d hE h (fun _ _ hx => zkk d (.refl d.r) hx) fun acc L s' hc => ?_)
         refine ob47 hc ?_
         clear hc
         intro σ' q st m hm hn hb hl
         refine ob7 (zap q) ?_
         intro ρ' hbb q
         simp only [zaE, Option.some.injEq] at hbb
         subst hbb
         refine wpAny_assign_Name (zfM (U.sur md) (d.step st) hT .ref fun s₂ st₂ d₂ => ?_)
         have hmc := hm
         refine ob6 hmc ?_
         clear hmc
         intro o es ep ho' hd' hr'
         have hLno : ¬ OwnAt env id L := fun hx => absurd (d.below L hx.own) (Nat.not_lt.mpr hl)
         have hm2 : s₂.heap.Ns L m := ziS hm ho' (st₂.h.keep L o ho' fun z => z.elim (fun z => z hn) hLno)
         refine ⟨m, hm2, fun h' hs' => wpAny_pure (wpAny_pure ?_)⟩
         have hmc2 := hm2
         refine ob6 hmc2 ?_
         clear hmc2
         intro o2 es2 ep2 ho2 hd2 _
         have st3 : Step C (· = L) σ' s₂ σ' { s₂ with heap := h' } := Step.oneBut (t := s₂.toks) st₂.rel hs' hn hb rfl ho2 fun ⟨_, _, _, z⟩ => (by rw [hd2] at z; cases z)
         have tot : Step C (fun a => Own env a ∨ s.heap.objs.size ≤ a) σ s σ' { s₂ with heap := h' } := (st.no.trans (st₂.mono fun a ha => .inl ha.own)).trans (st3.mono fun a ha => .inr (ha ▸ hl))
         exact ⟨_, σ', q, tot.old, d₂.l.keep st3 fun a ha hx => absurd (d.below a ha) (Nat.not_lt.mpr (hx ▸ hl)), d₂.len⟩
    | _ => cases hc
   ·rw [ho.2] at hc; cases hc
theorem zka {o e : Ex} {name : String} : StP C (.setattr o name e) := by
 intro k md Φ S x env A ρ σ s N R X U tf d hm h
 dsimp only [zaJ] at h
 refine zn0 hm ?_
 intro ts y pos hm
 refine l1E hm ?_
 intro tg hm
 refine atME hm ?_
 intro x id p hm
 ·simp only [Bool.and_eq_true, decide_eq_true_eq] at hm
  refine ob33 hm ?_
  clear hm
  intro ee115
  subst ee115
  intro h1 h2
  refine zer (by cases y <;> rfl) (zeW (.inr fun _ _ _ q => by cases q) fun _ _ q => by cases q) rfl (evS d ((zaQ e).1 (U.sur md) d h2 h) fun v V σ₁ s₁ q hv st => ?_)
  rw [arm_assign_Attribute]
  refine wpAny_bind (wpAny_holding (evS2 d st ((zaQ o).1 (U.sur md) (d.step st) h1 q) fun u V' σ₂ s₂ q hu st₂ st' => wpAny_bind (wpAny_standAt (wpAny_bind (wpAny_holding ?_)))))
  refine wpAny_mono (zkh U.X st'.rel hu (st₂.vr hv) (fun c => (U.ca md).fld c name) q) (fun _ s₃ h₃ => wpAny_release' ?_) fun _ _ hx => hx
  refine ob7 h₃ ?_
  clear h₃
  intro σ₃ q st₃
  exact ⟨ρ, σ₃, q, (st'.trans st₃).no, d.l.step (st'.trans st₃), d.len⟩
theorem zj9 {o i e : Ex} : StP C (.setitem o i e) := by
 intro k md Φ S x env A ρ σ s N R X U tf d hm h
 dsimp only [zaA] at h
 refine zn0 hm ?_
 intro ts z pos hm
 refine l1E hm ?_
 intro tg hm
 refine suME hm ?_
 intro x y p hm
 ·simp only [Bool.and_eq_true] at hm
  refine ob33 hm ?_
  clear hm
  intro h1 h2 h3
  refine zer (by cases z <;> rfl) (zeW (.inr fun _ _ _ q => by cases q) fun _ _ q => by cases q) rfl (evS d ((zaQ e).1 (U.sur md) d h3 h) fun v V σ₁ s₁ q hv st => ?_)
  rw [arm_assign_Subscript]
  refine wpAny_bind (wpAny_holding (evS2 d st ((zaQ o).1 (U.sur md) (d.step st) h1 q) fun u Vu σ₂ s₂ q hu st₂ st' => wpAny_bind (wpAny_holding (evS2 d st' ((zaQ i).1 (U.sur md) (d.step st') h2 q) fun w Vw σ₃ s₃ q hw st₃ st'' => wpAny_bind (wpAny_standAt (wpAny_bind (wpAny_holding ?_)))))))
  have hu8 : A.units + 8 < cLine := by have := zjd d; lia
  refine wpAny_mono (zkf hu8 st''.rel (st₃.vr hu) hw (st₃.vr (st₂.vr hv)) q) (fun _ s₄ h₄ => wpAny_release' ?_) fun _ _ hx => hx
  refine ob7 h₄ ?_
  clear h₄
  intro σ₄ q st₄
  exact ⟨ρ, σ₄, q, (st''.trans st₄).no, d.l.step (st''.trans st₄), d.len⟩
end
end Mine.Internal
end
section
namespace Mine.Internal
open PySem PySem.W PySem.Calls PyProof.Rows
section
variable {C : Cx} {k : Nat} {md : Bool} {Φ : Bool → Calls} {S : Sc} {env : Env} {A : Around} {ρ : Loc} {σ σ₁ : Store} {s s₁ : Shared} {N : Loc → Store → Prop} {R : V → Store → Prop} {X : XL}
theorem zi6 {RR : Result → Shared → Prop} {target : Expr} {it : Value} {body : List Stmt} (I : Nat → Shared → Prop)
  (turn : ∀ n s, I n s → wpAny C.M A (pyNext it) (fun r s₁ => match r with
   | none => RR (.ok .next) s₁
   | some v => wpAny C.M A (letOwnedTupleGo target it v) (fun _ s₁ => wpAny C.M A (assign target env v) (fun _ s₂ => wpAny C.M A (execs body env) (fun f s₃ => match f with
     | .next | .cont => ∃ m, m < n ∧ I m s₃
     | .brk => RR (.ok .next) s₃
     | .ret v => RR (.ok (.ret v)) s₃) (notedBy C.M A env fun e s' => RR (.error e) s') s₂) (fun _ _ => False) s₁) (fun _ _ => False) s₁) (fun _ _ => False) s)
  (n : Nat) (h : I n s) : codeAny C.M A (.forLoop target it body [] env) RR s := by
 refine codeAny_loop' rfl I (fun n s hI => ?_) n h
 show wpAny _ _ ((forTurn target it body [] env).onRaise (fun x => do noteFrame x env; theTreesLotGoes x)) _ _ s
 refine wpAny_noted ?_
 simp only [forTurn]
 refine wpAny_bind (wpAny_standAt (wpAny_bind (wpAny_onRaise (wpAny_mono (turn n s hI) (fun r s₁ h₁ => ?_) fun _ _ h' => h'.elim))))
 cases r with
 | none => exact wpAny_pure (.inr ⟨rfl, codeAny_block (wpAny_execs_nil h₁)⟩)
 | some v =>
  refine wpAny_bind (wpAny_mono h₁ (fun _ s₁ h₁ => ?_) fun _ _ h' => h'.elim)
  refine wpAny_bind (wpAny_mono h₁ (fun _ s₂ h₂ => wpAny_bind (wpAny_mono h₂ (fun f s₃ h₃ => ?_) fun _ _ h' => h')) fun _ _ h' => h'.elim)
  cases f with
  | next => exact wpAny_pure (.inl ⟨rfl, h₃⟩)
  | cont => exact wpAny_pure (.inl ⟨rfl, h₃⟩)
  | brk => exact wpAny_pure h₃
  | ret v => exact wpAny_pure h₃
theorem zo7 {t : Tg} {it : Ex} {body : Sts} (hb : SsP C body) : StP C (.for t it body) := by
 intro k md Φ S x env A ρ σ s N R X U tf d hm h
 dsimp only [zbQ] at h
 refine zpW hm ?_
 intro tg y b o pos hm
 refine l0E hm ?_
 intro hm
 ·simp only [Bool.and_eq_true] at hm
  refine ob33 hm ?_
  clear hm
  intro hT h1 h2
  refine ob14 (zex h) ?_
  intro hmd h
  refine wpAny_For ?_ (fun v => zih h1 v)
  refine wpAny_mono ((zaQ it).2.2 (U.sur md) d h1 hmd h) (fun v s₁ h₁ => wpAny_mono h₁ (fun v s₂ h₂ => ?_) fun _ _ hx => zkk d (.refl d.r) hx) fun _ _ hx => zkk d (.refl d.r) hx
  refine ob44 h₂ ?_
  clear h₂
  intro I wr items chk St Mid σ₂ ee116
  subst ee116
  intro W hst hold hwr st q
  have hOwr : ∀ a, Own env a → ¬ a ∈ wr := fun a ha hb => absurd (d.below a ha) (Nat.not_lt.mpr (hwr a hb))
  refine zi6 (fun n s' => ∃ i ρ' σ', n = items.length - i ∧ i ≤ items.length ∧ St i s'.heap ∧ Hold C wr σ' s'.heap ∧ Step C (fun a => Own env a ∨ s.heap.objs.size ≤ a) σ s σ' s' ∧ Dyn C k md S A env ρ' σ' s' ∧
   forV chk (fun v ρ σ K => zav (zaE t v ρ) fun ρ' => wpSs Φ md body ρ' σ K R X) N (items.drop i) ρ' σ') ?_ items.length ⟨0, ρ, σ₂, by lia, Nat.zero_le _, hst, hold, st.no, d.step st, q⟩
  clear q hst hold st
  intro n s' zz12
  refine ob48 zz12 ?_
  clear zz12
  intro i ρ' σ' ee117
  subst ee117
  intro hi hst hold tot d' q
  by_cases hlt : i < items.length
  ·rw [List.drop_eq_getElem_cons hlt] at q
   simp only [forV] at q
   refine ob14 q ?_
   clear q
   intro hc q
   refine ob7 (zap q) ?_
   intro ρ₁ hbd q
   refine W.next hlt hst d'.r hold hc fun v s₁ hgo => hgo _ _ fun s₂ hv stw hst' hold' => ?_
   have d2 : Dyn C k md S A env ρ' σ' s₂ := d'.apart (n := s.heap.objs.size) stw d.a.low (fun a ha => hwr a ha) hOwr
   refine zgg (P := Own env) (U.sur md) d2 hT hv hbd (by cases t <;> first | trivial | exact hmd) (fun id i _ _ a ha => ha.own) fun s₃ st3 d3 => ?_
   have tot3 : Step C (fun a => Own env a ∨ s.heap.objs.size ≤ a) σ s σ' s₃ := (tot.trans (stw.mono fun a ha => .inr (hwr a ha))).trans (st3.mono fun a ha => .inl ha)
   refine ob14 (hold'.step st3 fun b hb ha => hOwr b ha hb) ?_
   intro hold3 kp3
   refine wpAny_mono (hb U tf d3 h2 q) (fun f s₄ h₄ => ?_) fun _ _ hx => zeY U tf d (hx.from tot3.old)
   cases f with
   | next =>
    refine ob15 h₄ ?_
    clear h₄
    intro ρ₄ σ₄ q st4 l4 hl4
    refine ob14 (hold3.step st4 fun b hb ha => hOwr b ha hb) ?_
    intro hold4 kp4
    exact ⟨items.length - (i + 1), by lia, i + 1, ρ₄, σ₄, rfl, hlt, W.frame _ _ _ (W.frame _ _ _ hst' st3.h.tup kp3) st4.h.tup kp4, hold4, tot3.trans (st4.mono fun a ha => .inl ha), d3.next st4 l4 hl4, q⟩
   | ret v => exact h₄.from tot3.old
   | _ => exact h₄.elim
  ·have hi' : i = items.length := by lia
   subst hi'
   rw [List.drop_length] at q
   simp only [forV] at q
   refine W.stop hst d'.r hold q.1 fun s₁ stw => ?_
   have d2 : Dyn C k md S A env ρ' σ' s₁ := d'.apart (n := s.heap.objs.size) stw d.a.low (fun a ha => hwr a ha) hOwr
   exact ⟨ρ', σ', q.2, (tot.trans (stw.mono fun a ha => .inr (hwr a ha))).old, d2.l, d2.len⟩
theorem zmz {c msg : String} : StP C (.raise c msg) := fun _ _ _ _ h => h.elim
mutual
theorem zpL : ∀ st : St, StP C st
 | .expr e => znT
 | .assign t e => zk6
 | .setattr o n e => zka
 | .setitem o i e => zj9
 | .ret e => zo5
 | .raise c m => zmz
 | .iff c th el => zo6 (zgS th) (zgS el)
 | .whil c b => zmy (zgS b)
 | .for t it b => zo7 (zgS b)
theorem zgS : ∀ ss : Sts, SsP C ss
 | .nil => zo8
 | .cons s r => znW (zpL s) (zgS r)
end
end
end Mine.Internal
end
section
namespace Mine.Internal
open PySem PySem.W PySem.Calls PyProof.Rows
structure FnOk (C : Cx) (fa : Addr) (F : Fn) : Prop where
 obj : ∃ o fd body, C.base.get? fa = some o ∧ o.data = .func fd ∧ fd.body = .stmts body ∧ fd.globals = mainGlobals ∧ fd.builtins = builtinsNs ∧ fd.closure = [] ∧ fd.scope.kind = .function ∧ fd.scope.isCoroutine = false ∧ fd.scope.isGenerator = false ∧
  C.base.CodeRec fd.code fd.qualname ∧ (∀ xs : List Value, xs.length = F.params.length → bindArgs fd ⟨xs, []⟩ = pure ((F.params.map Str.ofString).zip xs)) ∧ zdr (scOf F fd.scope.names) F.body body = true ∧
  (∀ x ∈ F.params, fd.scope.names.lookup (Str.ofString x) = some .local ∨ fd.scope.names.lookup (Str.ofString x) = some .cell) ∧ ∀ x, fd.scope.names.lookup x ≠ some .free
 nodup : F.names.Nodup
 size : F.names.length ≤ F.size
 params : F.params <+: F.names
section
variable {C : Cx} {k : Nat} {md : Bool} {A : Around} {σ : Store} {s : Shared}
theorem zga {kd : Str → Option NameKind} {y : Str} : ∀ {bs : List (Str × Value)} {m : Str → Option Value}, y ∉ bs.map (·.1) → bindL kd bs m y = m y
 | [], _, _ => rfl
 | (n, v) :: r, m, h => by
  simp only [List.map_cons, List.mem_cons, not_or] at h
  rw [bindL, zga h.2]
  split
  ·exact if_neg h.1
  ·rfl
theorem zit {kd : Str → Option NameKind} {y : Str} {v : Value} (hk : kd y = some .local) : ∀ {bs : List (Str × Value)} {m : Str → Option Value}, (bs.map (·.1)).Nodup → (y, v) ∈ bs → bindL kd bs m y = some v
 | (n, u) :: r, m, hn, h => by
  simp only [List.map_cons, List.nodup_cons] at hn
  rw [bindL]
  rcases List.mem_cons.mp h with e | h
  ·cases e
   rw [zga hn.1, if_pos hk, if_pos rfl]
  ·exact zit hk hn.2 h
theorem zgb {kd : Str → Option NameKind} {y : Str} : ∀ {bs : List (Str × Value)} {m : Str → Option Value}, y ∉ bs.map (·.1) → bindC kd bs m y = m y
 | [], _, _ => rfl
 | (n, v) :: r, m, h => by
  simp only [List.map_cons, List.mem_cons, not_or] at h
  rw [bindC, zgb h.2]
  split
  ·rfl
  ·exact if_neg h.1
theorem ziu {kd : Str → Option NameKind} {y : Str} {v : Value} (hk : kd y = some .cell) : ∀ {bs : List (Str × Value)} {m : Str → Option Value}, (bs.map (·.1)).Nodup → (y, v) ∈ bs → bindC kd bs m y = some v
 | (n, u) :: r, m, hn, h => by
  simp only [List.map_cons, List.nodup_cons] at hn
  rw [bindC]
  rcases List.mem_cons.mp h with e | h
  ·cases e
   rw [zgb hn.1, if_neg (by rw [hk]; intro q; cases q), if_pos rfl]
  ·exact ziu hk hn.2 h
theorem zbo : ∀ {l : List String} {x : String} {i n : Nat}, (l.zipIdx n).lookup x = some i → n ≤ i ∧ l[i - n]? = some x
 | [], _, _, _, h => by simp at h
 | y :: l, x, i, n, h => by
  rw [List.zipIdx_cons, List.lookup_cons] at h
  cases hb : x == y with
  | true => rw [hb] at h; cases h; simp [beq_iff_eq.mp hb]
  | false =>
   rw [hb] at h
   refine ob14 (zbo h) ?_
   intro h1 h2
   refine ⟨by lia, ?_⟩
   rw [show i - n = (i - (n + 1)) + 1 by lia, List.getElem?_cons_succ]; exact h2
theorem zkS {l : List String} {n : Nat} (hn : l.length ≤ n) : NmOk l.zipIdx n := by
 refine ⟨fun x y i hx hy => ?_, fun x i hx => ?_⟩
 ·have h1 := (zbo hx).2
  have h2 := (zbo hy).2
  rw [h1] at h2; cases h2; rfl
 ·have h1 := (zbo hx).2
  have := (List.getElem?_eq_some_iff.mp h1).1
  lia
theorem zd6 : ∀ {l : List String}, l.Nodup → (l.map Str.ofString).Nodup
 | [], _ => by simp
 | x :: l, h => by
  simp only [List.nodup_cons, List.map_cons] at h ⊢
  refine ⟨fun hm => ?_, zd6 h.2⟩
  refine ob7 (List.mem_map.mp hm) ?_
  intro y hy e
  exact h.1 (ofString_inj e ▸ hy)
theorem zpb {tab : String → String → Option Fn} {fld : String → String → Bool} {F : Fn} {fa : Addr} {vs : List V} {xs : List Value} {Q : V → Store → Prop} {X : XP} (XC : CxOk C) (ca : ∀ md, CallsOk C k md (sem tab fld k md)) (FO : FnOk C fa F)
  (a : ARun C (k + 1) md A σ s.heap) (r : Rel C σ s.heap) (hv : VRs s.heap vs xs) (h : wpFn (sem tab fld k) md F vs σ Q X) :
  codeAny C.M A (.call (.ref fa) ⟨xs, []⟩) (fun r s' => match r with | .ok (.ret v) => PostV C σ s Q v s' | .ok _ => False | .error e => PostX C σ s X e s') s := by
 refine ob49 FO.obj ?_
 intro o fd body ho hd hbody hgl hbu hcl hkind hco hgen hcd hbind hmatch hpar hfree
 refine ob14 h ?_
 clear h
 intro hlen h
 have hxl : xs.length = F.params.length := hv.length.symm.trans hlen
 have hK := r.stays
 have hroom : A.depth < recursionLimit := Nat.lt_of_lt_of_le (by have := a.depth; lia : A.depth < 990) (by decide)
 refine codeAny_call_function hroom (hK _ _ ho) hd hco hgen hbody (hcd.keeps hK) ?_
 rw [hbind xs hxl]
 refine wpAny_pure ?_
 rw [hgl, hbu, hcl]
 have hbk : ((F.params.map Str.ofString).zip xs).map (·.1) = F.params.map Str.ofString := by
  rw [List.map_fst_zip]; simp; lia
 have hpn : F.params.Nodup := FO.nodup.sublist FO.params.sublist
 refine wpAny_newFunctionEnv_cells hkind (fun x hx => ?_) fun env he s' y => ?_
 ·have hx1 : x.1 ∈ F.params.map Str.ofString := hbk ▸ List.mem_map_of_mem (f := (·.1)) hx
  refine ob7 (List.mem_map.mp hx1) ?_
  intro p hp hpe
  rcases hpar p hp with q | q
  ·exact .inl (hpe ▸ q)
  ·exact .inr ⟨hpe ▸ q, cellsFrom_some _ _ _ (.inl (hpe ▸ q))⟩
 refine ⟨(XC.nolimit.keeps hK).keeps y.toInCall.keep, codeAny_func ?_⟩
 have eloc : env.locals = s.heap.objs.size := by rw [he]; rfl
 have efr : env.frame = some env.locals := by rw [he]; rfl
 have esc : env.scope = fd.scope := by rw [he]; rfl
 have ecl : env.cells = cellsFrom (s.heap.objs.size + 1) fd.scope.names [] := by rw [he]; rfl
 have ES : EnvS (scOf F fd.scope.names) env := by
  refine ⟨⟨by rw [esc]; exact hkind, by rw [he]; rfl, by rw [he]; rfl⟩, by rw [esc]; rfl, zkS FO.size, fun x hx => ?_⟩
  rcases hx with hx | hx
  ·rw [ecl]; exact cellsFrom_some _ _ _ (.inl hx)
  ·exact absurd hx (hfree x)
 refine ob18 y.toInCall.same ?_
 intro h₁ tk ee118
 subst ee118
 have keep := y.toInCall.keep
 have hLlt : env.locals < h₁.objs.size := by
  refine ob24 y.toInCall.ns ?_
  intro oL _ _ hL _
  exact Heap.lt_size hL
 have st0 : Step C No σ s σ { s with heap := h₁, toks := tk } := .grow r keep (by rw [eloc] at hLlt; exact Nat.le_of_lt hLlt)
 have noLσ : ∀ a, s.heap.objs.size ≤ a → σ a = none ∧ C.base.get? a = none := fun a ha => ⟨r.none_of_ge ha, zbu r ha⟩
 have cellAb : ∀ n c, env.cells.lookup n = some c → s.heap.objs.size ≤ c := fun n c hc => by
  have := y.above n c (PySem.mem_of_lookup hc)
  rw [eloc] at this; exact Nat.le_of_lt this
 have hown : ∀ a, Own env a → s.heap.objs.size ≤ a := fun a ha => by
  rcases ha with rfl | ⟨n, hc⟩
  ·exact Nat.le_of_eq eloc.symm
  ·exact cellAb n a hc
 have hnm : ((F.params.map Str.ofString).zip xs).map (·.1) |>.Nodup := by rw [hbk]; exact zd6 hpn
 have l : LR C σ h₁ env (scOf F fd.scope.names).nm (vs.map some ++ List.replicate (F.size - vs.length) none) := by
  refine ⟨fun x i v hx hv' => ?_, ⟨_, y.toInCall.ns⟩, noLσ _ (Nat.le_of_eq eloc.symm), fun n c hc => ⟨⟨_, y.cell n c hc⟩, noLσ _ (cellAb n c hc)⟩, fun x z c hx hz => PySem.name_of_addr y.apart (PySem.mem_of_lookup hx) (PySem.mem_of_lookup hz)⟩
  have hxi : F.names[i]? = some x := (zbo hx).2
  have hi : i < vs.length := by
   by_cases hlt : i < vs.length
   ·exact hlt
   ·exfalso
    simp only [Loc.get] at hv'
    rw [List.getElem?_append_right (by simpa using Nat.not_lt.mp hlt), List.getElem?_replicate] at hv'
    split at hv' <;> simp at hv'
  have hvi : vs[i]? = some v := by
   simp only [Loc.get] at hv'
   rw [List.getElem?_append_left (by simpa using hi), List.getElem?_map] at hv'
   cases q : vs[i]? with
   | none => rw [q] at hv'; simp at hv'
   | some w => rw [q] at hv'; simp at hv'; rw [hv']
  refine ob7 (hv.get hvi) ?_
  intro u hu hvu
  have hpi : F.params[i]? = some x := by
   refine ob12 FO.params ?_
   intro t ht
   rw [← ht, List.getElem?_append_left (by lia)] at hxi
   exact hxi
  have hmem : (Str.ofString x, u) ∈ (F.params.map Str.ofString).zip xs := by
   refine List.mem_iff_getElem?.mpr ⟨i, ?_⟩
   rw [List.getElem?_zip_eq_some]
   exact ⟨by rw [List.getElem?_map, hpi]; rfl, hu⟩
  have hpx : x ∈ F.params := List.mem_of_getElem? hpi
  unfold Holds
  rw [ES.kindOf]
  rcases hpar x hpx with q | q
  ·rw [show (scOf F fd.scope.names).names.lookup (Str.ofString x) = some .local from q]
   exact ⟨_, u, y.toInCall.ns, zit (by rw [ES.kindOf]; exact q) hnm hmem, hvu.keep fun b ob e _ => keep b ob e⟩
  ·rw [show (scOf F fd.scope.names).names.lookup (Str.ofString x) = some .cell from q]
   refine ob12 (Option.isSome_iff_exists.mp (ES.cells (Str.ofString x) (.inl q))) ?_
   intro c hc
   have hcell := y.cell _ c hc
   rw [ziu (by rw [ES.kindOf]; exact q) hnm hmem] at hcell
   exact ⟨c, u, hc, hcell, hvu.keep fun b ob e _ => keep b ob e⟩
 have hvl : vs.length ≤ F.size := by
  have := FO.params.length_le
  have := FO.size
  lia
 refine ob2 a.frames ?_
 intro fl hfl hff hfn
 have d : Dyn C k md (scOf F fd.scope.names) (A.deeper env) env (vs.map some ++ List.replicate (F.size - vs.length) none) σ { s with heap := h₁, toks := tk } := by
  refine ⟨⟨⟨env :: fl, by show A.frames.map _ = _; rw [hfl]; rfl, ?_, fun L hL => ?_⟩, a.handled, ?_, ?_⟩, st0.rel, l, by simp [scOf]; lia⟩
  ·refine ⟨by rw [esc, hkind]; decide, ?_, hff.of_keeps fun b ob hb _ => ⟨ob, keep b ob hb, rfl⟩⟩
   refine ob6 y.toInCall.ns ?_
   intro oL es ep hL hLd _
   exact ⟨env.locals, oL, efr, (noLσ _ (Nat.le_of_eq eloc.symm)).2, hL, fun vs q => by rw [hLd] at q; cases q⟩
  ·rw [List.filterMap_cons, efr] at hL
   rcases List.mem_cons.mp hL with rfl | hL
   ·refine ob6 y.toInCall.ns ?_
    intro oL es ep hL hLd _
    exact ⟨(noLσ _ (Nat.le_of_eq eloc.symm)).1, oL, es, ep, hL, hLd⟩
   ·refine ob3 (hfn L hL) ?_
    intro z1 o' es n' z2 z3
    exact ⟨z1, o', es, n', keep _ _ z2, z3⟩
  ·show A.depth + 1 + 3 * (k + 1) < 990
   have := a.depth; lia
  ·show A.units + 3 + 40 * (k + 1) < 9000
   have := a.units; lia
 have U : SurS C k (sem tab fld k) (scOf F fd.scope.names) env := ⟨XC, ca, ES, efr⟩
 have tf : znr (A.deeper env) env := ⟨fl, by show A.frames.map _ = _; rw [hfl]; rfl⟩
 refine wpAny_mono (zgS F.body U tf d hmatch h) (fun f s' hf => ?_) fun x s' hx => ?_
 ·cases f with
  | next =>
   refine ob1 hf ?_
   clear hf
   intro ρ' σ' q st _
   exact ⟨.none, σ', q, .none, (st0.no.trans st).drop hown⟩
  | ret v =>
   refine ob15 hf ?_
   clear hf
   intro V σ' q hv' st _
   exact ⟨V, σ', q, hv', (st0.no.trans st).drop hown⟩
  | _ => exact hf.elim
 ·exact False.elim hx
structure TabOk (C : Cx) (tab : String → String → Option Fn) (fld : String → String → Bool) : Prop where
 fn : ∀ c f F, tab c f = some F → ∃ a, C.fn c f = some a ∧ FnOk C a F
 fld : ∀ c f, fld c f = true → C.fld c f = true
theorem ziq {tab : String → String → Option Fn} {fld : String → String → Bool} (T : TabOk C tab fld) {c f : String} (h : (tab c f).isSome = true) : ∃ a, C.fn c f = some a := by
 refine ob12 (Option.isSome_iff_exists.mp h) ?_
 intro F hF
 refine ob7 (T.fn c f F hF) ?_
 intro a ha _
 exact ⟨a, ha⟩
theorem zjV {tab : String → String → Option Fn} {fld : String → String → Bool} (XC : CxOk C) (T : TabOk C tab fld) : ∀ (k : Nat) (md : Bool), CallsOk C k md (sem tab fld k md)
 | 0, md => ⟨fun _ _ => ziq T, fun c f h => T.fld c f h, fun _ _ _ _ h => by rw [ziO] at h; exact h.elim⟩
 | k + 1, md => ⟨fun _ _ => ziq T, fun c f h => T.fld c f h, fun {c f a vs xs σ s A Q X} hfa ar r hv h => by
   rw [ziO] at h
   refine ob7 (zap h) ?_
   intro F hF h
   refine ob7 (T.fn c f F hF) ?_
   intro a' ha' FO
   rw [hfa] at ha'; cases ha'
   exact zpb XC (zjV XC T k) FO ar r hv h⟩
end
end Mine.Internal
end
section
set_option maxRecDepth 100000
namespace Mine.Internal
open PySem PySem.W PySem.Calls PyProof.Rows
theorem zoS : (bNames.all fun p => bootBuiltins (Str.ofString p.1) == some p.2) = true := by kernel_rfl
theorem zll : (bNames.all fun p => decide (Str.ofString p.1 ≠ ("__name__" : Str))) = true := by kernel_rfl
noncomputable def cxOf (prog : Program) (w : World) (base : Heap) (K : Frag) (T : Tabs) (mg mb : Str → Option Value) : Cx :=
 ⟨prog, w, base, fun c => T.cls.lookup c, fun c f => T.fn.lookup (c, f), fun c f => T.fld.contains (c, f), K, mg, mb⟩
section
variable {prog : Program} {w : World} {base : Heap} {K : Frag} {T : Tabs} {mg mb : Str → Option Value}
theorem zbi {α β : Type} [BEq α] [LawfulBEq α] : ∀ {l : List (α × β)} {x : α} {y : β}, l.lookup x = some y → (x, y) ∈ l
 | (a, b) :: r, x, y, h => by
  rw [List.lookup_cons] at h
  cases hb : x == a with
  | true => rw [hb] at h; cases h; rw [beq_iff_eq.mp hb]; exact List.mem_cons_self
  | false => rw [hb] at h; exact List.mem_cons_of_mem _ (zbi h)
structure TopOk (K : Frag) (T : Tabs) : Prop where
 bn : ∀ x v, (x, v) ∈ bNames → nsIn K mainGlobals (Str.ofString x) = some none
 most : ∃ t, nsIn K mainGlobals "MOST_PLACES" = some (some (.int 40 t))
 cls : ∀ c a, (c, a) ∈ T.cls → c ≠ "" ∧ nsIn K mainGlobals (Str.ofString c) = some (some (.ref a))
 fn : ∀ c f a, ((c, f), a) ∈ T.fn → isFd K a = true ∧ (c = "" → nsIn K mainGlobals (Str.ofString f) = some (some (.ref a))) ∧ (c ≠ "" → ∃ Cl, T.cls.lookup c = some Cl ∧ zgP K Cl = true ∧ findIn K (.ref Cl) (Str.ofString f) = some (some (.ref a)) ∧
  isFn K (.ref a) = true ∧ typeIn K (.ref a) = some (.type "function") ∧ (f = "__init__" → keepIn K (.ref Cl) = true ∧ makesIn K Cl = true))
 fld : ∀ c f, (c, f) ∈ T.fld → ∃ Cl, T.cls.lookup c = some Cl ∧ zgP K Cl = true ∧ findIn K (.ref Cl) (Str.ofString f) = some none
theorem zmt (h : zdZ K T = true) : TopOk K T := by
 unfold zdZ at h
 simp only [Bool.and_eq_true] at h
 refine ob34 h ?_
 clear h
 intro h1 h2 h3 h4 h5
 refine ⟨fun x v hx => ?_, ?_, fun c a hc => ?_, fun c f a hf => ?_, fun c f hf => ?_⟩
 ·exact beq_iff_eq.mp (List.all_eq_true.mp h1 _ hx)
 ·split at h2
  ·rename_i i t e; rw [beq_iff_eq.mp h2] at e; exact ⟨t, e⟩
  ·cases h2
 ·have := List.all_eq_true.mp h3 _ hc
  simp only [Bool.and_eq_true, bne_iff_ne, beq_iff_eq] at this
  exact this
 ·have := List.all_eq_true.mp h4 _ hf
  simp only [Bool.and_eq_true] at this
  refine ob14 this ?_
  clear this
  intro z1 z2
  refine ⟨z1, fun hc => ?_, fun hc => ?_⟩
  ·rw [if_pos (by simpa using hc)] at z2; exact beq_iff_eq.mp z2
  ·rw [if_neg (by simpa using hc)] at z2
   split at z2
   ·rename_i Cl hCl
    simp only [Bool.and_eq_true, Bool.or_eq_true, bne_iff_ne, beq_iff_eq] at z2
    refine ob34 z2 ?_
    clear z2
    intro y1 y2 y3 y4 y5
    exact ⟨Cl, hCl, y1, y2, y3, y4, fun e => y5.elim (fun n => absurd e n) id⟩
   ·cases z2
 ·have := List.all_eq_true.mp h5 _ hf
  dsimp only at this
  split at this
  ·rename_i Cl hCl
   simp only [Bool.and_eq_true, beq_iff_eq] at this
   exact ⟨Cl, hCl, this.1, this.2⟩
  ·cases this
theorem zi2 (X : K.In base) {a : Addr} (h : isFd K a = true) : ∃ o, base.get? a = some o ∧ o.data = .func (fdOf K a) := by
 unfold isFd at h
 split at h
 ·rename_i e
  refine ⟨_, X _ _ e, ?_⟩
  unfold fdOf; rw [e]
 ·cases h
theorem zjU {Cl : Addr} (h : zgP K Cl = true) : zoX K Cl := by
 unfold zgP at h
 simp only [Bool.and_eq_true, beq_iff_eq] at h
 exact ⟨h.1.1.1, h.1.1.2, h.1.2, h.2⟩
theorem zoI {p : Program} {loose : List Str} (X : K.In base) (R : TopRead p loose mg mb base) (h : zdZ K T = true) : CxOk (cxOf prog w base K T mg mb) := by
 have O := zmt h
 refine ⟨X, R.g, R.b, R.nolimit, fun x v hx => ⟨mg_none_of X R.g (O.bn x v hx), ?_⟩, fun x i hx => ?_, ?_, fun c Cl hc => ?_, fun f a hf => ?_, fun c fa hf hc => ?_, fun c name fa Cl hf hc hcl => ?_, fun c name Cl hf hcl => ?_⟩
 ·have h1 := List.all_eq_true.mp zoS _ hx
  have h2 := List.all_eq_true.mp zll _ hx
  show mb _ = _
  rw [R.builtins _ (of_decide_eq_true h2)]
  exact beq_iff_eq.mp h1
 ·unfold zlO at hx
  split at hx
  ·cases hx
   refine ob12 O.most ?_
   intro t ht
   exact ⟨t, mg_of X R.g ht⟩
  ·cases hx
 ·show T.cls.lookup "" = none
  cases q : T.cls.lookup "" with
  | none => rfl
  | some a => exact absurd rfl (O.cls _ _ (zbi q)).1
 ·exact mg_of X R.g (O.cls _ _ (zbi hc)).2
 ·refine ob16 (O.fn _ _ _ (zbi hf)) ?_
  intro h1 h2 _
  refine ob7 (zi2 X h1) ?_
  intro o ho hd
  exact ⟨mg_of X R.g (h2 rfl), o, _, ho, hd⟩
 ·refine lift fun g9 k9 => ?_
  refine ob16 (O.fn _ _ _ (zbi hf)) ?_
  intro h1 _ h3
  refine ob50 (h3 hc) ?_
  intro Cl y1 y2 y3 y4 y5 y6
  refine ob14 (y6 rfl) ?_
  intro z1 z2
  refine k9 ?_
  clear k9 g9
  exact ⟨Cl, y1, z1, z2, y3, y5⟩
 ·refine ob16 (O.fn _ _ _ (zbi hf)) ?_
  intro h1 _ h3
  refine ob50 (h3 hc) ?_
  intro Cl' y1 y2 y3 y4 y5 y6
  have : Cl' = Cl := Option.some.inj (y1.symm.trans hcl)
  subst this
  refine ob7 (zi2 X h1) ?_
  intro o ho hd
  exact ⟨zjU y2, y3, y4, o, _, ho, hd⟩
 ·have hm : (c, name) ∈ T.fld := by simpa [cxOf] using hf
  refine ob2 (O.fld _ _ hm) ?_
  intro Cl' y1 y2 y3
  have : Cl' = Cl := Option.some.inj (y1.symm.trans hcl)
  subst this
  exact ⟨zjU y2, y3⟩
theorem zor {C : Cx} {a : Addr} {F : Fn} (X : K.In C.base) (h : zi7 K a F = true) (hb : ∀ xs : List Value, xs.length = F.params.length → bindArgs (fdOf K a) ⟨xs, []⟩ = pure ((F.params.map Str.ofString).zip xs)) : FnOk C a F := by
 unfold zi7 at h
 dsimp only at h
 split at h
 ·rename_i body hbody
  simp only [Bool.and_eq_true, beq_iff_eq, Bool.not_eq_true', decide_eq_true_eq, List.isEmpty_iff] at h
  refine ob51 h ?_
  clear h
  intro h1 h2 h3 h4 h5 h6 h7 h8 h9 h10 h11 h12 h13 h14
  refine ob7 (zi2 X h1) ?_
  intro o ho hd
  refine ⟨⟨o, _, body, ho, hd, hbody, h2, h3, h4, h5, h6, h7, codeRec_of X h8, hb, h9, fun x hx => ?_, fun x hx => ?_⟩, h12, h13, h14⟩
  ·have := List.all_eq_true.mp h10 x hx
   simpa using this
  ·have := List.all_eq_true.mp h11 _ (PySem.mem_of_lookup hx)
   simp at this
 ·cases h
end
end Mine.Internal
end
section
set_option maxRecDepth 100000
namespace Mine.Internal
open PySem PySem.W PySem.Calls PyProof.Rows
theorem zkw {ns : List Str} {xs : List Value} (h : xs.length = ns.length) {n : Str} (hn : n ∈ ns) : ((ns.zip xs).lookup n).isSome = true := by
 induction ns generalizing xs with
 | nil => cases hn
 | cons m ns ih =>
  cases xs with
  | nil => simp at h
  | cons x xs =>
   rw [List.zip_cons_cons, List.lookup_cons]
   cases e : n == m with
   | true => rfl
   | false =>
    rcases List.mem_cons.mp hn with rfl | hn
    ·rw [beq_self_eq_true] at e; cases e
    ·exact ih (by simpa using h) hn
theorem zjJ {α β : Type} {f g : α → Option β} : ∀ {l : List α}, (∀ a ∈ l, f a = g a) → l.filterMap f = l.filterMap g
 | [], _ => rfl
 | a :: l, h => by rw [List.filterMap_cons, List.filterMap_cons, h a List.mem_cons_self, zjJ fun b hb => h b (List.mem_cons_of_mem _ hb)]
theorem zmm {ns : List Str} {xs : List Value} (hn : ns.Nodup) (h : xs.length = ns.length) : ns.filterMap (fun n => ((ns.zip xs).lookup n).map (n, ·)) = ns.zip xs := by
 induction ns generalizing xs with
 | nil => rfl
 | cons m ns ih =>
  cases xs with
  | nil => simp at h
  | cons x xs =>
   have hm := (List.nodup_cons.mp hn).1
   rw [List.zip_cons_cons, List.filterMap_cons]
   simp only [List.lookup_cons, beq_self_eq_true, Option.map_some]
   congr 1
   refine (zjJ ?_).trans (ih (List.nodup_cons.mp hn).2 (by simpa using h))
   intro n hnm
   have : (n == m) = false := by
    cases e : n == m with
    | false => rfl
    | true => rw [beq_iff_eq] at e; subst e; exact absurd hnm hm
   rw [this]
theorem zoU {fd : FuncData} {ps : List String} (hp : zhb fd ps = true) (xs : List Value) (hx : xs.length = ps.length) : bindArgs fd ⟨xs, []⟩ = pure ((ps.map Str.ofString).zip xs) := by
 refine lift fun g9 k9 => ?_
 obtain ⟨name, qn, ⟨po, as, va, ko, kd, kw, df⟩, body, scope, gl, cl, defs, kwd, doc, pm, an, cd, ct, bl⟩ := fd
 refine k9 ?_
 clear k9 g9
 simp only [zhb, Bool.and_eq_true, List.isEmpty_iff, beq_iff_eq, Option.isNone_iff_eq_none, decide_eq_true_eq] at hp
 refine ob43 hp ?_
 clear hp
 intro ee119
 subst ee119
 intro hn ee120
 subst ee120
 intro ee121
 subst ee121
 intro ee122
 subst ee122
 intro hd hnd
 have hd : defs = .none := by cases defs <;> first | rfl | cases hd
 subst hd
 have hl : xs.length = (ps.map Str.ofString).length := by rw [List.length_map]; exact hx
 have miss : ((ps.map Str.ofString).filter fun n => (((ps.map Str.ofString).zip xs).lookup n).isNone) = [] := List.filter_eq_nil_iff.mpr fun n hm z => by
  have := zkw hl hm
  rw [Option.isNone_iff_eq_none] at z
  rw [z] at this; cases this
 have hb := zmm hnd hl
 unfold bindArgs
 refine (if_neg (fun z => ?_)).trans ?_
 ·have z := of_decide_eq_true (Bool.and_eq_true_iff.mp z).1
  change xs.length > (as.map (·.arg)).length at z
  rw [hn, hl] at z; exact Nat.lt_irrefl _ z
 have e0 : ∀ m, ([] : List Value).drop m = [] := fun m => List.drop_nil
 refine (if_neg (fun z => ?_)).trans ?_
 ·change (!(List.filter (fun n => (((as.map (·.arg)).zip xs).lookup n).isNone) ((as.map (·.arg)).take ((as.map (·.arg)).length - (([] : List Value).drop (0 - (as.map (·.arg)).length)).length))).isEmpty) = true at z
  rw [e0, hn, List.length_nil, Nat.sub_zero, List.take_length, miss] at z; cases z
 change ((forIn (((as.map (·.arg)).drop ((as.map (·.arg)).length - (([] : List Value).drop (0 - (as.map (·.arg)).length)).length)).zip (([] : List Value).drop (0 - (as.map (·.arg)).length))) ((as.map (·.arg)).zip xs) _ : Sem _) >>= _) = _
 rw [e0, List.zip_nil_right]
 change (pure ((as.map Arg.arg ++ ([] : List Str)).filterMap fun n => (((as.map Arg.arg).zip xs).lookup n).map (n, ·)) : Sem _) = _
 rw [List.append_nil, hn]; exact congrArg pure hb
end Mine.Internal
end
section
set_option maxRecDepth 100000
namespace Mine.Internal
open PySem PySem.W PySem.Calls PyProof.Rows
theorem zf3 {h : Heap} {k : Frag → Bool} : ∀ {as : List Addr} {acc : Frag}, zcC h k as acc = true → acc.In h → ∃ K : Frag, K.In h ∧ k K = true
 | [], acc, e, i => ⟨acc, i, e⟩
 | a :: as, acc, e, i => by
  cases ho : h.get? a with
  | none =>
   simp only [zcC, ho] at e
   exact zf3 e i
  | some o =>
   simp only [zcC, ho] at e
   refine zf3 e ?_
   intro b p hp
   rw [List.lookup_cons] at hp
   cases e' : b == a with
   | true => rw [e'] at hp; cases hp; rw [beq_iff_eq.mp e']; exact ho
   | false => rw [e'] at hp; exact i b p hp
noncomputable def zfG (T : Tabs) (fns : List ((String × String) × Fn)) (law : Addr) (K : Frag) : Bool := zdZ K T && zbK T fns K && (nsIn K mainGlobals (Str.ofString "law") == some (some (.ref law)))
noncomputable def obsK (T : Tabs) (fns : List ((String × String) × Fn)) (law : Addr) (n : Nat) (s : Shared) : Bool := zcC s.heap (zfG T fns law) (List.range n) []
noncomputable def zmJ (T : Tabs) (fns : List ((String × String) × Fn)) (law : Addr) (h : Heap) : Prop := ∃ K : Frag, K.In h ∧ zfG T fns law K = true
theorem zmI {T : Tabs} {fns : List ((String × String) × Fn)} {law : Addr} {n : Nat} {s : Shared} (e : obsK T fns law n s = true) : zmJ T fns law s.heap := zf3 e (fun _ _ hp => by cases hp)
theorem ziP {T : Tabs} {fns : List ((String × String) × Fn)} {law : Addr} {h h' : Heap} (y : zmJ T fns law h) (k : ∀ b o, h.get? b = some o → h'.get? b = some o) : zmJ T fns law h' := let ⟨K, i, e⟩ := y; ⟨K, i.keeps k, e⟩
theorem zo3 {T : Tabs} {fns : List ((String × String) × Fn)} {fld : String → String → Bool} {prog : Program} {w : World} {base : Heap} {K : Frag} {mg mb : Str → Option Value} (X : K.In base) (h : zbK T fns K = true) (hf : ∀ c f, fld c f = true → T.fld.contains (c, f) = true) :
  TabOk (cxOf prog w base K T mg mb) (fun c f => fns.lookup (c, f)) fld := by
 refine ⟨fun c f F e => ?_, fun c f e => hf c f e⟩
 have hm := List.all_eq_true.mp h _ (zbi e)
 dsimp only at hm
 split at hm
 ·rename_i a ha
  simp only [Bool.and_eq_true] at hm
  exact ⟨a, ha, zor X hm.1 fun xs hx => zoU hm.2 xs hx⟩
 ·cases hm
end Mine.Internal
end
section
set_option maxRecDepth 100000
namespace Mine.Internal
open PySem PySem.W PySem.Calls PyProof.Rows
theorem zog {p q : Program} {loose : List Str} {Xt : Shared → Bool} {Yf : Shared → Bool} {N : Nat} (a : ∀ w, (openEnds treeTable p w N).map (fun s => openSeen q loose (importedModules p.main.body) Xt true s) = some (openGood q loose))
  (b : ∀ w, (openEnds treeTable p w N).map Yf = some true) : LeftO p q loose Xt Yf (fun _ => true) N := fun w => by
 refine ob7 (Option.map_eq_some_iff.mp (a w)) ?_
 intro s e h
 have hb := b w
 rw [e] at hb ⊢
 have hb' : Yf s = true := Option.some.inj hb
 rw [Option.map_some, h, hb']
theorem zir {p : Program} {Y Z : Shared → Bool} {N : Nat} (a : ∀ w, (openEnds treeTable p w N).map Y = some true) (b : ∀ w, (openEnds treeTable p w N).map Z = some true) : ∀ w, (openEnds treeTable p w N).map (fun s => Y s && Z s) = some true := fun w => by
 refine ob7 (Option.map_eq_some_iff.mp (a w)) ?_
 intro s e h
 have hb := b w
 rw [e] at hb ⊢
 have hb' : Z s = true := Option.some.inj hb
 rw [Option.map_some, h, hb']; rfl
theorem ze1 {h : Heap} {k j : Frag → Bool} : ∀ {as : List Addr} {acc : Frag}, (zcC h k as acc && zcC h j as acc) = zcC h (fun K => k K && j K) as acc
 | [], acc => rfl
 | a :: as, acc => by
  cases e : h.get? a with
  | none => simp only [zcC, e]; exact ze1
  | some o => simp only [zcC, e]; exact ze1
theorem zpf {T : Tabs} {fns : List ((String × String) × Fn)} {law : Addr} {n i : Nat} : (fun s => obs1 T fns law n i s && obs2 T fns n i s) = obsK T fns law n := by
 funext s
 unfold obs1 obs2 obsK
 rw [ze1]
 congr 1
 funext K
 have : zbK T fns K = (zbK T (fns.take i) K && zbK T (fns.drop i) K) := by
  unfold zbK
  rw [← List.all_append, List.take_append_drop]
 unfold zfG
 rw [this]
 cases zdZ K T <;> cases zbK T (fns.take i) K <;> cases zbK T (fns.drop i) K <;> cases (nsIn K mainGlobals (Str.ofString "law") == some (some (.ref law))) <;> rfl
end Mine.Internal
end
section
open PySem PySem.W PyProof.Rows
set_option Elab.async false
set_option maxRecDepth 100000
set_option maxHeartbeats 8000000
namespace Mine.Internal
theorem zpl : LeftO PySem.Challenge.pw_uf010024_06 q06 [] (fun s => xlAt q06 [] s && recOk (RowW.records PySem.Challenge.rw_uf010024_06.row.toRowW) s) (obsK tabs06 fns06 328 330) (fun _ => true) 5252 := by
 refine zog zoj ?_
 have h := zir zoi zoh
 rw [zpf] at h
 exact h
noncomputable def sig0 (l : Addr) (ns : List Int) : Store := fun a => if a = l then some (.fixed (ns.map V.int)) else none
theorem zm7 (c f : String) (h : zay c f = true) : tabs06.fld.contains (c, f) = true := by
 simp only [zay, Bool.and_eq_true, beq_iff_eq, Bool.or_eq_true] at h
 rcases h with (((((((⟨rfl, rfl⟩ | ⟨rfl, rfl⟩) | ⟨rfl, rfl⟩) | ⟨rfl, rfl⟩) | ⟨rfl, rfl⟩) | ⟨rfl, rfl⟩) | ⟨rfl, rfl⟩) | ⟨rfl, rfl⟩) | ⟨rfl, rfl⟩ <;> rfl
theorem zpa : PySem.Challenge.rw_uf010024_06.wellSaid = true := by decide +kernel
end Mine.Internal
end
section
open PySem PySem.W PyProof.Rows
set_option Elab.async false
set_option maxRecDepth 100000
set_option maxHeartbeats 8000000
namespace Mine.Internal
theorem join06 (hlaw : ∀ (l : Addr) (ns : List Int), ns.length ≤ 63 → (sem zas zay 20 true).run "" "law" [.ref l] (sig0 l ns) (fun v _ => v = .bool true) (fun _ _ _ => False)) : PySem.Challenge.rw_uf010024_06.Holds := by
 refine PySem.W.holds_law zpa fun said => ?_
 refine PySem.W.holds_open (q := q06) (loose := []) (XP := PySem.W.XL q06 []) (YP := fun _ h => zmJ tabs06 fns06 328 h) (N := 5252) zpl (fun _ _ e => zmI e) (fun _ _ _ y k => ziP y k) (fun s e => xl_of s (Bool.and_eq_true_iff.mp e).1) PySem.W.XL.keeps (by rfl) (by rfl) (by rfl) (fun s e => recFacts_of (Bool.and_eq_true_iff.mp e).2) (by rfl) said (by decide +kernel) ⟨rfl, rfl, rfl, rfl, rfl, by decide +kernel⟩ ?hw ?hc
 case hw => w_witness2
 intro w s₀ s₁ mg mb G Y fa o pm cd doc dV kV ho hd hcd hD hmg hg args vals as hpre hlay hrd hwl hlo
 refine ob7 Y ?_
 clear Y
 intro K KX KC
 simp only [zfG, Bool.and_eq_true, beq_iff_eq] at KC
 refine ob33 KC ?_
 clear KC
 intro KT KF KL
 refine Ground.open G ?_
 intro T B D TE TW
 try (refine guard_noD D (by decide +kernel) ?_; clear D)
 wrow_args hpre hlay hrd hwl hlo
 rename_i ns _ _ _ _ _ _ _ l vs _ hL _ _ _ hI _ hlen _
 refine enter_call ?_
 refine codeAny_mono ?_ (fun _ _ g => GoodW.toG g)
 clear ho hd hcd hD
 have R := topRead_of T
 have CX := zoI (prog := Challenge.rw_uf010024_06.row.prog) (w := w) KX R KT
 have hfa : fa = 328 := by
  have h1 := mg_of KX R.g KL
  have h2 : mg (Str.ofString "law") = some (.ref fa) := hmg
  rw [h1] at h2; cases h2; rfl
 subst hfa
 have ca := zjV CX (zo3 (prog := Challenge.rw_uf010024_06.row.prog) (mg := mg) (mb := mb) (fld := zay) KX KF zm7) 20 true
 have rel : Rel (cxOf Challenge.rw_uf010024_06.row.prog w s₁.heap K tabs06 mg mb) (sig0 l ns) s₁.heap := by
  refine ⟨fun b o e => e, fun a o h => ?_, fun a o h => ?_, Nat.le_refl _⟩
  ·unfold sig0 at h
   split at h
   ·rename_i e; cases h; subst e
    exact ⟨vs, hL, zhk hI, by rw [List.length_map]; unfold zax; lia⟩
   ·cases h
  ·unfold sig0 at h
   split at h
   ·cases h; exact .inr ⟨_, rfl⟩
   ·cases h
 refine codeAny_mono (ca.run (c := "") (f := "law") (s := s₁) (A := callerA) (vs := [.ref l]) rfl ⟨⟨[], rfl, trivial, fun L hL => by cases hL⟩, fun _ => rfl, by decide, by decide⟩ rel (.cons .ref .nil) (hlaw l ns (by lia))) fun r s' hr => ?_
 rcases r with e | f
 ·exact False.elim hr
 ·cases f with
  | ret v =>
   refine lift fun g9 k9 => ?_
   refine ob1 hr ?_
   clear hr
   intro V σ' ee123
   subst ee123
   intro hv st
   cases hv.bool_of
   refine k9 ?_
   clear k9 g9
   refine ⟨.inl ⟨_, .bool true, [], rfl, fun _ => rfl, .bool true, ?_, fun _ => ⟨.nil, fun _ h => by cases h⟩⟩, st.rel.stays, st.os, st.gens.trans hg⟩
   kernel_rfl
  | _ => exact hr.elim
theorem zgz {α : Type} {a : α} {l : List α} : (a :: l)[0]? = some a := rfl
theorem zgs {α : Type} {a : α} {l : List α} {i : Nat} : (a :: l)[i + 1]? = l[i]? := rfl
theorem zss {α : Type} {a b : α} {l : List α} {i : Nat} : (a :: l).set (i + 1) b = a :: l.set i b := rfl
theorem zsz {α : Type} {a b : α} {l : List α} : (a :: l).set 0 b = b :: l := rfl
theorem zjs {α : Type} {o : Option α} : (some o).join = o := rfl
theorem zmc {α β : Type} {f : α → β} {a : α} {l : List α} : (a :: l).map f = f a :: l.map f := rfl
theorem zmn {α β : Type} {f : α → β} : ([] : List α).map f = [] := rfl
theorem zlc {α : Type} {a : α} {l : List α} : (a :: l).length = l.length + 1 := rfl
theorem zln {α : Type} : ([] : List α).length = 0 := rfl
theorem zac {α : Type} {a : α} {l m : List α} : (a :: l) ++ m = a :: (l ++ m) := rfl
theorem zan {α : Type} {l : List α} : [] ++ l = l := rfl
theorem zr0 {α : Type} {a : α} : List.replicate 0 a = [] := rfl
theorem zrs {α : Type} {a : α} {n : Nat} : List.replicate (n + 1) a = a :: List.replicate n a := rfl
open PySem
noncomputable def Ext (σ σ' : Store) : Prop := ∀ a o, σ a = some o → σ' a = some o
theorem Ext.rfl {σ : Store} : Ext σ σ := fun _ _ h => h
theorem Ext.trans {σ σ' σ'' : Store} (h : Ext σ σ') (g : Ext σ' σ'') : Ext σ σ'' := fun a o e => g a o (h a o e)
theorem Ext.upd {σ σ' : Store} {a : Addr} {o : AO} (h : Ext σ σ') (g : σ a = none) : Ext σ (σ'.upd a o) := by
 intro b p e
 unfold Store.upd
 by_cases hb : b = a
 ·subst hb; rw [g] at e; cases e
 ·rw [if_neg hb]; exact h b p e
theorem Ext.none {σ σ' : Store} (h : Ext σ σ') {a : Addr} (g : σ' a = none) : σ a = none := by
 cases e : σ a with
 | none => rfl
 | some o => rw [h a o e] at g; cases g
@[simp] theorem zaj {σ : Store} {a : Addr} {o : AO} : (σ.upd a o) a = some o := by simp [Store.upd]
theorem zbC {σ : Store} {a : Addr} {o p : AO} : (σ.upd a o).upd a p = σ.upd a p := by funext z; simp [Store.upd]; split <;> rfl
theorem zaq {σ : Store} {a b : Addr} {o : AO} (h : b ≠ a) : (σ.upd a o) b = σ b := by simp [Store.upd, h]
theorem zaV {chk : Store → Prop} {B : V → Loc → Store → (Loc → Store → Prop) → Prop} {Q : Loc → Store → Prop} (I : Nat → Loc → Store → Prop)
  {items : List V} {ρ : Loc} {σ : Store} (h0 : I 0 ρ σ) (hc : ∀ k ρ σ, I k ρ σ → chk σ)
  (hs : ∀ k v ρ σ K, items[k]? = some v → I k ρ σ → (∀ ρ' σ', I (k + 1) ρ' σ' → K ρ' σ') → B v ρ σ K)
  (he : ∀ ρ σ, I items.length ρ σ → Q ρ σ) : forV chk B Q items ρ σ := by
 suffices g : ∀ (r : List V) (k : Nat) (ρ : Loc) (σ : Store), items.drop k = r → k ≤ items.length → I k ρ σ → forV chk B Q r ρ σ from g items 0 ρ σ (by simp) (Nat.zero_le _) h0
 intro r
 induction r with
 | nil =>
  intro k ρ σ hd hl hi
  have hk : items.length ≤ k := List.drop_eq_nil_iff.mp hd
  have : k = items.length := by lia
  subst this
  exact ⟨hc _ ρ σ hi, he ρ σ hi⟩
 | cons v r ih =>
  intro k ρ σ hd hl hi
  have hlt : k < items.length := by
   have := congrArg List.length hd
   simp at this; lia
  refine ⟨hc k ρ σ hi, hs k v ρ σ _ ?_ hi fun ρ' σ' hi' => ih (k + 1) ρ' σ' ?_ hlt hi'⟩
  ·have := congrArg (fun l : List V => l[0]?) hd
   simpa using this
  ·have := congrArg List.tail hd
   simpa [List.tail_drop] using this
theorem zf7 {chk : Store → Prop} {B : V → Store → (Option V → Store → Prop) → Prop} {Q : V → Store → Prop} (I : Nat → List V → Store → Prop)
  {items : List V} {σ : Store} (h0 : I 0 [] σ) (hc : ∀ k acc σ, I k acc σ → chk σ ∧ acc.length ≤ k) (hl : items.length ≤ zax)
  (hs : ∀ k v acc σ K, items[k]? = some v → I k acc σ → (∀ x σ', I (k + 1) (match x with | some x => acc ++ [x] | none => acc) σ' → K x σ') → B v σ K)
  (he : ∀ acc σ, I items.length acc σ → ∀ a, σ a = none → Q (.ref a) (σ.upd a (.list acc))) : zb4 chk B Q items [] σ := by
 suffices g : ∀ (r : List V) (k : Nat) (acc : List V) (σ : Store), items.drop k = r → k ≤ items.length → I k acc σ → zb4 chk B Q r acc σ from g items 0 [] σ (by simp) (Nat.zero_le _) h0
 intro r
 induction r with
 | nil =>
  intro k acc σ hd hl hi
  have hk : items.length ≤ k := List.drop_eq_nil_iff.mp hd
  have : k = items.length := by lia
  subst this
  exact ⟨(hc _ acc σ hi).1, he acc σ hi⟩
 | cons v r ih =>
  intro k acc σ hd hl' hi
  have hlt : k < items.length := by
   have := congrArg List.length hd
   simp at this; lia
  have := (hc k acc σ hi).2
  refine ⟨(hc k acc σ hi).1, by lia, hs k v acc σ _ ?_ hi fun x σ' hi' => ih (k + 1) _ σ' ?_ hlt hi'⟩
  ·have := congrArg (fun l : List V => l[0]?) hd
   simpa using this
  ·have := congrArg List.tail hd
   simpa [List.tail_drop] using this
theorem zbB {n : Int} : (upto 0 n 1).length = n.toNat := by simp [upto]
theorem ziG {lo hi : Int} {k : Nat} (h : lo + k < hi) : (upto lo hi 1)[k]? = some (lo + k) := by
 have : k < (hi - lo).toNat := by lia
 simp [upto, this]
theorem upto_get' {lo hi x : Int} {k : Nat} (h : (upto lo hi 1)[k]? = some x) : x = lo + k ∧ lo + k < hi := by
 by_cases hk : lo + k < hi
 ·rw [ziG hk] at h; cases h; exact ⟨rfl, hk⟩
 ·have : (upto lo hi 1).length ≤ k := by simp [upto]; lia
  rw [List.getElem?_eq_none this] at h; cases h
theorem zfH {lo hi : Int} : (upto lo hi 1).length = (hi - lo).toNat := by simp [upto]
theorem zbL {lo hi : Int} {k : Nat} {v : V} (h : ((upto lo hi 1).map V.int)[k]? = some v) : v = .int (lo + k) ∧ lo + k < hi := by
 rw [List.getElem?_map] at h
 cases e : (upto lo hi 1)[k]? with
 | none => rw [e] at h; cases h
 | some x => rw [e] at h; cases h; obtain ⟨rfl, g⟩ := upto_get' e; exact ⟨rfl, g⟩
section
variable {σ : Store} {Q : V → Store → Prop} {a b : Int}
theorem zdg {a : Addr} {o : AO} {P : Prop} (h : σ a = some o) (g : σ a = none) : P := by
 rw [g] at h; cases h
theorem zgE {y z : Addr} {rs : List Addr} (g : y ∈ rs) (h : z ∉ rs) : y ≠ z := fun e => h (e ▸ g)
theorem zbb {a b : Addr} {o : AO} (h : σ a = some o) (g : σ b = none) : a ≠ b := fun e => zdg h ((congrArg σ e).trans g)
theorem zhe {a b : Addr} {o : AO} (g : σ b = none) (h : σ a = some o) : b ≠ a := (zbb h g).symm
theorem zbM {a b : Addr} {o u : AO} (h : σ a = some o) (g : σ b = some u) (n : o ≠ u) : a ≠ b := fun e => n (Option.some.inj (h.symm.trans ((congrArg σ e).trans g)))
theorem zlP : zlO "MOST_PLACES" = some 40 := rfl
theorem go_b {b : Bool} {K : Bool → Prop} (h : K b) : zav (truthy σ (.bool b)) K := h
theorem zbN {A B : Prop} (h : A) : zav (truthy σ (.bool true)) fun b => if b = true then A else B := h
theorem zps {A B : Prop} (h : B) : zav (truthy σ (.bool true)) fun b => if b = false then A else B := h
theorem zaT {A B : Prop} (h : B) : zav (truthy σ (.bool false)) fun b => if b = true then A else B := h
theorem zca {A B : Prop} (h : A) : zav (truthy σ (.bool false)) fun b => if b = false then A else B := h
theorem ziQ {a : Addr} {vs : List V} {K : List V → Prop} (h : σ a = some (.list vs)) : ziR σ (.ref a) K = K vs := by
 show (match σ a with | some (.list vs) => K vs | some (.fixed vs) => K vs | _ => False) = _
 rw [h]
theorem zlh {a : Addr} {vs : List V} {K : List V → Prop} (h : σ a = some (.fixed vs)) : ziR σ (.ref a) K = K vs := by
 show (match σ a with | some (.list vs) => K vs | some (.fixed vs) => K vs | _ => False) = _
 rw [h]
theorem ze0 {md : Bool} {a : Addr} {vs : List V} (h : σ a = some (.list vs)) : b1V md .len (.ref a) σ Q = Q (.int vs.length) σ := ziQ h
theorem zp1 {md : Bool} {a : Addr} {vs : List V} (h : σ a = some (.fixed vs)) : b1V md .len (.ref a) σ Q = Q (.int vs.length) σ := zlh h
theorem zje {md : Bool} {v : V} : b1V md .list v σ Q = za5 σ v fun _ vs => vs.length ≤ zax ∧ alloc σ (.list vs) Q := rfl
theorem zaf {i : Nat} {v : V} {ρ : Loc} : zaE (.one i) v ρ = some (ρ.set i (some v)) := rfl
theorem zad {is : List Nat} {vs : List V} {ρ : Loc} : zaE (.many is) (.tup vs) ρ = if is.length = vs.length then some ((is.zip vs).foldl (fun r p => r.set p.1 (some p.2)) ρ) else none := rfl
theorem zn5 {i : Int} : zhY (.int i) = some (some i) := rfl
theorem zmO : zhY .none = some none := rfl
theorem isl {a : Addr} {vs : List V} (h : σ a = some (.list vs)) : zjG σ (.ref a) .list = some true := by
 show (asL (σ a)).map _ = _
 rw [h]; rfl
@[simp] theorem zhu : binV .Add (.int a) (.int b) σ Q = Q (.int (a + b)) σ := rfl
@[simp] theorem znk : binV .Sub (.int a) (.int b) σ Q = Q (.int (a - b)) σ := rfl
@[simp] theorem zpP : binV .Mult (.int a) (.int b) σ Q = ((a.natAbs < 2 ^ 32 ∧ b.natAbs < 2 ^ 32) ∧ Q (.int (a * b)) σ) := rfl
@[simp] theorem zpQ : binV .FloorDiv (.int a) (.int b) σ Q = ((0 < b ∧ b < 1000000000) ∧ Q (.int (a.fdiv b)) σ) := rfl
@[simp] theorem znl : binV .Mod (.int a) (.int b) σ Q = (0 < b ∧ Q (.int (a.fmod b)) σ) := rfl
theorem znm {x y : Addr} {us vs : List V} (hx : σ x = some (.list us)) (hy : σ y = some (.list vs)) (hl : us.length + vs.length ≤ zax) (h : ∀ z, σ z = none → Q (.ref z) (σ.upd z (.list (us ++ vs)))) : binV .Add (.ref x) (.ref y) σ Q := by
 show za5 σ (.ref x) fun _ us => za5 σ (.ref y) fun _ vs => us.length + vs.length ≤ zax ∧ alloc σ (.list (us ++ vs)) Q
 exact zat hx (zat hy ⟨hl, h⟩)
@[simp] theorem zqb : cmpV σ .Lt (.int a) (.int b) = some (decide (a < b)) := rfl
@[simp] theorem zqc : cmpV σ .LtE (.int a) (.int b) = some (decide (a ≤ b)) := rfl
@[simp] theorem zl0 : cmpV σ .Gt (.int a) (.int b) = some (decide (b < a)) := rfl
@[simp] theorem zqe : cmpV σ .GtE (.int a) (.int b) = some (decide (b ≤ a)) := rfl
@[simp] theorem zoO : cmpV σ .Eq (.int a) (.int b) = some (a == b) := rfl
@[simp] theorem zqa : cmpV σ .NotEq (.int a) (.int b) = some (!(a == b)) := rfl
theorem zep {u v : V} : cmpV σ .In u v = inV σ u v := rfl
theorem zbd {u v : V} : cmpV σ .NotIn u v = (inV σ u v).map (!·) := rfl
theorem zoP {u v : V} : cmpV σ .Eq u v = eqv σ fuel u v := rfl
theorem zf8 {u v : V} : cmpV σ .NotEq u v = (eqv σ fuel u v).map (!·) := rfl
@[simp] theorem zqd {u : V} : cmpV σ .Is u .none = some (noB u) := rfl
@[simp] theorem zkH {u : V} : cmpV σ .IsNot u .none = some (!(noB u)) := rfl
theorem zlz : ziZ (.int a) (.int b) = (a == b) := rfl
theorem zm0 {c d : Int} : ziZ (.tup [.int a, .int b]) (.tup [.int c, .int d]) = (a == c && b == d) := rfl
@[simp] theorem zef {r : Bool} : truthy σ (.bool r) = some r := rfl
@[simp] theorem truthy_none : truthy σ .none = some false := rfl
end
theorem zbA {C : Loc → Store → (Bool → Store → Prop) → Prop} {B : Loc → Store → (Loc → Store → Prop) → Prop} {Q : Loc → Store → Prop} (I : Nat → Loc → Store → Prop) (N : Nat) {ρ : Loc} {σ : Store}
  (h0 : I 0 ρ σ) (hN : ∀ k ρ σ, I k ρ σ → k ≤ N)
  (hs : ∀ k ρ σ (K : Loc → Store → Prop), I k ρ σ → (∀ ρ' σ', I (k + 1) ρ' σ' → K ρ' σ') → C ρ σ (fun b σ' => if b then B ρ σ' K else Q ρ σ')) : ∃ m, zfc C B Q m ρ σ := by
 have key : ∀ d k ρ σ, k + d = N + 1 → I k ρ σ → zfc C B Q d ρ σ := by
  intro d
  induction d with
  | zero => intro k ρ σ e h; have := hN k ρ σ h; lia
  | succ d ih => intro k ρ σ e h; exact hs k ρ σ _ h fun ρ' σ' h' => ih (k + 1) ρ' σ' (by lia) h'
 exact ⟨N + 1, key (N + 1) 0 ρ σ (by lia) h0⟩
noncomputable def zfx (n : Nat) (S : Nat → Bool) : List V := (List.range n).map fun i => V.bool (S i)
theorem zl3 {n : Nat} {S : Nat → Bool} : (zfx n S).length = n := by simp [zfx]
theorem zl4 {n : Nat} {S : Nat → Bool} {j : Nat} (h : j < n) : (zfx n S)[j]? = some (.bool (S j)) := by
 simp [zfx, h]
theorem zl2 {n : Nat} {S : Nat → Bool} {j : Nat} : (zfx n S).set j (.bool true) = zfx n (fun i => if i = j then true else S i) := by
 apply List.ext_getElem
 ·simp [zfx]
 ·intro i h1 h2
  simp only [zfx, List.length_set, List.length_map, List.length_range] at h1
  simp only [List.getElem_set, zfx, List.getElem_map, List.getElem_range]
  by_cases e : j = i
  ·subst e; simp
  ·have : i ≠ j := fun h => e h.symm
   simp [e, this]
theorem zpd {σ : Store} {Q : V → Store → Prop} {a : Addr} {vs : List V} {x : V} (h : σ a = some (.list (vs ++ [x]))) (q : Q x (σ.upd a (.list vs))) : m0V .pop (.ref a) σ Q := by
 simp only [m0V]
 refine zat h ?_
 simpa using q
theorem zbY {σ : Store} {Q : Store → Prop} {a : Addr} {vs : List V} {i : Int} {x : V} (h : σ a = some (.list vs)) (h0 : 0 ≤ i) (h1 : i < vs.length) (q : Q (σ.upd a (.list (vs.set i.toNat x)))) : zbq (.ref a) (.int i) x σ Q := by
 simp only [zbq, h, zab]
 exact ⟨⟨h0, h1⟩, q⟩
end Mine.Internal
end
section
section
namespace Mine.Internal
open PySem
theorem zaw {tab : String → String → Option Fn} {fld : String → String → Bool} {k : Nat} {md : Bool} {c f : String} {F : Fn} {vs : List V} {σ : Store} {Q : V → Store → Prop} {X : XP} (h : tab c f = some F) (w : wpFn (sem tab fld k) md F vs σ Q X) :
  (sem tab fld (k + 1) md).run c f vs σ Q X := by
 rw [ziO]
 show zav (tab c f) _
 rw [h]; exact w
theorem za4 {k : Nat} {md : Bool} {c f : String} : (sem zas zay k md).has c f = (zas c f).isSome := rfl
theorem znA {k : Nat} {md : Bool} {c f : String} : (sem zas zay k md).fld c f = (zay c f = true) := rfl
section
variable {k : Nat} {md : Bool} {σ : Store} {Q : V → Store → Prop} {X : XP}
theorem zcd {c : Prop} [Decidable c] {A B : Prop} (h : c → A) (g : ¬ c → B) : if c then A else B := by
 by_cases x : c
 ·rw [if_pos x]; exact h x
 ·rw [if_neg x]; exact g x
theorem zhi {c : Prop} [Decidable c] {A B : Prop} (x : c) (h : A) : if c then A else B := by rw [if_pos x]; exact h
theorem zm1 {c : Prop} [Decidable c] {A B : Prop} (x : ¬ c) (h : B) : if c then A else B := by rw [if_neg x]; exact h
theorem zai {α : Type} {o : Option α} {a : α} {K : α → Prop} (e : o = some a) (h : K a) : zav o K := by rw [e]; exact h
theorem zbs {i n : Int} (h : 0 ≤ i) (h' : i < n) (q : Q (.bool true) σ) : (sem zas zay (k + 1) md).run "" "is_place" [.int i, .int n] σ Q X := by
 refine zaw (F := zg5) rfl ⟨rfl, zhi (c := decide (0 ≤ i) = true) (decide_eq_true h) ?_⟩
 show Q (.bool (decide (i < n))) σ
 rw [decide_eq_true h']; exact q
theorem zeU {i : Int} (q : Q (.bool true) σ) : (sem zas zay (k + 1) md).run "" "_law_whole" [.int i] σ Q X :=
 zaw (F := zgp) rfl ⟨rfl, q⟩
theorem sz2 : 2 ≤ zax := by decide
end
noncomputable def zaD (n : Int) (p : Int × Int) : Prop := 0 ≤ p.1 ∧ p.1 < p.2 ∧ p.2 < n
noncomputable def zgn (n : Int) (T : List (Int × Int)) : Prop := T.Pairwise zbV ∧ ∀ p ∈ T, zaD n p
section
variable {k : Nat} {md : Bool} {σ : Store} {Q : V → Store → Prop} {X : XP}
theorem zkY {kd c a b n : Int} (h : ∀ r, Q (.bool r) σ) : (sem zas zay (k + 1) md).run "" "_law_tied" [.int kd, .int c, .int a, .int b, .int n] σ Q X := by
 refine zaw (F := zg4) rfl ⟨rfl, ?_⟩
 refine zcd (c := (kd == 0) = true) (fun _ => ⟨by decide, h _⟩) fun _ => ?_
 refine zcd (c := (kd == 1) = true) (fun _ => ?_) fun _ => ?_
 ·refine zcd (c := (b == a + 1) = false) (fun _ => ?_) (fun _ => h _)
  refine zcd (c := (a == 0) = true) (fun _ => ?_) (fun _ => ?_)
  ·refine zcd (c := (b == n - 1) = false) (fun _ => ⟨by decide, h _⟩) (fun _ => h _)
  ·refine zcd (c := (a == 0) = false) (fun _ => ⟨by decide, h _⟩) (fun _ => h _)
 refine zcd (c := (kd == 2) = true) (fun _ => ?_) fun _ => ?_
 ·exact ⟨by decide, zcd (c := ((a + b).fmod 2 == 1) = true) (fun _ => ⟨by decide, h _⟩) (fun _ => h _)⟩
 refine zcd (c := (kd == 3) = true) (fun _ => ?_) fun _ => ⟨by decide, h _⟩
 have last : ∀ r : Bool, (if r = false then (if decide (1 < a) = true then ((0 : Int) < 3 ∧ (3 : Int) < 1000000000) ∧ ((0 : Int) < 3 ∧ (3 : Int) < 1000000000) ∧ Q (.bool ((a - 2).fdiv 3 == (b - 2).fdiv 3)) σ else Q (.bool (decide (1 < a))) σ) else Q (.bool r) σ) := fun r =>
  zcd (fun _ => zcd (fun _ => ⟨by decide, by decide, h _⟩) fun _ => h _) fun _ => h _
 refine zcd (c := decide (a < 2) = true) (fun _ => ⟨by decide, last _⟩) fun _ => last _
theorem zhm {vs : List V} {i : Int} {v : V} {K : V → Prop} (hi : 0 ≤ i) (hv : vs[i.toNat]? = some v) (h : K v) : zeX (.int i) fun i => zav (zkj i vs.length) fun k => zav vs[k]? K := by
 have e : zkj i vs.length = some i.toNat := (if_pos hi).trans (if_pos (List.getElem?_eq_some_iff.mp hv).1)
 exact zai e (zai hv h)
theorem zbt {a : Addr} {vs : List V} {i : Int} {v : V} {K : V → Prop} (ha : σ a = some (.list vs)) (hi : 0 ≤ i) (hv : vs[i.toNat]? = some v) (h : K v) : idxV (.ref a) (.int i) σ K :=
 Eq.mpr (ziQ ha) (zhm hi hv h)
theorem zlL {vs : List V} {i : Int} {v : V} {K : V → Prop} (hl : vs.length ≤ zax) (hi : 0 ≤ i) (hv : vs[i.toNat]? = some v) (h : K v) : idxV (.tup vs) (.int i) σ K := ⟨hl, zhm hi hv h⟩
theorem zc4 {l : Addr} {ns : List Int} {i : Int} (hl : σ l = some (.fixed (ns.map V.int))) (hi : 0 ≤ i) (h : ∀ c, Q (.int c) σ) : (sem zas zay (k + 1) md).run "" "_law_cell_at" [.ref l, .int i] σ Q X := by
 refine zaw (F := zdb) rfl ⟨rfl, ?_⟩
 dsimp only [zdb, zah, zag, zaK, zaY, zaL, zam, zaM, zaR, E_b1, zmc, zmn, zlc, zln, zac, zan, zr0, zrs, Nat.reduceAdd, Nat.reduceSub, Loc.get, zgz, zgs, zjs, zaa, tgOk, onT, zae, zaf, zad, zss, zsz, zab]
 rw [zp1 hl, List.length_map]
 refine zai (a := decide (i < (ns.length : Int))) rfl ?_
 by_cases x : i < (ns.length : Int)
 ·rw [decide_eq_true x]
  have hi' : i.toNat < ns.length := by lia
  refine zbN (Eq.mpr (zlh hl) (zhm (v := .int ns[i.toNat]) hi ?_ (h _)))
  rw [List.getElem?_map, List.getElem?_eq_getElem hi']; rfl
 ·rw [decide_eq_false x]; exact zaT (h _)
theorem znN : (zas "" "_law_tied").isSome = true := rfl
theorem zeV : (zas "" "_law_cell_at").isSome = true := rfl
theorem zqf {x y : Int} (hx : 0 ≤ x) (hxy : x < y) (hy : y < 40) : 0 ≤ (y * (y - 1)).fdiv 2 + x ∧ (y * (y - 1)).fdiv 2 + x ≤ 1700 := by
 have h1 : y * (y - 1) ≤ 40 * 40 := Int.mul_le_mul (by lia) (by lia) (by lia) (by decide)
 have h2 : 0 ≤ y * (y - 1) := Int.mul_nonneg (by lia) (by lia)
 generalize y * (y - 1) = w at *
 rw [Int.fdiv_eq_ediv_of_nonneg _ (by decide)]
 exact ⟨by lia, by lia⟩
theorem zkX {l a : Addr} {ns : List Int} {n kd : Int} {i y : Int} {T : List (Int × Int)} {t6 t7 : Option V} {N : Loc → Store → Prop} {Y : XL} (hl : σ l = some (.fixed (ns.map V.int))) (ha : σ a = some (.list (T.map pr))) (hi : 0 ≤ i) (hiy : i < y) (hy : y < 40) (hTl : T.length ≤ 1600)
  (h0 : ∀ t6 t7, N [some (.ref l), some (.int n), some (.int kd), some (.ref a), some (.int i), some (.int y), t6, t7] σ)
  (h1 : ∀ t6 t7, N [some (.ref l), some (.int n), some (.int kd), some (.ref a), some (.int i), some (.int y), t6, t7] (σ.upd a (.list ((T ++ [(i, y)]).map pr)))) :
  wpSs (sem zas zay (k + 1)) true zb6 [some (.ref l), some (.int n), some (.int kd), some (.ref a), some (.int i), some (.int y), t6, t7] σ N Q Y := by
 have hb := zqf hi hiy hy
 dsimp only [zb6, zah, zag, zao, zaL, zam, zbX, zaB, zar, zal, Loc.get, zgz, zgs, zjs, zaa, tgOk, onT, zae, zaf, zad, zss, zsz, zab, za4, zeV]
 refine ⟨⟨by lia, by lia⟩, ⟨by decide, by decide⟩, by decide, ?_⟩
 show (sem zas zay (k + 1) true).run "" "_law_cell_at" [.ref l, .int (3 + ((y * (y - 1)).fdiv 2 + i).fmod 24)] σ _ _
 generalize (y * (y - 1)).fdiv 2 + i = w at *
 refine zc4 hl (Int.add_nonneg (by decide) (Int.fmod_nonneg_of_pos _ (by decide))) fun c => ⟨⟨by decide, by decide⟩, ⟨by rw [Int.fdiv_eq_ediv_of_nonneg _ (by decide)]; lia, by decide⟩, ?_⟩
 generalize w.fdiv 24 = w'
 dsimp only [zdy, zah, zag, za7, zaY, zaL, zam, zbX, zaB, E_m1, zbh, zar, zal, Loc.get, zgz, zgs, zjs, zaa, tgOk, onT, zae, zaf, zad, zss, zsz, zab, za4, znN]
 have h3 := Int.fmod_nonneg_of_pos i (show (0 : Int) < 3 by decide)
 have h4 := Int.fmod_lt_of_pos i (show (0 : Int) < 3 by decide)
 refine ⟨by decide, ⟨by lia, by lia⟩, zkY fun r => ?_⟩
 cases r with
 | false => exact zaT (h0 _ _)
 | true =>
  refine zbN (zat ha ⟨sz2, zat ha ⟨by rw [List.length_map]; unfold zax; lia, ?_⟩⟩)
  have := h1 (some (.int w)) (some (.int (c + w' * 7919)))
  rw [List.map_append] at this
  exact this
theorem znz {p : Int × Int} {a b c : Int} (h : zbV p (a, b)) (hbc : b < c) : zbV p (a, c) := h.imp id fun h => ⟨h.1, Int.lt_trans h.2 hbc⟩
theorem zhG {l : Addr} {ns : List Int} {n kd : Int} (hl : σ l = some (.fixed (ns.map V.int))) (hn : 0 ≤ n) (hn' : n ≤ 40)
  (h : ∀ T a, σ a = none → zgn n T → T.length ≤ 1600 → Q (.ref a) (σ.upd a (.list (T.map pr)))) :
  (sem zas zay (k + 2) true).run "" "_law_ties_by" [.ref l, .int n, .int kd] σ Q X := by
 refine zaw (F := zc8) rfl ⟨rfl, ?_⟩
 dsimp only [zc8, zah, zag, zao, zbQ, zam, za2, zar, zal, I_r1, za0, zaC, zmc, zmn, zlc, zln, zac, zan, zr0, zrs, Nat.reduceAdd, Nat.reduceSub, Loc.get, zgz, zgs, zjs, zaa, tgOk, onT, zae, zaf, zad, zss, zsz, zab]
 refine ⟨Nat.zero_le _, ?_⟩
 intro a ha
 refine ⟨⟨by lia, by lia⟩, ?_⟩
 refine zaV (fun i ρ σ' => ∃ T, zgn n T ∧ (∀ p ∈ T, p.1 < i) ∧ T.length ≤ 40 * i ∧ σ' = σ.upd a (.list (T.map pr)) ∧ ∃ t4 t5 t6 t7, ρ = [some (.ref l), some (.int n), some (.int kd), some (.ref a), t4, t5, t6, t7])
  ⟨[], ⟨.nil, fun p hp => absurd hp List.not_mem_nil⟩, fun p hp => absurd hp List.not_mem_nil, Nat.zero_le _, rfl, _, _, _, _, rfl⟩ (fun _ _ _ _ => trivial) ?_ ?_
 ·intro i v ρ σ' K hv zz13
  refine ob52 zz13 ?_
  clear zz13
  intro T hT hTi hTl ee124
  subst ee124
  intro t4 t5 t6 t7 ee125
  subst ee125
  intro hK
  refine ob14 (zbL hv) ?_
  intro ee126
  subst ee126
  intro hxn
  rw [Int.zero_add] at hxn ⊢
  dsimp only [zdO, zah, zag, zbQ, zaL, zam, zbX, I_r2, za0, zcY, Loc.get, zgz, zgs, zjs, zaa, tgOk, onT, zae, zaf, zad, zss, zsz, zab]
  refine ⟨⟨by lia, by lia, by lia, by lia⟩, ?_⟩
  refine zaV (fun j ρ σ' => ∃ T, zgn n T ∧ (∀ p ∈ T, zbV p ((i : Int), (i : Int) + 1 + j)) ∧ T.length ≤ 40 * i + j ∧ σ' = σ.upd a (.list (T.map pr)) ∧ ∃ t5 t6 t7, ρ = [some (.ref l), some (.int n), some (.int kd), some (.ref a), some (.int i), t5, t6, t7])
   ⟨T, hT, fun p hp => Or.inl (hTi p hp), hTl, rfl, _, _, _, rfl⟩ (fun _ _ _ _ => trivial) ?_ ?_
  ·intro j v ρ σ' K2 hv zz14
   refine ob53 zz14 ?_
   clear zz14
   intro T hT hTi hTl ee127
   subst ee127
   intro t5 t6 t7 ee128
   subst ee128
   intro hK2
   refine ob14 (zbL hv) ?_
   intro ee129
   subst ee129
   intro hyn
   have hup : (i : Int) + 1 + j < (i : Int) + 1 + ((j + 1 : Nat) : Int) := by lia
   refine zkX (T := T) (y := (i : Int) + 1 + j) ((zaq (zbb hl ha)).trans hl) zaj (Int.natCast_nonneg i) (by lia) (by lia) (by lia) (fun _ _ => hK2 _ _ ⟨T, hT, fun p hp => znz (hTi p hp) hup, Nat.le_succ_of_le hTl, rfl, _, _, _, rfl⟩) fun _ _ => hK2 _ _ ⟨T ++ [((i : Int), (i : Int) + 1 + j)], ⟨List.pairwise_append.mpr ⟨hT.1, List.pairwise_singleton _ _, fun p hp q hq => List.mem_singleton.mp hq ▸ hTi p hp⟩, fun p hp => (List.mem_append.mp hp).elim (hT.2 p) fun e => ?_⟩, fun p hp => (List.mem_append.mp hp).elim (fun hp => znz (hTi p hp) hup) fun e => ?_, by rw [List.length_append]; exact Nat.succ_le_succ hTl, zbC, _, _, _, rfl⟩
   ·rw [List.mem_singleton.mp e]; exact ⟨Int.natCast_nonneg i, show (i : Int) < (i : Int) + 1 + j by lia, hyn⟩
   ·rw [List.mem_singleton.mp e]; exact .inr ⟨rfl, hup⟩
  ·intro ρ σ' zz15
   refine ob53 zz15 ?_
   clear zz15
   intro T hT hTi hTl ee130
   subst ee130
   intro t5 t6 t7 ee131
   subst ee131
   rw [List.length_map, zfH] at hTl
   refine hK _ _ ⟨T, hT, fun p hp => (hTi p hp).elim (fun z => ?_) fun z => ?_, by lia, rfl, _, _, _, _, rfl⟩
   ·exact Int.lt_trans z (by lia)
   ·rw [z.1]; show (i : Int) < ((i + 1 : Nat) : Int); lia
 ·intro ρ σ' zz16
  refine ob52 zz16 ?_
  clear zz16
  intro T hT hTi hTl ee132
  subst ee132
  intro t4 t5 t6 t7 ee133
  subst ee133
  rw [List.length_map, zfH] at hTl
  dsimp only [zdx, zah, zag, zaK, zam, Loc.get, zgz, zgs, zjs, zaa, tgOk, onT, zae, zaf, zad, zss, zsz, zab]
  exact h T a ha hT (by lia)
end
section
variable {k : Nat} {md : Bool} {σ : Store} {Q : V → Store → Prop} {X : XP}
theorem znO : (zas "" "_law_size_by").isSome = true := rfl
theorem znS : (zas "" "_law_kind_by").isSome = true := rfl
theorem zmw : (zas "" "_law_great").isSome = true := rfl
theorem zj7 : (zas "" "_law_ties_by").isSome = true := rfl
theorem zhn {a b : Int} (h : 0 < b) : 0 ≤ a.fmod b ∧ a.fmod b < b := ⟨Int.fmod_nonneg_of_pos a h, Int.fmod_lt_of_pos a h⟩
theorem zhT {l : Addr} {ns : List Int} {m : Int} (hl : σ l = some (.fixed (ns.map V.int))) (hm : 0 < m) (h : ∀ n, 1 ≤ n → n ≤ m → Q (.int n) σ) : (sem zas zay (k + 2) md).run "" "_law_size_by" [.ref l, .int m] σ Q X := by
 refine zaw (F := zc9) rfl ⟨rfl, ?_⟩
 dsimp only [zc9, zah, zag, zaK, zaL, zam, zbX, zaB, zar, zal, zmc, zmn, zlc, zln, zac, zan, zr0, zrs, Nat.reduceAdd, Nat.reduceSub, Loc.get, zgz, zgs, zjs, zaa, tgOk, onT, zae, zaf, zad, zss, zsz, zab, za4, zeV]
 refine zc4 (ns := ns) hl (by decide) fun c => ?_
 have := zhn (a := c) hm
 exact ⟨hm, h _ (by lia) (by lia)⟩
theorem zh9 {l : Addr} {ns : List Int} (hl : σ l = some (.fixed (ns.map V.int))) (h : ∀ n, Q (.int n) σ) : (sem zas zay (k + 2) md).run "" "_law_kind_by" [.ref l] σ Q X := by
 refine zaw (F := zda) rfl ⟨rfl, ?_⟩
 dsimp only [zda, zah, zag, zaK, zaL, zam, zbX, zaB, zar, zal, zmc, zmn, zlc, zln, zac, zan, zr0, zrs, Nat.reduceAdd, Nat.reduceSub, Loc.get, zgz, zgs, zjs, zaa, tgOk, onT, zae, zaf, zad, zss, zsz, zab, za4, zeV]
 exact zc4 (ns := ns) hl (by decide) fun c => ⟨by decide, h _⟩
theorem zkB {l : Addr} {ns : List Int} (hl : σ l = some (.fixed (ns.map V.int))) (h : ∀ r, Q (.bool r) σ) : (sem zas zay (k + 2) md).run "" "_law_great" [.ref l] σ Q X := by
 refine zaw (F := zet) rfl ⟨rfl, ?_⟩
 dsimp only [zet, zah, zag, zaK, zaL, zam, zbX, zaM, zaB, zar, zal, zmc, zmn, zlc, zln, zac, zan, zr0, zrs, Nat.reduceAdd, Nat.reduceSub, Loc.get, zgz, zgs, zjs, zaa, tgOk, onT, zae, zaf, zad, zss, zsz, zab, za4, zeV]
 exact zc4 (ns := ns) hl (by decide) fun c => ⟨by decide, by decide, h _⟩
noncomputable def NbQ (σ : Store) (Q : V → Store → Prop) : Prop := ∀ n T a, 1 ≤ n → n ≤ 40 → σ a = none → zgn n T → T.length ≤ 1600 → Q (.tup [.int n, .ref a]) (σ.upd a (.list (T.map pr)))
theorem zjy {l : Addr} {ns : List Int} {m : Int} {N Y} (hl : σ l = some (.fixed (ns.map V.int))) (h : NbQ σ Q) {n kd : Int} (h1 : 1 ≤ n) (h2 : n ≤ 40) :
  wpSs (sem zas zay (k + 2)) true zcs [some (.ref l), some (.int m), some (.int n), some (.int kd)] σ N Q Y := by
 dsimp only [zcs, zah, zag, zaK, zam, zaB, zbh, zar, zal, Loc.get, zgz, zgs, zjs, zaa, tgOk, onT, zae, zaf, zad, zss, zsz, zab, za4, zj7]
 exact zhG hl (by lia) h2 fun T a ha hT hTl => ⟨sz2, h n T a h1 h2 ha hT hTl⟩
theorem zjx {l : Addr} {ns : List Int} {m : Int} {N Y} (hl : σ l = some (.fixed (ns.map V.int))) (h : NbQ σ Q) {n kd : Int} (h1 : 1 ≤ n) (h2 : n ≤ 40) :
  wpSs (sem zas zay (k + 2)) true zcr [some (.ref l), some (.int m), some (.int n), some (.int kd)] σ N Q Y := by
 dsimp only [zcr, zea, zah, zag, zao, zaY, zaL, zam, zbX, zaB, zar, zal, Loc.get, zgz, zgs, zjs, zaa, tgOk, onT, zae, zaf, zad, zss, zsz, zab, za4, zmw, zeV]
 refine zkB hl fun r => ?_
 cases r with
 | false => exact zjy (N := N) hl h h1 h2
 | true =>
  refine zc4 (ns := ns) hl (by decide) fun c => ?_
  have := zhn (a := c.fdiv 99) (b := 11) (by decide)
  have := zhn (a := kd) (b := 2) (by decide)
  exact ⟨by decide, by decide, by decide, ⟨by decide, by lia⟩, zjy (N := N) hl h (by lia) (by lia)⟩
theorem ziU {l : Addr} {ns : List Int} {m : Int} (hl : σ l = some (.fixed (ns.map V.int))) (hm : 0 < m) (hm' : m ≤ 40) (h : NbQ σ Q) :
  (sem zas zay (k + 3) true).run "" "_law_net_by" [.ref l, .int m] σ Q X := by
 refine zaw (F := zdS) rfl ⟨rfl, ?_⟩
 dsimp only [zdS, zah, zag, zao, zam, zaB, zar, zal, zmc, zmn, zlc, zln, zac, zan, zr0, zrs, Nat.reduceAdd, Nat.reduceSub, Loc.get, zgz, zgs, zjs, zaa, tgOk, onT, zae, zaf, zad, zss, zsz, zab, za4, znO]
 refine zhT hl hm fun n h1 h2 => ?_
 dsimp only [zd8, zah, zag, zao, zam, zaB, zar, zal, Loc.get, zgz, zgs, zjs, zaa, tgOk, onT, zae, zaf, zad, zss, zsz, zab, za4, znS]
 refine zh9 hl fun kd => ?_
 dsimp only [zd9, zah, zag, zao, zaY, zaL, zam, zbX, zaM, zaB, zar, zal, Loc.get, zgz, zgs, zjs, zaa, tgOk, onT, zae, zaf, zad, zss, zsz, zab, za4, zeV]
 refine zc4 (ns := ns) hl (by decide) fun c => ⟨by decide, by decide, zcd (c := ((c.fdiv 11).fmod 9 == 6) = true) (fun _ => ?_) fun _ => zjx hl h h1 (by lia)⟩
 refine zc4 (ns := ns) hl (by decide) fun c => ?_
 have := zhn (a := c.fdiv 99) (b := 11) (by decide)
 exact ⟨by decide, by decide, zjx hl h (by lia) (by lia)⟩
end
noncomputable def nb1 (i : Int) (p : Int × Int) : List Int := (if p.1 = i then [p.2] else []) ++ (if p.2 = i then [p.1] else [])
noncomputable def nb (H : List (Int × Int)) (i : Int) : List Int := H.flatMap (nb1 i)
theorem zlq {i x : Int} {p : Int × Int} : x ∈ nb1 i p ↔ p = (i, x) ∨ p = (x, i) := by
 obtain ⟨a, b⟩ := p
 simp [nb1]
 constructor
 ·rintro (⟨h1, h2⟩ | ⟨h1, h2⟩)
  ·exact Or.inl ⟨h1, h2.symm⟩
  ·exact Or.inr ⟨h2.symm, h1⟩
 ·rintro (⟨h1, h2⟩ | ⟨h1, h2⟩)
  ·exact Or.inl ⟨h1, h2.symm⟩
  ·exact Or.inr ⟨h2, h1.symm⟩
theorem mem_nb {H : List (Int × Int)} {i x : Int} : x ∈ nb H i ↔ (i, x) ∈ H ∨ (x, i) ∈ H := by
 simp [nb, zlq]
 constructor
 ·rintro ⟨a, b, h, h' | h'⟩ <;> obtain ⟨rfl, rfl⟩ := h'
  ·exact Or.inl h
  ·exact Or.inr h
 ·rintro (h | h)
  ·exact ⟨_, _, h, Or.inl ⟨rfl, rfl⟩⟩
  ·exact ⟨_, _, h, Or.inr ⟨rfl, rfl⟩⟩
theorem zlo {H T : List (Int × Int)} {i : Int} : nb (H ++ T) i = nb H i ++ nb T i := by simp [nb]
theorem zjz {n : Int} {H : List (Int × Int)} {i : Int} (hn : H.Nodup) (ht : ∀ p ∈ H, zaD n p) : (nb H i).Nodup := by
 induction H with
 | nil => simp [nb]
 | cons p H ih =>
  have h1 := ih (List.nodup_cons.mp hn).2 (fun q hq => ht q (List.mem_cons_of_mem _ hq))
  have h2 := (List.nodup_cons.mp hn).1
  have h3 := ht p (List.mem_cons_self ..)
  show (nb1 i p ++ nb H i).Nodup
  refine List.nodup_append.mpr ⟨?_, h1, ?_⟩
  ·obtain ⟨a, b⟩ := p
   unfold zaD at h3
   simp only at h3
   simp only [nb1]
   split <;> split <;> simp
   lia
  ·intro x hx y hy e
   subst e
   rw [zlq] at hx
   rw [mem_nb] at hy
   rcases hx with rfl | rfl <;> rcases hy with hy | hy
   ·exact h2 hy
   ·have := ht _ (List.mem_cons_of_mem _ hy); unfold zaD at this h3; simp only at this h3; lia
   ·have := ht _ (List.mem_cons_of_mem _ hy); unfold zaD at this h3; simp only at this h3; lia
   ·exact h2 hy
theorem zbr {m : Nat} : ∀ {l : List Int}, l.Nodup → (∀ x ∈ l, 0 ≤ x ∧ x < m) → l.length ≤ m := by
 induction m with
 | zero =>
  intro l _ h
  cases l with
  | nil => simp
  | cons a l => have := h a (List.mem_cons_self ..); lia
 | succ m ih =>
  intro l hn h
  have h1 := ih (hn.erase (m : Int)) (fun x hx => by
   have hx' := (hn.mem_erase_iff).mp hx
   have := h x hx'.2
   have := hx'.1
   lia)
  by_cases hm : (m : Int) ∈ l
  ·rw [List.length_erase_of_mem hm] at h1; lia
  ·rw [List.erase_of_not_mem hm] at h1; lia
theorem zh1 {n : Int} {H : List (Int × Int)} {i : Int} (hn : H.Nodup) (ht : ∀ p ∈ H, zaD n p) (h0 : 0 ≤ n) (h40 : n ≤ 40) : (nb H i).length ≤ 40 := by
 refine zbr (zjz hn ht) fun x hx => ?_
 rcases mem_nb.mp hx with h | h
 ·have := ht _ h; unfold zaD at this; simp only at this; lia
 ·have := ht _ h; unfold zaD at this; simp only at this; lia
noncomputable def zaX (l : List Int) : List Int := l.mergeSort (fun a b => decide (a ≤ b))
theorem zbE (l : List Int) : (zaX l).Perm l := List.mergeSort_perm _ _
theorem zhR (l : List Int) : (zaX l).Pairwise (· ≤ ·) := by
 have := List.pairwise_mergeSort (le := fun a b : Int => decide (a ≤ b)) (by simp; lia) (by simp; lia) l
 simpa [zaX] using this
theorem zhO {l m : List Int} (hl : l.Pairwise (· ≤ ·)) (hm : m.Pairwise (· ≤ ·)) (h : l.Perm m) : l = m :=
 List.Perm.eq_of_pairwise (fun a b _ _ h1 h2 => by lia) hl hm h
theorem ints?_map (l : List Int) : ints? (l.map V.int) = some l := by
 induction l with
 | nil => rfl
 | cons a l ih =>
  show (ints? (l.map V.int)).map (a :: ·) = _
  rw [ih]; rfl
theorem zfd {l : List Int} (h : l.length < 64) : zfP (l.map V.int) = some ((zaX l).map V.int) := by
 simp [zfP, h, ints?_map, zaX]
noncomputable def Frm (d : Addr) (σ σ' : Store) : Prop := ∀ a o, a ≠ d → σ a = some o → σ' a = some o
theorem Frm.trans {d : Addr} {σ σ' σ'' : Store} (h : Frm d σ σ') (g : Frm d σ' σ'') : Frm d σ σ'' := fun a o n e => g a o n (h a o n e)
theorem Frm.ext {d : Addr} {σ σ' σ'' : Store} (h : Frm d σ σ') (g : Ext σ' σ'') : Frm d σ σ'' := fun a o n e => g a o (h a o n e)
theorem Frm.upd {d : Addr} {σ σ' : Store} {o : AO} (h : Frm d σ σ') : Frm d σ (σ'.upd d o) := fun a p n e => (zaq n).trans (h a p n e)
theorem Frm.none {d a : Addr} {σ σ' : Store} (h : Frm d σ σ') (n : a ≠ d) (g : σ' a = none) : σ a = none := by
 cases e : σ a with
 | none => rfl
 | some o => rw [h a o n e] at g; cases g
structure Rows (σ : Store) (r : Addr) (rs : List Addr) (n : Nat) (f : Nat → List Int) : Prop where
 top : σ r = some (.list (rs.map V.ref))
 len : rs.length = n
 nod : rs.Nodup
 row : ∀ i a, rs[i]? = some a → σ a = some (.list ((f i).map V.int))
section
variable {k : Nat} {σ : Store} {Q : V → Store → Prop} {X : XP}
theorem zjv {n : Nat} (hn : n ≤ 1000) {items : List V} (hi : items.length = n) {σ : Store} {B : V → Store → (Option V → Store → Prop) → Prop} {Q : V → Store → Prop}
  (hB : ∀ v σ K, (∀ a, σ a = none → K (some (.ref a)) (σ.upd a (.list []))) → B v σ K)
  (h : ∀ r rs σ', Ext σ σ' → σ r = none → (∀ a ∈ rs, σ a = none) → r ∉ rs → Rows σ' r rs n (fun _ => []) → Q (.ref r) σ') :
  zb4 (fun _ => True) B Q items [] σ := by
 refine zf7 (fun i acc σ' => ∃ rs, acc = rs.map V.ref ∧ rs.length = i ∧ rs.Nodup ∧ Ext σ σ' ∧ ∀ a ∈ rs, σ a = none ∧ σ' a = some (.list []))
  ⟨[], by simp, by simp, by simp, Ext.rfl, by simp⟩ ?_ (by unfold zax; lia) ?_ ?_
 ·intro i acc σ' zz17
  refine ob2 zz17 ?_
  clear zz17
  intro rs ee134
  subst ee134
  intro h1 _
  simp [h1]
 ·intro i v acc σ' K hv zz18
  refine ob32 zz18 ?_
  clear zz18
  intro rs ee135
  subst ee135
  intro h1 h2 h3 h4
  intro hK
  refine hB v σ' K fun a ha => hK _ _ ⟨rs ++ [a], by simp, by simp [h1], ?_, h3.upd (h3.none ha), ?_⟩
  ·refine List.nodup_append.mpr ⟨h2, by simp, ?_⟩
   intro x hx y hy e
   simp at hy; subst hy; subst e
   rw [(h4 x hx).2] at ha; cases ha
  ·intro x hx
   rcases List.mem_append.mp hx with hx' | hx
   ·refine ob14 (h4 x hx') ?_
    intro g1 g2
    refine ⟨g1, ?_⟩
    rw [zaq (zbb g2 ha)]
    exact g2
   ·simp at hx; subst hx
    exact ⟨h3.none ha, zaj⟩
 ·intro acc σ' zz19
  refine ob32 zz19 ?_
  clear zz19
  intro rs ee136
  subst ee136
  intro h1 h2 h3 h4
  intro r hr
  have hnot : r ∉ rs := fun hm => zdg (h4 r hm).2 hr
  refine h r rs _ (h3.upd (h3.none hr)) (h3.none hr) (fun a ha => (h4 a ha).1) hnot ⟨zaj, by lia, h2, ?_⟩
  intro i a ha
  have hm : a ∈ rs := List.mem_of_getElem? ha
  rw [zaq (zgE hm hnot)]
  simpa using (h4 a hm).2
theorem Rows.congr {σ : Store} {r : Addr} {rs : List Addr} {n : Nat} {f g : Nat → List Int} (h : Rows σ r rs n f) (e : ∀ i, i < n → f i = g i) : Rows σ r rs n g := by
 refine ⟨h.top, h.len, h.nod, fun i a ha => ?_⟩
 have hi : i < n := by
  rw [← h.len]
  rcases Nat.lt_or_ge i rs.length with g | g
  ·exact g
  ·rw [List.getElem?_eq_none g] at ha; cases ha
 rw [← e i hi]; exact h.row i a ha
theorem Rows.keep {σ σ' : Store} {r : Addr} {rs : List Addr} {n : Nat} {f : Nat → List Int} (h : Rows σ r rs n f) (e : ∀ a, a = r ∨ a ∈ rs → σ' a = σ a) : Rows σ' r rs n f :=
 ⟨by rw [e r (Or.inl rfl)]; exact h.top, h.len, h.nod, fun i a ha => by rw [e a (Or.inr (List.mem_of_getElem? ha))]; exact h.row i a ha⟩
theorem Rows.put {σ : Store} {r : Addr} {rs : List Addr} {n : Nat} {f : Nat → List Int} (h : Rows σ r rs n f) (hr : r ∉ rs) {i : Nat} {a : Addr} (ha : rs[i]? = some a) (l : List Int) :
  Rows (σ.upd a (.list (l.map V.int))) r rs n (fun j => if j = i then l else f j) := by
 have hm := List.mem_of_getElem? ha
 refine ⟨?_, h.len, h.nod, fun j b hb => ?_⟩
 ·rw [zaq (zgE hm hr).symm]; exact h.top
 ·by_cases hj : j = i
  ·subst hj; rw [ha] at hb; cases hb; simp
  ·have hab : b ≠ a := by
    rintro rfl
    have hi : i < rs.length := by
     rcases Nat.lt_or_ge i rs.length with g | g
     ·exact g
     ·rw [List.getElem?_eq_none g] at ha; cases ha
    exact hj ((List.getElem?_inj hi h.nod).mp (ha.trans hb.symm)).symm
   rw [zaq hab, if_neg hj]; exact h.row j b hb
theorem zbj {F : String → String → Prop} {x d : Addr} {c name : String} {fs : List (String × V)} {v : V} {K : V → Prop} (hx : σ x = some (.inst c d)) (hd : σ d = some (.ns fs)) (hF : F c name) (hl : fs.lookup name = some v) (h : K v) : zdw F (.ref x) name σ K := by
 exact zaS hx hd ⟨hF, zai hl h⟩
theorem zaZ {a : Addr} {vs : List V} {x : V} (ha : σ a = some (.list vs)) (hl : vs.length < zax) (h : Q .none (σ.upd a (.list (vs ++ [x])))) : m1V .append (.ref a) x σ Q := by
 exact zat ha ⟨hl, h⟩
theorem zc0 {p : Int × Int} {K : V → Prop} (h : K (.int p.1)) : idxV (pr p) (.int 0) σ K := zlL (by simp [zax]) (by lia) rfl h
theorem zcZ {p : Int × Int} {K : V → Prop} (h : K (.int p.2)) : idxV (pr p) (.int 1) σ K := zlL (by simp [zax]) (by lia) rfl h
theorem zia {D : List (Int × Int)} : zdf (D.map pr) = true := by
 have : (D.map pr).all zhj = true := List.all_eq_true.mpr fun x hx => by
  refine ob7 (List.mem_map.mp hx) ?_
  intro p _ ee137
  subst ee137
  rfl
 show (_ || _) = true
 rw [this, Bool.or_true]
theorem zif {D : List (Int × Int)} {p : Int × Int} : zcB (pr p) (D.map pr) = decide (p ∈ D) := by
 induction D with
 | nil => rfl
 | cons q D ih =>
  have : zcB (pr p) ((q :: D).map pr) = (ziZ (pr q) (pr p) || zcB (pr p) (D.map pr)) := rfl
  rw [this, ih]
  refine lift fun g9 k9 => ?_
  obtain ⟨a, b⟩ := p
  obtain ⟨c, d⟩ := q
  refine k9 ?_
  clear k9 g9
  rw [Bool.eq_iff_iff]
  simp [zm0, pr]
  constructor
  ·rintro (⟨rfl, rfl⟩ | h)
   ·exact Or.inl ⟨rfl, rfl⟩
   ·exact Or.inr h
  ·rintro (⟨rfl, rfl⟩ | h)
   ·exact Or.inl ⟨rfl, rfl⟩
   ·exact Or.inr h
theorem fldN {md : Bool} : (sem zas zay k md).fld "Net" "rows" := by rw [znA]; rfl
theorem fldS {md : Bool} : (sem zas zay k md).fld "Net" "size" := by rw [znA]; rfl
end
section
variable {k : Nat} {σ : Store} {Q : V → Store → Prop} {X : XP}
theorem zpg {D : List (Int × Int)} {p : Int × Int} {i : Int} (h : p.1 ≠ p.2) : nb (D ++ [p]) i = if i = p.1 then nb D i ++ [p.2] else if i = p.2 then nb D i ++ [p.1] else nb D i := by
 rw [zlo]
 have : nb [p] i = nb1 i p := by simp [nb]
 rw [this]
 unfold nb1
 by_cases h1 : i = p.1
 ·subst h1
  have h2 : ¬ (p.2 = p.1) := fun e => h e.symm
  simp [h2]
 ·by_cases h2 : i = p.2
  ·subst h2; simp [h, h1]
  ·have h3 : ¬ (p.1 = i) := fun e => h1 e.symm
   have h4 : ¬ (p.2 = i) := fun e => h2 e.symm
   simp [h1, h2, h3, h4]
theorem Rows.two {r a b : Addr} {rs : List Addr} {n : Int} {D : List (Int × Int)} {p : Int × Int} (hR : Rows σ r rs n.toNat fun i => nb D i) (hr : r ∉ rs) (hp : zaD n p) (ha : rs[p.1.toNat]? = some a) (hb : rs[p.2.toNat]? = some b) :
  (σ.upd a (.list ((nb D p.1).map V.int ++ [.int p.2]))) b = some (.list ((nb D p.2).map V.int)) ∧ Rows ((σ.upd a (.list ((nb D p.1).map V.int ++ [.int p.2]))).upd b (.list ((nb D p.2).map V.int ++ [.int p.1]))) r rs n.toNat fun i => nb (D ++ [p]) i := by
 refine ob16 hp ?_
 clear hp
 intro h0 h1 h2
 have n1 := Int.toNat_of_nonneg h0
 have n2 := Int.toNat_of_nonneg (Int.le_trans h0 (Int.le_of_lt h1))
 have h5 : p.2.toNat ≠ p.1.toNat := fun e => Int.ne_of_lt h1 (by rw [← n1, ← n2, e])
 have hR2 := hR.put hr ha (nb D p.1 ++ [p.2])
 have hrow := hR2.row _ _ hb
 rw [if_neg h5, n2] at hrow
 have hR3 := hR2.put hr hb (nb D p.2 ++ [p.1])
 rw [List.map_append] at hrow hR3
 rw [List.map_append] at hR3
 refine ⟨hrow, hR3.congr fun i hi => ?_⟩
 show _ = nb (D ++ [p]) i
 rw [zpg (Int.ne_of_lt h1)]
 by_cases g2 : i = p.2.toNat
 ·subst g2
  rw [if_pos rfl, n2, if_neg (Int.ne_of_gt h1), if_pos rfl]
 ·rw [if_neg g2, if_neg (show ¬ (i : Int) = p.2 from fun e => g2 (by rw [← e, Int.toNat_natCast]))]
  by_cases g1 : i = p.1.toNat
  ·subst g1
   rw [if_pos rfl, n1, if_pos rfl]
  ·rw [if_neg g1, if_neg (show ¬ (i : Int) = p.1 from fun e => g1 (by rw [← e, Int.toNat_natCast]))]
theorem zm5 {x d r s w : Addr} {rs : List Addr} {n : Int} {D : List (Int × Int)} {p : Int × Int} {t5 t6 : Option V} {N R Y}
  (hx : σ x = some (.inst "Net" d)) (hd : σ d = some (.ns [("size", .int n), ("rows", .ref r)])) (hs : σ s = some (.dict (D.map pr)))
  (hR : Rows σ r rs n.toNat (fun i => nb D i)) (hr : r ∉ rs) (hxs : x ≠ s) (hds : d ≠ s) (hxr : x ∉ rs) (hdr : d ∉ rs) (hrs : r ≠ s) (hsr : s ∉ rs)
  (hD : D.length ≤ 2000) (hl : ∀ i, (nb D i).length ≤ 40) (hp : zaD n p) (hpD : p ∉ D)
  (hN : ∀ σ', (∀ a, a ≠ s → a ∉ rs → σ' a = σ a) → σ' s = some (.dict ((D ++ [p]).map pr)) → Rows σ' r rs n.toNat (fun i => nb (D ++ [p]) i) →
   N [some (.ref x), some (.int n), some (.ref w), some (.ref s), some (pr p), t5, t6] σ') :
  wpSs (sem zas zay k) true zdN [some (.ref x), some (.int n), some (.ref w), some (.ref s), some (pr p), t5, t6] σ N R Y := by
 refine ob16 hp ?_
 clear hp
 intro h0 h1 h2
 have ha : p.1.toNat < rs.length := by rw [hR.len]; lia
 have hb : p.2.toNat < rs.length := by rw [hR.len]; lia
 obtain ⟨a, ha⟩ : ∃ a, rs[p.1.toNat]? = some a := ⟨_, List.getElem?_eq_getElem ha⟩
 obtain ⟨b, hb⟩ : ∃ a, rs[p.2.toNat]? = some a := ⟨_, List.getElem?_eq_getElem hb⟩
 have hma := List.mem_of_getElem? ha
 have hmb := List.mem_of_getElem? hb
 have ne {z : Addr} (h : z ∉ rs) {y : Addr} (g : y ∈ rs) : z ≠ y := fun e => h (e ▸ g)
 have hnk : zbl (pr p) (D.map pr) = (D ++ [p]).map pr := by
  rw [zbl, zif, decide_eq_false hpD, List.map_append]; rfl
 have hko : zdf (pr p :: D.map pr) = true := zia (D := p :: D)
 dsimp only [zdN, zah, zag, za7, zaA, E_tt, zaL, zam, E_m1, zaz, zaR, Loc.get, zaa, zgz, zgs, zjs]
 simp only [zbq, hs]
 refine ⟨⟨hko, by rw [List.length_map]; unfold zax; lia, trivial⟩, ?_⟩
 rw [hnk]
 have hR1 : Rows (σ.upd s (.dict ((D ++ [p]).map pr))) r rs n.toNat (fun i => nb D i) := hR.keep fun z hz => zaq (hz.elim (fun e => e ▸ hrs) fun m e => hsr (e ▸ m))
 have n1 := Int.toNat_of_nonneg h0
 have hb0 : 0 ≤ p.2 := Int.le_trans h0 (Int.le_of_lt h1)
 have ha1 := hR1.row _ _ ha
 rw [n1] at ha1
 have T := hR1.two hr ⟨h0, h1, h2⟩ ha hb
 refine zbj ((zaq hxs).trans hx) ((zaq hds).trans hd) fldN rfl ?_
 refine zc0 (zbt hR1.top h0 (by rw [List.getElem?_map, ha]; rfl) ?_)
 refine zat ha1 (zcZ (zaZ ha1 (by have := hl p.1; rw [List.length_map]; unfold zax; lia) ?_))
 have hrr := zgE hma hr
 refine zbj ((zaq (ne hxr hma)).trans ((zaq hxs).trans hx)) ((zaq (ne hdr hma)).trans ((zaq hds).trans hd)) fldN rfl ?_
 refine zcZ (zbt ((zaq hrr.symm).trans hR1.top) hb0 (by rw [List.getElem?_map, hb]; rfl) ?_)
 refine zat T.1 (zc0 (zaZ T.1 (by have := hl p.2; rw [List.length_map]; unfold zax; lia) ?_))
 refine hN _ (fun z hz hz' => ?_) ?_ T.2
 ·rw [zaq (ne hz' hmb), zaq (ne hz' hma), zaq hz]
 ·rw [zaq (ne hsr hmb), zaq (ne hsr hma)]; exact zaj
end
section
variable {k : Nat} {σ : Store} {Q : V → Store → Prop} {X : XP}
theorem zhI : (zas "" "is_tie").isSome = true := rfl
theorem zeg : (zas "" "is_place").isSome = true := rfl
theorem zf2 {md : Bool} {n : Int} {p : Int × Int} (h : zaD n p) (q : Q (.bool true) σ) : (sem zas zay (k + 2) md).run "" "is_tie" [pr p, .int n] σ Q X := by
 refine zaw (F := zj3) rfl ⟨rfl, sz2, sz2, ?_⟩
 refine zbs h.1 (Int.lt_trans h.2.1 h.2.2) ⟨sz2, zbs (Int.le_trans h.1 (Int.le_of_lt h.2.1)) h.2.2 ⟨sz2, sz2, ?_⟩⟩
 show Q (.bool (decide (p.1 < p.2))) σ
 rw [decide_eq_true h.2.1]; exact q
theorem zid {x d r s w : Addr} {rs : List Addr} {n : Int} {D : List (Int × Int)} {p : Int × Int} {t5 t6 : Option V} {N R Y}
  (hx : σ x = some (.inst "Net" d)) (hd : σ d = some (.ns [("size", .int n), ("rows", .ref r)])) (hs : σ s = some (.dict (D.map pr)))
  (hR : Rows σ r rs n.toNat (fun i => nb D i)) (hr : r ∉ rs) (hxs : x ≠ s) (hds : d ≠ s) (hxr : x ∉ rs) (hdr : d ∉ rs) (hrs : r ≠ s) (hsr : s ∉ rs)
  (hD : D.length ≤ 2000) (hl : ∀ i, (nb D i).length ≤ 40) (hp : zaD n p) (hpD : p ∉ D)
  (hN : ∀ σ', (∀ a, a ≠ s → a ∉ rs → σ' a = σ a) → σ' s = some (.dict ((D ++ [p]).map pr)) → Rows σ' r rs n.toNat (fun i => nb (D ++ [p]) i) →
   N [some (.ref x), some (.int n), some (.ref w), some (.ref s), some (pr p), t5, t6] σ') :
  wpSs (sem zas zay (k + 2)) true zdR [some (.ref x), some (.int n), some (.ref w), some (.ref s), some (pr p), t5, t6] σ N R Y := by
 have hko : zdf (pr p :: D.map pr) = true := zia (D := p :: D)
 dsimp only [zdR, zah, zag, zbH, zaY, zam, zb9, zaM, za3, zaB, zar, zal, zbn, zaW, Loc.get, zaa, za4, zhI, onT, zgz, zgs, zjs]
 refine zf2 hp ?_
 simp only [zef, zaa, Bool.not_true, Bool.false_eq_true, if_true, zep, inV, hs, hko, zif, hpD, decide_false, if_false]
 exact zm5 hx hd hs hR hr hxs hds hxr hdr hrs hsr hD hl hp hpD hN
theorem zhW {r : Addr} {rs : List Addr} {n : Nat} {f : Nat → List Int} {B : V → Store → (Option V → Store → Prop) → Prop} (hn : n ≤ 1000) (hR : Rows σ r rs n f) (hl : ∀ i, (f i).length < 64)
  (hB : ∀ a l σ K, σ a = some (.list (l.map V.int)) → l.length < 64 → (∀ b, σ b = none → K (some (.ref b)) (σ.upd b (.list ((zaX l).map V.int)))) → B (.ref a) σ K)
  (h : ∀ r' rs' σ', Ext σ σ' → σ r' = none → (∀ a ∈ rs', σ a = none) → r' ∉ rs' → Rows σ' r' rs' n (fun i => zaX (f i)) → Q (.ref r') σ') :
  zb4 (fun σ' => σ' r = some (.list (rs.map V.ref))) B Q (rs.map V.ref) [] σ := by
 refine zf7 (fun i acc σ' => ∃ rs', acc = rs'.map V.ref ∧ rs'.length = i ∧ rs'.Nodup ∧ Ext σ σ' ∧ (∀ a ∈ rs', σ a = none) ∧ ∀ (j : Nat) a, rs'[j]? = some a → σ' a = some (.list ((zaX (f j)).map V.int)))
  ⟨[], rfl, rfl, .nil, Ext.rfl, fun a h => absurd h List.not_mem_nil, fun j a h => by rw [List.getElem?_nil] at h; cases h⟩ ?_ (by rw [List.length_map, hR.len]; unfold zax; lia) ?_ ?_
 ·intro i acc σ' zz20
  refine ob32 zz20 ?_
  clear zz20
  intro rs' ee138
  subst ee138
  intro h1 _ h3 _
  exact ⟨h3 _ _ hR.top, by rw [List.length_map, h1]; exact Nat.le_refl _⟩
 ·intro i v acc σ' K hv zz21
  refine ob50 zz21 ?_
  clear zz21
  intro rs' ee139
  subst ee139
  intro h1 h2 h3 h4 h5
  intro hK
  rw [List.getElem?_map] at hv
  refine ob7 (Option.map_eq_some_iff.mp hv) ?_
  intro a ha ee140
  subst ee140
  refine hB a (f i) σ' K (h3 _ _ (hR.row i a ha)) (hl i) fun b hb => hK _ _ ⟨rs' ++ [b], by rw [List.map_append]; rfl, by rw [List.length_append, h1]; rfl, ?_, h3.upd (h3.none hb), fun y hy => (List.mem_append.mp hy).elim (h4 y) fun e => List.mem_singleton.mp e ▸ h3.none hb, fun j y hy => ?_⟩
  ·refine List.nodup_append.mpr ⟨h2, List.pairwise_singleton _ _, fun y hy z hz e => ?_⟩
   refine ob12 (List.mem_iff_getElem?.mp hy) ?_
   intro j hj
   exact zdg (h5 j y hj) (e.trans (List.mem_singleton.mp hz) ▸ hb)
  ·by_cases hj : j < rs'.length
   ·rw [List.getElem?_append_left hj] at hy
    have := h5 j y hy
    exact (zaq (zbb this hb)).trans this
   ·rw [List.getElem?_append_right (Nat.not_lt.mp hj), List.getElem?_singleton] at hy
    split at hy
    ·cases hy
     rw [show j = i by lia]; exact zaj
    ·cases hy
 ·intro acc σ' zz22
  refine ob50 zz22 ?_
  clear zz22
  intro rs' ee141
  subst ee141
  intro h1 h2 h3 h4 h5
  intro r' hr'
  refine h r' rs' _ (h3.upd (h3.none hr')) (h3.none hr') h4 (fun hm => (List.mem_iff_getElem?.mp hm).elim fun j hj => zdg (h5 j r' hj) hr') ⟨zaj, by rw [h1, List.length_map, hR.len], h2, fun i a ha => ?_⟩
  have := h5 i a ha
  exact (zaq (zbb this hr')).trans this
theorem zhM {a : Addr} {l : List Int} (ha : σ a = some (.list (l.map V.int))) (hl : l.length < 64) (h : ∀ b, σ b = none → Q (.ref b) (σ.upd b (.list ((zaX l).map V.int)))) : b1V true .sorted (.ref a) σ Q :=
 .inl (zkm ha (by rw [zfd hl]; exact h))
theorem zlI {x d r s w : Addr} {rs : List Addr} {n : Int} {H : List (Int × Int)} {t4 t5 t6 : Option V} {R Y} {N : Loc → Store → Prop}
  (hx : σ x = some (.inst "Net" d)) (hd : σ d = some (.ns [("size", .int n), ("rows", .ref r)])) (hxd : x ≠ d)
  (hR : Rows σ r rs n.toNat (fun i => nb H i)) (hdr : d ∉ rs) (hrd : r ≠ d) (hn : n ≤ 40) (hl : ∀ i, (nb H i).length ≤ 40)
  (hN : ∀ σ' r' rs' ρ, Frm d σ σ' → σ' d = some (.ns [("size", .int n), ("rows", .ref r')]) → Rows σ' r' rs' n.toNat (fun i => zaX (nb H i)) → σ r' = none → (∀ a ∈ rs', σ a = none) → r' ∉ rs' → N ρ σ') :
  wpSs (sem zas zay k) true zdM [some (.ref x), some (.int n), some (.ref w), some (.ref s), t4, t5, t6] σ N R Y := by
 dsimp only [zdM, zah, zag, zaJ, za1, zam, zaz, E_b1, zbg, zbJ, za0, zbf, zba, za9, Loc.get, zgz, zgs, zjs, zaa, tgOk, onT, zae, zaf, zad, zss, zsz, zab]
 refine zbj hx hd fldN rfl ?_
 refine zat (K := fun a vs => zb4 (fun σ' => σ' a = some (.list vs)) _ _ vs [] σ) hR.top (zhW (by lia) hR (fun i => Nat.lt_of_le_of_lt (hl i) (by decide)) (fun a l σ' K ha hl h => zhi rfl (zhM ha hl h)) fun r' rs' σ' hE hr' hrs' hnot hR' => ?_)
 refine zaS (hE _ _ hx) (hE _ _ hd) ⟨⟨fldN, show 2 < 100 by decide⟩, ?_⟩
 refine hN _ r' rs' _ (Frm.upd fun a o _ e => hE a o e) (by rw [zaj]; rfl) (hR'.keep fun a ha => zaq ?_) hr' hrs' hnot
 exact ha.elim (fun e => e ▸ zhe hr' hd) fun m => zhe (hrs' a m) hd
end
section
variable {k : Nat} {σ : Store} {Q : V → Store → Prop} {X : XP}
theorem zjH {l : List (Int × Int)} {i : Nat} {v : V} (h : (l.map pr)[i]? = some v) : ∃ (hi : i < l.length), v = pr l[i] := by
 rw [List.getElem?_map] at h
 refine ob7 (Option.map_eq_some_iff.mp h) ?_
 intro y hy ee142
 subst ee142
 refine ob12 (List.getElem?_eq_some_iff.mp hy) ?_
 intro hi ee143
 subst ee143
 exact ⟨hi, rfl⟩
theorem Rows.at {r : Addr} {rs : List Addr} {n : Nat} {f : Nat → List Int} (h : Rows σ r rs n f) {a : Addr} (m : a ∈ rs) : ∃ vs, σ a = some (.list vs) := by
 refine ob12 (List.mem_iff_getElem?.mp m) ?_
 intro j hj
 exact ⟨_, h.row j a hj⟩
theorem zie {x d w : Addr} {n : Int} {H : List (Int × Int)} (hx : σ x = some (.inst "Net" d)) (hd : σ d = some (.ns [])) (hxd : x ≠ d)
  (hw : σ w = some (.list (H.map pr))) (h1 : 1 ≤ n) (h2 : n ≤ 40) (hH : H.Nodup) (hT : ∀ p ∈ H, zaD n p) (hlen : H.length ≤ 2000)
  (hQ : ∀ σ' r rs, Frm d σ σ' → σ' d = some (.ns [("size", .int n), ("rows", .ref r)]) → Rows σ' r rs n.toNat (fun i => zaX (nb H i)) → σ r = none → (∀ a ∈ rs, σ a = none) → r ∉ rs → Q .none σ') :
  (sem zas zay (k + 3) true).run "Net" "__init__" [.ref x, .int n, .ref w] σ Q X := by
 refine zaw (F := zfa) rfl ⟨rfl, ?_⟩
 dsimp only [zfa, zah, zag, zbH, zaY, zaL, zam, zfv, zbX, zb9, zaM, za3, zaB, za2, zcQ, zar, zal, zbn, zaW, zmc, zmn, zlc, zln, zac, zan, zr0, zrs, Nat.reduceAdd, Nat.reduceSub, Loc.get, zgz, zgs, zjs, zaa, tgOk, onT, zae, zaf, zad, zss, zsz, zab, za4, zeg]
 simp only [zlP, zhu]
 refine zbs (by lia) (by lia) (go_b (zca (zai (congrArg some (decide_eq_false (Int.not_lt.mpr h1))) (zca (zai (isl hw) (go_b (zaT ?_)))))))
 dsimp only [zfp, zah, zag, zaJ, za1, zam, za2, zd3, zbg, zar, zal, I_r1, za0, zaC, zba, za9, Loc.get, zgz, zgs, zjs, zaa, tgOk, onT, zae, zaf, zad, zss, zsz, zab]
 refine zaS hx hd ⟨⟨fldS, by decide⟩, ⟨by lia, by lia⟩, ?_⟩
 refine zjv (n := n.toNat) (by lia) (by rw [List.length_map, zbB]) (fun v σ' K h => ⟨Nat.zero_le _, h⟩) ?_
 intro r rs σ2 hE hr hrs hrr hR
 have hxu : (σ.upd d (.ns [("size", .int n)])) x = some (.inst "Net" d) := (zaq hxd).trans hx
 have hwd : w ≠ d := zbM hw hd (fun e => by cases e)
 have hwu : (σ.upd d (.ns [("size", .int n)])) w = some (.list (H.map pr)) := (zaq hwd).trans hw
 have hxr : x ∉ rs := fun h => zdg hxu (hrs _ h)
 have hdr : d ∉ rs := fun h => zdg zaj (hrs _ h)
 have hrd : r ≠ d := zhe hr zaj
 have hx2 := hE _ _ hxu
 have hd2 : σ2 d = some (.ns [("size", .int n)]) := hE _ _ zaj
 refine zaS hx2 hd2 ⟨⟨fldN, show 1 < 100 by decide⟩, ?_⟩
 show wpSs _ _ zdL _ (σ2.upd d (.ns [("size", .int n), ("rows", .ref r)])) _ _ _
 dsimp only [zdL, zah, zag, zao, zbQ, zam, zbI, za0, Loc.get, zgz, zgs, zjs, zaa, tgOk, onT, zae, zaf, zad, zss, zsz, zab, zdn]
 simp only [alloc]
 intro s hs
 have hsd : s ≠ d := zhe hs zaj
 rw [zaq hsd] at hs
 have hsx : x ≠ s := zbb hx2 hs
 have hsr : r ≠ s := zbb hR.top hs
 have hsrs : s ∉ rs := fun h => (hR.at h).elim fun _ e => zdg e hs
 have hw2 := hE _ _ hwu
 have hws : w ≠ s := zbb hw2 hs
 have hwrs : w ∉ rs := fun h => zdg hwu (hrs _ h)
 have frs : ∀ a, a ≠ d → (a = s ∨ a ∈ rs) → σ a = none := fun a had h => (zaq had).symm.trans (h.elim (fun e => (congrArg _ e).trans (hE.none hs)) (hrs a))
 refine zat ((zaq hws).trans ((zaq hwd).trans hw2)) ?_
 refine zaV (fun j ρ σ' => σ' s = some (.dict ((H.take j).map pr)) ∧ Rows σ' r rs n.toNat (fun i => nb (H.take j) i) ∧
   (∀ a, a ≠ s → a ∉ rs → σ' a = ((σ2.upd d (.ns [("size", .int n), ("rows", .ref r)])).upd s (.dict [])) a) ∧ ∃ t4 t5 t6, ρ = [some (.ref x), some (.int n), some (.ref w), some (.ref s), t4, t5, t6])
  ⟨zaj, ?_, fun _ _ _ => rfl, _, _, _, rfl⟩ ?_ ?_ ?_
 ·refine (hR.congr (fun i _ => rfl)).keep fun a ha => ?_
  have n1 : a ≠ s := ha.elim (fun e => e ▸ hsr) fun z e => hsrs (e ▸ z)
  have n2 : a ≠ d := ha.elim (fun e => e ▸ hrd) fun z e => hdr (e ▸ z)
  rw [zaq n1, zaq n2]
 ·intro j ρ σ' zz23
  refine ob54 zz23 ?_
  clear zz23
  intro _ _ h _
  rw [h w hws hwrs, zaq hws, zaq hwd]; exact hw2
 ·intro j v ρ σ' K hv zz24
  refine ob55 zz24 ?_
  clear zz24
  intro hs' hR' hfr t4 t5 t6 ee144
  subst ee144
  intro hK
  simp only [List.set_cons_succ, List.set_cons_zero]
  refine ob12 (zjH hv) ?_
  intro hjl ee145
  subst ee145
  have htake : H.take (j + 1) = H.take j ++ [H[j]] := List.take_succ_eq_append_getElem hjl
  refine zid (d := d) (r := r) (rs := rs) (D := H.take j) ?_ ?_ hs' hR' hrr hsx hsd.symm hxr hdr hsr hsrs (by rw [List.length_take]; lia) ?_ (hT _ (List.getElem_mem hjl)) ?_ ?_
  ·rw [hfr x hsx hxr, zaq hsx, zaq hxd]; exact hx2
  ·rw [hfr d hsd.symm hdr, zaq hsd.symm, zaj]
  ·exact fun i => zh1 (n := n) (hH.sublist (List.take_sublist ..)) (fun q hq => hT q (List.mem_of_mem_take hq)) (by lia) h2
  ·intro hm
   have h5 := hH.sublist (List.take_sublist (j + 1) H)
   rw [htake, List.nodup_append] at h5
   exact h5.2.2 _ hm _ (List.mem_singleton.mpr rfl) rfl
  ·intro σ'' g1 g2 g3
   rw [← htake] at g2 g3
   exact hK _ _ ⟨g2, g3, fun a ha ha' => (g1 a ha ha').trans (hfr a ha ha'), _, _, _, rfl⟩
 ·intro ρ σ' zz25
  refine ob55 zz25 ?_
  clear zz25
  intro hs' hR' hfr t4 t5 t6 ee146
  subst ee146
  rw [List.length_map, List.take_length] at hR'
  have hF' : Frm d σ σ' := fun a o had e => by
   have has : a ≠ s := fun z => zdg e (frs a had (.inl z))
   rw [hfr a has (fun z => zdg e (frs a had (.inr z))), zaq has, zaq had]
   exact hE _ _ ((zaq had).trans e)
  have hdu : σ' d = some (.ns [("size", .int n), ("rows", .ref r)]) := by rw [hfr d hsd.symm hdr, zaq hsd.symm, zaj]
  refine zlI (d := d) (r := r) (rs := rs) (H := H) ?_ hdu hxd hR' hdr hrd h2 (fun i => zh1 (n := n) hH hT (by lia) h2) ?_
  ·rw [hfr x hsx hxr, zaq hsx, zaq hxd]; exact hx2
  ·intro σ'' r' rs' ρ g1 g2 g3 g4 g5 g6
   exact hQ σ'' r' rs' (hF'.trans g1) g2 g3 (hF'.none (zhe g4 hdu) g4) (fun a ha => hF'.none (zhe (g5 a ha) hdu) (g5 a ha)) g6
end
noncomputable def zcS (H : List (Int × Int)) (i : Nat) : List (Int × Int) := ((zaX (nb H i)).filter (fun x => decide ((i : Int) < x))).map (fun x => ((i : Int), x))
noncomputable def zb1 (H : List (Int × Int)) (n : Nat) : List (Int × Int) := (List.range n).flatMap (zcS H)
theorem zfL {H : List (Int × Int)} {n : Nat} : zb1 H (n + 1) = zb1 H n ++ zcS H n := by
 simp [zb1, List.range_succ]
theorem zbF {T : List (Int × Int)} (h : T.Pairwise zbV) : T.Nodup := h.imp (by
 intro zz26
 obtain ⟨a, b⟩ := zz26
 intro zz27
 obtain ⟨c, d⟩ := zz27
 intro h e
 cases e
 unfold zbV at h; simp only at h; lia)
theorem ziL {l : List Int} (h : l.Nodup) : (zaX l).Nodup := (zbE l).nodup_iff.mpr h
theorem zhQ {l : List Int} (h : l.Nodup) : (zaX l).Pairwise (· < ·) := by
 have h1 := zhR l
 have h2 := ziL h
 exact (h1.and h2).imp (by rintro a b ⟨x, y⟩; have : a ≠ b := y; lia)
theorem zgq {n : Int} {H : List (Int × Int)} {i : Nat} (hn : H.Nodup) (ht : ∀ p ∈ H, zaD n p) : (zcS H i).Pairwise zbV := by
 unfold zcS
 rw [List.pairwise_map]
 exact ((zhQ (zjz hn ht)).filter _).imp (by intro a b h; exact Or.inr ⟨rfl, h⟩)
theorem mem_tiesRow {H : List (Int × Int)} {i : Nat} {p : Int × Int} : p ∈ zcS H i ↔ p.1 = i ∧ (i : Int) < p.2 ∧ p.2 ∈ nb H i := by
 unfold zcS
 simp only [List.mem_map, List.mem_filter, (zbE _).mem_iff, decide_eq_true_eq]
 constructor
 ·intro zz28
  refine ob25 zz28 ?_
  clear zz28
  intro x h1 h2 ee147
  subst ee147
  exact ⟨rfl, h2, h1⟩
 ·intro zz29
  refine ob16 zz29 ?_
  clear zz29
  intro h1 h2 h3
  exact ⟨p.2, ⟨h3, h2⟩, by rw [← h1]⟩
theorem zg6 {n : Int} {H : List (Int × Int)} {m : Nat} (hn : H.Nodup) (ht : ∀ p ∈ H, zaD n p) : (zb1 H m).Pairwise zbV := by
 unfold zb1
 rw [List.pairwise_flatMap]
 refine ⟨fun i _ => zgq hn ht, ?_⟩
 refine List.pairwise_lt_range.imp ?_
 intro a b hab x hx y hy
 have h1 := (mem_tiesRow.mp hx).1
 have h2 := (mem_tiesRow.mp hy).1
 exact Or.inl (by lia)
theorem zhH {n : Int} {H T : List (Int × Int)} (hT : zgn n T) (hp : T.Perm H) : zb1 H n.toNat = T := by
 have hTn := zbF hT.1
 have hHn : H.Nodup := hp.nodup_iff.mp hTn
 have ht : ∀ p ∈ H, zaD n p := fun p h => hT.2 p (hp.mem_iff.mpr h)
 have h1 := zg6 (m := n.toNat) hHn ht
 have h2 : (zb1 H n.toNat).Perm T := by
  rw [List.perm_ext_iff_of_nodup (zbF h1) hTn]
  intro p
  simp only [zb1, List.mem_flatMap, List.mem_range, mem_tiesRow, mem_nb]
  constructor
  ·rintro ⟨i, hi, h1, h2, h3 | h3⟩
   ·rw [← h1] at h3; exact hp.mem_iff.mpr h3
   ·have := ht _ h3; unfold zaD at this; simp only at this; lia
  ·intro h
   have h5 := hT.2 p h
   unfold zaD at h5
   have h6 := hp.mem_iff.mp h
   refine ⟨p.1.toNat, by lia, by lia, by lia, Or.inl ?_⟩
   rw [show ((p.1.toNat : Nat) : Int) = p.1 by lia]
   exact h6
 exact List.Perm.eq_of_pairwise (fun a b _ _ x y => by unfold zbV at x y; lia) h1 hT.1 h2
structure NetAt (σ : Store) (x d r : Addr) (rs : List Addr) (n : Int) (H : List (Int × Int)) : Prop where
 top : σ x = some (.inst "Net" d)
 dic : σ d = some (.ns [("size", .int n), ("rows", .ref r)])
 rows : Rows σ r rs n.toNat (fun i => zaX (nb H i))
 lo : 1 ≤ n
 hi : n ≤ 40
 nod : H.Nodup
 ok : ∀ p ∈ H, zaD n p
theorem Rows.ext {σ σ' : Store} {r : Addr} {rs : List Addr} {n : Nat} {f : Nat → List Int} (h : Rows σ r rs n f) (e : Ext σ σ') : Rows σ' r rs n f :=
 ⟨e _ _ h.top, h.len, h.nod, fun i a ha => e _ _ (h.row i a ha)⟩
theorem NetAt.ext {σ σ' : Store} {x d r : Addr} {rs : List Addr} {n : Int} {H : List (Int × Int)} (h : NetAt σ x d r rs n H) (e : Ext σ σ') : NetAt σ' x d r rs n H :=
 ⟨e _ _ h.top, e _ _ h.dic, h.rows.ext e, h.lo, h.hi, h.nod, h.ok⟩
theorem NetAt.upd {σ : Store} {x d r : Addr} {rs : List Addr} {n : Int} {H : List (Int × Int)} (h : NetAt σ x d r rs n H) {a : Addr} (ha : σ a = none) {o : AO} : NetAt (σ.upd a o) x d r rs n H :=
 h.ext (Ext.rfl.upd ha)
theorem NetAt.rowAt {σ : Store} {x d r : Addr} {rs : List Addr} {n : Int} {H : List (Int × Int)} (h : NetAt σ x d r rs n H) {i : Nat} (hi : (i : Int) < n) :
  ∃ a, rs[i]? = some a ∧ σ a = some (.list ((zaX (nb H i)).map V.int)) := by
 have : i < rs.length := by rw [h.rows.len]; lia
 exact ⟨_, List.getElem?_eq_getElem this, h.rows.row i _ (List.getElem?_eq_getElem this)⟩
theorem NetAt.rowLen {σ : Store} {x d r : Addr} {rs : List Addr} {n : Int} {H : List (Int × Int)} (h : NetAt σ x d r rs n H) (i : Int) : (zaX (nb H i)).length ≤ 40 := by
 rw [(zbE _).length_eq]
 exact zh1 h.nod h.ok (by have := h.lo; lia) h.hi
section
variable {k : Nat} {md : Bool} {σ : Store} {Q : V → Store → Prop} {X : XP}
theorem zhF {x d r : Addr} {rs : List Addr} {n : Int} {H : List (Int × Int)} (h : NetAt σ x d r rs n H)
  (hQ : ∀ b, σ b = none → Q (.ref b) (σ.upd b (.list ((zb1 H n.toNat).map pr)))) : (sem zas zay (k + 1) true).run "Net" "ties" [.ref x] σ Q X := by
 refine zaw (F := ze9) rfl ⟨rfl, ?_⟩
 dsimp only [ze9, zah, zag, zao, zbQ, zam, zaz, za2, zar, zal, I_r1, za0, zbf, zaC, zmc, zmn, zlc, zln, zac, zan, zr0, zrs, Nat.reduceAdd, Nat.reduceSub, Loc.get, zgz, zgs, zjs, zaa, tgOk, onT, zae, zaf, zad, zss, zsz, zab]
 refine ⟨by simp [zax], ?_⟩
 intro b hb
 have hxb : x ≠ b := zbb h.top hb
 have hdb : d ≠ b := zbb h.dic hb
 have hlo := h.lo
 have hhi := h.hi
 refine zbj (h.upd hb).top (h.upd hb).dic fldS rfl ?_
 refine ⟨by lia, ?_⟩
 refine zaV (fun i ρ σ' => (zb1 H i).length ≤ 40 * i ∧ σ' = σ.upd b (.list ((zb1 H i).map pr)) ∧ ∃ t2 t3, ρ = [some (.ref x), some (.ref b), t2, t3])
  ⟨by simp [zb1], by simp [zb1], _, _, rfl⟩ (fun _ _ _ _ => trivial) ?_ ?_
 ·intro i v ρ σ' K hv zz30
  refine ob56 zz30 ?_
  clear zz30
  intro hl ee148
  subst ee148
  intro t2 t3 ee149
  subst ee149
  intro hK
  refine ob14 (zbL hv) ?_
  intro ee150
  subst ee150
  intro hxn
  rw [Int.zero_add] at hxn ⊢
  dsimp only [zfr, zah, zag, zbQ, zam, zaz, zaR, za0, zbf, Loc.get, zgz, zgs, zjs, zaa, tgOk, onT, zae, zaf, zad, zss, zsz, zab]
  have hN := h.upd hb (o := .list ((zb1 H i).map pr))
  refine zbj hN.top hN.dic fldN rfl ?_
  refine ob7 (h.rowAt hxn) ?_
  intro a ha ha'
  have hab : a ≠ b := zbb ha' hb
  have hlen := h.rowLen i
  refine zbt hN.rows.top (by lia) (by rw [List.getElem?_map]; simp [ha]; rfl) ?_
  simp only [zdn]
  refine zat ((zaq hab).trans ha') ?_
  refine zaV (fun j ρ σ' => σ' = σ.upd b (.list ((zb1 H i ++ (((zaX (nb H i)).take j).filter (fun x => decide ((i : Int) < x))).map (fun x => ((i : Int), x))).map pr)) ∧ ∃ t3, ρ = [some (.ref x), some (.ref b), some (.int i), t3])
   ⟨by simp, _, rfl⟩ ?_ ?_ ?_
  ·intro j ρ σ' zz31
   refine ob14 zz31 ?_
   clear zz31
   intro ee151
   subst ee151
   intro _
   rw [zaq hab]; exact ha'
  ·intro j v ρ σ' K2 hv zz32
   refine ob57 zz32 ?_
   clear zz32
   intro ee152
   subst ee152
   intro t3 ee153
   subst ee153
   intro hK2
   rw [List.getElem?_map] at hv
   refine ob7 (Option.map_eq_some_iff.mp hv) ?_
   intro y hy ee154
   subst ee154
   have hj : j < (zaX (nb H i)).length := by
    rcases Nat.lt_or_ge j (zaX (nb H i)).length with g | g
    ·exact g
    ·rw [List.getElem?_eq_none g] at hy; cases hy
   rw [List.getElem?_eq_getElem hj] at hy
   cases hy
   have htake := List.take_succ_eq_append_getElem hj
   dsimp only [zfs, zah, zag, za7, zaY, zam, zaM, E_m1, zbh, zar, zal, Loc.get, zgz, zgs, zjs, zaa, tgOk, onT, zae, zaf, zad, zss, zsz, zab]
   refine zai (a := decide ((i : Int) < (zaX (nb H i))[j])) rfl ?_
   by_cases hlt : (i : Int) < (zaX (nb H i))[j]
   ·rw [decide_eq_true hlt]
    refine zbN (zat zaj ⟨sz2, zaZ zaj ?_ (hK2 _ _ ⟨?_, _, rfl⟩)⟩)
    ·have : (((zaX (nb H i)).take j).filter (fun x => decide ((i : Int) < x))).length ≤ 40 := by
      refine Nat.le_trans (List.length_filter_le _ _) ?_
      rw [List.length_take]; lia
     simp only [List.length_append, List.length_map]
     unfold zax
     lia
    ·rw [zbC, htake]
     simp only [List.filter_append, List.filter_cons, hlt, decide_true, if_true, List.filter_nil, List.map_append, List.map_cons, List.map_nil, List.append_assoc, List.map_map]
     rfl
   ·rw [decide_eq_false hlt]
    refine zaT (hK2 _ _ ⟨?_, _, rfl⟩)
    rw [htake]
    simp only [List.filter_append, List.filter_cons, hlt, decide_false, Bool.false_eq_true, if_false, List.filter_nil, List.append_nil, List.map_append, List.map_map]
  ·intro ρ σ' zz33
   refine ob57 zz33 ?_
   clear zz33
   intro ee155
   subst ee155
   intro t3 ee156
   subst ee156
   have e : (((zaX (nb H i)).take ((zaX (nb H i)).map V.int).length).filter (fun x => decide ((i : Int) < x))).map (fun x => ((i : Int), x)) = zcS H i := by
    rw [List.length_map, List.take_length]; rfl
   rw [e, ← zfL]
   refine hK _ _ ⟨?_, rfl, _, _, rfl⟩
   rw [zfL, List.length_append]
   have : (zcS H i).length ≤ 40 := by
    unfold zcS
    rw [List.length_map]
    exact Nat.le_trans (List.length_filter_le _ _) hlen
   lia
 ·intro ρ σ' zz34
  refine ob56 zz34 ?_
  clear zz34
  intro hl ee157
  subst ee157
  intro t2 t3 ee158
  subst ee158
  dsimp only [zfo, zah, zag, zaK, zam, Loc.get, zgz, zgs, zjs, zaa, tgOk, onT, zae, zaf, zad, zss, zsz, zab]
  simp only [List.length_map, zbB]
  exact hQ b hb
theorem zge {x d r : Addr} {rs : List Addr} {n : Int} {H : List (Int × Int)} {i : Nat} (h : NetAt σ x d r rs n H) (hi : (i : Int) < n)
  (hQ : ∀ b, σ b = none → Q (.ref b) (σ.upd b (.list ((zaX (nb H i)).map V.int)))) : (sem zas zay (k + 2) true).run "Net" "beside" [.ref x, .int i] σ Q X := by
 refine zaw (F := zdU) rfl ⟨rfl, ?_⟩
 dsimp only [zdU, zah, zag, zbH, zaY, zam, zb9, zaB, zaz, zar, zal, zmc, zmn, zlc, zln, zac, zan, zr0, zrs, Nat.reduceAdd, Nat.reduceSub, Loc.get, zgz, zgs, zjs, zaa, tgOk, onT, zae, zaf, zad, zss, zsz, zab, za4, zeg]
 refine zbj h.top h.dic fldS rfl (zbs (Int.natCast_nonneg i) hi (go_b (zaT ?_)))
 dsimp only [zed, zah, zag, zaK, zam, zaz, zaR, za2, E_b1, zar, zal, Loc.get, zgz, zgs, zjs, zaa, tgOk, onT, zae, zaf, zad, zss, zsz, zab]
 refine zbj h.top h.dic fldN rfl ?_
 refine ob7 (h.rowAt hi) ?_
 intro a ha ha'
 have hlen := h.rowLen i
 refine zbt h.rows.top (Int.natCast_nonneg i) (by rw [List.getElem?_map, Int.toNat_natCast, ha]; rfl) ?_
 simp only [zje]
 refine zat ha' ⟨?_, hQ⟩
 rw [List.length_map]; unfold zax; lia
end
theorem zik {chk : Store → Prop} {B : V → Store → (Option V → Store → Prop) → Prop} {Q : V → Store → Prop} {items : List V} {σ : Store} (f : V → Option V)
  (hc : chk σ) (hl : items.length ≤ zax) (hB : ∀ v ∈ items, ∀ K : Option V → Store → Prop, K (f v) σ → B v σ K)
  (h : ∀ a, σ a = none → Q (.ref a) (σ.upd a (.list (items.filterMap f)))) : zb4 chk B Q items [] σ := by
 refine zf7 (fun i acc σ' => i ≤ items.length ∧ σ' = σ ∧ acc = (items.take i).filterMap f) ⟨by lia, rfl, by simp⟩ ?_ hl ?_ ?_
 ·intro i acc σ' zz35
  refine ob16 zz35 ?_
  clear zz35
  intro hi ee159
  subst ee159
  intro ee160
  subst ee160
  refine ⟨hc, Nat.le_trans (List.length_filterMap_le ..) ?_⟩
  rw [List.length_take]; lia
 ·intro i v acc σ' K hv zz36
  refine ob16 zz36 ?_
  clear zz36
  intro hi ee161
  subst ee161
  intro ee162
  subst ee162
  intro hK
  have hil : i < items.length := by
   rcases Nat.lt_or_ge i items.length with g | g
   ·exact g
   ·rw [List.getElem?_eq_none g] at hv; cases hv
  rw [List.getElem?_eq_getElem hil] at hv
  cases hv
  refine hB _ (List.getElem_mem hil) K (hK _ _ ⟨hil, rfl, ?_⟩)
  rw [List.take_succ_eq_append_getElem hil, List.filterMap_append]
  cases e : f items[i] <;> simp [e]
 ·intro acc σ' zz37
  refine ob16 zz37 ?_
  clear zz37
  intro hi ee163
  subst ee163
  intro ee164
  subst ee164
  intro a ha
  rw [List.take_length]
  exact h a ha
theorem zf4 {f : V → V → Option Bool} {vs : List V} (h : ∀ v ∈ vs, f v v = some true) : zb3 f vs vs = some true := by
 induction vs with
 | nil => rfl
 | cons v vs ih =>
  show (match f v v, zb3 f vs vs with | some a, some b => some (a && b) | _, _ => none) = _
  rw [h v (List.mem_cons_self ..), ih (fun u hu => h u (List.mem_cons_of_mem _ hu))]; rfl
theorem zlU {σ : Store} {m : Nat} {i : Int} : eqv σ m (.int i) (.int i) = some true := by
 cases m <;> exact congrArg some (beq_self_eq_true i)
theorem zpB {σ : Store} {m : Nat} {p : Int × Int} : eqv σ (m + 1) (pr p) (pr p) = some true :=
 zf4 (f := eqv σ m) (vs := [.int p.1, .int p.2]) (by intro v hv; simp at hv; rcases hv with rfl | rfl <;> exact zlU)
theorem zjL {σ : Store} {m : Nat} {a b : Addr} {us vs : List V} (ha : σ a = some (.list us)) (hb : σ b = some (.list vs)) : eqv σ (m + 1) (.ref a) (.ref b) = if us.length = vs.length then zb3 (eqv σ m) us vs else some false := by
 show ((asL (σ a)).bind fun us => (asL (σ b)).bind fun vs => if us.length = vs.length then zb3 (eqv σ m) us vs else some false) = _
 rw [ha, hb]; rfl
theorem zjM {σ : Store} {m : Nat} {a b : Addr} {vs : List V} (ha : σ a = some (.list vs)) (hb : σ b = some (.list vs)) (h : ∀ v ∈ vs, eqv σ m v v = some true) : eqv σ (m + 1) (.ref a) (.ref b) = some true := by
 rw [zjL ha hb, if_pos rfl]
 exact zf4 h
theorem zhp {σ : Store} {a b : Addr} {l : List Int} (ha : σ a = some (.list (l.map V.int))) (hb : σ b = some (.list (l.map V.int))) : eqv σ fuel (.ref a) (.ref b) = some true :=
 zjM ha hb fun v hv => by obtain ⟨i, _, rfl⟩ := List.mem_map.mp hv; exact zlU
theorem zoF {σ : Store} {a b : Addr} {l : List (Int × Int)} (ha : σ a = some (.list (l.map pr))) (hb : σ b = some (.list (l.map pr))) : eqv σ fuel (.ref a) (.ref b) = some true :=
 zjM ha hb fun v hv => by obtain ⟨i, _, rfl⟩ := List.mem_map.mp hv; exact zpB
theorem zlT {σ : Store} {a b : Addr} {vs : List V} (ha : σ a = some (.list vs)) (hb : σ b = some (.list [])) : eqv σ fuel (.ref a) (.ref b) = some vs.isEmpty := by
 show eqv σ (5 + 1) _ _ = _
 rw [zjL ha hb]
 cases vs with
 | nil => rfl
 | cons v vs => rw [if_neg (by simp)]; rfl
theorem zmB {σ : Store} {Q : V → Store → Prop} {a : Addr} {vs : List V} {i : Int} (ha : σ a = some (.list vs)) (h0 : 0 ≤ i) (h1 : i ≤ vs.length) (h : ∀ b, σ b = none → Q (.ref b) (σ.upd b (.list (vs.drop i.toNat)))) : zhS (.ref a) (.int i) .none σ Q := by
 have e : zfR (some i) none vs = vs.drop i.toNat := by
  have : ¬ i < 0 := by lia
  have h2 : min i.toNat vs.length = i.toNat := by lia
  simp [zfR, zc3, this, h2]
 simp only [zhS]
 refine zat ha ?_
 simp only [zn5, zmO, zaa, alloc]
 rw [e]; exact h
section
variable {k : Nat} {md : Bool} {σ : Store} {Q : V → Store → Prop} {X : XP}
theorem zk2 : (zas "Net" "__init__").isSome = true := rfl
theorem tb_beside : (zas "Net" "beside").isSome = true := rfl
theorem tb_ties : (zas "Net" "ties").isSome = true := rfl
theorem zjo : (zas "" "_law_whole").isSome = true := rfl
theorem zjK {σ σ' : Store} {x d : Addr} {o p : AO} (hx : σ x = none) (hd : σ d = none) (h : Frm d ((σ.upd d o).upd x p) σ') : Ext σ σ' := by
 intro a q e
 have h1 : a ≠ d := zbb e hd
 have h2 : a ≠ x := zbb e hx
 exact h a q h1 ((zaq h2).trans ((zaq h1).trans e))
end
end Mine.Internal
end
end
section
namespace Mine.Internal
open PySem
noncomputable def zaN (n : Nat) (M : Int → Int) : List V := (List.range n).map fun i : Nat => V.int (M (i : Int))
theorem zcz {n : Nat} {M : Int → Int} : (zaN n M).length = n := by simp [zaN]
theorem zcA {n : Nat} {M : Int → Int} {i : Int} (h0 : 0 ≤ i) (h : i < n) : (zaN n M)[i.toNat]? = some (.int (M i)) := by
 have h1 : i.toNat < n := by lia
 have h2 : (i.toNat : Int) = i := by lia
 simp [zaN, h1, h2]
theorem zdt {n : Nat} {M : Int → Int} {j v : Int} (h0 : 0 ≤ j) : (zaN n M).set j.toNat (.int v) = zaN n (fun i => if i = j then v else M i) := by
 apply List.ext_getElem
 ·simp [zaN]
 ·intro i h1 h2
  simp only [zaN, List.length_set, List.length_map, List.length_range] at h1
  simp only [List.getElem_set, zaN, List.getElem_map, List.getElem_range]
  by_cases e : j.toNat = i
  ·have : (i : Int) = j := by lia
   simp [e, this]
  ·have : (i : Int) ≠ j := by lia
   simp [e, this]
noncomputable def mt : List (Int × Int) → Int → Int
 | [] => fun _ => -1
 | p :: r => fun i => if i = p.2 then p.1 else if i = p.1 then p.2 else mt r i
abbrev Touch (p q : Int × Int) : Prop := p.1 = q.1 ∨ p.1 = q.2 ∨ p.2 = q.1 ∨ p.2 = q.2
theorem Touch.symm {p q : Int × Int} (h : Touch p q) : Touch q p := by unfold Touch at h ⊢; lia
noncomputable def Disj (P : List (Int × Int)) : Prop := P.Pairwise fun p q => ¬ Touch p q
theorem Disj.rev {P : List (Int × Int)} (h : Disj P) : Disj P.reverse := by
 unfold Disj
 rw [List.pairwise_reverse]
 exact h.imp fun g e => g e.symm
theorem zmR {n : Int} : ∀ {R : List (Int × Int)}, (∀ p ∈ R, zaD n p) → Disj R → ∀ p ∈ R, mt R p.1 = p.2 ∧ mt R p.2 = p.1
 | [], _, _, p, hp => by cases hp
 | q :: r, ht, hd, p, hp => by
  have hd' := List.pairwise_cons.mp hd
  rcases List.mem_cons.mp hp with rfl | hp
  ·have := ht p (List.mem_cons_self ..)
   unfold zaD at this
   have h1 : ¬ p.1 = p.2 := by lia
   simp [mt, h1]
  ·have h1 := hd'.1 p hp
   unfold Touch at h1
   have h2 : ¬ p.1 = q.2 := by lia
   have h3 : ¬ p.1 = q.1 := by lia
   have h4 : ¬ p.2 = q.2 := by lia
   have h5 : ¬ p.2 = q.1 := by lia
   have ih := zmR (fun p hp => ht p (List.mem_cons_of_mem _ hp)) hd'.2 p hp
   simp [mt, h2, h3, h4, h5, ih]
theorem zjA : ∀ {R : List (Int × Int)} {i : Int}, (∀ p ∈ R, p.1 ≠ i ∧ p.2 ≠ i) → mt R i = -1
 | [], _, _ => rfl
 | q :: r, i, h => by
  have h1 := h q (List.mem_cons_self ..)
  have h2 : ¬ i = q.2 := fun e => h1.2 e.symm
  have h3 : ¬ i = q.1 := fun e => h1.1 e.symm
  simp only [mt, h2, h3, if_false]
  exact zjA fun p hp => h p (List.mem_cons_of_mem _ hp)
theorem zhf {n : Int} {R : List (Int × Int)} (ht : ∀ p ∈ R, zaD n p) (hd : Disj R) (i : Int) : (∃ p ∈ R, (p.1 = i ∧ mt R i = p.2) ∨ (p.2 = i ∧ mt R i = p.1)) ∨ ((∀ p ∈ R, p.1 ≠ i ∧ p.2 ≠ i) ∧ mt R i = -1) := by
 by_cases h : ∃ p ∈ R, p.1 = i ∨ p.2 = i
 ·refine ob7 h ?_
  clear h
  intro p hp h
  have h1 := zmR ht hd p hp
  rcases h with rfl | rfl
  ·exact .inl ⟨p, hp, .inl ⟨rfl, h1.1⟩⟩
  ·exact .inl ⟨p, hp, .inr ⟨rfl, h1.2⟩⟩
 ·have h' : ∀ p ∈ R, p.1 ≠ i ∧ p.2 ≠ i := fun p hp => ⟨fun e => h ⟨p, hp, .inl e⟩, fun e => h ⟨p, hp, .inr e⟩⟩
  exact .inr ⟨h', zjA h'⟩
theorem zgH {D : List Int} : zdf (D.map V.int) = true := by
 have : (D.map V.int).all zeA = true := List.all_eq_true.mpr fun x hx => by
  refine ob7 (List.mem_map.mp hx) ?_
  intro p _ ee165
  subst ee165
  rfl
 show (_ || _) = true
 rw [this, Bool.true_or]
theorem zgJ {D : List Int} {p : Int} : zcB (.int p) (D.map V.int) = decide (p ∈ D) := by
 induction D with
 | nil => rfl
 | cons q D ih =>
  have : zcB (.int p) ((q :: D).map V.int) = (ziZ (.int q) (.int p) || zcB (.int p) (D.map V.int)) := rfl
  rw [this, ih, zlz]
  by_cases e : q = p
  ·subst e; simp
  ·have : ¬ p = q := fun h => e h.symm
   simp [e, this]
theorem zgy {D : List Int} {p : Int} : zbl (.int p) (D.map V.int) = (if p ∈ D then D else D ++ [p]).map V.int := by
 unfold zbl
 rw [zgJ]
 by_cases e : p ∈ D <;> simp [e]
theorem zlr {σ : Store} {x : Int} {l : List Int} : memV σ (.int x) (l.map V.int) = some (decide (x ∈ l)) := by
 induction l with
 | nil => rfl
 | cons y l ih =>
  have : memV σ (.int x) ((y :: l).map V.int) = (match eqv σ fuel (.int y) (.int x), memV σ (.int x) (l.map V.int) with | some a, some b => some (a || b) | _, _ => none) := rfl
  rw [this, ih]
  have h : eqv σ fuel (.int y) (.int x) = some (y == x) := rfl
  rw [h]
  by_cases e : y = x
  ·subst e; simp
  ·have : ¬ x = y := fun h => e h.symm
   simp [e, this]
theorem zcp {σ : Store} {a : Addr} {D : List Int} {x : Int} (h : σ a = some (.dict (D.map V.int))) : inV σ (.int x) (.ref a) = some (decide (x ∈ D)) := by
 have hk : zdf (V.int x :: D.map V.int) = true := zgH (D := x :: D)
 simp only [inV, h, hk, if_true, zgJ]
theorem zi4 {σ : Store} {a : Addr} {l : List Int} {x : Int} (h : σ a = some (.list (l.map V.int))) : inV σ (.int x) (.ref a) = some (decide (x ∈ l)) := by
 simp only [inV, h, zlr]
theorem zbp {σ : Store} {Q : Store → Prop} {a : Addr} {D : List Int} {p : Int} (h : σ a = some (.dict (D.map V.int))) (hl : D.length < zax) (q : Q (σ.upd a (.dict ((if p ∈ D then D else D ++ [p]).map V.int)))) : zbq (.ref a) (.int p) (.bool true) σ Q := by
 have hk : zdf (V.int p :: D.map V.int) = true := zgH (D := p :: D)
 simp only [zbq, h]
 refine ⟨⟨hk, by rw [List.length_map]; exact hl, trivial⟩, ?_⟩
 rw [zgy]; exact q
section
variable {k : Nat} {σ : Store} {Q : V → Store → Prop} {X : XP}
theorem zjp : (zas "" "mates").isSome = true := rfl
theorem znM : (zas "" "told").isSome = true := rfl
theorem zn9 {T : List (Int × Int)} {n : Int} {p : Int × Int} (ht : ∀ p ∈ T, zaD n p) (hp : zaD n p) : p.2 ∈ zaX (nb T p.1) ↔ p ∈ T := by
 rw [(zbE _).mem_iff, mem_nb]
 constructor
 ·rintro (h | h)
  ·exact h
  ·have := ht _ h; unfold zaD at this hp; simp only at this; lia
 ·exact Or.inl
theorem zks {x d r l f : Addr} {rs : List Addr} {n : Int} {T : List (Int × Int)} {p : Int × Int} {t4 : Option V} {R Y} {N : Loc → Store → Prop} {M : Int → Int}
  (h : NetAt σ x d r rs n T) (hf : σ f = some (.list (zaN n.toNat M))) (hp : zaD n p) (hpT : p ∈ T) (g1 : ¬ 0 ≤ M p.1) (g2 : ¬ 0 ≤ M p.2)
  (hgo : N [some (.ref x), some (.ref l), some (.ref f), some (pr p), t4] (σ.upd f (.list (zaN n.toNat fun i => if i = p.2 then p.1 else if i = p.1 then p.2 else M i)))) :
  wpSs (sem zas zay (k + 2)) true zgm [some (.ref x), some (.ref l), some (.ref f), some (pr p), t4] σ N R Y := by
 have hp' := hp
 unfold zaD at hp'
 have h0 := hp'.1
 have h1 : p.1 < n.toNat := by lia
 have h2 : 0 ≤ p.2 := by lia
 have h3 : p.2 < n.toNat := by lia
 dsimp only [zgm, zah, zag, zbH, zaY, zaL, zam, zb9, zaM, za3, zaB, zaz, zaR, zar, zal, zbn, zaW, Loc.get, zgz, zgs, zjs, zaa, tgOk, onT, zae, zaf, zad, zss, zsz, zab, za4, zhI]
 refine zbj h.top h.dic fldS rfl (zf2 hp (go_b (zca ?_)))
 refine zcZ (zbj h.top h.dic fldN rfl (zc0 ?_))
 refine ob7 (h.rowAt (i := p.1.toNat) (by lia)) ?_
 intro a ha ha'
 rw [Int.toNat_of_nonneg h0] at ha'
 refine zbt h.rows.top h0 (by rw [List.getElem?_map, ha]; rfl) ?_
 refine zai (a := false) (by rw [zbd, zi4 ha', decide_eq_true ((zn9 h.ok hp).mpr hpT)]; rfl) (zaT ?_)
 dsimp only [ziy, zah, zag, zaA, zbH, zaY, zaL, zam, zaM, za3, zaR, zbn, zaW, Loc.get, zgz, zgs, zjs, zaa, tgOk, onT, zae, zaf, zad, zss, zsz, zab]
 refine zc0 (zbt hf h0 (zcA h0 h1) (zai (congrArg some (decide_eq_false g1)) (zca ?_)))
 refine zcZ (zbt hf h2 (zcA h2 h3) (zai (congrArg some (decide_eq_false g2)) (zaT ?_)))
 refine zcZ (zc0 (zbY hf h0 (by rw [zcz]; exact h1) ?_))
 rw [zdt h0]
 refine zc0 (zcZ (zbY zaj h2 (by rw [zcz]; exact h3) ?_))
 rw [zdt h2, zbC]
 exact hgo
theorem zgF {x d r l : Addr} {rs : List Addr} {n : Int} {T P : List (Int × Int)} (h : NetAt σ x d r rs n T) (hl : σ l = some (.list (P.map pr))) (hs : ∀ p ∈ P, p ∈ T) (hd : Disj P)
  (hQ : ∀ f, σ f = none → Q (.ref f) (σ.upd f (.list (zaN n.toNat (mt P.reverse))))) :
  (sem zas zay (k + 3) true).run "" "mates" [.ref x, .ref l] σ Q X := by
 have hlo := h.lo
 have hhi := h.hi
 refine zaw (F := zji) rfl ⟨rfl, ?_⟩
 dsimp only [zji, zah, zag, zao, zbH, zaY, za1, zaL, zam, zd2, zb9, zaz, za2, zcQ, zd3, zbg, zbJ, zar, zal, I_r1, za0, zbf, zaC, zba, za9, zmc, zmn, zlc, zln, zac, zan, zr0, zrs, Nat.reduceAdd, Nat.reduceSub, Loc.get, zgz, zgs, zjs, zaa, tgOk, onT, zae, zaf, zad, zss, zsz, zab]
 refine zai (isl hl) (go_b (zaT ?_))
 refine zbj h.top h.dic fldS rfl ?_
 refine ⟨by lia, ?_⟩
 refine zik (fun _ => some (.int (-1))) trivial (by rw [List.length_map, zbB]; unfold zax; lia) (fun v hv K hK => hK) ?_
 intro f hf
 have e0 : ((upto 0 n 1).map V.int).filterMap (fun _ => some (V.int (-1))) = zaN n.toNat (mt []) := by
  apply List.ext_getElem?
  intro i
  simp only [List.filterMap_eq_map', List.getElem?_map, zaN, mt]
  by_cases hi : i < n.toNat
  ·have h1 : (0 : Int) + i < n := by lia
   rw [ziG h1]; simp [hi]
  ·have h1 : (upto 0 n 1).length ≤ i := by rw [zbB]; lia
   rw [List.getElem?_eq_none h1]; simp [hi]
 rw [e0]
 have hlf : l ≠ f := zbb hl hf
 dsimp only [ziw, zah, zag, zbQ, zam, za0, Loc.get, zgz, zgs, zjs, zaa, tgOk, onT, zae, zaf, zad, zss, zsz, zab, zdn]
 refine zat ((zaq hlf).trans hl) ?_
 refine zaV (fun j ρ σ' => σ' = σ.upd f (.list (zaN n.toNat (mt (P.take j).reverse))) ∧ ∃ t3, ρ = [some (.ref x), some (.ref l), some (.ref f), t3, none])
  ⟨by simp, _, rfl⟩ ?_ ?_ ?_
 ·intro j ρ σ' zz38
  refine ob14 zz38 ?_
  clear zz38
  intro ee166
  subst ee166
  intro _
  rw [zaq hlf]; exact hl
 ·intro j v ρ σ' K hv zz39
  refine ob57 zz39 ?_
  clear zz39
  intro ee167
  subst ee167
  intro t3 ee168
  subst ee168
  intro hK
  have hN := h.ext ((Ext.rfl (σ := σ)).upd (o := .list (zaN n.toNat (mt (P.take j).reverse))) hf)
  simp only [List.set_cons_succ, List.set_cons_zero]
  refine ob12 (zjH hv) ?_
  intro hjl ee169
  subst ee169
  have htake := List.take_succ_eq_append_getElem hjl
  have hpP := hs _ (List.getElem_mem hjl)
  have hfree : ∀ q ∈ (P.take j).reverse, ¬ Touch q P[j] := by
   intro q hq
   have h1 : Disj (P.take (j + 1)) := hd.sublist (List.take_sublist _ P)
   rw [htake] at h1
   exact (List.pairwise_append.mp h1).2.2 q (List.mem_reverse.mp hq) _ (List.mem_singleton.mpr rfl)
  refine zks hN zaj (h.ok _ hpP) hpP ?_ ?_ (hK _ _ ⟨?_, _, rfl⟩)
  ·rw [zjA fun q hq => by have := hfree q hq; unfold Touch at this; lia]; decide
  ·rw [zjA fun q hq => by have := hfree q hq; unfold Touch at this; lia]; decide
  ·rw [zbC, htake, List.reverse_append]; rfl
 ·intro ρ σ' zz40
  refine ob57 zz40 ?_
  clear zz40
  intro ee170
  subst ee170
  intro t3 ee171
  subst ee171
  rw [List.length_map, List.take_length]
  dsimp only [zix, zah, zag, zaK, zam, Loc.get, zgz, zgs, zjs, zaa, tgOk, onT, zae, zaf, zad, zss, zsz, zab]
  exact hQ f hf
theorem ze2 {chk : Store → Prop} {B : V → Store → (Option V → Store → Prop) → Prop} {n : Int} (g : Int → Option V) (hc : chk σ) (hn : n ≤ 1000) (hB : ∀ i : Int, 0 ≤ i → i < n → ∀ K : Option V → Store → Prop, K (g i) σ → B (.int i) σ K)
  (h : ∀ a, σ a = none → Q (.ref a) (σ.upd a (.list ((List.range n.toNat).filterMap fun i : Nat => g i)))) : zb4 chk B Q ((upto 0 n 1).map V.int) [] σ := by
 refine zik (fun v => match v with | .int i => g i | _ => none) hc (by rw [List.length_map, zbB]; unfold zax; lia) ?_ ?_
 ·intro v hv K hK
  refine ob7 (List.mem_map.mp hv) ?_
  intro i hi ee172
  subst ee172
  refine ob12 (List.mem_iff_getElem?.mp hi) ?_
  intro j hj
  have hi0 := upto_get' hj
  exact hB i (by lia) (by lia) K hK
 ·intro a ha
  have e : ((upto 0 n 1).map V.int).filterMap (fun v => match v with | .int i => g i | _ => none) = (List.range n.toNat).filterMap fun i : Nat => g i := by
   have : upto 0 n 1 = (List.range n.toNat).map fun i : Nat => (i : Int) := by
    unfold upto; simp
   rw [this, List.map_map, List.filterMap_map]
   rfl
  rw [e]; exact h a ha
noncomputable def zb0 (n : Nat) (M : Int → Int) : List (Int × Int) := (List.range n).filterMap fun i : Nat => if (i : Int) < M i then some ((i : Int), M i) else none
theorem zkW {n : Nat} {M : Int → Int} : (zb0 n M).length ≤ n := by
 refine Nat.le_trans (List.length_filterMap_le ..) ?_
 rw [List.length_range]; exact Nat.le_refl _
theorem zkU {m : Addr} {n : Nat} {M : Int → Int} (hm : σ m = some (.list (zaN n M))) (hn : n ≤ 1000) (hQ : ∀ b, σ b = none → Q (.ref b) (σ.upd b (.list ((zb0 n M).map pr)))) : (sem zas zay (k + 1) true).run "" "told" [.ref m] σ Q X := by
 refine zaw (F := zmj) rfl ⟨rfl, ?_⟩
 dsimp only [zmj, zah, zag, zaK, zam, zaM, zaR, zbh, E_b1, zd3, zbg, zar, zal, I_r1, za0, zaC, zba, za9, zmc, zmn, zlc, zln, zac, zan, zr0, zrs, Nat.reduceAdd, Nat.reduceSub, Loc.get, zgz, zgs, zjs, zaa, tgOk, onT, zae, zaf, zad, zss, zsz, zab]
 simp only [ze0 hm, zcz]
 refine ⟨by lia, ?_⟩
 refine ze2 (fun i => if i < M i then some (pr (i, M i)) else none) trivial (by lia) ?_ ?_
 ·intro i h0 h1 K hK
  refine zbt hm h0 (zcA h0 h1) ?_
  simp only [zl0, zaa, zef]
  by_cases g : i < M i
  ·rw [if_pos g] at hK
   simp only [g, decide_true, if_true]
   exact zbt hm h0 (zcA h0 h1) ⟨by decide, hK⟩
  ·rw [if_neg g] at hK
   simp only [g, decide_false, Bool.false_eq_true, if_false]
   exact hK
 ·intro a ha
  have e : ((List.range (n : Int).toNat).filterMap fun i : Nat => if (i : Int) < M i then some (pr ((i : Int), M i)) else none) = (zb0 n M).map pr := by
   unfold zb0
   rw [List.map_filterMap, show ((n : Int)).toNat = n by lia]
   congr 1
   funext i
   split <;> rfl
  rw [e]; exact hQ a ha
noncomputable def zbe (P : List (Int × Int)) : List Int := P.map (·.1) ++ P.map (·.2)
theorem mem_places {P : List (Int × Int)} {i : Int} : i ∈ zbe P ↔ ∃ p ∈ P, p.1 = i ∨ p.2 = i := by
 unfold zbe
 simp only [List.mem_append, List.mem_map]
 constructor
 ·rintro (⟨p, hp, e⟩ | ⟨p, hp, e⟩)
  ·exact ⟨p, hp, .inl e⟩
  ·exact ⟨p, hp, .inr e⟩
 ·rintro ⟨p, hp, e | e⟩
  ·exact .inl ⟨p, hp, e⟩
  ·exact .inr ⟨p, hp, e⟩
theorem zjB {n : Int} {P : List (Int × Int)} (ht : ∀ p ∈ P, zaD n p) (hd : Disj P) (i : Int) : mt P.reverse i < 0 ↔ i ∉ zbe P := by
 rw [mem_places]
 rcases zhf (fun p hp => ht p (List.mem_reverse.mp hp)) hd.rev i with ⟨p, hp, h⟩ | ⟨h, e⟩
 ·have hp := List.mem_reverse.mp hp
  have ho := ht p hp
  unfold zaD at ho
  constructor
  ·intro g; lia
  ·intro g; exact absurd ⟨p, hp, by lia⟩ g
 ·constructor
  ·intro _ z
   refine ob7 z ?_
   clear z
   intro p hp g
   have := h p (List.mem_reverse.mpr hp)
   lia
  ·intro _; lia
theorem zcR {n : Nat} {M : Int → Int} : (zb0 n M).Pairwise zbV := by
 unfold zb0
 refine List.Pairwise.filterMap _ ?_ (List.pairwise_lt_range (n := n))
 intro i j hij p hp q hq
 split at hp
 ·cases hp
  split at hq
  ·cases hq
   exact .inl (by simp only; lia)
  ·cases hq
 ·cases hp
theorem zmS {n : Int} {P : List (Int × Int)} (ht : ∀ p ∈ P, zaD n p) (hd : Disj P) (q : Int × Int) : q ∈ zb0 n.toNat (mt P.reverse) ↔ q ∈ P := by
 have ht' : ∀ p ∈ P.reverse, zaD n p := fun p hp => ht p (List.mem_reverse.mp hp)
 unfold zb0
 simp only [List.mem_filterMap, List.mem_range]
 constructor
 ·intro zz41
  refine ob7 zz41 ?_
  clear zz41
  intro i hi h
  split at h
  ·cases h
   rename_i g
   rcases zhf ht' hd.rev i with ⟨p, hp, ⟨e1, e2⟩ | ⟨e1, e2⟩⟩ | ⟨_, e⟩
   ·rw [e2, ← e1]; exact List.mem_reverse.mp hp
   ·have := ht' p hp; unfold zaD at this; lia
   ·lia
  ·cases h
 ·intro hq
  have ho := ht q hq
  unfold zaD at ho
  have h1 := (zmR ht' hd.rev q (List.mem_reverse.mpr hq)).1
  have e : ((q.1.toNat : Nat) : Int) = q.1 := by lia
  refine ⟨q.1.toNat, by lia, ?_⟩
  rw [e, h1, if_pos ho.2.1]
theorem zkF {P : List (Int × Int)} (hd : Disj P) : P.Nodup := hd.imp fun {a b} h e => h (by subst e; exact .inl rfl)
theorem zkV {n : Int} {P : List (Int × Int)} (ht : ∀ p ∈ P, zaD n p) (hd : Disj P) : (zb0 n.toNat (mt P.reverse)).Perm P := by
 rw [List.perm_ext_iff_of_nodup (zbF zcR) (zkF hd)]
 exact zmS ht hd
theorem zfE {n : Int} {P : List (Int × Int)} (ht : ∀ p ∈ P, zaD n p) (hd : Disj P) (h0 : 0 ≤ n) (hn : n ≤ 40) : P.length ≤ 40 := by
 rw [← (zkV ht hd).length_eq]
 have := zkW (n := n.toNat) (M := mt P.reverse)
 lia
end
noncomputable def tie (a b : Int) : Int × Int := (min a b, max a b)
noncomputable def steps : List Int → List (Int × Int)
 | a :: b :: r => (a, b) :: steps r
 | _ => []
theorem zfW : ∀ (W : List Int) (a b : Int), (a, b) ∈ steps W ↔ ∃ j, W[2 * j]? = some a ∧ W[2 * j + 1]? = some b
 | [], a, b => by simp [steps]
 | [x], a, b => by
  simp only [steps, List.not_mem_nil, false_iff]
  intro zz42
  refine ob7 zz42 ?_
  clear zz42
  intro j h1 h2
  rw [List.getElem?_eq_none (by simp)] at h2; cases h2
 | x :: y :: r, a, b => by
  rw [steps, List.mem_cons, zfW r a b]
  constructor
  ·rintro (h | ⟨j, h1, h2⟩)
   ·cases h; exact ⟨0, rfl, rfl⟩
   ·exact ⟨j + 1, by rw [show 2 * (j + 1) = 2 * j + 1 + 1 by lia]; simpa using h1, by rw [show 2 * (j + 1) + 1 = (2 * j + 1) + 1 + 1 by lia]; simpa using h2⟩
  ·intro zz43
   refine ob7 zz43 ?_
   clear zz43
   intro j h1 h2
   cases j with
   | zero => left; simp at h1 h2; rw [h1, h2]
   | succ j =>
    right
    refine ⟨j, ?_, ?_⟩
    ·rw [show 2 * (j + 1) = 2 * j + 1 + 1 by lia] at h1; simpa using h1
    ·rw [show 2 * (j + 1) + 1 = (2 * j + 1) + 1 + 1 by lia] at h2; simpa using h2
theorem zhL : ∀ (W : List Int) (j : Nat) (a b : Int), W[2 * j]? = some a → W[2 * j + 1]? = some b → (steps W)[j]? = some (a, b)
 | [], j, a, b, h1, h2 => by simp at h1
 | [x], j, a, b, h1, h2 => by rw [List.getElem?_eq_none (by simp)] at h2; cases h2
 | x :: y :: r, 0, a, b, h1, h2 => by simp at h1 h2; rw [steps, h1, h2]; rfl
 | x :: y :: r, j + 1, a, b, h1, h2 => by
  rw [steps, List.getElem?_cons_succ]
  refine zhL r j a b ?_ ?_
  ·rw [show 2 * (j + 1) = 2 * j + 1 + 1 by lia] at h1; simpa using h1
  ·rw [show 2 * (j + 1) + 1 = (2 * j + 1) + 1 + 1 by lia] at h2; simpa using h2
theorem zfN : ∀ (W : List Int), (steps W).length = W.length / 2
 | [] => rfl
 | [x] => by simp [steps]
 | x :: y :: r => by rw [steps, List.length_cons, zfN r]; simp; lia
theorem zju {W : List Int} {p : Int × Int} (h : p ∈ steps W) : p.1 ∈ W ∧ p.2 ∈ W := by
 refine ob7 ((zfW W p.1 p.2).mp h) ?_
 intro j h1 h2
 exact ⟨List.mem_of_getElem? h1, List.mem_of_getElem? h2⟩
theorem zfO : ∀ {W : List Int}, W.length % 2 = 0 → ∀ i ∈ W, ∃ p ∈ steps W, p.1 = i ∨ p.2 = i
 | [], _, i, h => by cases h
 | [x], e, i, h => by simp at e
 | x :: y :: r, e, i, h => by
  rw [steps]
  rcases List.mem_cons.mp h with rfl | h
  ·exact ⟨_, List.mem_cons_self .., .inl rfl⟩
  rcases List.mem_cons.mp h with rfl | h
  ·exact ⟨_, List.mem_cons_self .., .inr rfl⟩
  obtain ⟨p, hp, g⟩ := zfO (W := r) (by simp at e; lia) i h
  exact ⟨p, List.mem_cons_of_mem _ hp, g⟩
theorem zgv : ∀ {W : List Int}, W.Nodup → Disj (steps W) ∧ ∀ p ∈ steps W, p.1 ≠ p.2
 | [], _ => ⟨.nil, by simp [steps]⟩
 | [x], _ => ⟨.nil, by simp [steps]⟩
 | x :: y :: r, h => by
  have h1 := List.nodup_cons.mp h
  have h2 := List.nodup_cons.mp h1.2
  have ih := zgv h2.2
  rw [steps]
  refine ⟨List.pairwise_cons.mpr ⟨?_, ih.1⟩, ?_⟩
  ·intro p hp t
   have hp := zju hp
   unfold Touch at t
   simp only at t
   rcases t with e | e | e | e
   ·exact h1.1 (List.mem_cons_of_mem _ (e ▸ hp.1))
   ·exact h1.1 (List.mem_cons_of_mem _ (e ▸ hp.2))
   ·exact h2.1 (e ▸ hp.1)
   ·exact h2.1 (e ▸ hp.2)
  ·intro p hp
   rcases List.mem_cons.mp hp with rfl | hp
   ·intro e; exact h1.1 (List.mem_cons.mpr (.inl e))
   ·exact ih.2 p hp
noncomputable def mtB (M : Int → Int) : List (Int × Int) → Int → Int
 | [] => M
 | p :: r => fun i => if i = p.2 then p.1 else if i = p.1 then p.2 else mtB M r i
theorem znx {M : Int → Int} : ∀ {R : List (Int × Int)}, (∀ p ∈ R, p.1 ≠ p.2) → Disj R → ∀ p ∈ R, mtB M R p.1 = p.2 ∧ mtB M R p.2 = p.1
 | [], _, _, p, hp => by cases hp
 | q :: r, ht, hd, p, hp => by
  have hd' := List.pairwise_cons.mp hd
  rcases List.mem_cons.mp hp with rfl | hp
  ·have h1 := ht p (List.mem_cons_self ..)
   simp [mtB, h1]
  ·have h1 := hd'.1 p hp
   unfold Touch at h1
   have h2 : ¬ p.1 = q.2 := by lia
   have h3 : ¬ p.1 = q.1 := by lia
   have h4 : ¬ p.2 = q.2 := by lia
   have h5 : ¬ p.2 = q.1 := by lia
   have ih := znx (M := M) (fun p hp => ht p (List.mem_cons_of_mem _ hp)) hd'.2 p hp
   simp [mtB, h2, h3, h4, h5, ih]
theorem zlp {M : Int → Int} : ∀ {R : List (Int × Int)} {i : Int}, (∀ p ∈ R, p.1 ≠ i ∧ p.2 ≠ i) → mtB M R i = M i
 | [], _, _ => rfl
 | q :: r, i, h => by
  have h1 := h q (List.mem_cons_self ..)
  have h2 : ¬ i = q.2 := fun e => h1.2 e.symm
  have h3 : ¬ i = q.1 := fun e => h1.1 e.symm
  simp only [mtB, h2, h3, if_false]
  exact zlp fun p hp => h p (List.mem_cons_of_mem _ hp)
structure WayOk (n : Int) (T : List (Int × Int)) (M : Int → Int) (W : List Int) : Prop where
 two : 2 ≤ W.length
 even : W.length % 2 = 0
 inn : ∀ p ∈ W, 0 ≤ p ∧ p < n
 nod : W.Nodup
 fst : ∀ a, W[0]? = some a → M a < 0
 lst : ∀ a, W[W.length - 1]? = some a → M a < 0
 stp : ∀ (k : Nat) a b, W[k]? = some a → W[k + 1]? = some b → b ∈ nb T a ∧ (M a = b ↔ k % 2 = 1)
structure Along (n : Int) (T P : List (Int × Int)) (W : List Int) : Prop where
 ok : ∀ p ∈ P, zaD n p
 dis : Disj P
 odd : ∀ p ∈ steps (W.drop 1), tie p.1 p.2 ∈ P
 oth : ∀ p ∈ P, (∃ q ∈ steps (W.drop 1), p = tie q.1 q.2) ∨ (p.1 ∉ W ∧ p.2 ∉ W)
 all : ∀ (k : Nat) a b, W[k]? = some a → W[k + 1]? = some b → tie a b ∈ T
theorem zpt {α : Type} {W : List α} {i : Nat} {a : α} (hi : W[i]? = some a) : i < W.length := by
 rcases Nat.lt_or_ge i W.length with g | g
 ·exact g
 ·rw [List.getElem?_eq_none g] at hi; cases hi
section
variable {k : Nat} {σ : Store} {Q : V → Store → Prop} {X : XP}
theorem zk1 : (zas "" "is_way").isSome = true := rfl
theorem zkZ : (zas "" "turned").isSome = true := rfl
theorem zfC {a : Addr} {vs : List V} {i : Int} {v : V} {K : V → Prop} (ha : σ a = some (.list vs)) (hi : i < 0) (hl : -i ≤ vs.length) (hv : vs[vs.length - i.natAbs]? = some v) (h : K v) : idxV (.ref a) (.int i) σ K := by
 have e : zkj i vs.length = some (vs.length - i.natAbs) := by
  refine (if_neg (by lia)).trans ((if_pos (by lia)).trans (congrArg some ?_))
  lia
 exact Eq.mpr (ziQ ha) (zai e (zai hv h))
theorem zcq {a : Addr} {W : List Int} {i : Int} {v : Int} {K : V → Prop} (ha : σ a = some (.list (W.map V.int))) (hi : 0 ≤ i) (hv : W[i.toNat]? = some v) (h : K (.int v)) : idxV (.ref a) (.int i) σ K :=
 zbt ha hi (by rw [List.getElem?_map, hv]; rfl) h
theorem zm3 {x d r m w g : Addr} {rs : List Addr} {n : Int} {T : List (Int × Int)} {M : Int → Int} {W : List Int} {t4 : Option V} {N Y} (h : NetAt σ x d r rs n T) (hm : σ m = some (.list (zaN n.toNat M))) (hw : σ w = some (.list (W.map V.int)))
  (ok : WayOk n T M W) (hlen : W.length ≤ 1000) (hT : Q (.bool true) σ) :
  wpSs (sem zas zay k) true ze5 [some (.ref x), some (.ref m), some (.ref w), some (.ref g), t4, none] σ N Q Y := by
 have gm : ∀ {i : Int}, i ∈ W → ∀ {K : V → Prop}, K (.int (M i)) → idxV (.ref m) (.int i) σ K := fun hi K hK => zbt hm (ok.inn _ hi).1 (zcA (ok.inn _ hi).1 (by have := (ok.inn _ hi).2; lia)) hK
 have h2 := ok.two
 have hfst : W[0]? = some W[0] := List.getElem?_eq_getElem (by lia)
 have hlst : W[W.length - 1]? = some W[W.length - 1] := List.getElem?_eq_getElem (by lia)
 dsimp only [ze5, zah, zag, zaK, zaY, zbQ, E_ff, zaL, zam, zbX, zd2, zaM, za3, zaR, E_b1, zbn, zaW, I_r1, za0, zaC, Loc.get, zgz, zgs, zjs, zaa, tgOk, onT, zae, zaf, zad, zss, zsz, zab]
 refine zcq hw (Int.le_refl 0) hfst (gm (List.getElem_mem _) (zai (congrArg some (decide_eq_false (Int.not_le.mpr (ok.fst _ hfst)))) (zca ?_)))
 refine zfC (i := -1) hw (by decide) (by rw [List.length_map]; lia) (by rw [List.length_map, List.getElem?_map]; show Option.map V.int W[W.length - 1]? = _; rw [hlst]; rfl) (gm (List.getElem_mem _) (zai (congrArg some (decide_eq_false (Int.not_le.mpr (ok.lst _ hlst)))) (zaT ?_)))
 simp only [ze0 hw, List.length_map, znk, zaC]
 refine ⟨by lia, ?_⟩
 refine zaV (fun j ρ σ' => σ' = σ ∧ ∃ t5, ρ = [some (.ref x), some (.ref m), some (.ref w), some (.ref g), t4, t5])
  ⟨rfl, _, rfl⟩ (fun _ _ _ _ => trivial) ?_ ?_
 ·intro j v ρ σ' K hv zz44
  refine ob57 zz44 ?_
  clear zz44
  intro ee173
  subst ee173
  intro t5 ee174
  subst ee174
  intro hK
  refine ob14 (zbL hv) ?_
  intro ee175
  subst ee175
  intro hj
  rw [Int.zero_add] at hj ⊢
  have j0 : j < W.length := by lia
  have j1 : j + 1 < W.length := by lia
  have ha : W[j]? = some W[j] := List.getElem?_eq_getElem j0
  have hb : W[j + 1]? = some W[j + 1] := List.getElem?_eq_getElem j1
  have haW := List.getElem_mem j0
  refine ob14 (ok.stp j _ _ ha hb) ?_
  intro c1 c2
  generalize W[j] = a at *
  generalize W[j + 1] = b at *
  dsimp only [zg1, zah, zag, zaK, zaY, E_ff, zaL, zam, zbX, zaM, zaz, zaR, Loc.get, zgz, zgs, zjs, zaa, tgOk, onT, zae, zaf, zad, zss, zsz, zab]
  simp only [zhu]
  refine zcq hw (by lia) hb (zbj h.top h.dic fldN rfl (zcq hw (by lia) ha ?_))
  have haa := ok.inn a haW
  refine ob7 (h.rowAt (i := a.toNat) (by lia)) ?_
  intro c hc hc'
  rw [Int.toNat_of_nonneg haa.1] at hc'
  refine zbt h.rows.top haa.1 (by rw [List.getElem?_map, hc]; rfl) ?_
  refine zai (a := false) (by rw [zbd, zi4 hc', decide_eq_true ((zbE _).mem_iff.mpr c1)]; rfl) (zaT ?_)
  refine zcq hw (by lia) ha (gm haW (zcq hw (by lia) hb ⟨by decide, zai (a := ((j : Int).fmod 2 == 1)) rfl (zai (a := false) ?_ (zaT (hK _ _ ⟨rfl, _, rfl⟩)))⟩))
  have e2 : (j : Int).fmod 2 = ((j % 2 : Nat) : Int) := by rw [Int.fmod_eq_emod_of_nonneg _ (by decide)]; lia
  have : ((M a == b) == ((j : Int).fmod 2 == 1)) = true := by
   rw [beq_iff_eq, Bool.eq_iff_iff, beq_iff_eq, beq_iff_eq, e2]
   exact c2.trans (by lia)
  show some (!((M a == b) == ((j : Int).fmod 2 == 1))) = _
  rw [this]; rfl
 ·intro ρ σ' zz45
  refine ob57 zz45 ?_
  clear zz45
  intro ee176
  subst ee176
  intro t5 ee177
  subst ee177
  exact hT
theorem zi0 {x d r m w : Addr} {rs : List Addr} {n : Int} {T : List (Int × Int)} {M : Int → Int} {W : List Int} (h : NetAt σ x d r rs n T) (hm : σ m = some (.list (zaN n.toNat M))) (hw : σ w = some (.list (W.map V.int)))
  (ok : WayOk n T M W) (hlen : W.length ≤ 1000) (hT : ∀ σ', Ext σ σ' → Q (.bool true) σ') :
  (sem zas zay (k + 2) true).run "" "is_way" [.ref x, .ref m, .ref w] σ Q X := by
 refine zaw (F := zhC) rfl ⟨rfl, ?_⟩
 have h2 := ok.two
 have he := ok.even
 dsimp only [zhC, zah, zag, zao, zaK, zaY, zbQ, E_ff, zaL, zam, zbX, zb9, zaM, za3, za2, zbI, E_b1, zcQ, zar, zal, zbn, zaW, za0, zmc, zmn, zlc, zln, zac, zan, zr0, zrs, Nat.reduceAdd, Nat.reduceSub, Loc.get, zgz, zgs, zjs, zaa, tgOk, onT, zae, zaf, zad, zss, zsz, zab]
 simp only [ze0 hw, List.length_map, znl]
 refine zai (isl hw) (go_b (zca ?_))
 refine zai (congrArg some (decide_eq_false (p := (W.length : Int) < 2) (by lia))) (zca ⟨by decide, zai (a := false) ?_ (zaT ?_)⟩)
 ·refine congrArg some (beq_eq_false_iff_ne.mpr ?_)
  rw [Int.fmod_eq_emod_of_nonneg _ (by decide)]; lia
 intro g hg
 have hwg : w ≠ g := zbb hw hg
 simp only [zdn]
 refine zat ((zaq hwg).trans hw) ?_
 refine zaV (fun j ρ σ' => σ' = σ.upd g (.dict ((W.take j).map V.int)) ∧ ∃ t4, ρ = [some (.ref x), some (.ref m), some (.ref w), some (.ref g), t4, none])
  ⟨rfl, _, rfl⟩ ?_ ?_ ?_
 ·intro j ρ σ' zz46
  refine ob14 zz46 ?_
  clear zz46
  intro ee178
  subst ee178
  intro _
  rw [zaq hwg]; exact hw
 ·intro j v ρ σ' K hv zz47
  refine ob57 zz47 ?_
  clear zz47
  intro ee179
  subst ee179
  intro t4 ee180
  subst ee180
  intro hK
  have hN := h.ext ((Ext.rfl (σ := σ)).upd (o := .dict ((W.take j).map V.int)) hg)
  dsimp only [zg2, zah, zag, zaK, zaY, E_ff, zam, zb9, zaM, za3, zaB, zaz, zar, zal, zbn, zaW, Loc.get, zgz, zgs, zjs, zaa, tgOk, onT, zae, zaf, zad, zss, zsz, zab, za4, zeg]
  refine zbj hN.top hN.dic fldS rfl ?_
  rw [List.getElem?_map] at hv
  refine ob7 (Option.map_eq_some_iff.mp hv) ?_
  intro y hy ee181
  subst ee181
  refine ob12 (List.getElem?_eq_some_iff.mp hy) ?_
  intro hjl ee182
  subst ee182
  have htake := List.take_succ_eq_append_getElem hjl
  have c1 := ok.inn _ (List.getElem_mem hjl)
  have c2 : W[j] ∉ W.take j := fun z => by
   have := ok.nod.sublist (List.take_sublist (j + 1) W)
   rw [htake, List.nodup_append] at this
   exact this.2.2 _ z _ (List.mem_singleton.mpr rfl) rfl
  refine zbs c1.1 c1.2 (go_b (zca (zai (a := false) (by rw [zep, zcp zaj, decide_eq_false c2]) (zaT ?_))))
  dsimp only [zgW, zah, zag, zaA, E_tt, zam, Loc.get, zgz, zgs, zjs, zaa, tgOk, onT, zae, zaf, zad, zss, zsz, zab]
  refine zbp zaj (by rw [List.length_take]; unfold zax; lia) ?_
  rw [if_neg c2, zbC, ← htake]
  exact hK _ _ ⟨rfl, _, rfl⟩
 ·intro ρ σ' zz48
  refine ob57 zz48 ?_
  clear zz48
  intro ee183
  subst ee183
  intro t4 ee184
  subst ee184
  rw [List.length_map, List.take_length]
  have hE := (Ext.rfl (σ := σ)).upd (o := .dict (W.map V.int)) hg
  exact zm3 (h.ext hE) (hE _ _ hm) (hE _ _ hw) ok hlen (hT _ hE)
end
section
variable {k : Nat} {σ : Store} {Q : V → Store → Prop} {X : XP}
theorem zpR (s : Nat) : upto 0 (2 * (s : Int)) 2 = (List.range s).map fun j : Nat => 2 * (j : Int) := by
 have e : ((2 * (s : Int) - 0 + 2 - 1) / 2).toNat = s := by lia
 unfold upto
 rw [if_pos (by lia), e]
 congr 1
 funext j
 lia
theorem ziJ {x d r l w : Addr} {rs : List Addr} {n : Int} {T P : List (Int × Int)} {W : List Int} (h : NetAt σ x d r rs n T) (hl : σ l = some (.list (P.map pr))) (hs : ∀ p ∈ P, p ∈ T) (hd : Disj P) (hw : σ w = some (.list (W.map V.int)))
  (hlen : W.length ≤ 1000) (ok : WayOk n T (mt P.reverse) W)
  (hyes : ∀ σ' b, Ext σ σ' → σ b = none → σ' b = some (.list ((zb0 n.toNat (mtB (mt P.reverse) (steps W).reverse)).map pr)) → Q (.ref b) σ') :
  (sem zas zay (k + 4) true).run "" "turned" [.ref x, .ref l, .ref w] σ Q X := by
 have hlo := h.lo
 have hhi := h.hi
 refine zaw (F := zhB) rfl ⟨rfl, ?_⟩
 dsimp only [zhB, zah, zag, zao, zam, zaB, zar, zal, zmc, zmn, zlc, zln, zac, zan, zr0, zrs, Nat.reduceAdd, Nat.reduceSub, Loc.get, zgz, zgs, zjs, zaa, tgOk, onT, zae, zaf, zad, zss, zsz, zab, za4, zjp]
 refine zgF h hl hs hd fun f hf => ?_
 have hE := (Ext.rfl (σ := σ)).upd (o := .list (zaN n.toNat (mt P.reverse))) hf
 have hf1 : (σ.upd f (.list (zaN n.toNat (mt P.reverse)))) f = some (.list (zaN n.toNat (mt P.reverse))) := zaj
 generalize σ.upd f (.list (zaN n.toNat (mt P.reverse))) = σ1 at *
 dsimp only [zgT, zah, zag, zbH, zaY, zam, zb9, zaB, zar, zal, Loc.get, zgz, zgs, zjs, zaa, tgOk, onT, zae, zaf, zad, zss, zsz, zab, za4, zk1]
 refine zi0 (h.ext hE) hf1 (hE _ _ hw) ok hlen fun σ2 hE2 => go_b (zaT ?_)
 have hE' := hE.trans hE2
 have hw2 := hE' _ _ hw
 have hwf : w ≠ f := zbb hw hf
 have ev := ok.even
 dsimp only [zgU, zah, zag, zbQ, zaL, zam, E_b1, I_r3, za0, zcX, Loc.get, zgz, zgs, zjs, zaa, tgOk, onT, zae, zaf, zad, zss, zsz, zab]
 simp only [ze0 hw2, List.length_map]
 refine ⟨by lia, ?_⟩
 have hlw : ((W.length : Nat) : Int) = 2 * ((W.length / 2 : Nat) : Int) := by lia
 rw [hlw, zpR, List.map_map]
 refine zaV (fun j ρ σ' => Ext σ σ' ∧ σ' f = some (.list (zaN n.toNat (mtB (mt P.reverse) ((steps W).take j).reverse))) ∧ ∃ t4, ρ = [some (.ref x), some (.ref l), some (.ref w), some (.ref f), t4])
  ⟨hE', by simp [mtB]; exact hE2 _ _ hf1, _, rfl⟩ (fun _ _ _ _ => trivial) ?_ ?_
 ·intro j v ρ σ' K hv zz49
  refine ob58 zz49 ?_
  clear zz49
  intro g1 g2 t4 ee185
  subst ee185
  intro hK
  have hj : j < W.length / 2 := by have := zpt hv; simpa using this
  have hv' : v = .int (2 * (j : Int)) := by
   rw [List.getElem?_map, List.getElem?_range hj] at hv; cases hv; rfl
  subst hv'
  have l0 : 2 * j < W.length := by lia
  have l1 : 2 * j + 1 < W.length := by lia
  have ha : W[2 * j]? = some W[2 * j] := List.getElem?_eq_getElem l0
  have hb' : W[2 * j + 1]? = some W[2 * j + 1] := List.getElem?_eq_getElem l1
  have hst := zhL W j _ _ ha hb'
  have i0 := ok.inn _ (List.getElem_mem l0)
  have i1 := ok.inn _ (List.getElem_mem l1)
  generalize W[2 * j] = a at *
  generalize W[2 * j + 1] = b at *
  have e0 : (2 * (j : Int)).toNat = 2 * j := by lia
  have e1 : (2 * (j : Int) + 1).toNat = 2 * j + 1 := by lia
  have hw3 := g1 _ _ hw
  dsimp only [zg0, zah, zag, zaA, zaL, zam, zbX, zaR, Loc.get, zgz, zgs, zjs, zaa, tgOk, onT, zae, zaf, zad, zss, zsz, zab]
  simp only [zhu]
  refine zcq hw3 (by lia) (by rw [e1]; exact hb') (zcq hw3 (by lia) (by rw [e0]; exact ha) ?_)
  refine zbY g2 i0.1 (by rw [zcz]; lia) ?_
  rw [zdt i0.1]
  have hw4 : (σ'.upd f (.list (zaN n.toNat fun i => if i = a then b else mtB (mt P.reverse) ((steps W).take j).reverse i))) w = some (.list (W.map V.int)) := (zaq hwf).trans hw3
  refine zcq hw4 (by lia) (by rw [e0]; exact ha) (zcq hw4 (by lia) (by rw [e1]; exact hb') ?_)
  refine zbY zaj i1.1 (by rw [zcz]; lia) ?_
  rw [zdt i1.1, zbC]
  refine hK _ _ ⟨g1.upd hf, ?_, _, rfl⟩
  have hjs : j < (steps W).length := by rw [zfN]; exact hj
  rw [zaj, List.take_succ_eq_append_getElem hjs, List.reverse_append]
  have : (steps W)[j] = (a, b) := by rw [List.getElem?_eq_getElem hjs] at hst; exact Option.some.inj hst
  rw [this]
  rfl
 ·intro ρ σ' zz50
  refine ob58 zz50 ?_
  clear zz50
  intro g1 g2 t4 ee186
  subst ee186
  rw [List.length_map, List.length_range, ← zfN, List.take_length] at g2
  dsimp only [zgV, zah, zag, zaK, zam, zaB, zar, zal, Loc.get, zgz, zgs, zjs, zaa, tgOk, onT, zae, zaf, zad, zss, zsz, zab, za4, znM]
  refine zkU g2 (by lia) fun b hb' => ?_
  exact hyes _ b (g1.upd (g1.none hb')) (g1.none hb') zaj
theorem zmT {σ : Store} {q : Int × Int} {l : List (Int × Int)} : memV σ (pr q) (l.map pr) = some (decide (q ∈ l)) := by
 induction l with
 | nil => rfl
 | cons y l ih =>
  have : memV σ (pr q) ((y :: l).map pr) = (match eqv σ fuel (pr y) (pr q), memV σ (pr q) (l.map pr) with | some a, some b => some (a || b) | _, _ => none) := rfl
  rw [this, ih]
  have h : eqv σ fuel (pr y) (pr q) = some ((y.1 == q.1) && ((y.2 == q.2) && true)) := rfl
  rw [h]
  have : (y = q) = (y.1 = q.1 ∧ y.2 = q.2) := by rw [Prod.ext_iff]
  by_cases e : y = q
  ·subst e; simp
  ·have h2 : ¬ q = y := fun h => e h.symm
   have h3 : (y.1 == q.1 && (y.2 == q.2 && true)) = false := by
    rw [this] at e
    rw [Bool.and_true, Bool.eq_false_iff]
    intro g
    simp only [Bool.and_eq_true, beq_iff_eq] at g
    exact e g
   rw [h3]
   simp [h2]
theorem zpr {a : Addr} {q : Int × Int} {l : List (Int × Int)} (h : σ a = some (.list (l.map pr))) : inV σ (pr q) (.ref a) = some (decide (q ∈ l)) := by
 simp only [inV, h]; exact zmT
end
section
variable {M bk : Int → Int} {r : Int}
inductive Up (M bk : Int → Int) (r : Int) : Int → List Int → Prop
 | root : Up M bk r r [r]
 | step {v : Int} {L : List Int} : v ≠ r → Up M bk r (bk (M v)) L → Up M bk r v (v :: M v :: L)
inductive Wk (M bk : Int → Int) (r : Int) : Int → List Int → Int → Prop
 | nil {v : Int} : Wk M bk r v [] v
 | cons {v x : Int} {W : List Int} : v ≠ r → Wk M bk r (bk (M v)) W x → Wk M bk r v (v :: M v :: W) x
noncomputable def ev : List Int → List Int
 | [] => []
 | [a] => [a]
 | a :: _ :: l => a :: ev l
noncomputable def od : List Int → List Int
 | [] => []
 | [_] => []
 | _ :: b :: l => b :: od l
theorem Up.uniq {v : Int} {L L' : List Int} (h : Up M bk r v L) : Up M bk r v L' → L = L' := by
 induction h generalizing L' with
 | root => intro g; cases g with
  | root => rfl
  | step n _ => exact absurd rfl n
 | step n _ ih => intro g; cases g with
  | root => exact absurd rfl n
  | step _ g => rw [ih g]
theorem Up.head {v : Int} {L : List Int} (h : Up M bk r v L) : v ∈ ev L := by
 cases h with
 | root => exact List.mem_singleton.mpr rfl
 | step _ _ => exact List.mem_cons_self
theorem Up.end {v : Int} {L : List Int} (h : Up M bk r v L) : r ∈ ev L := by
 induction h with
 | root => exact List.mem_singleton.mpr rfl
 | step _ _ ih => exact List.mem_cons_of_mem _ ih
theorem Wk.up {v x : Int} {W X : List Int} (h : Wk M bk r v W x) : Up M bk r x X → Up M bk r v (W ++ X) := by
 induction h with
 | nil => exact id
 | cons n _ ih => exact fun g => .step n (ih g)
theorem Wk.evA {v x : Int} {W X : List Int} (h : Wk M bk r v W x) : ev (W ++ X) = ev W ++ ev X := by
 induction h with
 | nil => rfl
 | cons _ _ ih => exact congrArg (_ :: ·) ih
theorem Wk.odA {v x : Int} {W X : List Int} (h : Wk M bk r v W x) : od (W ++ X) = od W ++ od X := by
 induction h with
 | nil => rfl
 | cons _ _ ih => exact congrArg (_ :: ·) ih
theorem zcy {a : Int} : ∀ {L : List Int}, a ∈ L → a ∈ ev L ∨ a ∈ od L
 | [], h => absurd h List.not_mem_nil
 | [_], h => .inl h
 | b :: c :: L, h => by
  rcases List.mem_cons.mp h with rfl | h
  ·exact .inl List.mem_cons_self
  rcases List.mem_cons.mp h with rfl | h
  ·exact .inr List.mem_cons_self
  ·exact (zcy h).imp (List.mem_cons_of_mem _) (List.mem_cons_of_mem _)
theorem zaF {a : Int} : ∀ {L : List Int}, a ∈ ev L → a ∈ L
 | [], h => h
 | [_], h => h
 | b :: c :: L, h => by
  rcases List.mem_cons.mp h with rfl | h
  ·exact List.mem_cons_self
  ·exact List.mem_cons_of_mem _ (List.mem_cons_of_mem _ (zaF h))
theorem zcw {a : Int} : ∀ {L : List Int}, a ∈ od L → a ∈ L
 | [], h => h
 | [_], h => absurd h List.not_mem_nil
 | b :: c :: L, h => by
  rcases List.mem_cons.mp h with rfl | h
  ·exact List.mem_cons_of_mem _ List.mem_cons_self
  ·exact List.mem_cons_of_mem _ (List.mem_cons_of_mem _ (zcw h))
theorem zot {a : Int} : ∀ {L : List Int}, L.Nodup → a ∈ ev L → a ∉ od L
 | [], _, h => absurd h List.not_mem_nil
 | [_], _, _ => List.not_mem_nil
 | b :: c :: L, n, h => fun g => by
  have n1 := List.nodup_cons.mp n
  have n2 := List.nodup_cons.mp n1.2
  rcases List.mem_cons.mp h with e | h2
  ·rcases List.mem_cons.mp g with e2 | g
   ·exact n1.1 (e ▸ e2 ▸ List.mem_cons_self)
   ·exact n1.1 (e ▸ List.mem_cons_of_mem _ (zcw g))
  ·rcases List.mem_cons.mp g with e2 | g
   ·exact n2.1 (e2 ▸ zaF h2)
   ·exact zot n2.2 h2 g
theorem Up.at {v a : Int} {L : List Int} (h : Up M bk r v L) : a ∈ ev L → ∃ W X, L = W ++ X ∧ Wk M bk r v W a ∧ Up M bk r a X := by
 induction h with
 | root => intro g; cases List.mem_singleton.mp g; exact ⟨[], [r], rfl, .nil, .root⟩
 | @step v L n u ih =>
  intro g
  rcases List.mem_cons.mp g with rfl | g
  ·exact ⟨[], _, rfl, .nil, .step n u⟩
  ·refine ob1 (ih g) ?_
   intro W X e w x
   exact ⟨v :: M v :: W, X, by rw [e]; rfl, .cons n w, x⟩
theorem Up.odd {v y : Int} {L : List Int} (h : Up M bk r v L) : y ∈ od L → ∃ u ∈ ev L, u ≠ r ∧ M u = y := by
 induction h with
 | root => intro g; exact absurd g List.not_mem_nil
 | @step v L n u ih =>
  intro g
  rcases List.mem_cons.mp g with rfl | g
  ·exact ⟨v, List.mem_cons_self, n, rfl⟩
  ·refine ob7 (ih g) ?_
   intro u m k
   exact ⟨u, List.mem_cons_of_mem _ m, k⟩
theorem Up.next {v u : Int} {L : List Int} (h : Up M bk r v L) (m : u ∈ ev L) (n : u ≠ r) : M u ∈ od L := by
 induction h with
 | root => exact absurd (List.mem_singleton.mp m) n
 | @step v L _ _ ih =>
  rcases List.mem_cons.mp m with rfl | m
  ·exact List.mem_cons_self
  ·exact List.mem_cons_of_mem _ (ih m)
theorem Wk.next {v u x : Int} {W : List Int} (h : Wk M bk r v W x) (m : u ∈ ev W) : u ≠ r ∧ M u ∈ od W := by
 induction h with
 | nil => exact absurd m List.not_mem_nil
 | @cons v x W n _ ih =>
  rcases List.mem_cons.mp m with rfl | m
  ·exact ⟨n, List.mem_cons_self⟩
  ·exact ⟨(ih m).1, List.mem_cons_of_mem _ (ih m).2⟩
theorem Wk.odd {v y x : Int} {W : List Int} (h : Wk M bk r v W x) (m : y ∈ od W) : ∃ u ∈ ev W, u ≠ r ∧ M u = y := by
 induction h with
 | nil => exact absurd m List.not_mem_nil
 | @cons v x W n _ ih =>
  rcases List.mem_cons.mp m with rfl | m
  ·exact ⟨v, List.mem_cons_self, n, rfl⟩
  ·refine ob7 (ih m) ?_
   intro u k l
   exact ⟨u, List.mem_cons_of_mem _ k, l⟩
theorem Up.congr {bk' : Int → Int} {v : Int} {L : List Int} (h : Up M bk r v L) : (∀ y ∈ od L, bk' y = bk y) → Up M bk' r v L := by
 induction h with
 | root => exact fun _ => .root
 | @step v L n _ ih =>
  intro g
  refine .step n ?_
  rw [g _ List.mem_cons_self]
  exact ih fun y hy => g y (List.mem_cons_of_mem _ hy)
theorem Wk.congr {bk' : Int → Int} {v x : Int} {W : List Int} (h : Wk M bk r v W x) : (∀ y ∈ od W, bk' y = bk y) → Wk M bk' r v W x := by
 induction h with
 | nil => exact fun _ => .nil
 | @cons v x W n _ ih =>
  intro g
  refine .cons n ?_
  rw [g _ List.mem_cons_self]
  exact ih fun y hy => g y (List.mem_cons_of_mem _ hy)
end
section
variable {M bk bs : Int → Int} {O : Int → Bool} {r : Int}
structure Bl (M bk bs : Int → Int) (O : Int → Bool) (r : Int) : Prop where
 rt : O r = true
 mt : ∀ v, O v = true → v ≠ r → M (M v) = v ∧ M v ≠ r
 nx : ∀ v, O v = true → v ≠ r → O (bk (M v)) = true
 up : ∀ v, O v = true → ∃ A B, Wk M bk r v A (bs v) ∧ Up M bk r (bs v) B ∧ (A ++ B).Nodup ∧ (∀ x ∈ A, O x = true ∧ bs x = bs v) ∧ ∀ x ∈ B, x ≠ bs v → bs x ≠ bs v
 bb : ∀ v, O v = true → O (bs v) = true ∧ bs (bs v) = bs v
 ib : ∀ v, O v = false → bs v = v
 tp : ∀ b, O b = true → bs b = b → b ≠ r → O (M b) = false
theorem Bl.evO (h : Bl M bk bs O r) {v : Int} {L : List Int} (u : Up M bk r v L) : O v = true → ∀ x ∈ ev L, O x = true := by
 induction u with
 | root => intro _ x m; rw [List.mem_singleton.mp m]; exact h.rt
 | @step v L n _ ih =>
  intro o x m
  rcases List.mem_cons.mp m with rfl | m
  ·exact o
  ·exact ih (h.nx v o n) x m
theorem Bl.nd (h : Bl M bk bs O r) {v : Int} {L : List Int} (o : O v = true) (u : Up M bk r v L) : L.Nodup := by
 refine ob15 (h.up v o) ?_
 intro A B w b n _
 rw [u.uniq (w.up b)]; exact n
theorem Bl.same (h : Bl M bk bs O r) {a : Int} (o : O a = true) (n : a ≠ r) (o' : O (M a) = true) : bs (M a) = bs a := by
 have hm := h.mt a o n
 have hb := h.bb _ o'
 refine ob59 (h.up (M a) o') ?_
 intro A B w _ _ hA _
 generalize bs (M a) = c at *
 cases w with
 | nil => exact absurd ((h.tp _ hb.1 hb.2 hm.2).symm.trans (hm.1.symm ▸ o)) Bool.false_ne_true
 | cons _ w => exact ((hA a (List.mem_cons_of_mem _ (List.mem_cons.mpr (.inl hm.1.symm)))).2).symm
end
section
variable {M bk bs : Int → Int} {O : Int → Bool} {r : Int}
theorem Wk.at {v a x : Int} {W : List Int} (h : Wk M bk r v W x) : a ∈ ev W → ∃ P Q, W = P ++ Q ∧ Wk M bk r v P a ∧ Wk M bk r a Q x := by
 induction h with
 | nil => intro g; exact absurd g List.not_mem_nil
 | @cons v x W n w ih =>
  intro g
  rcases List.mem_cons.mp g with rfl | g
  ·exact ⟨[], _, rfl, .nil, .cons n w⟩
  ·refine ob1 (ih g) ?_
   intro P Q e p q
   exact ⟨v :: M v :: P, Q, by rw [e]; rfl, .cons n p, q⟩
theorem Wk.cmp {v a b : Int} {P Q : List Int} (h : Wk M bk r v P a) : Wk M bk r v Q b → (∃ R, P = Q ++ R ∧ Wk M bk r b R a) ∨ ∃ R, Q = P ++ R ∧ Wk M bk r a R b := by
 induction h generalizing Q b with
 | nil => exact fun g => .inr ⟨Q, rfl, g⟩
 | @cons v x W n w ih =>
  intro g
  cases g with
  | nil => exact .inl ⟨_, rfl, .cons n w⟩
  | cons n' g =>
   rcases ih g with ⟨R, e, k⟩ | ⟨R, e, k⟩
   ·exact .inl ⟨R, by rw [e]; rfl, k⟩
   ·exact .inr ⟨R, by rw [e]; rfl, k⟩
theorem Wk.hd {v x : Int} {W : List Int} (h : Wk M bk r v W x) : v = x ∨ v ∈ ev W := by
 cases h with
 | nil => exact .inl rfl
 | cons _ _ => exact .inr List.mem_cons_self
structure Side (M bk bs : Int → Int) (O : Int → Bool) (r v m : Int) (W : List Int) (x : Int) (X : List Int) : Prop where
 o : O v = true
 w : Wk M bk r v W x
 u : Up M bk r x X
 b : bs x = m
 n : ∀ y ∈ W, bs y ≠ m
variable {v m x : Int} {W X : List Int}
theorem Side.all (s : Side M bk bs O r v m W x X) : Up M bk r v (W ++ X) := s.w.up s.u
theorem Side.nd (s : Side M bk bs O r v m W x X) (h : Bl M bk bs O r) : (W ++ X).Nodup := h.nd s.o s.all
theorem Side.evo (s : Side M bk bs O r v m W x X) (h : Bl M bk bs O r) {y : Int} (g : y ∈ ev W) : O y = true := h.evO s.all s.o y (by rw [s.w.evA]; exact List.mem_append_left _ g)
theorem Side.xo (s : Side M bk bs O r v m W x X) (h : Bl M bk bs O r) : O x = true := h.evO s.all s.o x (by rw [s.w.evA]; exact List.mem_append_right _ s.u.head)
theorem Side.base (s : Side M bk bs O r v m W x X) (h : Bl M bk bs O r) {y : Int} (g : y ∈ ev W) : bs y ∈ ev W := by
 have o := s.evo h g
 have ny := s.n y (zaF g)
 refine ob59 (h.up y o) ?_
 intro A B w _ _ hA _
 refine ob1 (s.w.at g) ?_
 intro P Q e p q
 have nx : bs y ≠ x := fun z => ny (by rw [← (h.bb y o).2, z]; exact s.b)
 rcases q.cmp w with ⟨R, e2, k⟩ | ⟨R, e2, k⟩
 ·rcases k.hd with z | z
  ·exact absurd z nx
  ·rw [e, e2, p.evA, w.evA]
   exact List.mem_append_right _ (List.mem_append_right _ z)
 ·rcases k.hd with z | z
  ·exact absurd z.symm nx
  ·exact absurd ((hA x (by rw [e2]; exact List.mem_append_right _ (zaF z))).2.symm.trans s.b) ny
theorem Side.baseO (s : Side M bk bs O r v m W x X) (h : Bl M bk bs O r) {y : Int} (g : y ∈ W) (o : O y = true) : bs y ∈ ev W := by
 rcases zcy g with g | g
 ·exact s.base h g
 ·refine ob2 (s.w.odd g) ?_
  intro u k n ee187
  subst ee187
  rw [h.same (s.evo h k) n o]
  exact s.base h k
theorem Side.tail (s : Side M bk bs O r v m W x X) (h : Bl M bk bs O r) : ∃ A B, X = A ++ B ∧ Wk M bk r x A m ∧ Up M bk r m B ∧ (∀ y ∈ A, O y = true ∧ bs y = m) ∧ ∀ y ∈ B, y ≠ m → bs y ≠ m := by
 refine ob59 (h.up x (s.xo h)) ?_
 intro A B w b _ hA hB
 rw [s.b] at w b hA hB
 exact ⟨A, B, s.u.uniq (w.up b), w, b, hA, hB⟩
theorem Side.apart {v' x' : Int} {W' X' : List Int} (s : Side M bk bs O r v m W x X) (s' : Side M bk bs O r v' m W' x' X') (h : Bl M bk bs O r) (d : ∀ y ∈ W, ∀ z ∈ W', bs y ≠ bs z) {y : Int} (g : y ∈ W) : y ∉ W' ++ X' := by
 intro k
 rcases List.mem_append.mp k with k | k
 ·exact d y g y k rfl
 ·refine ob15 (s.tail h) ?_
  intro A B e _ u _
  refine ob59 (s'.tail h) ?_
  intro A' B' e' _ u' hA' _
  rw [e'] at k
  rcases List.mem_append.mp k with k | k
  ·exact s.n y g (hA' y k).2
  ·have nd := s.nd h
   rw [e, u.uniq u'] at nd
   exact (List.nodup_append.mp nd).2.2 y g y (List.mem_append_right _ k) rfl
end
section
variable {M bk bs : Int → Int} {O : Int → Bool} {r : Int}
noncomputable def mkb (f : Int → Int) (c : Int) : List Int → Int → Int
 | [] => f
 | [_] => f
 | p :: v :: W => mkb (fun x => if x = p then c else f x) v W
theorem zek {f : Int → Int} {c x : Int} : ∀ {W : List Int}, x ∉ ev W → mkb f c W x = f x
 | [], _ => rfl
 | [_], _ => rfl
 | p :: v :: W, h => by
  show mkb _ v W x = _
  rw [zek fun z => h (List.mem_cons_of_mem _ z)]
  exact if_neg fun (z : x = p) => h (List.mem_cons.mpr (.inl z))
theorem Wk.trans {v a x : Int} {P Q : List Int} (h : Wk M bk r v P a) : Wk M bk r a Q x → Wk M bk r v (P ++ Q) x := by
 induction h with
 | nil => exact id
 | cons n _ ih => exact fun g => .cons n (ih g)
theorem Wk.back {B : Int → Int} {v x : Int} {W : List Int} (h : Wk M bk r v W x) : ∀ {f : Int → Int} {c : Int}, (∀ y ∈ ev W, B y = mkb f c W y) → W.Nodup → (∀ u ∈ ev W, M (M u) = u ∧ M u ≠ r) →
  ∀ y ∈ ev W, ∃ K, (∀ k ∈ K, k ∈ W) ∧ K.Nodup ∧ Wk M B r (M y) K c := by
 induction h with
 | nil => intro f c _ _ _ y m; exact absurd m List.not_mem_nil
 | @cons v x W n w ih =>
  intro f c hB nd hm y m
  have n1 := List.nodup_cons.mp nd
  have n2 := List.nodup_cons.mp n1.2
  have hv := hm v List.mem_cons_self
  have bv : B v = c := by
   rw [hB v List.mem_cons_self]
   show mkb _ (M v) W v = c
   rw [zek fun z => n1.1 (List.mem_cons_of_mem _ (zaF z))]
   exact if_pos rfl
  have w1 : Wk M B r (M v) [M v, v] c := by
   have : Wk M B r (M v) (M v :: M (M v) :: []) c := .cons hv.2 (by rw [hv.1, bv]; exact .nil)
   rw [hv.1] at this; exact this
  rcases List.mem_cons.mp m with rfl | m
  ·exact ⟨_, fun k hk => by
    rcases List.mem_cons.mp hk with rfl | hk
    ·exact List.mem_cons_of_mem _ List.mem_cons_self
    ·exact List.mem_singleton.mp hk ▸ List.mem_cons_self, List.nodup_cons.mpr ⟨fun z => n1.1 (List.mem_cons.mpr (.inl (List.mem_singleton.mp z).symm)), List.nodup_cons.mpr ⟨List.not_mem_nil, .nil⟩⟩, w1⟩
  ·refine ob2 (ih (f := fun x => if x = v then c else f x) (c := M v) (fun z hz => hB z (List.mem_cons_of_mem _ hz)) n2.2 (fun u hu => hm u (List.mem_cons_of_mem _ hu)) y m) ?_
   intro K k1 k2 k3
   refine ⟨K ++ [M v, v], fun k hk => ?_, List.nodup_append.mpr ⟨k2, ?_, ?_⟩, k3.trans w1⟩
   ·rcases List.mem_append.mp hk with hk | hk
    ·exact List.mem_cons_of_mem _ (List.mem_cons_of_mem _ (k1 k hk))
    ·rcases List.mem_cons.mp hk with rfl | hk
     ·exact List.mem_cons_of_mem _ List.mem_cons_self
     ·exact List.mem_singleton.mp hk ▸ List.mem_cons_self
   ·exact List.nodup_cons.mpr ⟨fun z => n1.1 (List.mem_cons.mpr (.inl (List.mem_singleton.mp z).symm)), List.nodup_cons.mpr ⟨List.not_mem_nil, .nil⟩⟩
   ·intro a ha b hb e
    subst e
    have ha := k1 a ha
    rcases List.mem_cons.mp hb with rfl | hb
    ·exact n2.1 ha
    ·exact n1.1 (List.mem_cons_of_mem _ (List.mem_singleton.mp hb ▸ ha))
theorem Wk.first (S : Int → Prop) {z x : Int} {A : List Int} (h : Wk M bk r z A x) : (∀ y ∈ od A, ¬ S y) ∨ ∃ P u Q, A = P ++ Q ∧ Wk M bk r z P u ∧ Wk M bk r u Q x ∧ u ∈ ev Q ∧ S (M u) ∧ ∀ y ∈ od P, ¬ S y := by
 induction h with
 | nil => exact .inl fun y m => absurd m List.not_mem_nil
 | @cons v x W n w ih =>
  by_cases s : S (M v)
  ·exact .inr ⟨[], v, _, rfl, .nil, .cons n w, List.mem_cons_self, s, fun y m => absurd m List.not_mem_nil⟩
  ·rcases ih with g | ⟨P, u, Q, e, p, q, k, l, o⟩
   ·exact .inl fun y m => (List.mem_cons.mp m).elim (fun e => e ▸ s) (g y)
   ·exact .inr ⟨v :: M v :: P, u, Q, by rw [e]; rfl, .cons n p, q, k, l, fun y m => (List.mem_cons.mp m).elim (fun e => e ▸ s) (o y)⟩
end
section
variable {M bk bs B : Int → Int} {O : Int → Bool} {r one other m x1 x2 : Int} {W1 W2 X1 X2 : List Int}
structure Rng (M bk bs B : Int → Int) (O : Int → Bool) (r one other m x1 x2 : Int) (W1 W2 X1 X2 : List Int) : Prop where
 h : Bl M bk bs O r
 s1 : Side M bk bs O r one m W1 x1 X1
 s2 : Side M bk bs O r other m W2 x2 X2
 dj : ∀ y ∈ W1, ∀ z ∈ W2, bs y ≠ bs z
 f1 : ∃ f, ∀ y ∈ ev W1, B y = mkb f other W1 y
 f2 : ∃ f, ∀ y ∈ ev W2, B y = mkb f one W2 y
 f0 : ∀ y, y ∉ ev W1 → y ∉ ev W2 → B y = bk y
theorem Rng.sym (R : Rng M bk bs B O r one other m x1 x2 W1 W2 X1 X2) : Rng M bk bs B O r other one m x2 x1 W2 W1 X2 X1 :=
 ⟨R.h, R.s2, R.s1, fun y hy z hz e => R.dj z hz y hy e.symm, R.f2, R.f1, fun y a b => R.f0 y b a⟩
theorem Rng.ap (R : Rng M bk bs B O r one other m x1 x2 W1 W2 X1 X2) {y : Int} (g : y ∈ W1) : y ∉ W2 ++ X2 := R.s1.apart R.s2 R.h R.dj g
theorem Rng.od1 (R : Rng M bk bs B O r one other m x1 x2 W1 W2 X1 X2) {y : Int} (g : y ∈ od (W1 ++ X1)) : B y = bk y :=
 R.f0 y (fun z => zot (R.s1.nd R.h) (by rw [R.s1.w.evA]; exact List.mem_append_left _ z) g) fun z => R.sym.ap (zaF z) (zcw g)
theorem Rng.w1 (R : Rng M bk bs B O r one other m x1 x2 W1 W2 X1 X2) : Wk M B r one W1 x1 :=
 R.s1.w.congr fun y g => R.od1 (by rw [R.s1.w.odA]; exact List.mem_append_left _ g)
theorem Rng.tail (R : Rng M bk bs B O r one other m x1 x2 W1 W2 X1 X2) {Lm : List Int} (u : Up M bk r m Lm) : ∃ Q, X1 = Q ++ Lm ∧ Wk M B r x1 Q m ∧ Up M B r m Lm ∧ ∀ y ∈ Q, O y = true ∧ bs y = m := by
 refine ob59 (R.s1.tail R.h) ?_
 intro A L e w l hA _
 cases l.uniq u
 have k : ∀ y ∈ od X1, B y = bk y := fun y g => R.od1 (by rw [R.s1.w.odA]; exact List.mem_append_right _ g)
 rw [e, w.odA] at k
 exact ⟨A, e, w.congr fun y g => k y (List.mem_append_left _ g), l.congr fun y g => k y (List.mem_append_right _ g), hA⟩
theorem Rng.mm (R : Rng M bk bs B O r one other m x1 x2 W1 W2 X1 X2) {u : Int} (g : u ∈ ev W1) : M (M u) = u ∧ M u ≠ r := R.h.mt u (R.s1.evo R.h g) (R.s1.w.next g).1
theorem Rng.turn (R : Rng M bk bs B O r one other m x1 x2 W1 W2 X1 X2) {Lm : List Int} (um : Up M bk r m Lm) {y : Int} (g : y ∈ ev W1) :
  ∃ A, Wk M B r (M y) A m ∧ (A ++ Lm).Nodup ∧ ∀ x ∈ A, x ∈ W1 ∨ x ∈ W2 ∨ (O x = true ∧ bs x = m) := by
 refine lift fun g9 k9 => ?_
 refine ob12 R.f1 ?_
 intro f hf
 refine ob2 (R.s1.w.back hf (List.nodup_append.mp (R.s1.nd R.h)).1 (fun u hu => R.mm hu) y g) ?_
 intro K k1 k2 k3
 refine ob4 (R.sym.tail um) ?_
 intro Q e w _ hQ
 refine k9 ?_
 clear k9 g9
 refine ⟨K ++ (W2 ++ Q), k3.trans (R.sym.w1.trans w), ?_, fun x hx => ?_⟩
 ·have n2 := R.s2.nd R.h
  rw [e, ← List.append_assoc] at n2
  rw [List.append_assoc]
  refine List.nodup_append.mpr ⟨k2, n2, fun a ha b hb ee => R.ap (k1 a ha) ?_⟩
  rw [e, ← List.append_assoc, ee]; exact hb
 ·rcases List.mem_append.mp hx with hx | hx
  ·exact .inl (k1 x hx)
  ·exact (List.mem_append.mp hx).elim (fun z => .inr (.inl z)) fun z => .inr (.inr (hQ x z))
theorem Bl.par (h : Bl M bk bs O r) {v x : Int} {W X : List Int} (s : Side M bk bs O r v m W x X) {b u : Int} {P Xu : List Int} (ob : O b = true) (p : Wk M bk r b P u) (g : Up M bk r u Xu) (n : u ≠ r)
  (hS : ∀ y ∈ od P, y ∉ ev W) (hu : M u ∉ od (W ++ X)) : ∀ a ∈ P, a ∉ W := by
 have evP : ∀ c ∈ ev P, O c = true := fun c hc => h.evO (p.up g) ob c (by rw [p.evA]; exact List.mem_append_left _ hc)
 have ee : ∀ a, a ∈ ev P → a ∉ ev W := fun a ha hw => by
  refine ob1 (p.at ha) ?_
  intro P1 P2 _ _ p2
  obtain ⟨W', Y, e, w', y⟩ := s.all.at (a := a) (by rw [s.w.evA]; exact List.mem_append_left _ hw)
  rw [e, w'.odA, y.uniq (p2.up g), p2.odA] at hu
  exact hu (List.mem_append_right _ (List.mem_append_right _ (g.next g.head n)))
 intro a ha hw
 rcases zcy ha with a1 | a1 <;> rcases zcy hw with w1 | w1
 ·exact ee a a1 w1
 ·refine ob2 (s.w.odd w1) ?_
  intro d hd nd ee188
  subst ee188
  have := (p.next a1).2
  rw [(h.mt d (s.evo h hd) nd).1] at this
  exact hS _ this hd
 ·exact hS a a1 w1
 ·refine ob2 (p.odd a1) ?_
  intro c hc nc ee189
  subst ee189
  refine ob2 (s.w.odd w1) ?_
  intro d hd nd e
  have : d = c := by rw [← (h.mt d (s.evo h hd) nd).1, e, (h.mt c (evP c hc) nc).1]
  exact ee c hc (this ▸ hd)
theorem Rng.pd (R : Rng M bk bs B O r one other m x1 x2 W1 W2 X1 X2) {b u : Int} {P Xu : List Int} (ob : O b = true) (p : Wk M bk r b P u) (g : Up M bk r u Xu) (n : u ≠ r)
  (hS : ∀ y ∈ od P, ¬ (y ∈ ev W1 ∨ y ∈ ev W2)) (hu : M u ∈ ev W1) : ∀ a ∈ P, a ∉ W1 ∧ a ∉ W2 ∧ ¬ (O a = true ∧ bs a = m) := by
 have evP : ∀ c ∈ ev P, O c = true := fun c hc => R.h.evO (p.up g) ob c (by rw [p.evA]; exact List.mem_append_left _ hc)
 have c1 := R.h.par R.s1 ob p g n (fun y hy z => hS y hy (.inl z)) fun z => zot (R.s1.nd R.h) (by rw [R.s1.w.evA]; exact List.mem_append_left _ hu) z
 have c2 := R.h.par R.s2 ob p g n (fun y hy z => hS y hy (.inr z)) fun z => R.ap (zaF hu) (zcw z)
 have c3 : ∀ a ∈ ev P, bs a ≠ m := fun a ha e => by
  refine lift fun g9 k9 => ?_
  refine ob1 (p.at ha) ?_
  intro P1 P2 _ _ p2
  refine ob59 (R.h.up a (evP a ha)) ?_
  intro A L w l _ hA _
  refine ob15 (R.s1.tail R.h) ?_
  intro A' L' e' _ l' _
  refine k9 ?_
  clear k9 g9
  rw [e] at w l hA
  have k : M u ∈ A ++ L := by
   rw [← (p2.up g).uniq (w.up l)]
   exact List.mem_append_right _ (zcw (g.next g.head n))
  rcases List.mem_append.mp k with k | k
  ·exact R.s1.n _ (zaF hu) (hA _ k).2
  ·have nd := R.s1.nd R.h
   rw [e', l'.uniq l] at nd
   exact (List.nodup_append.mp nd).2.2 _ (zaF hu) _ (List.mem_append_right _ k) rfl
 refine fun a ha => ⟨c1 a ha, c2 a ha, fun ⟨o, e⟩ => ?_⟩
 rcases zcy ha with a1 | a1
 ·exact c3 a a1 e
 ·refine ob2 (p.odd a1) ?_
  intro c hc nc ee190
  subst ee190
  exact c3 c hc ((R.h.same (evP c hc) nc o).symm.trans e)
end
section
variable {M bk bs B : Int → Int} {O : Int → Bool} {r one other m x1 x2 : Int} {W1 W2 X1 X2 : List Int}
theorem Up.wk {v : Int} {L : List Int} (h : Up M bk r v L) : ∃ W, L = W ++ [r] ∧ Wk M bk r v W r := by
 induction h with
 | root => exact ⟨[], rfl, .nil⟩
 | @step v L n _ ih =>
  refine ob7 ih ?_
  clear ih
  intro W e w
  exact ⟨v :: M v :: W, by rw [e]; rfl, .cons n w⟩
noncomputable def Cm (bs : Int → Int) (m : Int) (W1 W2 : List Int) (x : Int) : Prop := bs x = m ∨ ∃ y, (y ∈ W1 ∨ y ∈ W2) ∧ bs y = bs x
theorem Cm.sym {x : Int} (h : Cm bs m W1 W2 x) : Cm bs m W2 W1 x := h.imp id fun ⟨y, a, b⟩ => ⟨y, a.symm, b⟩
theorem Rng.mo (R : Rng M bk bs B O r one other m x1 x2 W1 W2 X1 X2) : O m = true ∧ bs m = m := by
 have := R.h.bb x1 (R.s1.xo R.h)
 rw [R.s1.b] at this; exact this
theorem Rng.from (R : Rng M bk bs B O r one other m x1 x2 W1 W2 X1 X2) {Lm Lc : List Int} (um : Up M bk r m Lm) {c : Int} (g : c ∈ ev W1) (uc : Up M bk r c Lc) :
  ∃ Q, Wk M B r c Q m ∧ Lc = Q ++ Lm ∧ ∀ x ∈ Q, x ∈ W1 ∨ (O x = true ∧ bs x = m) := by
 refine lift fun g9 k9 => ?_
 refine ob1 (R.w1.at g) ?_
 intro P Q e _ q
 refine ob1 (R.s1.w.at g) ?_
 intro P' Q' e' p' q'
 refine ob4 (R.tail um) ?_
 intro Q2 e2 w2 _ hQ2
 refine k9 ?_
 clear k9 g9
 have q3 : Wk M B r c Q' x1 := q'.congr fun y hy => R.od1 (by rw [R.s1.w.odA, e', p'.odA]; exact List.mem_append_left _ (List.mem_append_right _ hy))
 refine ⟨Q' ++ Q2, q3.trans w2, ?_, fun x hx => (List.mem_append.mp hx).imp (fun z => ?_) (hQ2 x)⟩
 ·rw [uc.uniq (q'.up R.s1.u), e2, List.append_assoc]
 ·rw [e']; exact List.mem_append_right _ z
theorem Rng.bm (R : Rng M bk bs B O r one other m x1 x2 W1 W2 X1 X2) {y : Int} (g : y ∈ W1) (o : O (bs y) = true) : bs y ∈ ev W1 := by
 cases oy : O y with
 | true => exact R.s1.baseO R.h g oy
 | false => rw [R.h.ib y oy, oy] at o; cases o
theorem Rng.n1 (R : Rng M bk bs B O r one other m x1 x2 W1 W2 X1 X2) {Lm : List Int} (um : Up M bk r m Lm) {z : Int} (o : O z = true) (b : bs z ∈ ev W1) :
  ∃ A, Wk M B r z A m ∧ (A ++ Lm).Nodup ∧ ∀ x ∈ A, Cm bs m W1 W2 x := by
 refine ob59 (R.h.up z o) ?_
 intro A L w l nd hA _
 refine ob2 (R.from um b l) ?_
 intro Q q e hQ
 rcases w.first (fun y => y ∈ ev W1 ∨ y ∈ ev W2) with g | ⟨P, u, Q0, eA, p, q0, ku, su, hp⟩
 ·refine ⟨A ++ Q, (w.congr fun y hy => R.f0 y (fun z => g y hy (.inl z)) fun z => g y hy (.inr z)).trans q, by rw [List.append_assoc, ← e]; exact nd, fun x hx => ?_⟩
  rcases List.mem_append.mp hx with hx | hx
  ·exact .inr ⟨bs z, .inl (zaF b), by rw [(R.h.bb z o).2, (hA x hx).2]⟩
  ·exact (hQ x hx).elim (fun z => .inr ⟨x, .inl z, rfl⟩) fun z => .inl z.2
 ·have nr := (q0.next ku).1
  have mA : M u ∈ A := by rw [eA]; exact List.mem_append_right _ (zcw (q0.next ku).2)
  have hu : M u ∈ ev W1 := su.elim id fun k => absurd ((R.h.bb z o).2.trans (hA _ mA).2.symm) (R.dj _ (zaF b) _ (zaF k))
  have ou : O u = true := (hA u (by rw [eA]; exact List.mem_append_right _ (zaF ku))).1
  refine ob2 (R.turn um hu) ?_
  intro A1 a1 a2 a3
  rw [(R.h.mt u ou nr).1] at a1
  rw [eA, List.append_assoc] at nd
  have nP := List.nodup_append.mp nd
  have pd := R.pd o p (q0.up l) nr hp hu
  refine ⟨P ++ A1, (p.congr fun y hy => R.f0 y (fun z => hp y hy (.inl z)) fun z => hp y hy (.inr z)).trans a1, ?_, fun x hx => ?_⟩
  ·rw [List.append_assoc]
   refine List.nodup_append.mpr ⟨nP.1, a2, fun a ha c hc ee => ?_⟩
   subst ee
   rcases List.mem_append.mp hc with hc | hc
   ·have := pd a ha
    exact (a3 a hc).elim this.1 fun z => z.elim this.2.1 this.2.2
   ·exact nP.2.2 a ha a (List.mem_append_right _ (by rw [e]; exact List.mem_append_right _ hc)) rfl
  ·rcases List.mem_append.mp hx with hx | hx
   ·exact .inr ⟨bs z, .inl (zaF b), by rw [(R.h.bb z o).2, (hA x (by rw [eA]; exact List.mem_append_left _ hx)).2]⟩
   ·exact (a3 x hx).elim (fun z => .inr ⟨x, .inl z, rfl⟩) fun z => z.elim (fun z => .inr ⟨x, .inr z, rfl⟩) fun z => .inl z.2
theorem Rng.inn (R : Rng M bk bs B O r one other m x1 x2 W1 W2 X1 X2) {z y : Int} (o : O z = false) (g : y ∈ W1) (e : bs y = bs z) : ∃ u ∈ ev W1, M u = z := by
 rw [R.h.ib z o] at e
 have oy : O y = false := by
  cases oy : O y with
  | false => rfl
  | true => have := (R.h.bb y oy).1; rw [e, o] at this; cases this
 rw [R.h.ib y oy] at e
 subst e
 rcases zcy g with k | k
 ·rw [R.s1.evo R.h k] at o; cases o
 ·refine ob2 (R.s1.w.odd k) ?_
  intro u a _ c
  exact ⟨u, a, c⟩
theorem Rng.n1' (R : Rng M bk bs B O r one other m x1 x2 W1 W2 X1 X2) {Lm : List Int} (um : Up M bk r m Lm) {z y : Int} (g : y ∈ W1) (e : bs y = bs z) :
  ∃ A, Wk M B r z A m ∧ (A ++ Lm).Nodup ∧ ∀ x ∈ A, Cm bs m W1 W2 x := by
 cases o : O z with
 | true => exact R.n1 um o (e ▸ R.bm g (by rw [e]; exact (R.h.bb z o).1))
 | false =>
  refine ob7 (R.inn o g e) ?_
  intro u hu ee191
  subst ee191
  refine ob2 (R.turn um hu) ?_
  intro A1 a1 a2 a3
  exact ⟨A1, a1, a2, fun x hx => (a3 x hx).elim (fun z => .inr ⟨x, .inl z, rfl⟩) fun z => z.elim (fun z => .inr ⟨x, .inr z, rfl⟩) fun z => .inl z.2⟩
theorem Rng.new (R : Rng M bk bs B O r one other m x1 x2 W1 W2 X1 X2) {Lm : List Int} (um : Up M bk r m Lm) {z : Int} (c : Cm bs m W1 W2 z) :
  ∃ A, Wk M B r z A m ∧ (A ++ Lm).Nodup ∧ ∀ x ∈ A, Cm bs m W1 W2 x := by
 rcases c with c | ⟨y, g | g, e⟩
 ·cases o : O z with
  | false => rw [R.h.ib z o] at c; rw [c, R.mo.1] at o; cases o
  | true =>
   refine ob59 (R.h.up z o) ?_
   intro A L w l nd hA _
   rw [c] at w l hA
   cases l.uniq um
   exact ⟨A, w.congr fun y hy => R.f0 y (fun k => R.s1.n y (zaF k) (hA y (zcw hy)).2) fun k => R.s2.n y (zaF k) (hA y (zcw hy)).2, nd, fun x hx => .inl (hA x hx).2⟩
 ·exact R.n1' um g e
 ·refine ob2 (R.sym.n1' um g e) ?_
  intro A a1 a2 a3
  exact ⟨A, a1, a2, fun x hx => (a3 x hx).sym⟩
end
section
variable {M bk bs B : Int → Int} {O : Int → Bool} {r one other m x1 x2 : Int} {W1 W2 X1 X2 : List Int}
theorem Rng.n2 (R : Rng M bk bs B O r one other m x1 x2 W1 W2 X1 X2) {Lm : List Int} (um : Up M bk r m Lm) {z u : Int} {A L P Q0 : List Int} (c : ¬ Cm bs m W1 W2 z) (ob : O (bs z) = true) (l : Up M bk r (bs z) L) (nd : (A ++ L).Nodup)
  (hA : ∀ x ∈ A, O x = true ∧ bs x = bs z) (hL : ∀ x ∈ L, x ≠ bs z → bs x ≠ bs z) (e : L = P ++ Q0) (p : Wk M bk r (bs z) P u) (q0 : Up M bk r u Q0) (nr : u ≠ r) (hp : ∀ y ∈ od P, ¬ (y ∈ ev W1 ∨ y ∈ ev W2)) (hu : M u ∈ ev W1) :
  ∃ L', Up M B r (bs z) L' ∧ (A ++ L').Nodup ∧ ∀ x ∈ L', x ≠ bs z → Cm bs m W1 W2 x ∨ bs x ≠ bs z := by
 have ou : O u = true := R.h.evO l ob u (by rw [e, p.evA]; exact List.mem_append_right _ q0.head)
 refine ob2 (R.turn um hu) ?_
 intro A1 a1 a2 a3
 rw [(R.h.mt u ou nr).1] at a1
 have pd := R.pd ob p q0 nr hp hu
 refine ob4 (R.tail um) ?_
 intro _ _ _ um' _
 -- the way up from the meeting place lies in the old way
 have sub : ∀ x ∈ Lm, x ∈ Q0 := fun x hx => by
  refine ob1 (R.h.up u ou) ?_
  intro A2 L2 w2 l2 _
  have eb := R.h.same ou nr (R.s1.evo R.h hu)
  have cb : bs u ∈ ev W1 := eb ▸ R.s1.base R.h hu
  refine ob2 (R.from um cb l2) ?_
  intro Q _ e2 _
  rw [q0.uniq (w2.up l2), e2]
  exact List.mem_append_right _ (List.mem_append_right _ hx)
 rw [e] at nd hL
 have n1 := List.nodup_append.mp nd
 have n3 := List.nodup_append.mp n1.2.1
 refine ⟨P ++ (A1 ++ Lm), (p.congr fun y hy => R.f0 y (fun k => hp y hy (.inl k)) fun k => hp y hy (.inr k)).up (a1.up um'), ?_, fun x hx ne => ?_⟩
 ·refine List.nodup_append.mpr ⟨n1.1, List.nodup_append.mpr ⟨n3.1, a2, fun a ha b hb ee => ?_⟩, fun a ha b hb ee => ?_⟩
  ·subst ee
   rcases List.mem_append.mp hb with hb | hb
   ·have := pd a ha
    exact (a3 a hb).elim this.1 fun k => k.elim this.2.1 this.2.2
   ·exact n3.2.2 a ha a (sub a hb) rfl
  ·subst ee
   rcases List.mem_append.mp hb with hb | hb
   ·exact n1.2.2 a ha a (List.mem_append_left _ hb) rfl
   rcases List.mem_append.mp hb with hb | hb
   ·have g := (hA a ha).2
    exact (a3 a hb).elim (fun k => c (.inr ⟨a, .inl k, g⟩)) fun k => k.elim (fun k => c (.inr ⟨a, .inr k, g⟩)) fun k => c (.inl (g.symm.trans k.2))
   ·exact n1.2.2 a ha a (List.mem_append_right _ (sub a hb)) rfl
 ·rcases List.mem_append.mp hx with hx | hx
  ·exact .inr (hL x (List.mem_append_left _ hx) ne)
  rcases List.mem_append.mp hx with hx | hx
  ·exact .inl ((a3 x hx).elim (fun k => .inr ⟨x, .inl k, rfl⟩) fun k => k.elim (fun k => .inr ⟨x, .inr k, rfl⟩) fun k => .inl k.2)
  ·exact .inr (hL x (List.mem_append_right _ (sub x hx)) ne)
theorem Rng.old (R : Rng M bk bs B O r one other m x1 x2 W1 W2 X1 X2) {Lm : List Int} (um : Up M bk r m Lm) {z : Int} (o : O z = true) (c : ¬ Cm bs m W1 W2 z) :
  ∃ A L, Wk M B r z A (bs z) ∧ Up M B r (bs z) L ∧ (A ++ L).Nodup ∧ (∀ x ∈ A, O x = true ∧ bs x = bs z) ∧ ∀ x ∈ L, x ≠ bs z → Cm bs m W1 W2 x ∨ bs x ≠ bs z := by
 refine ob59 (R.h.up z o) ?_
 intro A L w l nd hA hL
 have ob := (R.h.bb z o).1
 have w' : Wk M B r z A (bs z) := w.congr fun y hy => R.f0 y (fun k => c (.inr ⟨y, .inl (zaF k), (hA y (zcw hy)).2⟩)) fun k => c (.inr ⟨y, .inr (zaF k), (hA y (zcw hy)).2⟩)
 refine ob7 l.wk ?_
 intro W e v
 rcases v.first (fun y => y ∈ ev W1 ∨ y ∈ ev W2) with g | ⟨P, u, Q0, eP, p, q0, ku, su, hp⟩
 ·refine ⟨A, L, w', ?_, nd, hA, fun x hx ne => .inr (hL x hx ne)⟩
  rw [e]
  exact (v.congr fun y hy => R.f0 y (fun k => g y hy (.inl k)) fun k => g y hy (.inr k)).up .root
 ·have nr := (q0.next ku).1
  have e2 : L = P ++ (Q0 ++ [r]) := by rw [e, eP, List.append_assoc]
  rcases su with su | su
  ·refine ob2 (R.n2 um c ob l nd hA hL e2 p (q0.up .root) nr hp su) ?_
   intro L' a b d
   exact ⟨A, L', w', a, b, hA, d⟩
  ·refine ob2 (R.sym.n2 um (fun k => c k.sym) ob l nd hA hL e2 p (q0.up .root) nr (fun y hy k => hp y hy k.symm) su) ?_
   intro L' a b d
   exact ⟨A, L', w', a, b, hA, fun x hx ne => (d x hx ne).imp Cm.sym id⟩
end
section
variable {M bk bs B : Int → Int} {O : Int → Bool} {r one other m x1 x2 : Int} {W1 W2 X1 X2 : List Int}
theorem Cm.of {x z : Int} (e : bs x = bs z) (h : Cm bs m W1 W2 z) : Cm bs m W1 W2 x := by
 unfold Cm at *; rw [e]; exact h
theorem Rng.inn2 (R : Rng M bk bs B O r one other m x1 x2 W1 W2 X1 X2) {z : Int} (o : O z = false) (c : Cm bs m W1 W2 z) : ∃ u, (u ∈ ev W1 ∨ u ∈ ev W2) ∧ M u = z ∧ M (M u) = u ∧ u ≠ r := by
 rcases c with c | ⟨y, g | g, e⟩
 ·rw [R.h.ib z o] at c; rw [c, R.mo.1] at o; cases o
 ·refine ob7 (R.inn o g e) ?_
  intro u a b
  exact ⟨u, .inl a, b, (R.mm a).1, (R.s1.w.next a).1⟩
 ·refine ob7 (R.sym.inn o g e) ?_
  intro u a b
  exact ⟨u, .inr a, b, (R.sym.mm a).1, (R.s2.w.next a).1⟩
theorem Rng.lm1 (R : Rng M bk bs B O r one other m x1 x2 W1 W2 X1 X2) {Lm : List Int} (um : Up M bk r m Lm) {x y : Int} (hx : x ∈ Lm) (g : y ∈ W1) : bs y ≠ bs x := by
 intro e
 have dis : ∀ b ∈ W1, b ≠ x := fun b hb ee => by
  refine ob7 (R.tail um) ?_
  intro Q e1 _
  have nd := R.s1.nd R.h
  rw [e1] at nd
  exact (List.nodup_append.mp nd).2.2 b hb x (List.mem_append_right _ hx) ee
 cases o : O (bs y) with
 | true =>
  have b := R.bm g o
  have ob := R.s1.evo R.h b
  have bb : bs (bs y) = bs y := by
   cases oy : O y with
   | true => exact (R.h.bb y oy).2
   | false => rw [R.h.ib y oy, R.h.ib y oy]
  refine ob59 (R.h.up (bs y) ob) ?_
  intro A L w l _ _ hL
  rw [bb] at w l hL
  refine ob2 (R.from um b l) ?_
  intro Q _ e2 _
  exact hL x (by rw [e2]; exact List.mem_append_right _ hx) (Ne.symm (dis _ (zaF b))) e.symm
 | false =>
  have oy : O y = false := by
   cases oy : O y with
   | false => rfl
   | true => rw [(R.h.bb y oy).1] at o; cases o
  have ox : O x = false := by
   cases ox : O x with
   | false => rfl
   | true => have := (R.h.bb x ox).1; rw [← e, o] at this; cases this
  rw [R.h.ib y oy, R.h.ib x ox] at e
  exact dis y g e
theorem Rng.lm (R : Rng M bk bs B O r one other m x1 x2 W1 W2 X1 X2) {Lm : List Int} (um : Up M bk r m Lm) {x : Int} (hx : x ∈ Lm) (n : x ≠ m) : ¬ Cm bs m W1 W2 x := by
 rintro (c | ⟨y, g | g, e⟩)
 ·refine ob59 (R.s1.tail R.h) ?_
  intro A L _ _ l _ hL
  cases l.uniq um
  exact hL x hx n c
 ·exact R.lm1 um hx g e
 ·exact R.sym.lm1 um hx g e
theorem Rng.bl (R : Rng M bk bs B O r one other m x1 x2 W1 W2 X1 X2) {bs' : Int → Int} {O' : Int → Bool} (h1 : ∀ x, Cm bs m W1 W2 x → bs' x = m) (h2 : ∀ x, ¬ Cm bs m W1 W2 x → bs' x = bs x)
  (ho : ∀ x, O' x = true ↔ O x = true ∨ Cm bs m W1 W2 x) : Bl M B bs' O' r := by
 refine ob15 (R.s1.tail R.h) ?_
 intro _ Lm _ _ um _
 refine ob4 (R.tail um) ?_
 intro _ _ _ um' _
 have cm : Cm bs m W1 W2 m := .inl R.mo.2
 have noS : ∀ v, O v = true → v ≠ r → ¬ Cm bs m W1 W2 v → B (M v) = bk (M v) := fun v o n c =>
  R.f0 _ (fun k => c (.inr ⟨M v, .inl (zaF k), R.h.same o n (R.s1.evo R.h k)⟩)) fun k => c (.inr ⟨M v, .inr (zaF k), R.h.same o n (R.s2.evo R.h k)⟩)
 have old : ∀ v, O' v = true → ¬ Cm bs m W1 W2 v → O v = true := fun v o c => ((ho v).mp o).resolve_right c
 refine ⟨(ho r).mpr (.inl R.h.rt), fun v o n => ?_, fun v o n => ?_, fun v o => ?_, fun v o => ?_, fun v o => ?_, fun b o e n => ?_⟩
 ·cases ov : O v with
  | true => exact R.h.mt v ov n
  | false =>
   obtain ⟨u, _, rfl, k, l⟩ := R.inn2 ov (((ho v).mp o).resolve_left (by rw [ov]; exact Bool.false_ne_true))
   rw [k]; exact ⟨rfl, l⟩
 ·by_cases c : Cm bs m W1 W2 v
  ·refine ob2 (R.new um c) ?_
   intro A a1 _ a3
   cases a1 with
   | nil =>
    have t := R.h.tp _ R.mo.1 R.mo.2 n
    rw [R.f0 _ (fun k => by rw [R.s1.evo R.h k] at t; cases t) fun k => by rw [R.s2.evo R.h k] at t; cases t]
    exact (ho _).mpr (.inl (R.h.nx _ R.mo.1 n))
   | cons _ w =>
    rcases w.hd with k | k
    ·rw [k]; exact (ho m).mpr (.inr cm)
    ·exact (ho _).mpr (.inr (a3 _ (List.mem_cons_of_mem _ (List.mem_cons_of_mem _ (zaF k)))))
  ·have ov := old v o c
   rw [noS v ov n c]
   exact (ho _).mpr (.inl (R.h.nx v ov n))
 ·by_cases c : Cm bs m W1 W2 v
  ·rw [h1 v c]
   refine ob2 (R.new um c) ?_
   intro A a1 a2 a3
   refine ⟨A, Lm, a1, um', a2, fun x hx => ⟨(ho x).mpr (.inr (a3 x hx)), h1 x (a3 x hx)⟩, fun x hx ne => ?_⟩
   have := R.lm um hx ne
   rw [h2 x this]
   exact fun k => this (.inl k)
  ·rw [h2 v c]
   refine ob59 (R.old um (old v o c) c) ?_
   intro A L a1 a2 a3 a4 a5
   refine ⟨A, L, a1, a2, a3, fun x hx => ⟨(ho x).mpr (.inl (a4 x hx).1), ?_⟩, fun x hx ne => ?_⟩
   ·rw [h2 x fun k => c (k.of (a4 x hx).2.symm)]; exact (a4 x hx).2
   ·by_cases cx : Cm bs m W1 W2 x
    ·rw [h1 x cx]; exact fun k => c (.inl k.symm)
    ·rw [h2 x cx]; exact (a5 x hx ne).resolve_left cx
 ·by_cases c : Cm bs m W1 W2 v
  ·rw [h1 v c]; exact ⟨(ho m).mpr (.inr cm), h1 m cm⟩
  ·rw [h2 v c]
   have k := R.h.bb v (old v o c)
   exact ⟨(ho _).mpr (.inl k.1), (h2 _ fun z => c (z.of k.2.symm)).trans k.2⟩
 ·have k : ¬ (O v = true ∨ Cm bs m W1 W2 v) := fun k => by rw [(ho v).mpr k] at o; cases o
  rw [h2 v fun z => k (.inr z)]
  exact R.h.ib v (Bool.eq_false_iff.mpr fun z => k (.inl z))
 ·refine Bool.eq_false_iff.mpr fun k => ?_
  have key : O b = true → bs b = b → False := fun ob eb => by
   have t := R.h.tp b ob eb n
   rcases (ho _).mp k with k | k
   ·rw [t] at k; cases k
   ·refine ob4 (R.inn2 t k) ?_
    intro u g e1 e2 _
    have : u = b := by rw [← e2, e1, (R.h.mt b ob n).1]
    subst this
    rcases g with g | g
    ·by_cases c : Cm bs m W1 W2 u
     ·exact R.s1.n u (zaF g) (eb.trans (e.symm.trans (h1 u c)))
     ·exact c (.inr ⟨u, .inl (zaF g), rfl⟩)
    ·by_cases c : Cm bs m W1 W2 u
     ·exact R.s2.n u (zaF g) (eb.trans (e.symm.trans (h1 u c)))
     ·exact c (.inr ⟨u, .inr (zaF g), rfl⟩)
  by_cases c : Cm bs m W1 W2 b
  ·have : b = m := e.symm.trans (h1 b c)
   rw [this] at key
   exact key R.mo.1 R.mo.2
  ·exact key (old b o c) ((h2 b c).symm.trans e)
end
section
variable {M bk bs : Int → Int} {O : Int → Bool} {r : Int}
theorem Bl.init : Bl M bk (fun v => v) (fun v => decide (v = r)) r := by
 refine ⟨decide_eq_true rfl, fun v o n => absurd (of_decide_eq_true o) n, fun v o n => absurd (of_decide_eq_true o) n, fun v o => ?_, fun v o => ⟨o, rfl⟩, fun v _ => rfl, fun b o _ n => absurd (of_decide_eq_true o) n⟩
 cases of_decide_eq_true o
 exact ⟨[], [r], .nil, .root, List.nodup_cons.mpr ⟨List.not_mem_nil, .nil⟩, fun x hx => absurd hx List.not_mem_nil, fun x hx n => n⟩
theorem Bl.grow (h : Bl M bk bs O r) {p j : Int} (op : O p = true) (oj : O j = false) (ow : O (M j) = false) (mj : M (M j) = j) (jr : j ≠ r) (hn : M j ≠ j) :
  Bl M (fun x => if x = j then p else bk x) bs (fun x => O x || decide (x = M j)) r := by
 have wr : M j ≠ r := fun e => by rw [e, h.rt] at ow; cases ow
 have nj : ∀ v, O v = true → v ≠ r → M v ≠ j := fun v o n e => by
  have := (h.mt v o n).1
  rw [e] at this
  rw [this, o] at ow; cases ow
 have nw : ∀ v, O v = true → v ≠ r → M v ≠ M j := fun v o n e => by
  have := (h.mt v o n).1
  rw [e, mj] at this
  rw [this, o] at oj; cases oj
 have odj : ∀ {v : Int} {L : List Int}, Up M bk r v L → O v = true → ∀ y ∈ od L, y ≠ j ∧ y ≠ M j := fun u o y hy => by
  refine ob2 (u.odd hy) ?_
  intro c hc n ee192
  subst ee192
  have oc := h.evO u o c hc
  exact ⟨nj c oc n, nw c oc n⟩
 have keep : ∀ {v : Int} {L : List Int}, Up M bk r v L → O v = true → Up M (fun x => if x = j then p else bk x) r v L := fun u o => u.congr fun y hy => if_neg (odj u o y hy).1
 have out : ∀ {v : Int} {L : List Int}, Up M bk r v L → O v = true → M j ∉ L ∧ j ∉ L := fun u o => by
  constructor
  ·intro k
   rcases zcy k with k | k
   ·rw [h.evO u o _ k] at ow; cases ow
   ·exact (odj u o _ k).2 rfl
  ·intro k
   rcases zcy k with k | k
   ·rw [h.evO u o _ k] at oj; cases oj
   ·exact (odj u o _ k).1 rfl
 have bsw : ∀ x, x ≠ M j → bs x ≠ M j := fun x n e => by
  cases ox : O x with
  | true => have := (h.bb x ox).1; rw [e, ow] at this; cases this
  | false => exact n ((h.ib x ox).symm.trans e)
 have ho : ∀ x, (O x || decide (x = M j)) = true ↔ O x = true ∨ x = M j := fun x => by rw [Bool.or_eq_true, decide_eq_true_eq]
 refine ⟨(ho r).mpr (.inl h.rt), fun v o n => ?_, fun v o n => ?_, fun v o => ?_, fun v o => ?_, fun v o => ?_, fun b o e n => ?_⟩
 ·rcases (ho v).mp o with o | rfl
  ·exact h.mt v o n
  ·rw [mj]; exact ⟨rfl, jr⟩
 ·refine (ho _).mpr (.inl ?_)
  rcases (ho v).mp o with o | rfl
  ·show O (if M v = j then p else bk (M v)) = true
   rw [if_neg (nj v o n)]; exact h.nx v o n
  ·show O (if M (M j) = j then p else bk (M (M j))) = true
   rw [if_pos mj]; exact op
 ·rcases (ho v).mp o with o | rfl
  ·refine ob59 (h.up v o) ?_
   intro A L w l nd hA hL
   have ob := (h.bb v o).1
   refine ⟨A, L, w.congr fun y hy => if_neg ?_, keep l ob, nd, fun x hx => ⟨(ho x).mpr (.inl (hA x hx).1), (hA x hx).2⟩, hL⟩
   exact (odj (w.up l) o y (by rw [w.odA]; exact List.mem_append_left _ hy)).1
  ·refine ob15 (h.up p op) ?_
   intro A L w l nd _
   have u := w.up l
   rw [h.ib _ ow]
   have k := out u op
   refine ⟨[], M j :: M (M j) :: (A ++ L), .nil, .step wr ?_, ?_, fun x hx => absurd hx List.not_mem_nil, fun x _ n => bsw x n⟩
   ·show Up M _ r (if M (M j) = j then p else bk (M (M j))) _
    rw [if_pos mj]; exact keep u op
   ·rw [mj]
    refine List.nodup_cons.mpr ⟨fun z => ?_, List.nodup_cons.mpr ⟨k.2, nd⟩⟩
    rcases List.mem_cons.mp z with z | z
    ·exact hn z
    ·exact k.1 z
 ·rcases (ho v).mp o with o | rfl
  ·exact ⟨(ho _).mpr (.inl (h.bb v o).1), (h.bb v o).2⟩
  ·rw [h.ib _ ow]; exact ⟨o, h.ib _ ow⟩
 ·have k : ¬ (O v = true ∨ v = M j) := fun k => by rw [(ho v).mpr k] at o; cases o
  exact h.ib v (Bool.eq_false_iff.mpr fun z => k (.inl z))
 ·refine Bool.eq_false_iff.mpr fun k => ?_
  rcases (ho b).mp o with o | rfl
  ·rcases (ho _).mp k with k | k
   ·rw [h.tp b o e n] at k; cases k
   ·exact nw b o n k
  ·rw [mj] at k
   rcases (ho j).mp k with k | k
   ·rw [oj] at k; cases k
   ·exact hn k.symm
end
section
variable {M bk bs : Int → Int} {O : Int → Bool} {r : Int}
theorem Up.firstE (p : Int → Prop) {v : Int} {L : List Int} (h : Up M bk r v L) : (∃ a ∈ ev L, p a) → ∃ W x X, L = W ++ X ∧ Wk M bk r v W x ∧ Up M bk r x X ∧ p x ∧ ∀ y ∈ ev W, ¬ p y := by
 induction h with
 | root =>
  intro zz51
  refine ob7 zz51 ?_
  clear zz51
  intro a ha pa
  exact ⟨[], r, [r], rfl, .nil, .root, List.mem_singleton.mp ha ▸ pa, fun y hy => absurd hy List.not_mem_nil⟩
 | @step v L n u ih =>
  intro zz52
  refine ob7 zz52 ?_
  clear zz52
  intro a ha pa
  by_cases pv : p v
  ·exact ⟨[], v, _, rfl, .nil, .step n u, pv, fun y hy => absurd hy List.not_mem_nil⟩
  ·rcases List.mem_cons.mp ha with rfl | ha
   ·exact absurd pa pv
   ·refine ob21 (ih ⟨a, ha, pa⟩) ?_
    intro W x X e w k l o
    exact ⟨v :: M v :: W, x, X, by rw [e]; rfl, .cons n w, k, l, fun y hy => (List.mem_cons.mp hy).elim (fun z => z ▸ pv) (o y)⟩
structure Seen (M bk bs : Int → Int) (r one : Int) (seen : List Int) : Prop where
 all : ∀ {L : List Int}, Up M bk r one L → ∀ y ∈ ev L, bs y ∈ seen
 on : ∀ b ∈ seen, bs b = b ∧ ∀ {L : List Int}, Up M bk r one L → b ∈ ev L
structure Met (M bk bs : Int → Int) (O : Int → Bool) (r other : Int) (seen W : List Int) (x : Int) (X : List Int) : Prop where
 w : Wk M bk r other W x
 u : Up M bk r x X
 n : ∀ y ∈ W, bs y ∉ seen
theorem Bl.upL (h : Bl M bk bs O r) {v : Int} (o : O v = true) : ∃ L, Up M bk r v L := by
 refine ob1 (h.up v o) ?_
 intro A L w l _
 exact ⟨_, w.up l⟩
theorem Bl.sides (h : Bl M bk bs O r) {one other x2 : Int} {seen W2 X2 : List Int} (o1 : O one = true) (o2 : O other = true) (s : Seen M bk bs r one seen) (t : Met M bk bs O r other seen W2 x2 X2) (e : bs x2 ∈ seen) :
  ∃ W1 x1 X1, Side M bk bs O r one (bs x2) W1 x1 X1 ∧ Side M bk bs O r other (bs x2) W2 x2 X2 ∧ ∀ y ∈ W1, ∀ z ∈ W2, bs y ≠ bs z := by
 refine ob12 (h.upL o1) ?_
 intro L u
 have sO : ∀ b ∈ seen, O b = true := fun b hb => h.evO u o1 b ((s.on b hb).2 u)
 refine ob21 (u.firstE (fun y => bs y = bs x2) ⟨bs x2, (s.on _ e).2 u, (s.on _ e).1⟩) ?_
 intro W1 x1 X1 eL w1 u1 p1 f1
 have evO : ∀ y ∈ ev W1, O y = true ∧ bs y ∈ seen := fun y hy => by
  have : y ∈ ev L := by rw [eL, w1.evA]; exact List.mem_append_left _ hy
  exact ⟨h.evO u o1 y this, s.all u y this⟩
 have odd : ∀ y ∈ W1, O y = true → ∃ u ∈ ev W1, bs y = bs u := fun y hy o => by
  rcases zcy hy with k | k
  ·exact ⟨y, k, rfl⟩
  ·refine ob2 (w1.odd k) ?_
   intro c hc nc ee193
   subst ee193
   exact ⟨c, hc, h.same (evO c hc).1 nc o⟩
 refine ⟨W1, x1, X1, ⟨o1, w1, u1, p1, fun y hy ee => ?_⟩, ⟨o2, t.w, t.u, rfl, fun y hy ee => t.n y hy (ee ▸ e)⟩, fun y hy z hz ee => ?_⟩
 ·cases oy : O y with
  | true =>
   refine ob7 (odd y hy oy) ?_
   intro c hc k
   exact f1 c hc (k.symm.trans ee)
  | false => rw [h.ib y oy] at ee; rw [ee, sO _ e] at oy; cases oy
 ·cases oy : O y with
  | true =>
   refine ob7 (odd y hy oy) ?_
   intro c hc k
   exact t.n z hz (ee ▸ k ▸ (evO c hc).2)
  | false =>
   have oz : O z = false := by
    cases oz : O z with
    | false => rfl
    | true => have := (h.bb z oz).1; rw [← ee, h.ib y oy, oy] at this; cases this
   rw [h.ib y oy, h.ib z oz] at ee
   subst ee
   rcases zcy hy with k | k
   ·rw [(evO y k).1] at oy; cases oy
   refine ob2 (w1.odd k) ?_
   intro c hc nc e1
   rcases zcy hz with l | l
   ·rw [h.evO (t.w.up t.u) o2 y (by rw [t.w.evA]; exact List.mem_append_left _ l)] at oy; cases oy
   refine ob2 (t.w.odd l) ?_
   intro d hd nd e2
   have od2 := h.evO (t.w.up t.u) o2 d (by rw [t.w.evA]; exact List.mem_append_left _ hd)
   have : c = d := by rw [← (h.mt c (evO c hc).1 nc).1, e1, ← e2, (h.mt d od2 nd).1]
   exact t.n d (zaF hd) (this ▸ (evO c hc).2)
theorem Bl.next (h : Bl M bk bs O r) {b : Int} (o : O b = true) (n : b ≠ r) : O (bs (bk (M b))) = true ∧ bs (bs (bk (M b))) = bs (bk (M b)) := h.bb _ (h.nx b o n)
theorem Met.next (h : Bl M bk bs O r) {other x : Int} {seen W X : List Int} (o2 : O other = true) (t : Met M bk bs O r other seen W x X) (sO : ∀ b ∈ seen, O b = true) (k : bs x ∉ seen) (n : bs x ≠ r) :
  ∃ W' X', Met M bk bs O r other seen W' (bk (M (bs x))) X' ∧ X'.length < X.length := by
 have ox : O x = true := h.evO (t.w.up t.u) o2 x (by rw [t.w.evA]; exact List.mem_append_right _ t.u.head)
 have hb := h.bb x ox
 refine ob59 (h.up x ox) ?_
 intro A L w l _ hA _
 have eX := t.u.uniq (w.up l)
 generalize bs x = b at *
 cases l with
 | root => exact absurd rfl n
 | @step _ L' _ l' =>
  refine ⟨W ++ (A ++ [b, M b]), L', ⟨t.w.trans (w.trans (.cons n .nil)), l', fun y hy => ?_⟩, ?_⟩
  ·rcases List.mem_append.mp hy with hy | hy
   ·exact t.n y hy
   rcases List.mem_append.mp hy with hy | hy
   ·rw [(hA y hy).2]; exact k
   rcases List.mem_cons.mp hy with rfl | hy
   ·rw [hb.2]; exact k
   ·rw [List.mem_singleton.mp hy]
    have := h.tp b hb.1 hb.2 n
    rw [h.ib _ this]
    exact fun z => by rw [sO _ z] at this; cases this
  ·rw [eX, List.length_append, List.length_cons, List.length_cons]; lia
end
section
variable {M bk bs : Int → Int} {O : Int → Bool} {r : Int}
structure Sn (M bk bs : Int → Int) (r one : Int) (seen P : List Int) (b : Int) (X : List Int) : Prop where
 w : Wk M bk r one P b
 u : Up M bk r b X
 bb : bs b = b
 i : b ∈ seen
 all : ∀ y ∈ ev P, bs y ∈ seen
 on : ∀ c ∈ seen, bs c = c ∧ ∀ {L : List Int}, Up M bk r one L → c ∈ ev L
theorem Sn.init (h : Bl M bk bs O r) {one : Int} (o : O one = true) : ∃ P X, Sn M bk bs r one [bs one] P (bs one) X := by
 refine ob59 (h.up one o) ?_
 intro A L w l _ hA _
 refine ⟨A, L, w, l, (h.bb one o).2, List.mem_singleton.mpr rfl, fun y hy => List.mem_singleton.mpr (hA y (zaF hy)).2, fun c hc => ?_⟩
 cases List.mem_singleton.mp hc
 exact ⟨(h.bb one o).2, fun u => by rw [u.uniq (w.up l), w.evA]; exact List.mem_append_right _ l.head⟩
theorem Sn.next (h : Bl M bk bs O r) {one b : Int} {seen seen' P X : List Int} (o : O one = true) (s : Sn M bk bs r one seen P b X) (n : b ≠ r) (hs : ∀ c, c ∈ seen' ↔ c ∈ seen ∨ c = bs (bk (M b))) :
  ∃ P' X', Sn M bk bs r one seen' P' (bs (bk (M b))) X' ∧ X'.length < X.length := by
 have ob : O b = true := h.evO (s.w.up s.u) o b (by rw [s.w.evA]; exact List.mem_append_right _ s.u.head)
 have ox := h.nx b ob n
 have u := s.u
 cases u with
 | root => exact absurd rfl n
 | @step _ X0 _ x =>
  refine ob59 (h.up _ ox) ?_
  intro A L w l _ hA _
  have hb := h.bb _ ox
  generalize bs (bk (M b)) = c at *
  have e := x.uniq (w.up l)
  have w' : Wk M bk r one (P ++ (b :: M b :: A)) c := s.w.trans (.cons n w)
  refine ⟨P ++ (b :: M b :: A), L, ⟨w', l, hb.2, (hs c).mpr (.inr rfl), fun y hy => ?_, fun d hd => ?_⟩, ?_⟩
  ·rw [s.w.evA] at hy
   rcases List.mem_append.mp hy with hy | hy
   ·exact (hs _).mpr (.inl (s.all y hy))
   rcases List.mem_cons.mp hy with rfl | hy
   ·rw [s.bb]; exact (hs _).mpr (.inl s.i)
   ·rw [(hA y (zaF hy)).2]; exact (hs _).mpr (.inr rfl)
  ·rcases (hs d).mp hd with hd | rfl
   ·exact s.on d hd
   ·exact ⟨hb.2, fun u => by rw [u.uniq (w'.up l), w'.evA]; exact List.mem_append_right _ l.head⟩
  ·rw [e, List.length_cons, List.length_cons, List.length_append]; lia
theorem Sn.end {one : Int} {seen P X : List Int} (s : Sn M bk bs r one seen P r X) : Seen M bk bs r one seen := by
 have u := s.u
 cases u with
 | step n _ => exact absurd rfl n
 | root =>
  refine ⟨fun u y hy => ?_, s.on⟩
  rw [u.uniq (s.w.up .root), s.w.evA] at hy
  rcases List.mem_append.mp hy with hy | hy
  ·exact s.all y hy
  ·rw [List.mem_singleton.mp hy, s.bb]; exact s.i
theorem Seen.root {one : Int} {seen L : List Int} (s : Seen M bk bs r one seen) (u : Up M bk r one L) (b : bs r = r) : r ∈ seen := b ▸ s.all u r u.end
structure Mk (M bk bs : Int → Int) (r v c0 : Int) (x : Int) (W0 ring0 : List Int) (D W : List Int) (p c : Int) (f : Int → Int) (ring : List Int) : Prop where
 e : W0 = D ++ W
 d : Wk M bk r v D p
 w : Wk M bk r p W x
 k : ∀ y, mkb f c W y = mkb bk c0 W0 y
 o : ∀ y, y ∉ ev D → f y = bk y
 g : ∀ b, b ∈ ring ↔ b ∈ ring0 ∨ ∃ y ∈ D, bs y = b
theorem Mk.init {v c0 x : Int} {W0 ring0 : List Int} (w : Wk M bk r v W0 x) : Mk M bk bs r v c0 x W0 ring0 [] W0 v c0 bk ring0 :=
 ⟨rfl, .nil, w, fun _ => rfl, fun _ _ => rfl, fun b => ⟨.inl, fun z => z.elim id fun ⟨y, hy, _⟩ => absurd hy List.not_mem_nil⟩⟩
theorem Mk.next {v c0 x p c : Int} {W0 ring0 D W ring ring' : List Int} {f : Int → Int} (m : Mk M bk bs r v c0 x W0 ring0 D W p c f ring) (nd : W0.Nodup) (n : p ≠ x) (hr : ∀ b, b ∈ ring' ↔ b ∈ ring ∨ b = bs p ∨ b = bs (M p)) :
  ∃ D' W', Mk M bk bs r v c0 x W0 ring0 D' W' (f (M p)) (M p) (fun y => if y = p then c else f y) ring' ∧ W'.length < W.length ∧ f (M p) = bk (M p) ∧ (if M p = p then c else f (M p)) = f (M p) ∧ p ∈ ev W0 := by
 have w := m.w
 cases w with
 | nil => exact absurd rfl n
 | @cons _ _ W n0 w' =>
  have nd' := nd
  rw [m.e] at nd'
  have n2 := List.nodup_append.mp nd'
  have np := List.nodup_cons.mp n2.2.1
  have mp : M p ∉ ev D := fun z => n2.2.2 _ (zaF z) _ (List.mem_cons_of_mem _ List.mem_cons_self) rfl
  have ef : f (M p) = bk (M p) := m.o _ mp
  have nmp : M p ≠ p := fun z => np.1 (List.mem_cons.mpr (.inl z.symm))
  have d' : Wk M bk r v (D ++ [p, M p]) (bk (M p)) := m.d.trans (.cons n0 .nil)
  refine ⟨D ++ [p, M p], W, ⟨by rw [m.e, List.append_assoc]; rfl, ef ▸ d', ef ▸ w', fun y => m.k y, fun y hy => ?_, fun b => ?_⟩, by rw [List.length_cons, List.length_cons]; lia, ef, if_neg nmp, ?_⟩
  ·rw [m.d.evA] at hy
   have h1 : y ∉ ev D := fun z => hy (List.mem_append_left _ z)
   have h2 : y ≠ p := fun z => hy (List.mem_append_right _ (z ▸ List.mem_cons_self))
   show (if y = p then c else f y) = _
   rw [if_neg h2]; exact m.o y h1
  ·rw [hr b, m.g b]
   constructor
   ·rintro ((z | ⟨y, hy, z⟩) | z | z)
    ·exact .inl z
    ·exact .inr ⟨y, List.mem_append_left _ hy, z⟩
    ·exact .inr ⟨p, List.mem_append_right _ List.mem_cons_self, z.symm⟩
    ·exact .inr ⟨M p, List.mem_append_right _ (List.mem_cons_of_mem _ List.mem_cons_self), z.symm⟩
   ·rintro (z | ⟨y, hy, z⟩)
    ·exact .inl (.inl z)
    rcases List.mem_append.mp hy with hy | hy
    ·exact .inl (.inr ⟨y, hy, z⟩)
    rcases List.mem_cons.mp hy with rfl | hy
    ·exact .inr (.inl z.symm)
    ·exact .inr (.inr (List.mem_singleton.mp hy ▸ z.symm))
  ·rw [m.e, m.d.evA]; exact List.mem_append_right _ List.mem_cons_self
theorem Mk.end {v c0 x c : Int} {W0 ring0 D W ring : List Int} {f : Int → Int} (m : Mk M bk bs r v c0 x W0 ring0 D W x c f ring) (hn : x ∉ W0) : (∀ y, f y = mkb bk c0 W0 y) ∧ ∀ b, b ∈ ring ↔ b ∈ ring0 ∨ ∃ y ∈ W0, bs y = b := by
 have w := m.w
 rcases w.hd with _ | z
 ·cases w with
  | nil => 
   have e := m.e
   rw [List.append_nil] at e
   exact ⟨m.k, by rw [e]; exact m.g⟩
  | cons _ _ => exact absurd (by rw [m.e]; exact List.mem_append_right _ List.mem_cons_self) hn
 ·exact absurd (by rw [m.e]; exact List.mem_append_right _ (zaF z)) hn
end
theorem zof {l : List Int} (n : l.Nodup) : ∀ {k : List Int}, (∀ x ∈ l, x ∈ k) → l.length ≤ k.length := by
 induction l with
 | nil => intro k _; exact Nat.zero_le _
 | cons a l ih =>
  intro k h
  have na := List.nodup_cons.mp n
  have ha := h a List.mem_cons_self
  have := ih na.2 (k := k.erase a) fun x hx => (List.mem_erase_of_ne fun (e : x = a) => na.1 (e ▸ hx)).mpr (h x (List.mem_cons_of_mem _ hx))
  rw [List.length_erase_of_mem ha] at this
  have := List.length_pos_of_mem ha
  rw [List.length_cons]; lia
theorem zfD {f : Int → Int} : ∀ (n : Nat) {l : List Int}, l.length ≤ n → l.Nodup → (∀ x ∈ l, f x ∈ l ∧ f (f x) = x ∧ f x ≠ x) → l.length % 2 = 0
 | 0, l, h, _, _ => by rw [Nat.le_zero.mp h]
 | n + 1, [], _, _, _ => rfl
 | n + 1, a :: l, h, nd, hf => by
  have na := List.nodup_cons.mp nd
  refine ob16 (hf a List.mem_cons_self) ?_
  intro fa ffa ne
  have fl : f a ∈ l := (List.mem_cons.mp fa).resolve_left ne
  have le := List.length_erase_of_mem fl
  have pos := List.length_pos_of_mem fl
  rw [List.length_cons] at h ⊢
  have := zfD n (l := l.erase (f a)) (by lia) (na.2.erase _) fun x hx => by
   have xl := List.mem_of_mem_erase hx
   have xn : x ≠ f a := fun e => (e ▸ na.2.not_mem_erase : x ∉ l.erase (f a)) hx
   have xa : x ≠ a := fun e => na.1 (e ▸ xl)
   refine ob16 (hf x (List.mem_cons_of_mem _ xl)) ?_
   intro k1 k2 k3
   have h1 : f x ≠ a := fun e => xn (by rw [← k2, e])
   have h2 : f x ≠ f a := fun e => xa (by rw [← k2, e, ffa])
   exact ⟨(List.mem_erase_of_ne h2).mpr ((List.mem_cons.mp k1).resolve_left h1), k2, k3⟩
  lia
section
variable {M bk bs : Int → Int} {O : Int → Bool} {r : Int}
theorem Bl.bsr (h : Bl M bk bs O r) : bs r = r := by
 refine ob17 (h.up r h.rt) ?_
 intro A L w _
 generalize bs r = b at *
 cases w with
 | nil => rfl
 | cons n _ => exact absurd rfl n
theorem Bl.low (h : Bl M bk bs O r) {x : Int} (o : O x = true) (n : bs x ≠ x) : O (M x) = true ∧ bs (M x) = bs x ∧ x ≠ r := by
 have nr : x ≠ r := fun e => n (e ▸ h.bsr)
 refine ob59 (h.up x o) ?_
 intro A L w _ _ hA _
 generalize bs x = b at *
 cases w with
 | nil => exact absurd rfl n
 | cons _ _ => exact ⟨(hA _ (List.mem_cons_of_mem _ List.mem_cons_self)).1, (hA _ (List.mem_cons_of_mem _ List.mem_cons_self)).2, nr⟩
theorem Bl.hung (h : Bl M bk bs O r) {N : Int → Int} {dn : List Int} {I : Int → Prop} (nd : dn.Nodup) (hd : ∀ v, O v = true ↔ v ∈ dn) (hI : ∀ x, I x → O x = false ∧ O (M x) = true ∧ M (M x) = x ∧ M x ≠ r)
  (hM : ∀ v, O v = true → v ≠ r → M v ≠ v) (edge : ∀ v, O v = true → bs v = bs (N v) ∨ I (N v)) (hN : ∀ v, O v = true → N (N v) = v ∧ N v ≠ v) : False := by
 -- a blossom has a place that N pairs with an inner one
 have ex : ∀ b, O b = true → bs b = b → ∃ x, O x = true ∧ bs x = b ∧ I (N x) := fun b ob eb => Classical.byContradiction fun no => by
  have mem : ∀ x, x ∈ dn.filter (fun v => decide (bs v = b)) ↔ O x = true ∧ bs x = b := fun x => by rw [List.mem_filter, ← hd x, decide_eq_true_eq]
  have nf : (dn.filter (fun v => decide (bs v = b))).Nodup := nd.sublist List.filter_sublist
  generalize dn.filter (fun v => decide (bs v = b)) = l at *
  have e1 := zfD (f := N) l.length (Nat.le_refl _) nf fun x hx => by
   have k := (mem x).mp hx
   have j : bs (N x) = b := ((edge x k.1).resolve_right fun z => no ⟨x, k.1, k.2, z⟩).symm.trans k.2
   have on : O (N x) = true := by
    cases on : O (N x) with
    | true => rfl
    | false => rw [h.ib _ on] at j; rw [j, ob] at on; cases on
   exact ⟨(mem _).mpr ⟨on, j⟩, hN x k.1⟩
  have bl : b ∈ l := (mem b).mpr ⟨ob, eb⟩
  have e2 := zfD (f := M) (l.erase b).length (Nat.le_refl _) (nf.erase _) fun x hx => by
   have k := (mem x).mp (List.mem_of_mem_erase hx)
   have xb : x ≠ b := fun e => (e ▸ nf.not_mem_erase : x ∉ l.erase b) hx
   refine ob16 (h.low k.1 (fun e => xb (e.symm.trans k.2))) ?_
   intro k1 k2 k3
   have m := h.mt x k.1 k3
   refine ⟨(List.mem_erase_of_ne fun e => ?_).mpr ((mem _).mpr ⟨k1, k2.trans k.2⟩), m.1, hM x k.1 k3⟩
   have t := h.tp b ob eb (e ▸ m.2)
   rw [← e, m.1, k.1] at t; cases t
  rw [List.length_erase_of_mem bl] at e2
  have := List.length_pos_of_mem bl
  lia
 have ex' : ∀ b, ∃ x, O b = true → bs b = b → O x = true ∧ bs x = b ∧ I (N x) := fun b => by
  by_cases k : O b = true ∧ bs b = b
  ·refine ob12 (ex b k.1 k.2) ?_
   intro x hx
   exact ⟨x, fun _ _ => hx⟩
  ·exact ⟨0, fun a b => absurd ⟨a, b⟩ k⟩
 let g : Int → Int := fun b => Classical.choose (ex' b)
 have hg : ∀ b, O b = true → bs b = b → O (g b) = true ∧ bs (g b) = b ∧ I (N (g b)) := fun b => Classical.choose_spec (ex' b)
 have mem : ∀ b, b ∈ dn.filter (fun v => decide (bs v = v)) ↔ O b = true ∧ bs b = b := fun x => by rw [List.mem_filter, ← hd x, decide_eq_true_eq]
 have nf : (dn.filter (fun v => decide (bs v = v))).Nodup := nd.sublist List.filter_sublist
 generalize dn.filter (fun v => decide (bs v = v)) = l at *
 have rl : r ∈ l := (mem r).mpr ⟨h.rt, h.bsr⟩
 have inj : ∀ a ∈ l, ∀ b ∈ l, M (N (g a)) = M (N (g b)) → a = b := fun a ha b hb e => by
  have ka := hg a ((mem a).mp ha).1 ((mem a).mp ha).2
  have kb := hg b ((mem b).mp hb).1 ((mem b).mp hb).2
  have e1 : N (g a) = N (g b) := by rw [← (hI _ ka.2.2).2.2.1, e, (hI _ kb.2.2).2.2.1]
  have e2 : g a = g b := by rw [← (hN _ ka.1).1, e1, (hN _ kb.1).1]
  rw [← ka.2.1, e2, kb.2.1]
 have nm : (l.map fun b => M (N (g b))).Nodup := List.pairwise_map.mpr (List.Pairwise.imp_of_mem (fun ha hb n e => n (inj _ ha _ hb e)) nf)
 have := zof nm (k := l.erase r) fun y hy => by
  refine ob7 (List.mem_map.mp hy) ?_
  intro b hb ee194
  subst ee194
  have k := hg b ((mem b).mp hb).1 ((mem b).mp hb).2
  have i := hI _ k.2.2
  have bs' : bs (M (N (g b))) = M (N (g b)) := Classical.byContradiction fun z => by
   have := (h.low i.2.1 z).1
   rw [i.2.2.1, i.1] at this; cases this
  exact (List.mem_erase_of_ne i.2.2.2).mpr ((mem _).mpr ⟨i.2.1, bs'⟩)
 rw [List.length_map, List.length_erase_of_mem rl] at this
 have := List.length_pos_of_mem rl
 lia
end
noncomputable def cnt (p : Int → Bool) (n : Nat) : Nat := (List.range n).countP fun i : Nat => p (i : Int)
theorem zc2 {p : Int → Bool} {n : Nat} : cnt p (n + 1) = cnt p n + (if p n then 1 else 0) := by
 unfold cnt
 rw [List.range_succ, List.countP_append, List.countP_singleton]
theorem zin {p q : Int → Bool} : ∀ {n : Nat}, (∀ i : Int, 0 ≤ i → i < n → p i = q i) → cnt p n = cnt q n
 | 0, _ => rfl
 | n + 1, h => by rw [zc2, zc2, zin fun i h0 h1 => h i h0 (by lia), h n (by lia) (by lia)]
theorem zim {p q : Int → Bool} : ∀ {n : Nat}, (∀ i : Int, 0 ≤ i → i < n → p i = true → q i = true) → cnt p n ≤ cnt q n
 | 0, _ => Nat.le_refl _
 | n + 1, h => by
  rw [zc2, zc2]
  have := zim (n := n) fun i h0 h1 => h i h0 (by lia)
  have k := h n (by lia) (by lia)
  cases e : p n with
  | false => rw [if_neg Bool.false_ne_true]; lia
  | true => rw [k e, if_pos rfl]; lia
theorem zjT {p : Int → Bool} : ∀ {n : Nat}, cnt p n ≤ n
 | 0 => Nat.le_refl _
 | n + 1 => by
  rw [zc2]
  have := zjT (p := p) (n := n)
  cases p n
  ·rw [if_neg Bool.false_ne_true]; lia
  ·rw [if_pos rfl]; lia
theorem ze3 {p q : Int → Bool} {x : Int} : ∀ {n : Nat}, 0 ≤ x → x < n → p x = false → q x = true → (∀ i, i ≠ x → q i = p i) → cnt q n = cnt p n + 1
 | 0, h0, h1, _, _, _ => by lia
 | n + 1, h0, h1, hp, hq, h => by
  rw [zc2, zc2]
  by_cases e : x = n
  ·subst e
   rw [hp, hq, if_pos rfl, if_neg Bool.false_ne_true, zin fun i _ hi => h i (by lia)]
  ·rw [ze3 h0 (by lia) hp hq h, h n (fun z => e z.symm)]; lia
theorem zjS {p q : Int → Bool} {x : Int} {n : Nat} (h : ∀ i : Int, 0 ≤ i → i < n → p i = true → q i = true) (h0 : 0 ≤ x) (h1 : x < n) (hp : p x = false) (hq : q x = true) : cnt p n < cnt q n := by
 have e := ze3 (p := p) (q := fun i => if i = x then true else p i) h0 h1 hp (if_pos rfl) fun i hi => if_neg hi
 have := zim (p := fun i => if i = x then true else p i) (q := q) (n := n) fun i i0 i1 k => by
  by_cases c : i = x
  ·rw [c]; exact hq
  ·exact h i i0 i1 ((if_neg c).symm.trans k)
 lia
theorem zfF {p q : Int → Bool} {x z : Int} {n : Nat} (x0 : 0 ≤ x) (x1 : x < n) (z0 : 0 ≤ z) (z1 : z < n) (xz : x ≠ z) (px : p x = false) (qx : q x = true) (pz : p z = true) (qz : q z = false) (h : ∀ i, i ≠ x → i ≠ z → q i = p i) : cnt q n = cnt p n := by
 have e1 := ze3 (p := p) (q := fun i => if i = x then true else p i) x0 x1 px (if_pos rfl) fun i hi => if_neg hi
 have e2 := ze3 (p := q) (q := fun i => if i = x then true else p i) z0 z1 qz ((if_neg (Ne.symm xz)).trans pz) fun i hi => by
  by_cases c : i = x
  ·rw [c, qx]; exact if_pos rfl
  ·rw [h i c hi]; exact if_neg c
 lia
theorem zpF {p q : Int → Bool} {n : Nat} (h : cnt p n < cnt q n) : ∃ i : Int, 0 ≤ i ∧ i < n ∧ q i = true ∧ p i = false := Classical.byContradiction fun no => by
 have := zim (p := q) (q := p) (n := n) fun i h0 h1 hq => by
  cases e : p i with
  | true => rfl
  | false => exact absurd ⟨i, h0, h1, hq, e⟩ no
 lia
noncomputable def Mg (n : Nat) (E : Int → Int → Prop) (M : Int → Int) : Prop := ∀ i, 0 ≤ M i → (0 ≤ i ∧ i < n) ∧ M (M i) = i ∧ E i (M i)
section
variable {n : Nat} {E : Int → Int → Prop} {M : Int → Int}
noncomputable def cov (N : Int → Int) (n : Nat) : Nat := cnt (fun i => decide (0 ≤ N i)) n
theorem Mg.put {N N1 : Int → Int} {x y z : Int} (hN : Mg n E N) (rx : 0 ≤ x ∧ x < n) (ry : 0 ≤ y ∧ y < n) (e1 : E x y) (e2 : E y x) (v1 : N1 x = y) (v2 : N1 y = x) (v3 : z = x ∨ N1 z < 0) (v4 : ∀ i, i ≠ x → i ≠ y → i ≠ z → N1 i = N i)
  (h : ∀ i, 0 ≤ N i → i ≠ x → i ≠ y → i ≠ z → N i ≠ x ∧ N i ≠ y ∧ N i ≠ z) : Mg n E N1 := fun i hi => by
 by_cases i1 : i = x
 ·subst i1; rw [v1, v2]; exact ⟨rx, rfl, e1⟩
 by_cases i2 : i = y
 ·subst i2; rw [v2, v1]; exact ⟨ry, rfl, e2⟩
 by_cases i3 : i = z
 ·subst i3; rcases v3 with v3 | v3
  ·exact absurd v3 i1
  ·lia
 ·rw [v4 i i1 i2 i3] at hi ⊢
  refine ob16 (hN i hi) ?_
  intro a b c
  refine ob16 (h i hi i1 i2 i3) ?_
  intro j1 j2 j3
  rw [v4 _ j1 j2 j3]
  exact ⟨a, b, c⟩
theorem Mg.cover (hE : ∀ i j, E i j → E j i ∧ i ≠ j) (hM : Mg n E M) : ∀ (k : Nat) {N : Int → Int}, Mg n E N → cov M n < cov N n →
  (n + 1) * n + n < k + (n + 1) * cnt (fun i => decide (0 ≤ M i) && decide (0 ≤ N i)) n + cnt (fun i => decide (0 ≤ M i) && decide (M i = N i)) n →
  ∃ N', Mg n E N' ∧ (∀ i, 0 ≤ M i → 0 ≤ N' i) ∧ ∃ r : Int, (0 ≤ r ∧ r < n) ∧ M r < 0 ∧ 0 ≤ N' r
 | 0, N, hN, hc, hk => by
  have h1 := zjT (p := fun i => decide (0 ≤ M i) && decide (0 ≤ N i)) (n := n)
  have h2 := zjT (p := fun i => decide (0 ≤ M i) && decide (M i = N i)) (n := n)
  have := Nat.mul_le_mul_left (n + 1) h1
  lia
 | k + 1, N, hN, hc, hk => by
  by_cases all : ∀ i, 0 ≤ M i → 0 ≤ N i
  ·refine ob4 (zpF hc) ?_
   intro r h0 h1 h2 h3
   exact ⟨N, hN, all, r, ⟨h0, h1⟩, by have := of_decide_eq_false h3; lia, of_decide_eq_true h2⟩
  have ⟨x, hx⟩ : ∃ x, 0 ≤ M x ∧ N x < 0 := Classical.byContradiction fun no => all fun i hi => Classical.byContradiction fun z => no ⟨i, hi, by lia⟩
  refine lift fun g9 k9 => ?_
  refine ob14 hx ?_
  clear hx
  intro hx nx
  refine ob16 (hM x hx) ?_
  intro rx mx ex
  refine ob14 (hE _ _ ex) ?_
  intro ex' xy'
  refine k9 ?_
  clear k9 g9
  have my : 0 ≤ M (M x) := by rw [mx]; exact rx.1
  refine ob16 (hM (M x) my) ?_
  intro ry _ _
  have nxi : ∀ i, 0 ≤ N i → N i ≠ x := fun i hi e => by
   have := hN i hi
   rw [e] at this; have := this.1.1; have := this; lia
  have b1 := zjT (p := fun i => decide (0 ≤ M i) && decide (M i = N i)) (n := n)
  have nxf : decide (0 ≤ N x) = false := decide_eq_false (by lia)
  by_cases ny : 0 ≤ N (M x)
  ·refine ob16 (hN (M x) ny) ?_
   intro _ nz ez
   have zx : N (M x) ≠ x := nxi _ ny
   have zy : N (M x) ≠ M x := fun e => (hE _ _ ez).2 e.symm
   have rz := (hN (N (M x)) (by rw [nz]; exact ry.1)).1
   have nyi : ∀ i, 0 ≤ N i → i ≠ N (M x) → N i ≠ M x := fun i hi k e => k (by rw [← (hN i hi).2.1, e])
   have nzi : ∀ i, 0 ≤ N i → i ≠ M x → N i ≠ N (M x) := fun i hi k e => k (by rw [← (hN i hi).2.1, e, nz])
   let N1 : Int → Int := fun i => if i = x then M x else if i = M x then x else if i = N (M x) then -1 else N i
   have v1 : N1 x = M x := if_pos rfl
   have v2 : N1 (M x) = x := (if_neg (Ne.symm xy')).trans (if_pos rfl)
   have v3 : N1 (N (M x)) = -1 := (if_neg zx).trans ((if_neg zy).trans (if_pos rfl))
   have v4 : ∀ i, i ≠ x → i ≠ M x → i ≠ N (M x) → N1 i = N i := fun i a b c => (if_neg a).trans ((if_neg b).trans (if_neg c))
   have g : Mg n E N1 := hN.put (z := N (M x)) rx ry ex ex' v1 v2 (.inr (by rw [v3]; decide)) v4 fun i hi _ b c => ⟨nxi i hi, nyi i hi c, nzi i hi b⟩
   have sw : ∀ i, i ≠ x → i ≠ N (M x) → decide (0 ≤ N1 i) = decide (0 ≤ N i) := fun i a c => by
    by_cases b : i = M x
    ·rw [b, v2, decide_eq_true rx.1, decide_eq_true ny]
    ·rw [v4 i a b c]
   have f1 : decide (0 ≤ N1 x) = true := decide_eq_true (by rw [v1]; exact ry.1)
   have f2 : decide (0 ≤ N1 (N (M x))) = false := decide_eq_false (by rw [v3]; decide)
   have f3 : decide (0 ≤ N (N (M x))) = true := decide_eq_true (by rw [nz]; exact ry.1)
   have cv : cov N1 n = cov N n := zfF rx.1 rx.2 rz.1 rz.2 (Ne.symm zx) nxf f1 f3 f2 sw
   have mxt : decide (0 ≤ M x) = true := decide_eq_true hx
   refine Mg.cover hE hM k g (by rw [cv]; exact hc) ?_
   by_cases mz : 0 ≤ M (N (M x))
   ·have c1 : cnt (fun i => decide (0 ≤ M i) && decide (0 ≤ N1 i)) n = cnt (fun i => decide (0 ≤ M i) && decide (0 ≤ N i)) n := by
     refine zfF rx.1 rx.2 rz.1 rz.2 (Ne.symm zx) ?_ ?_ ?_ ?_ fun i a c => ?_
     ·show (_ && _) = false; rw [nxf, Bool.and_false]
     ·show (_ && _) = true; rw [mxt, f1]; rfl
     ·show (_ && _) = true; rw [decide_eq_true mz, f3]; rfl
     ·show (_ && _) = false; rw [f2, Bool.and_false]
     ·show (_ && _) = (_ && _); rw [sw i a c]
    have c2 : cnt (fun i => decide (0 ≤ M i) && decide (M i = N i)) n < cnt (fun i => decide (0 ≤ M i) && decide (M i = N1 i)) n := by
     refine zjS (x := x) (fun i _ _ h => ?_) rx.1 rx.2 ?_ ?_
     ·refine ob14 (Bool.and_eq_true_iff.mp h) ?_
      intro a b
      have a := of_decide_eq_true a
      have b := of_decide_eq_true b
      have i1 : i ≠ x := fun e => by rw [e] at b; lia
      have i2 : i ≠ M x := fun e => by rw [e, mx] at b; exact zx b.symm
      have i3 : i ≠ N (M x) := fun e => by
       have := (hM i a).2.1
       rw [b, e, nz, mx] at this; exact zx this.symm
      show (_ && _) = true
      rw [v4 i i1 i2 i3, decide_eq_true a, decide_eq_true b]; rfl
     ·show (_ && _) = false; rw [decide_eq_false (by lia : ¬ M x = N x), Bool.and_false]
     ·show (_ && _) = true; rw [mxt, v1, decide_eq_true rfl]; rfl
    rw [c1]; lia
   ·have c1 : cnt (fun i => decide (0 ≤ M i) && decide (0 ≤ N i)) n < cnt (fun i => decide (0 ≤ M i) && decide (0 ≤ N1 i)) n := by
     refine zjS (x := x) (fun i _ _ h => ?_) rx.1 rx.2 ?_ ?_
     ·refine ob14 (Bool.and_eq_true_iff.mp h) ?_
      intro a b
      have i1 : i ≠ x := fun e => by rw [e, nxf] at b; cases b
      have i3 : i ≠ N (M x) := fun e => by rw [e] at a; exact mz (of_decide_eq_true a)
      show (_ && _) = true
      rw [a, sw i i1 i3, b]; rfl
     ·show (_ && _) = false; rw [nxf, Bool.and_false]
     ·show (_ && _) = true; rw [mxt, f1]; rfl
    have := Nat.mul_le_mul_left (n + 1) c1
    rw [Nat.mul_succ] at this
    lia
  ·have nyi : ∀ i, 0 ≤ N i → N i ≠ M x := fun i hi e => by
    have := hN i hi
    rw [e] at this; lia
   let N1 : Int → Int := fun i => if i = x then M x else if i = M x then x else N i
   have v1 : N1 x = M x := if_pos rfl
   have v2 : N1 (M x) = x := (if_neg (Ne.symm xy')).trans (if_pos rfl)
   have v4 : ∀ i, i ≠ x → i ≠ M x → N1 i = N i := fun i a b => (if_neg a).trans (if_neg b)
   have g : Mg n E N1 := hN.put (z := x) rx ry ex ex' v1 v2 (.inl rfl) (fun i a b _ => v4 i a b) fun i hi _ _ _ => ⟨nxi i hi, nyi i hi, nxi i hi⟩
   have le : ∀ i, decide (0 ≤ N i) = true → decide (0 ≤ N1 i) = true := fun i h => by
    by_cases a : i = x
    ·rw [a, v1]; exact decide_eq_true ry.1
    by_cases b : i = M x
    ·rw [b, v2]; exact decide_eq_true rx.1
    ·rw [v4 i a b]; exact h
   refine Mg.cover hE hM k g (Nat.lt_of_lt_of_le hc (zim fun i _ _ h => le i h)) ?_
   have c1 : cnt (fun i => decide (0 ≤ M i) && decide (0 ≤ N i)) n < cnt (fun i => decide (0 ≤ M i) && decide (0 ≤ N1 i)) n := by
    refine zjS (x := x) (fun i _ _ h => ?_) rx.1 rx.2 ?_ ?_
    ·refine ob14 (Bool.and_eq_true_iff.mp h) ?_
     intro a b
     show (_ && _) = true
     rw [a, le i b]; rfl
    ·show (_ && _) = false; rw [nxf, Bool.and_false]
    ·show (_ && _) = true; rw [decide_eq_true hx, v1, decide_eq_true ry.1]; rfl
   have := Nat.mul_le_mul_left (n + 1) c1
   rw [Nat.mul_succ] at this
   lia
end
section
variable {n : Int} {E : Int → Int → Prop} {M bk bs : Int → Int} {O : Int → Bool} {r : Int} {dn q : List Int}
noncomputable def Gr (n : Int) (E : Int → Int → Prop) : Prop := ∀ i j, E i j → E j i ∧ i ≠ j ∧ 0 ≤ i ∧ i < n
structure Sg (n : Int) (E : Int → Int → Prop) (M bk bs : Int → Int) (O : Int → Bool) (r : Int) (dn q : List Int) : Prop where
 bl : Bl M bk bs O r
 gr : Gr n E
 mt : ∀ i, 0 ≤ M i → M (M i) = i ∧ E i (M i)
 rr : (0 ≤ r ∧ r < n) ∧ M r < 0
 lab : ∀ v, O v = true → v ≠ r → 0 ≤ M v ∧ 0 ≤ bk (M v)
 adj : ∀ x, 0 ≤ bk x → E x (bk x)
 inn : ∀ x, 0 ≤ bk x → O x = false → 0 ≤ M x ∧ O (M x) = true
 que : ∀ v, O v = true ↔ v ∈ dn ++ q
 nod : (dn ++ q).Nodup
 mkd : ∀ w, O w = true → 0 ≤ bk w → O (M w) = true
noncomputable def Lk (bk bs : Int → Int) (O : Int → Bool) (q : List Int) (p j : Int) : Prop := bs p = bs j ∨ (O j = false ∧ 0 ≤ bk j) ∨ j ∈ q
theorem Sg.rng (g : Sg n E M bk bs O r dn q) {v : Int} (o : O v = true) : 0 ≤ v ∧ v < n := by
 by_cases e : v = r
 ·rw [e]; exact g.rr.1
 ·have := g.gr _ _ (g.mt v (g.lab v o e).1).2; exact this.2.2
theorem Sg.bsr (g : Sg n E M bk bs O r dn q) {v : Int} (h : 0 ≤ v ∧ v < n) : 0 ≤ bs v ∧ bs v < n := by
 cases o : O v with
 | true => exact g.rng (g.bl.bb v o).1
 | false => rw [g.bl.ib v o]; exact h
theorem Sg.fresh (g : Sg n E M bk bs O r dn q) {j : Int} (jr : j ≠ r) (h : ¬ (0 ≤ M j ∧ 0 ≤ bk (M j))) : O j = false := by
 cases o : O j with
 | false => rfl
 | true => exact absurd (g.lab j o jr) h
theorem Sg.freshM (g : Sg n E M bk bs O r dn q) {j : Int} (b : bk j < 0) (m : 0 ≤ M j) : O (M j) = false := by
 cases o : O (M j) with
 | false => rfl
 | true =>
  have k := g.mt j m
  have nr : M j ≠ r := fun e => by
   have h1 := g.rr.2; rw [← e, k.1] at h1
   have := (g.gr _ _ k.2).2.2.1; lia
  have := (g.lab _ o nr).2
  rw [k.1] at this; lia
theorem Sg.grow (g : Sg n E M bk bs O r dn q) {p j : Int} (op : O p = true) (e : E p j) (oj : O j = false) (b : bk j < 0) (m : 0 ≤ M j) (jr : j ≠ r) (bm : bk (M j) < 0) :
  Sg n E M (fun x => if x = j then p else bk x) bs (fun x => O x || decide (x = M j)) r dn (q ++ [M j]) := by
 have ow := g.freshM b m
 have k := g.mt j m
 have rj := (g.gr _ _ k.2)
 have ho : ∀ x, (O x || decide (x = M j)) = true ↔ O x = true ∨ x = M j := fun x => by rw [Bool.or_eq_true, decide_eq_true_eq]
 refine ⟨g.bl.grow op oj ow k.1 jr (Ne.symm rj.2.1), g.gr, g.mt, g.rr, fun v o n => ?_, fun x hx => ?_, fun x hx o => ?_, fun v => ?_, ?_, fun w o hw => (ho _).mpr ?_⟩
 ·rcases (ho v).mp o with o | rfl
  ·have h := g.lab v o n
   refine ⟨h.1, ?_⟩
   show 0 ≤ if M v = j then p else bk (M v)
   by_cases c : M v = j
   ·rw [if_pos c]; exact (g.rng op).1
   ·rw [if_neg c]; exact h.2
  ·rw [k.1]
   refine ⟨rj.2.2.1, ?_⟩
   show 0 ≤ if j = j then p else bk j
   rw [if_pos rfl]; exact (g.rng op).1
 ·by_cases c : x = j
  ·rw [c]
   show E j (if j = j then p else bk j)
   rw [if_pos rfl]; exact (g.gr _ _ e).1
  ·have c' : (if x = j then p else bk x) = bk x := if_neg c
   show E x (if x = j then p else bk x)
   rw [c']; exact g.adj x (c' ▸ hx)
 ·have no : ¬ (O x = true ∨ x = M j) := fun z => by rw [(ho x).mpr z] at o; cases o
  by_cases c : x = j
  ·rw [c]; exact ⟨m, (ho _).mpr (.inr rfl)⟩
  ·have c' : (if x = j then p else bk x) = bk x := if_neg c
   have h := g.inn x (c' ▸ hx) (Bool.eq_false_iff.mpr fun z => no (.inl z))
   exact ⟨h.1, (ho _).mpr (.inl h.2)⟩
 ·rw [ho v, g.que v, ← List.append_assoc, List.mem_append (s := dn ++ q), List.mem_singleton]
 ·rw [← List.append_assoc]
  refine List.nodup_append.mpr ⟨g.nod, List.nodup_cons.mpr ⟨List.not_mem_nil, .nil⟩, fun a ha c hc e => ?_⟩
  rw [List.mem_singleton.mp hc] at e
  rw [← e, (g.que a).mpr ha] at ow; cases ow
 ·rcases (ho w).mp o with o | rfl
  ·have c : (if w = j then p else bk w) = bk w := if_neg fun z => by rw [z, oj] at o; cases o
   exact .inl (g.mkd w o (c ▸ hw))
  ·have c : (if M j = j then p else bk (M j)) = bk (M j) := if_neg (Ne.symm rj.2.1)
   have : 0 ≤ bk (M j) := c ▸ hw
   lia
theorem Lk.grow {p j x y : Int} (h : Lk bk bs O q x y) (hp : 0 ≤ p) : Lk (fun x => if x = j then p else bk x) bs (fun x => O x || decide (x = M j)) (q ++ [M j]) x y := by
 rcases h with h | ⟨o, b⟩ | h
 ·exact .inl h
 ·by_cases c : y = M j
  ·exact .inr (.inr (List.mem_append_right _ (List.mem_singleton.mpr c)))
  ·refine .inr (.inl ⟨by show (O y || decide (y = M j)) = false; rw [o, decide_eq_false c]; rfl, ?_⟩)
   show 0 ≤ if y = j then p else bk y
   by_cases d : y = j
   ·rw [if_pos d]; exact hp
   ·rw [if_neg d]; exact b
 ·exact .inr (.inr (List.mem_append_left _ h))
theorem Sg.dead (g : Sg n E M bk bs O r dn []) (lk : ∀ p ∈ dn, ∀ j, E p j → Lk bk bs O [] p j) {N : Int → Int} (hN : ∀ i, 0 ≤ N i → N (N i) = i ∧ E i (N i)) (hc : ∀ i, 0 ≤ M i → 0 ≤ N i) (hr : 0 ≤ N r) : False := by
 have cov : ∀ v, O v = true → 0 ≤ N v := fun v o => by
  by_cases e : v = r
  ·rw [e]; exact hr
  ·exact hc v (g.lab v o e).1
 refine g.bl.hung (N := N) (dn := dn) (I := fun x => O x = false ∧ 0 ≤ bk x) (List.append_nil dn ▸ g.nod) (fun v => by rw [g.que v, List.append_nil]) (fun x hx => ?_) (fun v o n => ?_) (fun v o => ?_) fun v o => ?_
 ·have h := g.inn x hx.2 hx.1
  have k := g.mt x h.1
  refine ⟨hx.1, h.2, k.1, fun e => ?_⟩
  have := g.rr.2
  rw [← e, k.1] at this
  have := (g.gr _ _ k.2).2.2.1; lia
 ·exact Ne.symm (g.gr _ _ (g.mt v (g.lab v o n).1).2).2.1
 ·rcases lk v (by have := (g.que v).mp o; rwa [List.append_nil] at this) _ (hN v (cov v o)).2 with h | h | h
  ·exact .inl h
  ·exact .inr h
  ·exact absurd h List.not_mem_nil
 ·have h := hN v (cov v o)
  exact ⟨h.1, Ne.symm (g.gr _ _ h.2).2.1⟩
end
section
variable {n : Int} {E : Int → Int → Prop} {M bk bs B bs' : Int → Int} {O O' : Int → Bool} {r one other m x1 x2 : Int} {W1 W2 X1 X2 dn q nw : List Int}
theorem Wk.mkb {v x : Int} {W : List Int} (h : Wk M bk r v W x) : ∀ {f : Int → Int} {c : Int}, W.Nodup → ∀ y ∈ ev W, (y = v ∧ mkb f c W y = c) ∨ ∃ u ∈ ev W, mkb f c W y = M u ∧ bk (M u) = y := by
 induction h with
 | nil => intro f c _ y hy; exact absurd hy List.not_mem_nil
 | @cons v x W n w ih =>
  intro f c nd y hy
  have n1 := List.nodup_cons.mp nd
  rcases List.mem_cons.mp hy with rfl | hy
  ·refine .inl ⟨rfl, ?_⟩
   show Mine.Internal.mkb _ (M y) W y = c
   rw [zek fun z => n1.1 (List.mem_cons_of_mem _ (zaF z))]
   exact if_pos rfl
  ·refine .inr ?_
   rcases ih (f := fun x => if x = v then c else f x) (c := M v) (List.nodup_cons.mp n1.2).2 y hy with ⟨e, k⟩ | ⟨u, hu, k⟩
   ·exact ⟨v, List.mem_cons_self, k, e.symm⟩
   ·exact ⟨u, List.mem_cons_of_mem _ hu, k⟩
theorem Rng.eb (R : Rng M bk bs B O r one other m x1 x2 W1 W2 X1 X2) (g : Sg n E M bk bs O r dn q) (e : E one other) {y : Int} (hy : y ∈ ev W1) : E y (B y) := by
 refine ob12 R.f1 ?_
 intro f hf
 rw [hf y hy]
 rcases R.s1.w.mkb (f := f) (c := other) (List.nodup_append.mp (R.s1.nd R.h)).1 y hy with ⟨e1, k⟩ | ⟨u, hu, k, l⟩
 ·rw [k, e1]; exact e
 ·rw [k]
  have := g.adj (M u) (g.lab u (R.s1.evo R.h hu) (R.s1.w.next hu).1).2
  rw [l] at this
  exact (g.gr _ _ this).1
theorem Rng.c1 (R : Rng M bk bs B O r one other m x1 x2 W1 W2 X1 X2) : Cm bs m W1 W2 one := by
 rcases R.s1.w.hd with e | h
 ·exact .inl (e ▸ R.s1.b)
 ·exact .inr ⟨one, .inl (zaF h), rfl⟩
structure Shr (bs bs' : Int → Int) (O O' : Int → Bool) (m : Int) (W1 W2 nw : List Int) : Prop where
 h1 : ∀ x, Cm bs m W1 W2 x → bs' x = m
 h2 : ∀ x, ¬ Cm bs m W1 W2 x → bs' x = bs x
 ho : ∀ x, O' x = true ↔ O x = true ∨ Cm bs m W1 W2 x
 hw : ∀ x, x ∈ nw ↔ O x = false ∧ Cm bs m W1 W2 x
 nd : nw.Nodup
theorem Rng.sg (R : Rng M bk bs B O r one other m x1 x2 W1 W2 X1 X2) (g : Sg n E M bk bs O r dn q) (e : E one other) (s : Shr bs bs' O O' m W1 W2 nw) : Sg n E M B bs' O' r dn (q ++ nw) := by
 have eb : ∀ y, y ∈ ev W1 ∨ y ∈ ev W2 → E y (B y) := fun y h => h.elim (R.eb g e) (R.sym.eb g (g.gr _ _ e).1)
 have pos : ∀ y, y ∈ ev W1 ∨ y ∈ ev W2 → 0 ≤ B y := fun y h => (g.gr _ _ ((g.gr _ _ (eb y h)).1)).2.2.1
 refine ⟨R.bl s.h1 s.h2 s.ho, g.gr, g.mt, g.rr, fun v o k => ?_, fun x hx => ?_, fun x hx o => ?_, fun v => ?_, ?_, fun w o hw => (s.ho _).mpr ?_⟩
 ·cases ov : O v with
  | true =>
   have h := g.lab v ov k
   refine ⟨h.1, ?_⟩
   by_cases c : M v ∈ ev W1 ∨ M v ∈ ev W2
   ·exact pos _ c
   ·rw [R.f0 _ (fun z => c (.inl z)) fun z => c (.inr z)]; exact h.2
  | false =>
   obtain ⟨u, hu, rfl, k2, _⟩ := R.inn2 ov (((s.ho v).mp o).resolve_left (by rw [ov]; exact Bool.false_ne_true))
   rw [k2]
   have ou : O u = true := hu.elim (R.s1.evo R.h) (R.s2.evo R.h)
   exact ⟨(g.rng ou).1, pos u hu⟩
 ·by_cases c : x ∈ ev W1 ∨ x ∈ ev W2
  ·exact eb x c
  ·rw [R.f0 _ (fun z => c (.inl z)) fun z => c (.inr z)] at hx ⊢
   exact g.adj x hx
 ·have no : ¬ (O x = true ∨ Cm bs m W1 W2 x) := fun z => by rw [(s.ho x).mpr z] at o; cases o
  have ox : O x = false := Bool.eq_false_iff.mpr fun z => no (.inl z)
  have c : ¬ (x ∈ ev W1 ∨ x ∈ ev W2) := fun z => no (.inl (z.elim (R.s1.evo R.h) (R.s2.evo R.h)))
  rw [R.f0 _ (fun z => c (.inl z)) fun z => c (.inr z)] at hx
  have h := g.inn x hx ox
  exact ⟨h.1, (s.ho _).mpr (.inl h.2)⟩
 ·rw [s.ho v, ← List.append_assoc, List.mem_append (s := dn ++ q), s.hw v, ← g.que v]
  cases O v with
  | true => exact ⟨fun _ => .inl rfl, fun _ => .inl rfl⟩
  | false => exact ⟨fun z => z.elim (fun z => by cases z) fun z => .inr ⟨rfl, z⟩, fun z => z.elim .inl fun z => .inr z.2⟩
 ·rw [← List.append_assoc]
  refine List.nodup_append.mpr ⟨g.nod, s.nd, fun a ha b hb k => ?_⟩
  subst k
  have := (g.que a).mpr ha
  rw [((s.hw a).mp hb).1] at this; cases this
 ·by_cases c : w ∈ ev W1 ∨ w ∈ ev W2
  ·exact .inr (c.elim (fun z => .inr ⟨M w, .inl (zcw (R.s1.w.next z).2), rfl⟩) fun z => .inr ⟨M w, .inr (zcw (R.s2.w.next z).2), rfl⟩)
  ·rw [R.f0 _ (fun z => c (.inl z)) fun z => c (.inr z)] at hw
   refine .inl ?_
   cases ow : O w with
   | true => exact g.mkd w ow hw
   | false => exact (g.inn w hw ow).2
theorem Rng.lk (R : Rng M bk bs B O r one other m x1 x2 W1 W2 X1 X2) (s : Shr bs bs' O O' m W1 W2 nw) {x y : Int} (h : Lk bk bs O q x y) : Lk B bs' O' (q ++ nw) x y := by
 rcases h with h | ⟨o, b⟩ | h
 ·refine .inl ?_
  by_cases c : Cm bs m W1 W2 x
  ·rw [s.h1 x c, s.h1 y (c.of h.symm)]
  ·rw [s.h2 x c, s.h2 y fun z => c (z.of h)]; exact h
 ·cases o' : O' y with
  | true => exact .inr (.inr (List.mem_append_right _ ((s.hw y).mpr ⟨o, ((s.ho y).mp o').resolve_left (by rw [o]; exact Bool.false_ne_true)⟩)))
  | false =>
   refine .inr (.inl ⟨o', ?_⟩)
   rw [R.f0 y (fun z => by rw [R.s1.evo R.h z] at o; cases o) fun z => by rw [R.s2.evo R.h z] at o; cases o]
   exact b
 ·exact .inr (.inr (List.mem_append_left _ h))
theorem Sg.steps (g : Sg n E M bk bs O r dn q) {v : Int} {L : List Int} (u : Up M bk r v L) : O v = true → L.Nodup → ∀ (k : Nat) a b, L[k]? = some a → L[k + 1]? = some b → E a b ∧ (M a = b ↔ k % 2 = 0) := by
 induction u with
 | root => intro _ _ k a b _ hb; rw [List.getElem?_eq_none (by simp)] at hb; cases hb
 | @step v L nr u ih =>
  intro o nd k a b ha hb
  have h := g.lab v o nr
  have mv := g.mt v h.1
  have n1 := List.nodup_cons.mp nd
  have n2 := List.nodup_cons.mp n1.2
  match k with
  | 0 => cases ha; cases hb; exact ⟨mv.2, fun _ => rfl, fun _ => rfl⟩
  | 1 =>
   cases ha
   have hb : L[0]? = some b := hb
   have e : b = bk (M v) := by
    cases u with
    | root => cases hb; rfl
    | step _ _ => cases hb; rfl
   subst e
   refine ⟨g.adj _ h.2, fun z => ?_, fun z => absurd z (by decide)⟩
   rw [mv.1] at z
   exact absurd (List.mem_cons_of_mem _ (z ▸ List.mem_of_getElem? hb)) n1.1
  | k + 2 =>
   have := ih (g.bl.nx v o nr) n2.2 k a b ha hb
   rw [Nat.add_mod_right]; exact this
theorem Up.len {v : Int} {L : List Int} (u : Up M bk r v L) : L.length % 2 = 1 ∧ L[L.length - 1]? = some r ∧ L[0]? = some v := by
 induction u with
 | root => exact ⟨rfl, rfl, rfl⟩
 | @step v L _ _ ih =>
  have : 0 < L.length := by lia
  refine ⟨by rw [List.length_cons, List.length_cons]; lia, ?_, rfl⟩
  rw [List.length_cons, List.length_cons, show L.length + 1 + 1 - 1 = (L.length - 1) + 1 + 1 by lia]
  exact ih.2.1
end
section
variable {k : Nat} {σ : Store} {Q : V → Store → Prop} {X : XP}
theorem zd7 {a : Addr} {n : Nat} {M : Int → Int} {i : Int} {K : V → Prop} (ha : σ a = some (.list (zaN n M))) (h0 : 0 ≤ i) (h1 : i < n) (h : K (.int (M i))) : idxV (.ref a) (.int i) σ K := zbt ha h0 (zcA h0 h1) h
theorem zk8 {a : Addr} {n : Nat} {M : Int → Int} {i v : Int} {Q : Store → Prop} (ha : σ a = some (.list (zaN n M))) (h0 : 0 ≤ i) (h1 : i < n) (h : Q (σ.upd a (.list (zaN n fun j => if j = i then v else M j)))) : zbq (.ref a) (.int i) (.int v) σ Q := by
 refine zbY ha h0 (by rw [zcz]; exact h1) ?_
 rw [zdt h0]; exact h
theorem zms {a w : Addr} {o : AO} (h : (σ.upd a o) w = none) : w ≠ a ∧ σ w = none := by
 by_cases e : w = a
 ·subst e; rw [zaj] at h; cases h
 ·rw [zaq e] at h; exact ⟨e, h⟩
theorem zi5 {l : List Int} {i : Nat} {v : V} (h : (l.map V.int)[i]? = some v) : ∃ j, v = .int j ∧ l[i]? = some j := by
 rw [List.getElem?_map] at h
 refine ob7 (Option.map_eq_some_iff.mp h) ?_
 intro j e e'
 exact ⟨j, e'.symm, e⟩
theorem mem_sortI {l : List Int} {j : Int} : j ∈ zaX l ↔ j ∈ l := (zbE l).mem_iff
theorem zd1 {n : Int} {T : List (Int × Int)} {i j : Int} (ht : ∀ p ∈ T, zaD n p) (h : j ∈ nb T i) : (0 ≤ i ∧ i < n) ∧ (0 ≤ j ∧ j < n) ∧ i ≠ j := by
 rcases mem_nb.mp h with h | h
 ·have h1 := ht _ h
  exact ⟨⟨h1.1, Int.lt_trans h1.2.1 h1.2.2⟩, ⟨Int.le_trans h1.1 (Int.le_of_lt h1.2.1), h1.2.2⟩, Int.ne_of_lt h1.2.1⟩
 ·have h1 := ht _ h
  exact ⟨⟨Int.le_trans h1.1 (Int.le_of_lt h1.2.1), h1.2.2⟩, ⟨h1.1, Int.lt_trans h1.2.1 h1.2.2⟩, (Int.ne_of_lt h1.2.1).symm⟩
theorem zej {T : List (Int × Int)} {i j : Int} (h : j ∈ nb T i) : i ∈ nb T j := by rw [mem_nb] at h ⊢; exact h.symm
theorem zpc {σ0 : Store} {x d r : Addr} {rs : List Addr} {n : Int} {T : List (Int × Int)} {i : Int} {K : V → Prop} {m : Nat} {md : Bool} (h : NetAt σ0 x d r rs n T) (e : Ext σ0 σ) (h0 : 0 ≤ i) (h1 : i < n) (g : ∀ a, σ0 a = some (.list ((zaX (nb T i)).map V.int)) → K (.ref a)) :
  zdw (sem zas zay m md).fld (.ref x) "rows" σ fun u => idxV u (.int i) σ K := by
 refine ob7 (h.rowAt (i := i.toNat) (by lia)) ?_
 intro a ha ha'
 rw [Int.toNat_of_nonneg h0] at ha'
 have h' := h.ext e
 exact zbj h'.top h'.dic fldN rfl (zbt h'.rows.top h0 (by rw [List.getElem?_map, ha]; rfl) (g a ha'))
theorem zdo {x d r : Addr} {rs : List Addr} {n : Int} {T : List (Int × Int)} {K : V → Prop} {m : Nat} {md : Bool} (h : NetAt σ x d r rs n T) (g : K (.int n)) : zdw (sem zas zay m md).fld (.ref x) "size" σ K := zbj h.top h.dic fldS rfl g
theorem zlZ {chk : Store → Prop} {B : V → Store → (Option V → Store → Prop) → Prop} {n : Int} (M : Int → Int) (hc : chk σ) (hn : n ≤ 1000) (hB : ∀ i : Int, 0 ≤ i → i < n → ∀ K : Option V → Store → Prop, K (some (.int (M i))) σ → B (.int i) σ K)
  (h : ∀ a, σ a = none → Q (.ref a) (σ.upd a (.list (zaN n.toNat M)))) : zb4 chk B Q ((upto 0 n 1).map V.int) [] σ :=
 ze2 (fun i => some (.int (M i))) hc hn hB fun a ha => by
  have : ((List.range n.toNat).filterMap fun i : Nat => some (V.int (M i))) = zaN n.toNat M := by simp [zaN, List.filterMap_eq_map']
  rw [this]; exact h a ha
noncomputable def zd0 (n : Nat) (O : Int → Bool) : List V := zfx n fun i => O i
theorem zlM {a : Addr} {n : Nat} {O : Int → Bool} {i : Int} {K : V → Prop} (ha : σ a = some (.list (zd0 n O))) (h0 : 0 ≤ i) (h1 : i < n) (h : K (.bool (O i))) : idxV (.ref a) (.int i) σ K :=
 zbt ha h0 (zl4 (by lia)) (by rw [Int.toNat_of_nonneg h0]; exact h)
theorem znu {a : Addr} {n : Nat} {O : Int → Bool} {i : Int} {Q : Store → Prop} (ha : σ a = some (.list (zd0 n O))) (h0 : 0 ≤ i) (h1 : i < n) (h : Q (σ.upd a (.list (zd0 n fun x => O x || decide (x = i))))) : zbq (.ref a) (.int i) (.bool true) σ Q := by
 refine zbY ha h0 (by unfold zd0; rw [zl3]; exact h1) ?_
 have : (zd0 n O).set i.toNat (.bool true) = zd0 n fun x => O x || decide (x = i) := by
  unfold zd0
  rw [zl2]
  unfold zfx
  refine List.map_congr_left fun j _ => congrArg V.bool ?_
  show (if j = i.toNat then true else O j) = (O j || decide ((j : Int) = i))
  by_cases e : j = i.toNat
  ·rw [if_pos e, decide_eq_true (by lia), Bool.or_true]
  ·rw [if_neg e, decide_eq_false (by lia), Bool.or_false]
 rw [this]; exact h
theorem zoK {chk : Store → Prop} {B : V → Store → (Option V → Store → Prop) → Prop} {n : Int} (O : Int → Bool) (hc : chk σ) (hn : n ≤ 1000) (hB : ∀ i : Int, 0 ≤ i → i < n → ∀ K : Option V → Store → Prop, K (some (.bool (O i))) σ → B (.int i) σ K)
  (h : ∀ a, σ a = none → Q (.ref a) (σ.upd a (.list (zd0 n.toNat O)))) : zb4 chk B Q ((upto 0 n 1).map V.int) [] σ :=
 ze2 (fun i => some (.bool (O i))) hc hn hB fun a ha => by
  have : ((List.range n.toNat).filterMap fun i : Nat => some (V.bool (O i))) = zd0 n.toNat O := by simp [zd0, zfx, List.filterMap_eq_map']
  rw [this]; exact h a ha
end
structure Ad where
 sr : Addr
 ds : Addr
 x : Addr
 m : Addr
 b : Addr
 ba : Addr
 o : Addr
 w : Addr
noncomputable def seaF (A : Ad) (root : Int) : List (String × V) := [("ground", .ref A.x), ("mate", .ref A.m), ("root", .int root), ("back", .ref A.b), ("base", .ref A.ba), ("outer", .ref A.o), ("waiting", .ref A.w)]
structure Sa (σ0 σ : Store) (A : Ad) (n root : Int) (bk bs : Int → Int) (O : Int → Bool) (q : List Int) : Prop where
 ext : Ext σ0 σ
 top : σ A.sr = some (.inst "Search" A.ds)
 dic : σ A.ds = some (.ns (seaF A root))
 hb : σ A.b = some (.list (zaN n.toNat bk))
 hs : σ A.ba = some (.list (zaN n.toNat bs))
 ho : σ A.o = some (.list (zd0 n.toNat O))
 hw : σ A.w = some (.list (q.map V.int))
 fd : σ0 A.ds = none
 fb : σ0 A.b = none
 fs : σ0 A.ba = none
 fo : σ0 A.o = none
 fw : σ0 A.w = none
 bs_ : A.b ≠ A.ba
 bo : A.b ≠ A.o
 bw : A.b ≠ A.w
 os : A.o ≠ A.ba
 ow : A.o ≠ A.w
 ws : A.w ≠ A.ba
section
variable {k : Nat} {σ σ0 : Store} {Q : V → Store → Prop} {X : XP} {A : Ad} {n root : Int} {bk bs M : Int → Int} {O : Int → Bool} {q : List Int}
theorem sfld {md : Bool} {f : String} (h : zay "Search" f = true) : (sem zas zay k md).fld "Search" f := h
theorem Sa.at (h : Sa σ0 σ A n root bk bs O q) {f : String} {v : V} {K : V → Prop} {j : Nat} {md : Bool} (hf : zay "Search" f = true) (e : (seaF A root).lookup f = some v) (g : K v) : zdw (sem zas zay j md).fld (.ref A.sr) f σ K :=
 zbj h.top h.dic (sfld hf) e g
theorem Sa.ground (h : Sa σ0 σ A n root bk bs O q) {K : V → Prop} {j : Nat} {md : Bool} (g : K (.ref A.x)) : zdw (sem zas zay j md).fld (.ref A.sr) "ground" σ K := h.at rfl rfl g
theorem Sa.mate (h : Sa σ0 σ A n root bk bs O q) {K : V → Prop} {j : Nat} {md : Bool} (hm : σ0 A.m = some (.list (zaN n.toNat M))) {i : Int} (h0 : 0 ≤ i ∧ i < n) (g : K (.int (M i))) : zdw (sem zas zay j md).fld (.ref A.sr) "mate" σ fun u => idxV u (.int i) σ K := h.at rfl rfl (zd7 (h.ext _ _ hm) h0.1 (by lia) g)
theorem Sa.rootA (h : Sa σ0 σ A n root bk bs O q) {K : V → Prop} {j : Nat} {md : Bool} (g : K (.int root)) : zdw (sem zas zay j md).fld (.ref A.sr) "root" σ K := h.at rfl rfl g
theorem Sa.back (h : Sa σ0 σ A n root bk bs O q) {K : V → Prop} {j : Nat} {md : Bool} {i : Int} (h0 : 0 ≤ i ∧ i < n) (g : K (.int (bk i))) : zdw (sem zas zay j md).fld (.ref A.sr) "back" σ fun u => idxV u (.int i) σ K := h.at rfl rfl (zd7 h.hb h0.1 (by lia) g)
theorem Sa.base (h : Sa σ0 σ A n root bk bs O q) {K : V → Prop} {j : Nat} {md : Bool} {i : Int} (h0 : 0 ≤ i ∧ i < n) (g : K (.int (bs i))) : zdw (sem zas zay j md).fld (.ref A.sr) "base" σ fun u => idxV u (.int i) σ K := h.at rfl rfl (zd7 h.hs h0.1 (by lia) g)
theorem Sa.outer (h : Sa σ0 σ A n root bk bs O q) {K : V → Prop} {j : Nat} {md : Bool} (g : K (.ref A.o)) : zdw (sem zas zay j md).fld (.ref A.sr) "outer" σ K := h.at rfl rfl g
theorem Sa.waiting (h : Sa σ0 σ A n root bk bs O q) {K : V → Prop} {j : Nat} {md : Bool} (g : K (.ref A.w)) : zdw (sem zas zay j md).fld (.ref A.sr) "waiting" σ K := h.at rfl rfl g
theorem zno {vs : List V} {c : String} {d : Addr} : AO.list vs ≠ .inst c d := fun e => by cases e
theorem zkO {vs : List V} {fs : List (String × V)} : AO.list vs ≠ .ns fs := fun e => by cases e
theorem Sa.putB (h : Sa σ0 σ A n root bk bs O q) {bk' : Int → Int} : Sa σ0 (σ.upd A.b (.list (zaN n.toNat bk'))) A n root bk' bs O q :=
 ⟨h.ext.upd h.fb, (zaq (zbM h.hb h.top zno).symm).trans h.top, (zaq (zbM h.hb h.dic zkO).symm).trans h.dic, zaj, (zaq h.bs_.symm).trans h.hs, (zaq h.bo.symm).trans h.ho, (zaq h.bw.symm).trans h.hw, h.fd, h.fb, h.fs, h.fo, h.fw, h.bs_, h.bo, h.bw, h.os, h.ow, h.ws⟩
theorem Sa.putS (h : Sa σ0 σ A n root bk bs O q) {bs' : Int → Int} : Sa σ0 (σ.upd A.ba (.list (zaN n.toNat bs'))) A n root bk bs' O q :=
 ⟨h.ext.upd h.fs, (zaq (zbM h.hs h.top zno).symm).trans h.top, (zaq (zbM h.hs h.dic zkO).symm).trans h.dic, (zaq h.bs_).trans h.hb, zaj, (zaq h.os).trans h.ho, (zaq h.ws).trans h.hw, h.fd, h.fb, h.fs, h.fo, h.fw, h.bs_, h.bo, h.bw, h.os, h.ow, h.ws⟩
theorem Sa.putO (h : Sa σ0 σ A n root bk bs O q) {O' : Int → Bool} : Sa σ0 (σ.upd A.o (.list (zd0 n.toNat O'))) A n root bk bs O' q :=
 ⟨h.ext.upd h.fo, (zaq (zbM h.ho h.top zno).symm).trans h.top, (zaq (zbM h.ho h.dic zkO).symm).trans h.dic, (zaq h.bo).trans h.hb, (zaq h.os.symm).trans h.hs, zaj, (zaq h.ow.symm).trans h.hw, h.fd, h.fb, h.fs, h.fo, h.fw, h.bs_, h.bo, h.bw, h.os, h.ow, h.ws⟩
theorem Sa.putW (h : Sa σ0 σ A n root bk bs O q) {q' : List Int} : Sa σ0 (σ.upd A.w (.list (q'.map V.int))) A n root bk bs O q' :=
 ⟨h.ext.upd h.fw, (zaq (zbM h.hw h.top zno).symm).trans h.top, (zaq (zbM h.hw h.dic zkO).symm).trans h.dic, (zaq h.bw).trans h.hb, (zaq h.ws.symm).trans h.hs, (zaq h.ow).trans h.ho, zaj, h.fd, h.fb, h.fs, h.fo, h.fw, h.bs_, h.bo, h.bw, h.os, h.ow, h.ws⟩
theorem Sa.newW (h : Sa σ0 σ A n root bk bs O q) {q' : List Int} {w' : Addr} (hw : σ w' = none) : Sa σ0 ((σ.upd w' (.list (q'.map V.int))).upd A.ds (.ns (seaF { A with w := w' } root))) { A with w := w' } n root bk bs O q' := by
 have nn : ∀ {a : Addr} {u : AO}, σ a = some u → a ≠ w' := fun ha => zbb ha hw
 have li : ∀ {a : Addr} {vs : List V}, σ a = some (.list vs) → a ≠ A.ds := fun ha => zbM ha h.dic zkO
 have keep : ∀ {a : Addr} {vs : List V}, σ a = some (.list vs) → ((σ.upd w' (.list (q'.map V.int))).upd A.ds (.ns (seaF { A with w := w' } root))) a = some (.list vs) := fun ha => (zaq (li ha)).trans ((zaq (nn ha)).trans ha)
 exact ⟨(h.ext.upd (h.ext.none hw)).upd h.fd, (zaq (zbM h.top h.dic fun e => by cases e)).trans ((zaq (nn h.top)).trans h.top), zaj, keep h.hb, keep h.hs, keep h.ho, (zaq (nn h.dic).symm).trans zaj, h.fd, h.fb, h.fs, h.fo, h.ext.none hw, h.bs_, h.bo, nn h.hb, h.os, nn h.ho, (nn h.hs).symm⟩
theorem Sa.new (h : Sa σ0 σ A n root bk bs O q) {a : Addr} {u : AO} (ha : σ a = none) : Sa σ0 (σ.upd a u) A n root bk bs O q := by
 have nn : ∀ {a' : Addr} {u : AO}, σ a' = some u → a' ≠ a := fun ha' => zbb ha' ha
 exact ⟨h.ext.upd (h.ext.none ha), (zaq (nn h.top)).trans h.top, (zaq (nn h.dic)).trans h.dic, (zaq (nn h.hb)).trans h.hb, (zaq (nn h.hs)).trans h.hs, (zaq (nn h.ho)).trans h.ho, (zaq (nn h.hw)).trans h.hw, h.fd, h.fb, h.fs, h.fo, h.fw, h.bs_, h.bo, h.bw, h.os, h.ow, h.ws⟩
end
section
variable {k : Nat} {σ σ0 : Store} {Q : V → Store → Prop} {X : XP} {sr ds x m : Addr} {n root : Int} {d r : Addr} {rs : List Addr} {T : List (Int × Int)}
structure Sb (σ0 σ : Store) (sr ds : Addr) (fs : List (String × V)) : Prop where
 ext : Ext σ0 σ
 top : σ sr = some (.inst "Search" ds)
 dic : σ ds = some (.ns fs)
 fd : σ0 ds = none
theorem Sb.set {fs : List (String × V)} (h : Sb σ0 σ sr ds fs) {f : String} {v : V} {j : Nat} {md : Bool} {K : Store → Prop} (hf : zay "Search" f = true) (hl : fs.length < 100)
  (g : ∀ σ', Sb σ0 σ' sr ds (putF f v fs) → (∀ a vs, σ a = some (.list vs) → σ' a = some (.list vs)) → K σ') : zfy (sem zas zay j md).fld (.ref sr) f v σ K :=
 zaS h.top h.dic ⟨⟨sfld hf, hl⟩, g _ ⟨h.ext.upd h.fd, (zaq (zbM h.top h.dic fun e => by cases e)).trans h.top, zaj, h.fd⟩ fun a vs ha => (zaq (zbM ha h.dic zkO)).trans ha⟩
theorem Sb.new {fs : List (String × V)} (h : Sb σ0 σ sr ds fs) {a : Addr} {u : AO} (ha : σ a = none) : Sb σ0 (σ.upd a u) sr ds fs :=
 ⟨h.ext.upd (h.ext.none ha), (zaq (zbb h.top ha)).trans h.top, (zaq (zbb h.dic ha)).trans h.dic, h.fd⟩
theorem zo2 : (zas "Search" "__init__").isSome = true := rfl
theorem zmH (hx : NetAt σ0 x d r rs n T) (h : Sb σ0 σ sr ds [])
  (hQ : ∀ σ' A, Sa σ0 σ' A n root (fun _ => -1) (fun i => i) (fun i => decide (i = root)) [root] → A.sr = sr → A.ds = ds → A.x = x → A.m = m → Q .none σ') : (sem zas zay (k + 1) true).run "Search" "__init__" [.ref sr, .ref x, .ref m, .int root] σ Q X := by
 have hlo := hx.lo
 have hhi := hx.hi
 refine zaw (F := zdd) rfl ⟨rfl, ?_⟩
 dsimp only [zdd, zah, zag, zaJ, zam, zmc, zmn, zlc, zln, zac, zan, zr0, zrs, Nat.reduceAdd, Nat.reduceSub, Loc.get, zgz, zgs, zjs, zaa, tgOk, onT, zae, zaf, zad, zss, zsz, zab]
 refine h.set rfl (Nat.le_of_ble_eq_true rfl) fun σ1 h1 _ => ?_
 dsimp only [zdF, zah, zag, zaJ, zam, Loc.get, zgz, zgs, zjs, zaa, tgOk, onT, zae, zaf, zad, zss, zsz, zab]
 refine h1.set rfl (Nat.le_of_ble_eq_true rfl) fun σ2 h2 _ => ?_
 dsimp only [zdG, zah, zag, zaJ, zam, Loc.get, zgz, zgs, zjs, zaa, tgOk, onT, zae, zaf, zad, zss, zsz, zab]
 refine h2.set rfl (Nat.le_of_ble_eq_true rfl) fun σ3 h3 _ => ?_
 dsimp only [zdH, zah, zag, zaJ, za1, zaL, zam, zd2, zaz, zd3, zbg, zbJ, I_r1, za0, zbf, zaC, zba, za9, Loc.get, zgz, zgs, zjs, zaa, tgOk, onT, zae, zaf, zad, zss, zsz, zab]
 refine zdo (hx.ext h3.ext) ⟨by lia, zlZ (fun _ => -1) trivial (by lia) (fun i h0 h1 K hK => by simpa only [if_true, zah, zag, za7, zao, zaJ, zaA, zaK, zbH, zaY, zcl, zbQ, za1, E_tt, E_ff, zaL, zam, zfv, zbX, zd2, zb9, zaM, zfw, za3, zaB, zee, zbO, E_m0, E_m1, zaz, zaR, zdV, za2, zbh, zbI, zev, E_b1, zcQ, zfu, zd3, zbg, zbJ, zde, zdW, zar, zal, zbn, zaW, I_r1, I_r2, I_r3, za0, zbf, zdl, zft, zaC, zcY, zcX, zba, za9, zeT, zeS, Loc.get, zgz, zgs, zjs, zaa, tgOk, onT, zae, zaf, zad, zss, zsz, zab] using hK) fun b hb => ?_⟩
 refine (h3.new hb).set rfl (Nat.le_of_ble_eq_true rfl) fun σ4 h4 k4 => ?_
 have b4 := k4 b _ zaj
 dsimp only [zdI, zah, zag, zaJ, za1, zam, zaz, zd3, zbg, zbJ, I_r1, za0, zbf, zaC, zba, za9, Loc.get, zgz, zgs, zjs, zaa, tgOk, onT, zae, zaf, zad, zss, zsz, zab]
 refine zdo (hx.ext h4.ext) ⟨by lia, zlZ (fun i => i) trivial (by lia) (fun i h0 h1 K hK => by simpa only [if_true, zah, zag, za7, zao, zaJ, zaA, zaK, zbH, zaY, zcl, zbQ, za1, E_tt, E_ff, zaL, zam, zfv, zbX, zd2, zb9, zaM, zfw, za3, zaB, zee, zbO, E_m0, E_m1, zaz, zaR, zdV, za2, zbh, zbI, zev, E_b1, zcQ, zfu, zd3, zbg, zbJ, zde, zdW, zar, zal, zbn, zaW, I_r1, I_r2, I_r3, za0, zbf, zdl, zft, zaC, zcY, zcX, zba, za9, zeT, zeS, Loc.get, zgz, zgs, zjs, zaa, tgOk, onT, zae, zaf, zad, zss, zsz, zab] using hK) fun ba hba => ?_⟩
 have n1 : b ≠ ba := zbb b4 hba
 refine (h4.new hba).set rfl (Nat.le_of_ble_eq_true rfl) fun σ5 h5 k5 => ?_
 have b5 := k5 b _ ((zaq n1).trans b4)
 have c5 := k5 ba _ zaj
 dsimp only [zdJ, zah, zag, zaJ, za1, zam, zaM, zaz, zd3, zbg, zbJ, I_r1, za0, zbf, zaC, zba, za9, Loc.get, zgz, zgs, zjs, zaa, tgOk, onT, zae, zaf, zad, zss, zsz, zab]
 refine zdo (hx.ext h5.ext) ⟨by lia, zoK (fun i => decide (i = root)) trivial (by lia) (fun i h0 h1 K hK => by simp only [if_true, zaa, zoO]; exact hK) fun o ho => ?_⟩
 have n2 : b ≠ o := zbb b5 ho
 have n3 : ba ≠ o := zbb c5 ho
 refine (h5.new ho).set rfl (Nat.le_of_ble_eq_true rfl) fun σ6 h6 k6 => ?_
 have b6 := k6 b _ ((zaq n2).trans b5)
 have c6 := k6 ba _ ((zaq n3).trans c5)
 have d6 := k6 o _ zaj
 dsimp only [zdK, zah, zag, zaJ, zam, za2, zar, zal, Loc.get, zgz, zgs, zjs, zaa, tgOk, onT, zae, zaf, zad, zss, zsz, zab]
 refine ⟨Nat.le_of_ble_eq_true rfl, fun w hw => ?_⟩
 have n4 : b ≠ w := zbb b6 hw
 have n5 : ba ≠ w := zbb c6 hw
 have n6 : o ≠ w := zbb d6 hw
 refine (h6.new hw).set rfl (Nat.le_of_ble_eq_true rfl) fun σ7 h7 k7 => ?_
 exact hQ σ7 ⟨sr, ds, x, m, b, ba, o, w⟩ ⟨h7.ext, h7.top, h7.dic, k7 b _ ((zaq n4).trans b6), k7 ba _ ((zaq n5).trans c6), k7 o _ ((zaq n6).trans d6), k7 w _ zaj, h7.fd, h3.ext.none hb, h4.ext.none hba, h5.ext.none ho, h6.ext.none hw, n1, n2, n4, n3.symm, n6, n5.symm⟩ rfl rfl rfl rfl
end
section
variable {k : Nat} {σ σ0 : Store} {Q : V → Store → Prop} {X : XP} {A : Ad} {n root : Int} {bk bs M : Int → Int} {O : Int → Bool} {q dn : List Int} {T : List (Int × Int)} {one other : Int}
noncomputable def Nb (T : List (Int × Int)) (i j : Int) : Prop := j ∈ nb T i
theorem Sg.mr (g : Sg n (Nb T) M bk bs O root dn q) {v : Int} (h : 0 ≤ M v) : 0 ≤ M v ∧ M v < n := (g.gr _ _ (g.gr _ _ (g.mt v h).2).1).2.2
theorem Sg.pr (g : Sg n (Nb T) M bk bs O root dn q) {v : Int} {L : List Int} (u : Up M bk root v L) (o : O v = true) : ∀ x ∈ L, 0 ≤ x ∧ x < n := fun x hx => by
 rcases zcy hx with h | h
 ·exact g.rng (g.bl.evO u o x h)
 ·refine ob2 (u.odd h) ?_
  intro c hc nc ee195
  subst ee195
  exact g.mr (g.lab c (g.bl.evO u o c hc) nc).1
theorem Sg.pl (g : Sg n (Nb T) M bk bs O root dn q) (hn : n ≤ 40) {v : Int} {L : List Int} (u : Up M bk root v L) (o : O v = true) : L.length ≤ 40 :=
 zbr (m := 40) (g.bl.nd o u) fun i hi => by have := g.pr u o i hi; lia
theorem Sg.bn (g : Sg n (Nb T) M bk bs O root dn q) {b : Int} (o : O b = true) (m : 0 ≤ M b) : b ≠ root ∧ (0 ≤ M b ∧ M b < n) ∧ (0 ≤ bk (M b) ∧ bk (M b) < n) := by
 have nr : b ≠ root := fun e => by have := g.rr.2; rw [← e] at this; lia
 exact ⟨nr, g.mr m, g.rng (g.bl.nx b o nr)⟩
theorem zh3 (h : Sa σ0 σ A n root bk bs O q) (hm : σ0 A.m = some (.list (zaN n.toNat M))) (g : Sg n (Nb T) M bk bs O root dn q) (hn : n ≤ 40) (o1 : O one = true) (o2 : O other = true)
  (hQ : ∀ s (D : List Int) m W1 x1 X1 W2 x2 X2, σ s = none → Side M bk bs O root one m W1 x1 X1 → Side M bk bs O root other m W2 x2 X2 → (∀ y ∈ W1, ∀ z ∈ W2, bs y ≠ bs z) → Q (.int m) (σ.upd s (.dict (D.map V.int)))) :
  (sem zas zay (k + 1) true).run "Search" "meeting" [.ref A.sr, .int one, .int other] σ Q X := by
 refine zaw (F := zbR) rfl ⟨rfl, ?_⟩
 have step : ∀ {σ' : Store} {b : Int} {K : V → Prop} {j : Nat}, Sa σ0 σ' A n root bk bs O q → O b = true → 0 ≤ M b → K (.int (bs (bk (M b)))) →
   zdw (sem zas zay j true).fld (.ref A.sr) "base" σ' fun u => zdw (sem zas zay j true).fld (.ref A.sr) "back" σ' fun u2 => zdw (sem zas zay j true).fld (.ref A.sr) "mate" σ' fun u3 => idxV u3 (.int b) σ' fun v => idxV u2 v σ' fun v => idxV u v σ' K := fun h' ob hb hK => by
  have r1 := g.rng ob
  refine ob16 (g.bn ob hb) ?_
  intro _ r2 r3
  exact h'.at rfl rfl (h'.at rfl rfl (h'.at rfl rfl (zd7 (h'.ext _ _ hm) r1.1 (by lia) (zd7 h'.hb r2.1 (by lia) (zd7 h'.hs r3.1 (by lia) hK)))))
 dsimp only [zbR, zah, zag, zao, zbI, zmc, zmn, zlc, zln, zac, zan, zr0, zrs, Nat.reduceAdd, Nat.reduceSub, Loc.get, zgz, zgs, zjs, zaa, tgOk, onT, zae, zaf, zad, zss, zsz, zab]
 intro s hs
 have h1 : ∀ {D : List V}, Sa σ0 (σ.upd s (.dict D)) A n root bk bs O q := fun {D} => h.new hs
 dsimp only [zce, zah, zag, zao, zam, zaz, zaR, Loc.get, zgz, zgs, zjs, zaa, tgOk, onT, zae, zaf, zad, zss, zsz, zab]
 refine h1.base (g.rng o1) ?_
 dsimp only [zcf, zah, zag, zaA, E_tt, zam, Loc.get, zgz, zgs, zjs, zaa, tgOk, onT, zae, zaf, zad, zss, zsz, zab]
 refine zbp (D := []) zaj (by decide) ?_
 rw [if_neg List.not_mem_nil, zbC]
 dsimp only [zcg, zah, zag, zcl, zaL, zam, zaM, zaz, zaR, Loc.get, zgz, zgs, zjs, zaa, tgOk, onT, zae, zaf, zad, zss, zsz, zab]
 refine zbA (fun t ρ σ' => ∃ seen P b Y, Sn M bk bs root one seen P b Y ∧ O b = true ∧ Y.length + t ≤ 40 ∧ seen.length ≤ t + 1 ∧ σ' = σ.upd s (.dict (seen.map V.int)) ∧ ρ = [some (.ref A.sr), some (.int one), some (.int other), some (.ref s), some (.int b)]) 40 ?_ ?_ ?_
 ·refine ob18 (Sn.init g.bl o1) ?_
  intro P Y sn
  exact ⟨_, P, _, Y, sn, (g.bl.bb one o1).1, by have := g.pl hn sn.u (g.bl.bb one o1).1; lia, Nat.le_refl _, rfl, rfl⟩
 ·intro t ρ σ' zz53
  refine ob60 zz53 ?_
  clear zz53
  intro seen P b Y sn ob l1 l2 ee196
  subst ee196
  intro ee197
  subst ee197
  lia
 ·intro t ρ σ' K zz54
  refine ob60 zz54 ?_
  clear zz54
  intro seen P b Y sn ob l1 l2 ee198
  subst ee198
  intro ee199
  subst ee199
  intro hK
  simp only [zgz, zgs, zjs, zaa]
  refine h1.mate hm (g.rng ob) (zai (a := decide (0 ≤ M b)) rfl ?_)
  show if decide (0 ≤ M b) = true then _ else _
  refine zcd (fun c => ?_) fun c => ?_
  ·have hb := of_decide_eq_true c
   refine ob16 (g.bn ob hb) ?_
   intro nr _ _
   dsimp only [zcn, zah, zag, zao, zam, zaz, zaR, Loc.get, zgz, zgs, zjs, zaa, tgOk, onT, zae, zaf, zad, zss, zsz, zab]
   refine step h1 ob hb ?_
   dsimp only [zck, zah, zag, zaA, E_tt, zam, Loc.get, zgz, zgs, zjs, zaa, tgOk, onT, zae, zaf, zad, zss, zsz, zab]
   refine zbp zaj (by unfold zax; lia) ?_
   rw [zbC]
   obtain ⟨P', Y', sn', ly⟩ := sn.next (seen' := if bs (bk (M b)) ∈ seen then seen else seen ++ [bs (bk (M b))]) g.bl o1 nr fun c => by
    split
    ·rename_i z; exact ⟨.inl, fun y => y.elim id fun e => e ▸ z⟩
    ·rw [List.mem_append, List.mem_singleton]
   refine hK _ _ ⟨_, P', _, Y', sn', (g.bl.next ob nr).1, by lia, ?_, rfl, rfl⟩
   split
   ·lia
   ·rw [List.length_append, List.length_singleton]; lia
  ·have er : b = root := Classical.byContradiction fun z => c (decide_eq_true (g.lab b ob z).1)
   subst er
   have se := sn.end
   have u1 := sn.w.up sn.u
   have rs := se.root u1 g.bl.bsr
   have sO : ∀ c ∈ seen, O c = true := fun c hc => g.bl.evO u1 o1 c ((se.on c hc).2 u1)
   dsimp only [zch, zah, zag, zao, zam, zaz, zaR, Loc.get, zgz, zgs, zjs, zaa, tgOk, onT, zae, zaf, zad, zss, zsz, zab]
   refine h1.base (g.rng o2) ?_
   dsimp only [zci, zah, zag, zcl, zam, zaM, Loc.get, zgz, zgs, zjs, zaa, tgOk, onT, zae, zaf, zad, zss, zsz, zab]
   refine ob12 (g.bl.upL o2) ?_
   intro L2 u2
   refine zbA (fun t ρ σ' => ∃ W x Y, Met M bk bs O b other seen W x Y ∧ Y.length + t ≤ 40 ∧ σ' = σ.upd s (.dict (seen.map V.int)) ∧ ρ = [some (.ref A.sr), some (.int one), some (.int other), some (.ref s), some (.int (bs x))]) 40
    ⟨[], other, L2, ⟨.nil, u2, fun y hy => absurd hy List.not_mem_nil⟩, by have := g.pl hn u2 o2; lia, rfl, rfl⟩ ?_ ?_
   ·intro t ρ σ' zz55
    refine ob11 zz55 ?_
    clear zz55
    intro W x Y mt l ee200
    subst ee200
    intro ee201
    subst ee201
    lia
   ·intro t ρ σ' K zz56
    refine ob11 zz56 ?_
    clear zz56
    intro W x Y mt l ee202
    subst ee202
    intro ee203
    subst ee203
    intro hK
    simp only [zgz, zgs, zjs, zaa]
    rw [zbd, zcp zaj]
    show if (!decide (bs x ∈ seen)) = true then _ else _
    have ox : O x = true := g.bl.evO (mt.w.up mt.u) o2 x (by rw [mt.w.evA]; exact List.mem_append_right _ mt.u.head)
    by_cases c : bs x ∈ seen
    ·rw [decide_eq_true c]
     refine zm1 (c := (!true) = true) Bool.false_ne_true ?_
     dsimp only [zcj, zah, zag, zaK, zam, Loc.get, zgz, zgs, zjs, zaa, tgOk, onT, zae, zaf, zad, zss, zsz, zab]
     refine ob6 (g.bl.sides o1 o2 se mt c) ?_
     intro W1 x1 X1 s1 s2 dj
     exact hQ s seen _ W1 x1 X1 W x Y hs s1 s2 dj
    ·rw [decide_eq_false c]
     refine zhi (c := (!false) = true) rfl ?_
     have nr : bs x ≠ b := fun e => c (e ▸ rs)
     have ob2 := (g.bl.bb x ox).1
     dsimp only [zcm, zah, zag, zao, zam, zaz, zaR, Loc.get, zgz, zgs, zjs, zaa, tgOk, onT, zae, zaf, zad, zss, zsz, zab]
     refine step h1 ob2 (g.lab _ ob2 nr).1 ?_
     refine ob17 (mt.next g.bl o2 sO c nr) ?_
     intro W' Y' mt' l'
     exact hK _ _ ⟨W', _, Y', mt', by lia, rfl, rfl⟩
end
section
variable {k : Nat} {σ σ0 : Store} {Q : V → Store → Prop} {X : XP} {A : Ad} {n root : Int} {bk bs M : Int → Int} {O : Int → Bool} {q dn : List Int} {T : List (Int × Int)} {one other : Int}
theorem zqg {vs ks : List V} : AO.list vs ≠ .dict ks := fun e => by cases e
theorem Sa.dict (h : Sa σ0 σ A n root bk bs O q) {a : Addr} {D D' : List V} (f : σ0 a = none) (ha : σ a = some (.dict D)) : Sa σ0 (σ.upd a (.dict D')) A n root bk bs O q := by
 have li : ∀ {b : Addr} {vs : List V}, σ b = some (.list vs) → (σ.upd a (.dict D')) b = some (.list vs) := fun hb => (zaq (zbM hb ha zqg)).trans hb
 exact ⟨h.ext.upd f, (zaq (zbM h.top ha fun e => by cases e)).trans h.top, (zaq (zbM h.dic ha fun e => by cases e)).trans h.dic, li h.hb, li h.hs, li h.ho, li h.hw, h.fd, h.fb, h.fs, h.fo, h.fw, h.bs_, h.bo, h.bw, h.os, h.ow, h.ws⟩
theorem zfZ {v m c0 x : Int} {W0 ring0 : List Int} {a : Addr} (h : Sa σ0 σ A n root bk bs O q) (hm : σ0 A.m = some (.list (zaN n.toNat M))) (w : Wk M bk root v W0 x) (bx : bs x = m) (nm : ∀ y ∈ W0, bs y ≠ m) (nd : W0.Nodup) (hl : W0.length ≤ 40)
  (rx : 0 ≤ x ∧ x < n) (re : ∀ y ∈ ev W0, (0 ≤ y ∧ y < n) ∧ (0 ≤ M y ∧ M y < n)) (fa : σ0 a = none) (ha : σ a = some (.dict (ring0.map V.int))) (lr : ring0.length ≤ 1000)
  (hQ : ∀ σ' f (ring : List Int), Sa σ0 σ' A n root f bs O q → (∀ y, f y = mkb bk c0 W0 y) → σ' a = some (.dict (ring.map V.int)) → ring.length ≤ ring0.length + 80 → (∀ b, b ∈ ring ↔ b ∈ ring0 ∨ ∃ y ∈ W0, bs y = b) → Q .none σ') :
  (sem zas zay (k + 1) true).run "Search" "marked" [.ref A.sr, .int v, .int m, .int c0, .ref a] σ Q X := by
 refine zaw (F := zb8) rfl ⟨rfl, ?_⟩
 dsimp only [zb8, zah, zag, zcl, zam, zaM, zaz, zaR, zmc, zmn, zlc, zln, zac, zan, zr0, zrs, Nat.reduceAdd, Nat.reduceSub, Loc.get, zgz, zgs, zjs, zaa, tgOk, onT, zae, zaf, zad, zss, zsz, zab]
 refine zbA (fun t ρ σ' => ∃ D W p c f ring, Mk M bk bs root v c0 x W0 ring0 D W p c f ring ∧ W.length + t ≤ 40 ∧ ring.length ≤ ring0.length + 2 * t ∧ Sa σ0 σ' A n root f bs O q ∧ σ' a = some (.dict (ring.map V.int)) ∧ ρ = [some (.ref A.sr), some (.int p), some (.int m), some (.int c), some (.ref a)]) 40
  ⟨[], W0, v, c0, bk, ring0, .init w, hl, Nat.le_refl _, h, ha, rfl⟩ ?_ ?_
 ·intro t ρ σ' zz57
  refine ob61 zz57 ?_
  clear zz57
  intro D W p c f ring mk l1 l2 s hr ee204
  subst ee204
  lia
 ·intro t ρ σ' K zz58
  refine ob61 zz58 ?_
  clear zz58
  intro D W p c f ring mk l1 l2 s hr ee205
  subst ee205
  intro hK
  have hp : p = x ∨ p ∈ ev W0 := mk.w.hd.imp id fun z => by rw [mk.e, mk.d.evA]; exact List.mem_append_right _ z
  have rp : 0 ≤ p ∧ p < n := hp.elim (fun e => e ▸ rx) fun z => (re p z).1
  simp only [zgz, zgs, zjs, zaa]
  refine s.base rp (zai (a := !(bs p == m)) rfl ?_)
  show if (!(bs p == m)) = true then _ else _
  by_cases e : bs p = m
  ·rw [e, beq_self_eq_true]
   refine zm1 (c := (!true) = true) Bool.false_ne_true ?_
   have px : p = x := hp.resolve_right fun z => nm p (zaF z) e
   subst px
   refine ob14 (mk.end fun z => nm _ z bx) ?_
   intro k1 k2
   exact hQ σ' f ring s k1 hr (by lia) k2
  ·rw [beq_eq_false_iff_ne.mpr e]
   refine zhi (c := (!false) = true) rfl ?_
   have px : p ≠ x := fun z => e (z ▸ bx)
   have r2 := re p (hp.resolve_left px)
   dsimp only [zcP, zah, zag, zaA, E_tt, zam, zaz, zaR, Loc.get, zgz, zgs, zjs, zaa, tgOk, onT, zae, zaf, zad, zss, zsz, zab]
   refine s.base rp (zbp hr (by unfold zax; lia) ?_)
   have s1 := s.dict (D' := ((if bs p ∈ ring then ring else ring ++ [bs p]).map V.int)) fa hr
   dsimp only [zcK, zah, zag, zaA, E_tt, zam, zaz, zaR, Loc.get, zgz, zgs, zjs, zaa, tgOk, onT, zae, zaf, zad, zss, zsz, zab]
   refine s1.at rfl rfl (s1.mate hm rp (zd7 s1.hs r2.2.1 (by lia) (zbp zaj ?_ ?_)))
   ·split <;> unfold zax
    ·lia
    ·rw [List.length_append, List.length_singleton]; lia
   rw [zbC]
   generalize hr1 : (if bs p ∈ ring then ring else ring ++ [bs p]) = ring1
   have m1 : ∀ b, b ∈ ring1 ↔ b ∈ ring ∨ b = bs p := fun b => by
    rw [← hr1]; split
    ·rename_i z; exact ⟨.inl, fun y => y.elim id fun e => e ▸ z⟩
    ·rw [List.mem_append, List.mem_singleton]
   have t1 : ring1.length ≤ ring.length + 1 := by
    rw [← hr1]; split
    ·lia
    ·rw [List.length_append, List.length_singleton]; exact Nat.le_refl _
   generalize hr2 : (if bs (M p) ∈ ring1 then ring1 else ring1 ++ [bs (M p)]) = ring2
   have m2 : ∀ b, b ∈ ring2 ↔ b ∈ ring ∨ b = bs p ∨ b = bs (M p) := fun b => by
    rw [← hr2, ← or_assoc, ← m1 b]; split
    ·rename_i z; exact ⟨.inl, fun y => y.elim id fun e => e ▸ z⟩
    ·rw [List.mem_append, List.mem_singleton]
   have t2 : ring2.length ≤ ring1.length + 1 := by
    rw [← hr2]; split
    ·lia
    ·rw [List.length_append, List.length_singleton]; exact Nat.le_refl _
   have s2 := s.dict (D' := (ring2.map V.int)) fa hr
   have hr3 : (σ'.upd a (.dict (ring2.map V.int))) a = some (.dict (ring2.map V.int)) := zaj
   generalize σ'.upd a (.dict (ring2.map V.int)) = σ2 at *
   refine ob59 (mk.next nd px m2) ?_
   intro D' W' mk' lw ef en _
   dsimp only [zcL, zah, zag, zaA, zam, zaz, Loc.get, zgz, zgs, zjs, zaa, tgOk, onT, zae, zaf, zad, zss, zsz, zab]
   refine s2.at rfl rfl (zk8 s2.hb rp.1 (by lia) ?_)
   have s3 := s2.putB (bk' := fun j => if j = p then c else f j)
   have hr4 : (σ2.upd A.b (.list (zaN n.toNat fun j => if j = p then c else f j))) a = some (.dict (ring2.map V.int)) := (zaq (zbM hr3 s2.hb fun e => by cases e)).trans hr3
   generalize σ2.upd A.b (.list (zaN n.toNat fun j => if j = p then c else f j)) = σ3 at *
   dsimp only [zcM, zah, zag, zao, zam, zaz, zaR, Loc.get, zgz, zgs, zjs, zaa, tgOk, onT, zae, zaf, zad, zss, zsz, zab]
   refine s3.mate hm rp ?_
   dsimp only [zcN, zah, zag, zao, zam, zaz, zaR, Loc.get, zgz, zgs, zjs, zaa, tgOk, onT, zae, zaf, zad, zss, zsz, zab]
   refine s3.back r2.2 ?_
   refine hK _ _ ⟨D', W', _, _, _, ring2, mk', by lia, by lia, s3, hr4, ?_⟩
   show [_, some (V.int (if M p = p then c else f (M p))), _, _, _] = _
   rw [en]
end
section
variable {k : Nat} {σ σ0 : Store} {Q : V → Store → Prop} {X : XP} {A : Ad} {n root : Int} {bk bs M : Int → Int} {O : Int → Bool} {q dn : List Int} {T : List (Int × Int)} {one other : Int} {d r : Addr} {rs : List Addr}
noncomputable def bsJ (bs : Int → Int) (ring : List Int) (m : Int) (j : Nat) (x : Int) : Int := if 0 ≤ x ∧ x < j ∧ bs x ∈ ring then m else bs x
noncomputable def oJ (bs : Int → Int) (O : Int → Bool) (ring : List Int) (j : Nat) (x : Int) : Bool := O x || decide (0 ≤ x ∧ x < j ∧ bs x ∈ ring)
noncomputable def nwJ (bs : Int → Int) (O : Int → Bool) (ring : List Int) (j : Nat) : List Int := ((List.range j).filter fun i : Nat => !O (i : Int) && decide (bs (i : Int) ∈ ring)).map fun i : Nat => (i : Int)
theorem zjw {ring : List Int} {j : Nat} : nwJ bs O ring (j + 1) = nwJ bs O ring j ++ (if (!O (j : Int) && decide (bs (j : Int) ∈ ring)) = true then [(j : Int)] else []) := by
 unfold nwJ
 rw [List.range_succ, List.filter_append, List.map_append, List.filter_cons]
 split <;> rfl
theorem zli {ring : List Int} {j : Nat} (o : O (j : Int) = false) (c : bs (j : Int) ∈ ring) : nwJ bs O ring (j + 1) = nwJ bs O ring j ++ [(j : Int)] := by
 rw [zjw, o, decide_eq_true c]; rfl
theorem znw {ring : List Int} {j : Nat} (h : O (j : Int) = true ∨ bs (j : Int) ∉ ring) : nwJ bs O ring (j + 1) = nwJ bs O ring j := by
 rw [zjw]
 rcases h with h | h
 ·rw [h]; exact List.append_nil _
 ·rw [decide_eq_false h, Bool.and_false]; exact List.append_nil _
theorem zoa {ring : List Int} {j : Nat} {x : Int} : x ∈ nwJ bs O ring j ↔ (0 ≤ x ∧ x < j) ∧ O x = false ∧ bs x ∈ ring := by
 unfold nwJ
 rw [List.mem_map]
 constructor
 ·intro zz59
  refine ob7 zz59 ?_
  clear zz59
  intro i hi ee206
  subst ee206
  rw [List.mem_filter, List.mem_range, Bool.and_eq_true, decide_eq_true_eq, Bool.not_eq_true'] at hi
  exact ⟨⟨by lia, by lia⟩, hi.2⟩
 ·intro zz60
  refine ob62 zz60 ?_
  clear zz60
  intro h0 h1 h2 h3
  refine ⟨x.toNat, ?_, by lia⟩
  rw [List.mem_filter, List.mem_range, Bool.and_eq_true, decide_eq_true_eq, Bool.not_eq_true', Int.toNat_of_nonneg h0]
  exact ⟨by lia, h2, h3⟩
theorem nwJ_nodup {ring : List Int} {j : Nat} : (nwJ bs O ring j).Nodup :=
 List.pairwise_map.mpr ((List.nodup_range.sublist List.filter_sublist).imp fun h e => h (by lia))
theorem zpG {ring : List Int} {m : Int} {j : Nat} (h : bs j ∈ ring) : bsJ bs ring m (j + 1) = fun x : Int => if x = (j : Int) then m else bsJ bs ring m j x := funext fun x => by
 unfold bsJ
 by_cases e : x = j
 ·rw [if_pos e, if_pos ⟨by lia, by lia, e ▸ h⟩]
 ·rw [if_neg e]
  by_cases c : 0 ≤ x ∧ x < j ∧ bs x ∈ ring
  ·rw [if_pos c, if_pos ⟨c.1, by lia, c.2.2⟩]
  ·rw [if_neg c, if_neg fun z => c ⟨z.1, by lia, z.2.2⟩]
theorem zoR {ring : List Int} {m : Int} {j : Nat} (h : bs j ∉ ring) : bsJ bs ring m (j + 1) = bsJ bs ring m j := funext fun x => by
 unfold bsJ
 by_cases c : 0 ≤ x ∧ x < j ∧ bs x ∈ ring
 ·rw [if_pos c, if_pos ⟨c.1, by lia, c.2.2⟩]
 ·rw [if_neg c, if_neg fun z => c ⟨z.1, ?_, z.2.2⟩]
  have : x ≠ j := fun e => h (e ▸ z.2.2)
  lia
theorem zpX {ring : List Int} {j : Nat} (h : bs j ∈ ring) : oJ bs O ring (j + 1) = fun x : Int => oJ bs O ring j x || decide (x = (j : Int)) := funext fun x => by
 unfold oJ
 rw [Bool.or_assoc]
 congr 1
 rw [← Bool.decide_or]
 refine decide_eq_decide.mpr ⟨fun z => ?_, fun z => z.elim (fun z => ⟨z.1, by lia, z.2.2⟩) fun z => ⟨by lia, by lia, z ▸ h⟩⟩
 by_cases e : x = j
 ·exact .inr e
 ·exact .inl ⟨z.1, by lia, z.2.2⟩
theorem znv {ring : List Int} {j : Nat} (h : bs j ∈ ring → O j = true) : oJ bs O ring (j + 1) = oJ bs O ring j := funext fun x => by
 unfold oJ
 by_cases e : x = j
 ·subst e
  by_cases c : bs j ∈ ring
  ·rw [h c, Bool.true_or, Bool.true_or]
  ·rw [decide_eq_false fun z => c z.2.2, decide_eq_false fun z => c z.2.2]
 ·congr 1
  exact decide_eq_decide.mpr ⟨fun z => ⟨z.1, by lia, z.2.2⟩, fun z => ⟨z.1, by lia, z.2.2⟩⟩
theorem zmC {m : Int} {ring : List Int} {a : Addr} {N Y} {Q : V → Store → Prop} (hx : NetAt σ0 A.x d r rs n T) (h : Sa σ0 σ A n root bk bs O q) (hl : q.length ≤ 40) (ha : σ a = some (.dict (ring.map V.int)))
  (hQ : ∀ σ' ρ, Sa σ0 σ' A n root bk (bsJ bs ring m n.toNat) (oJ bs O ring n.toNat) (q ++ nwJ bs O ring n.toNat) → N ρ σ') :
  wpSs (sem zas zay k) true zbG [some (.ref A.sr), some (.int one), some (.int other), some (.int m), some (.ref a), none] σ N Q Y := by
 have hlo := hx.lo
 have hhi := hx.hi
 dsimp only [zbG, zah, zag, zbQ, zam, zaz, I_r1, za0, zbf, zaC, Loc.get, zgz, zgs, zjs, zaa, tgOk, onT, zae, zaf, zad, zss, zsz, zab]
 refine h.ground (zdo (hx.ext h.ext) ⟨by lia, ?_⟩)
 refine zaV (fun j ρ σ' => Sa σ0 σ' A n root bk (bsJ bs ring m j) (oJ bs O ring j) (q ++ nwJ bs O ring j) ∧ σ' a = some (.dict (ring.map V.int)) ∧ ∃ t, ρ = [some (.ref A.sr), some (.int one), some (.int other), some (.int m), some (.ref a), t]) ⟨?_, ha, _, rfl⟩ (fun _ _ _ _ => trivial) ?_ ?_
 ·have e1 : bsJ bs ring m 0 = bs := funext fun x => if_neg fun z => by lia
  have e2 : oJ bs O ring 0 = O := funext fun x => by unfold oJ; rw [decide_eq_false fun z => by lia, Bool.or_false]
  rw [e1, e2, show nwJ bs O ring 0 = [] from rfl, List.append_nil]; exact h
 ·intro j v ρ σ' K hv zz61
  refine ob58 zz61 ?_
  clear zz61
  intro s hr t ee207
  subst ee207
  intro hK
  refine ob14 (zbL hv) ?_
  intro ee208
  subst ee208
  intro hj
  rw [Int.zero_add] at hj ⊢
  have rj : (0 : Int) ≤ j ∧ (j : Int) < n := ⟨by lia, hj⟩
  have bj : bsJ bs ring m j j = bs j := if_neg fun z => by lia
  have oj : oJ bs O ring j j = O j := by unfold oJ; rw [decide_eq_false fun z => by lia, Bool.or_false]
  dsimp only [zcO, zah, zag, zaA, zaY, zam, zaM, zaz, zaR, Loc.get, zgz, zgs, zjs, zaa, tgOk, onT, zae, zaf, zad, zss, zsz, zab]
  refine s.base rj ?_
  rw [bj, zep, zcp hr]
  by_cases c : bs (j : Int) ∈ ring
  ·rw [decide_eq_true c]
   refine zai rfl (zbN ?_)
   refine s.at rfl rfl (zk8 s.hs rj.1 (by lia) ?_)
   have s1 := s.putS (bs' := fun x : Int => if x = (j : Int) then m else bsJ bs ring m j x)
   rw [← zpG c] at s1 ⊢
   have hr1 : (σ'.upd A.ba (.list (zaN n.toNat (bsJ bs ring m (j + 1))))) a = some (.dict (ring.map V.int)) := (zaq (zbM hr s.hs fun e => by cases e)).trans hr
   generalize σ'.upd A.ba (.list (zaN n.toNat (bsJ bs ring m (j + 1)))) = σ1 at *
   dsimp only [zcI, zah, zag, zaA, zaY, E_tt, zam, zb9, zaz, zaR, Loc.get, zgz, zgs, zjs, zaa, tgOk, onT, zae, zaf, zad, zss, zsz, zab]
   refine s1.outer (zlM s1.ho rj.1 (by lia) ?_)
   rw [oj]
   cases o : O (j : Int) with
   | true =>
    refine go_b (zaT (hK _ _ ⟨?_, hr1, _, rfl⟩))
    rw [znv fun _ => o, znw (.inl o)]; exact s1
   | false =>
    refine go_b (zbN (s1.outer (znu s1.ho rj.1 (by lia) ?_)))
    have s2 := s1.putO (O' := fun x : Int => oJ bs O ring j x || decide (x = (j : Int)))
    rw [← zpX c] at s2 ⊢
    have hr2 : (σ1.upd A.o (.list (zd0 n.toNat (oJ bs O ring (j + 1))))) a = some (.dict (ring.map V.int)) := (zaq (zbM hr1 s1.ho fun e => by cases e)).trans hr1
    generalize σ1.upd A.o (.list (zd0 n.toNat (oJ bs O ring (j + 1)))) = σ2 at *
    dsimp only [zcJ, zah, zag, za7, zam, E_m1, zaz, Loc.get, zgz, zgs, zjs, zaa, tgOk, onT, zae, zaf, zad, zss, zsz, zab]
    refine s2.waiting (zat s2.hw (zaZ s2.hw ?_ (hK _ _ ⟨?_, ?_, _, rfl⟩)))
    ·have : (nwJ bs O ring j).length ≤ j := by
      unfold nwJ
      rw [List.length_map]
      exact Nat.le_trans (List.length_filter_le ..) (by rw [List.length_range]; exact Nat.le_refl _)
     rw [List.length_map, List.length_append]; unfold zax; lia
    ·have := s2.putW (q' := q ++ nwJ bs O ring (j + 1))
     rw [zli o c, ← List.append_assoc, List.map_append] at this
     rw [zli o c, ← List.append_assoc]
     exact this
    ·exact (zaq (zbM hr2 s2.hw fun e => by cases e)).trans hr2
  ·rw [decide_eq_false c]
   refine zai rfl (zaT (hK _ _ ⟨?_, hr, _, rfl⟩))
   rw [zoR c, znv fun z => absurd z c, znw (.inr c)]
   exact s
 ·intro ρ σ' zz62
  refine ob16 zz62 ?_
  clear zz62
  intro s _ _
  rw [List.length_map, zbB] at s
  exact hQ σ' ρ s
end
section
variable {k : Nat} {σ σ0 : Store} {Q : V → Store → Prop} {X : XP} {A : Ad} {n root : Int} {bk bs M : Int → Int} {O : Int → Bool} {q dn : List Int} {T : List (Int × Int)} {one other : Int} {d r : Addr} {rs : List Addr}
theorem Sg.ql (g : Sg n (Nb T) M bk bs O root dn q) (hn : n ≤ 40) : dn.length + q.length ≤ 40 := by
 have := zbr (m := 40) g.nod fun i hi => by have := g.rng ((g.que i).mpr hi); lia
 rw [List.length_append] at this; exact this
theorem Side.re {v m x : Int} {W Y : List Int} (s : Side M bk bs O root v m W x Y) (g : Sg n (Nb T) M bk bs O root dn q) : ∀ y ∈ ev W, (0 ≤ y ∧ y < n) ∧ (0 ≤ M y ∧ M y < n) := fun y hy =>
 ⟨g.rng (s.evo g.bl hy), g.mr (g.lab y (s.evo g.bl hy) (s.w.next hy).1).1⟩
theorem Side.wl {v m x : Int} {W Y : List Int} (s : Side M bk bs O root v m W x Y) (g : Sg n (Nb T) M bk bs O root dn q) (hn : n ≤ 40) : W.length ≤ 40 := by
 have := g.pl hn s.all s.o
 rw [List.length_append] at this; lia
theorem Rng.shr {B : Int → Int} {m x1 x2 : Int} {W1 W2 X1 X2 ring : List Int} (R : Rng M bk bs B O root one other m x1 x2 W1 W2 X1 X2) (g : Sg n (Nb T) M bk bs O root dn q) (hr : ∀ b, b ∈ ring ↔ ∃ y, (y ∈ W1 ∨ y ∈ W2) ∧ bs y = b) :
  Shr bs (bsJ bs ring m n.toNat) O (oJ bs O ring n.toNat) m W1 W2 (nwJ bs O ring n.toNat) := by
 have h1 : ∀ x, bs x ∈ ring → Cm bs m W1 W2 x := fun x hx => .inr ((hr _).mp hx)
 have rW : ∀ y, y ∈ W1 ∨ y ∈ W2 → 0 ≤ y ∧ y < n := fun y hy => hy.elim (fun z => g.pr R.s1.all R.s1.o y (List.mem_append_left _ z)) fun z => g.pr R.s2.all R.s2.o y (List.mem_append_left _ z)
 have h2 : ∀ x, Cm bs m W1 W2 x → (bs x = m ∧ O x = true) ∨ ((0 ≤ x ∧ x < n.toNat) ∧ bs x ∈ ring) := fun x hx => by
  rcases hx with hx | hx
  ·refine .inl ⟨hx, ?_⟩
   cases o : O x with
   | true => rfl
   | false => rw [g.bl.ib x o] at hx; rw [hx, R.mo.1] at o; cases o
  ·refine .inr ⟨?_, (hr _).mpr hx⟩
   refine ob7 hx ?_
   clear hx
   intro y hy e
   have ry := g.bsr (rW y hy)
   rw [e] at ry
   cases o : O x with
   | true => have := g.rng o; lia
   | false => rw [g.bl.ib x o] at ry; lia
 refine ⟨fun x hx => ?_, fun x hx => if_neg fun z => hx (h1 x z.2.2), fun x => ?_, fun x => ?_, nwJ_nodup⟩
 ·unfold bsJ
  rcases h2 x hx with z | z
  ·split
   ·rfl
   ·exact z.1
  ·exact if_pos ⟨z.1.1, z.1.2, z.2⟩
 ·unfold oJ
  rw [Bool.or_eq_true, decide_eq_true_eq]
  exact ⟨fun z => z.imp id fun z => h1 x z.2.2, fun z => z.elim .inl fun z => (h2 x z).imp (·.2) fun z => ⟨z.1.1, z.1.2, z.2⟩⟩
 ·rw [zoa]
  exact ⟨fun z => ⟨z.2.1, h1 x z.2.2⟩, fun z => (h2 x z.2).elim (fun y => by rw [z.1] at y; exact Bool.noConfusion y.2) fun y => ⟨y.1, z.1, y.2⟩⟩
theorem ziM (hx : NetAt σ0 A.x d r rs n T) (h : Sa σ0 σ A n root bk bs O q) (hm : σ0 A.m = some (.list (zaN n.toNat M))) (g : Sg n (Nb T) M bk bs O root dn q) (o1 : O one = true) (o2 : O other = true) (e : Nb T one other)
  (hQ : ∀ σ' B bs' O' nw, Sa σ0 σ' A n root B bs' O' (q ++ nw) → Sg n (Nb T) M B bs' O' root dn (q ++ nw) → (∀ x y, Lk bk bs O q x y → Lk B bs' O' (q ++ nw) x y) → bs' one = bs' other → Q .none σ') :
  (sem zas zay (k + 2) true).run "Search" "shrink" [.ref A.sr, .int one, .int other] σ Q X := by
 have hhi := hx.hi
 refine zaw (F := zb7) rfl ⟨rfl, ?_⟩
 dsimp only [zb7, zah, zag, zao, zam, zbO, zar, zal, zmc, zmn, zlc, zln, zac, zan, zr0, zrs, Nat.reduceAdd, Nat.reduceSub, Loc.get, zgz, zgs, zjs, zaa, tgOk, onT, zae, zaf, zad, zss, zsz, zab]
 refine zaS h.top h.dic ⟨⟨rfl, rfl⟩, zh3 h hm g hhi o1 o2 fun s D m W1 x1 X1 W2 x2 X2 hs s1 s2 dj => ?_⟩
 have h1 := h.new (u := .dict (D.map V.int)) hs
 generalize σ.upd s (.dict (D.map V.int)) = σ1 at *
 dsimp only [zcF, zah, zag, zao, zbI, Loc.get, zgz, zgs, zjs, zaa, tgOk, onT, zae, zaf, zad, zss, zsz, zab]
 intro a ha
 have h2 := h1.new (u := .dict []) ha
 have fa := h1.ext.none ha
 have ha2 : (σ1.upd a (.dict [])) a = some (.dict ([] : List V)) := zaj
 generalize σ1.upd a (.dict []) = σ2 at *
 have n1 := List.nodup_append.mp (s1.nd g.bl)
 have n2 := List.nodup_append.mp (s2.nd g.bl)
 have ap : ∀ y ∈ W1, y ∉ W2 := fun y hy z => s1.apart s2 g.bl dj hy (List.mem_append_left _ z)
 dsimp only [zcG, zah, zag, za7, zam, zbO, zar, zal, Loc.get, zgz, zgs, zjs, zaa, tgOk, onT, zae, zaf, zad, zss, zsz, zab]
 refine zaS h2.top h2.dic ⟨⟨rfl, rfl⟩, zfZ (ring0 := []) h2 hm s1.w s1.b s1.n n1.1 (s1.wl g hhi) (g.rng (s1.xo g.bl)) (s1.re g) fa ha2 (by decide) fun σ3 f3 ring3 h3 e3 hr3 l3 m3 => ?_⟩
 dsimp only [zcH, zah, zag, za7, zam, zbO, zar, zal, Loc.get, zgz, zgs, zjs, zaa, tgOk, onT, zae, zaf, zad, zss, zsz, zab]
 have w3 : Wk M f3 root other W2 x2 := s2.w.congr fun y hy => (e3 y).trans (zek fun z => ap y (zaF z) (zcw hy))
 refine zaS h3.top h3.dic ⟨⟨rfl, rfl⟩, zfZ (ring0 := ring3) h3 hm w3 s2.b s2.n n2.1 (s2.wl g hhi) (g.rng (s2.xo g.bl)) (s2.re g) fa hr3 (by rw [List.length_nil] at l3; lia) fun σ4 f4 ring4 h4 e4 hr4 l4 m4 => ?_⟩
 have R : Rng M bk bs f4 O root one other m x1 x2 W1 W2 X1 X2 := ⟨g.bl, s1, s2, dj, ⟨bk, fun y hy => (e4 y).trans ((zek fun z => ap y (zaF hy) (zaF z)).trans (e3 y))⟩, ⟨f3, fun y _ => e4 y⟩, fun y a b => (e4 y).trans ((zek b).trans ((e3 y).trans (zek a)))⟩
 have shr := R.shr (ring := ring4) g fun b => by
  rw [m4 b, m3 b]
  constructor
  ·rintro ((z | ⟨y, hy, z⟩) | ⟨y, hy, z⟩)
   ·exact absurd z List.not_mem_nil
   ·exact ⟨y, .inl hy, z⟩
   ·exact ⟨y, .inr hy, z⟩
  ·rintro ⟨y, hy | hy, z⟩
   ·exact .inl (.inr ⟨y, hy, z⟩)
   ·exact .inr ⟨y, hy, z⟩
 refine zmC hx h4 (by have := g.ql hhi; lia) hr4 fun σ5 ρ h5 => ?_
 exact hQ σ5 f4 _ _ _ h5 (R.sg g e shr) (fun x y => R.lk shr) (by rw [shr.h1 one R.c1, shr.h1 other R.sym.c1.sym])
end
section
variable {k : Nat} {σ σ0 : Store} {Q : V → Store → Prop} {X : XP} {A : Ad} {n root : Int} {bk bs M : Int → Int} {O : Int → Bool} {q dn : List Int} {T : List (Int × Int)} {p j : Int} {d r : Addr} {rs : List Addr}
theorem Sg.lkM (g : Sg n (Nb T) M bk bs O root dn q) (op : O p = true) (hj : 0 ≤ j) (e : M p = j) : Lk bk bs O q p j := by
 subst e
 have nr := (g.bn op hj).1
 cases o : O (M p) with
 | true => exact .inl (g.bl.same op nr o).symm
 | false => exact .inr (.inl ⟨o, (g.lab p op nr).2⟩)
theorem Sg.outJ (g : Sg n (Nb T) M bk bs O root dn q) (h : j = root ∨ (0 ≤ M j ∧ 0 ≤ bk (M j))) : O j = true := by
 rcases h with rfl | ⟨h1, h2⟩
 ·exact g.bl.rt
 ·have k := g.mt j h1
  cases o : O (M j) with
  | true => have := g.mkd _ o h2; rwa [k.1] at this
  | false => have := (g.inn _ h2 o).2; rwa [k.1] at this
theorem zk5 (hx : NetAt σ0 A.x d r rs n T) (h : Sa σ0 σ A n root bk bs O q) (hm : σ0 A.m = some (.list (zaN n.toNat M))) (g : Sg n (Nb T) M bk bs O root dn q) (op : O p = true) (e : Nb T p j)
  (h2 : ∀ σ', Sa σ0 σ' A n root (fun x => if x = j then p else bk x) bs O q → M j < 0 → O j = false → Q (.bool true) σ')
  (h3 : ∀ σ' bk' bs' O' q', Sa σ0 σ' A n root bk' bs' O' q' → Sg n (Nb T) M bk' bs' O' root dn q' → (∀ x y, Lk bk bs O q x y → Lk bk' bs' O' q' x y) → Lk bk' bs' O' q' p j → Q (.bool false) σ') :
  (sem zas zay (k + 3) true).run "Search" "step" [.ref A.sr, .int p, .int j] σ Q X := by
 have hhi := hx.hi
 have rp := g.rng op
 have rj : 0 ≤ j ∧ j < n := (g.gr _ _ (g.gr _ _ e).1).2.2
 have stay : Lk bk bs O q p j → Q (.bool false) σ := fun z => h3 σ bk bs O q h g (fun _ _ => id) z
 have ql := g.ql hhi
 refine zaw (F := zdc) rfl ⟨rfl, ?_⟩
 dsimp only [zdc, zah, zag, zaK, zaY, E_ff, zam, zaM, za3, zaz, zaR, zbn, zaW, zmc, zmn, zlc, zln, zac, zan, zr0, zrs, Nat.reduceAdd, Nat.reduceSub, Loc.get, zgz, zgs, zjs, zaa, tgOk, onT, zae, zaf, zad, zss, zsz, zab]
 refine h.base rp (h.base rj (zai (a := (bs p == bs j)) rfl ?_))
 by_cases e1 : bs p = bs j
 ·rw [beq_iff_eq.mpr e1]
  exact zps (zbN (stay (.inl e1)))
 rw [beq_eq_false_iff_ne.mpr e1]
 refine zca (h.mate hm rp (zai (a := (M p == j)) rfl ?_))
 by_cases e2 : M p = j
 ·rw [beq_iff_eq.mpr e2]
  exact zbN (stay (g.lkM op rj.1 e2))
 rw [beq_eq_false_iff_ne.mpr e2]
 refine zaT ?_
 have shr : O j = true → wpSs (sem zas zay (k + 2)) true (.cons (.expr (.meth (.var 0) "shrink" (.cons (.var 1) (.cons (.var 2) .nil)))) zb5) [some (.ref A.sr), some (.int p), some (.int j)] σ (fun ρ₁ σ₁ => wpSs (sem zas zay (k + 2)) true zbv ρ₁ σ₁ (fun _ σ' => Q .none σ') Q (fun c a _ σ' => X c a σ')) Q (fun c a _ σ' => X c a σ') := fun oj => by
  dsimp only [zb5, zah, zag, zaK, E_ff, Loc.get, zgz, zgs, zjs, zaa, tgOk, onT, zae, zaf, zad, zss, zsz, zab]
  exact zaS h.top h.dic ⟨⟨rfl, rfl⟩, ziM hx h hm g op oj e fun σ' B bs' O' nw s g' lk eb => h3 σ' B bs' O' _ s g' lk (.inl eb)⟩
 have next : j ≠ root → ¬ (0 ≤ M j ∧ 0 ≤ bk (M j)) → wpSs (sem zas zay (k + 2)) true zbv [some (.ref A.sr), some (.int p), some (.int j)] σ (fun _ σ' => Q .none σ') Q (fun c a _ σ' => X c a σ') := fun jr no => by
  have oj := g.fresh jr no
  dsimp only [zbv, zah, zag, zaK, zaY, E_ff, zaL, zam, zaM, zaz, zaR, Loc.get, zgz, zgs, zjs, zaa, tgOk, onT, zae, zaf, zad, zss, zsz, zab]
  refine h.back rj (zai (a := decide (0 ≤ bk j)) rfl ?_)
  by_cases b : 0 ≤ bk j
  ·rw [decide_eq_true b]
   exact zbN (stay (.inr (.inl ⟨oj, b⟩)))
  rw [decide_eq_false b]
  refine zaT ?_
  dsimp only [zdA, zah, zag, zaA, zam, zaz, Loc.get, zgz, zgs, zjs, zaa, tgOk, onT, zae, zaf, zad, zss, zsz, zab]
  refine h.at rfl rfl (zk8 h.hb rj.1 (by lia) ?_)
  have s1 := h.putB (bk' := fun x => if x = j then p else bk x)
  generalize σ.upd A.b (.list (zaN n.toNat fun x => if x = j then p else bk x)) = σ1 at *
  dsimp only [zdB, zah, zag, zaK, zaY, E_tt, zaL, zam, zaM, zaz, zaR, Loc.get, zgz, zgs, zjs, zaa, tgOk, onT, zae, zaf, zad, zss, zsz, zab]
  refine s1.mate hm rj (zai (a := decide (M j < 0)) rfl ?_)
  by_cases m : M j < 0
  ·rw [decide_eq_true m]
   exact zbN (h2 σ1 s1 m oj)
  rw [decide_eq_false m]
  refine zaT ?_
  have m0 : 0 ≤ M j := by lia
  have rm := g.mr m0
  dsimp only [zdC, zah, zag, zaA, E_tt, zam, zaz, zaR, Loc.get, zgz, zgs, zjs, zaa, tgOk, onT, zae, zaf, zad, zss, zsz, zab]
  refine s1.outer (s1.mate hm rj (znu s1.ho rm.1 (by lia) ?_))
  have s2 := s1.putO (O' := fun x => O x || decide (x = M j))
  generalize σ1.upd A.o (.list (zd0 n.toNat fun x => O x || decide (x = M j))) = σ2 at *
  dsimp only [zdD, zdE, zah, zag, za7, zaK, E_ff, zam, E_m1, zaz, zaR, Loc.get, zgz, zgs, zjs, zaa, tgOk, onT, zae, zaf, zad, zss, zsz, zab]
  refine s2.waiting (zat s2.hw (s2.mate hm rj (zaZ s2.hw (by rw [List.length_map]; unfold zax; lia) ?_)))
  have s3 := s2.putW (q' := q ++ [M j])
  rw [List.map_append] at s3
  refine h3 _ _ _ _ _ s3 (g.grow op e oj (by lia) m0 jr (by lia)) (fun x y z => z.grow rp.1) (.inr (.inl ⟨?_, ?_⟩))
  ·show (O j || decide (j = M j)) = false
   rw [oj, decide_eq_false (g.gr _ _ (g.mt j m0).2).2.1]; rfl
  ·show 0 ≤ if j = j then p else bk j
   rw [if_pos rfl]; exact rp.1
 dsimp only [zdz, zah, zag, za7, zaY, zaL, zam, zaM, za3, zbO, zaz, zaR, zar, zal, zbn, zaW, Loc.get, zgz, zgs, zjs, zaa, tgOk, onT, zae, zaf, zad, zss, zsz, zab]
 refine h.rootA (zai (a := (j == root)) rfl ?_)
 by_cases jr : j = root
 ·rw [beq_iff_eq.mpr jr]
  exact zps (zbN (shr (g.outJ (.inl jr))))
 rw [beq_eq_false_iff_ne.mpr jr]
 refine zca (h.mate hm rj (zai (a := decide (0 ≤ M j)) rfl ?_))
 by_cases m0 : 0 ≤ M j
 ·rw [decide_eq_true m0]
  refine zbN (h.at rfl rfl (h.mate hm rj (zd7 h.hb (g.mr m0).1 (by have := (g.mr m0).2; lia) (zai (a := decide (0 ≤ bk (M j))) rfl ?_))))
  by_cases b0 : 0 ≤ bk (M j)
  ·rw [decide_eq_true b0]
   exact zbN (shr (g.outJ (.inr ⟨m0, b0⟩)))
  ·rw [decide_eq_false b0]
   exact zaT (next jr fun z => b0 z.2)
 ·rw [decide_eq_false m0]
  exact zaT (zaT (next jr fun z => m0 z.1))
end
section
variable {k : Nat} {σ σ0 : Store} {Q : V → Store → Prop} {X : XP} {A : Ad} {n root : Int} {bk bs M : Int → Int} {O : Int → Bool} {q dn : List Int} {T : List (Int × Int)} {p j : Int} {d r : Addr} {rs : List Addr}
noncomputable def zns (T : List (Int × Int)) (M : Int → Int) (root : Int) : Prop := ∀ N : Int → Int, (∀ i, 0 ≤ N i → N (N i) = i ∧ Nb T i (N i)) → (∀ i, 0 ≤ M i → 0 ≤ N i) → 0 ≤ N root → False
structure Hit (σ0 σ : Store) (A : Ad) (n root : Int) (T : List (Int × Int)) (M : Int → Int) (e : Int) : Prop where
 ex : ∃ bk bs O q dn p, Sa σ0 σ A n root (fun x => if x = e then p else bk x) bs O q ∧ Sg n (Nb T) M bk bs O root dn q ∧ O p = true ∧ Nb T p e ∧ M e < 0 ∧ O e = false
theorem zlR {t2 : Option V} {N : Loc → Store → Prop} {Y} (hx : NetAt σ0 A.x d r rs n T) (h : Sa σ0 σ A n root bk bs O q) (hm : σ0 A.m = some (.list (zaN n.toNat M))) (g : Sg n (Nb T) M bk bs O root (dn ++ [p]) q)
  (lk : ∀ x ∈ dn, ∀ j, Nb T x j → Lk bk bs O q x j ∨ j = p)
  (h1 : ∀ σ' e, Hit σ0 σ' A n root T M e → Q (.int e) σ')
  (hN : ∀ σ' bk' bs' O' q' t2, Sa σ0 σ' A n root bk' bs' O' q' → Sg n (Nb T) M bk' bs' O' root (dn ++ [p]) q' → (∀ x ∈ dn ++ [p], ∀ j, Nb T x j → Lk bk' bs' O' q' x j) → N [some (.ref A.sr), some (.int p), t2] σ') :
  wpSs (sem zas zay (k + 3)) true zbP [some (.ref A.sr), some (.int p), t2] σ N Q Y := by
 have op : O p = true := (g.que p).mpr (List.mem_append_left _ (List.mem_append_right _ (List.mem_singleton.mpr rfl)))
 have rp := g.rng op
 dsimp only [zbP, zah, zag, zbQ, zam, zaz, zaR, za0, zbf, Loc.get, zgz, zgs, zjs, zaa, tgOk, onT, zae, zaf, zad, zss, zsz, zab]
 refine h.ground (zpc hx h.ext rp.1 rp.2 fun a ha => ?_)
 simp only [zdn]
 refine zat (h.ext _ _ ha) ?_
 refine zaV (fun i ρ σ' => ∃ bk' bs' O' q', (Sa σ0 σ' A n root bk' bs' O' q' ∧ Sg n (Nb T) M bk' bs' O' root (dn ++ [p]) q') ∧ (∀ x ∈ dn, ∀ j, Nb T x j → Lk bk' bs' O' q' x j ∨ j = p) ∧ (∀ j ∈ (zaX (nb T p)).take i, Lk bk' bs' O' q' p j) ∧ ∃ t, ρ = [some (.ref A.sr), some (.int p), t])
  ⟨bk, bs, O, q, ⟨h, g⟩, lk, fun j hj => absurd hj List.not_mem_nil, _, rfl⟩ ?_ ?_ ?_
 ·intro i ρ σ' zz63
  refine ob63 zz63 ?_
  clear zz63
  intro bk' bs' O' q' s _ _ _ _ ee209
  subst ee209
  exact s.ext _ _ ha
 ·intro i v ρ σ' K hv zz64
  refine ob63 zz64 ?_
  clear zz64
  intro bk' bs' O' q' s g' l1 l2 t ee210
  subst ee210
  intro hK
  refine ob7 (zi5 hv) ?_
  intro j ee211
  subst ee211
  intro hj
  have e : Nb T p j := mem_sortI.mp (List.mem_of_getElem? hj)
  have op' : O' p = true := (g'.que p).mpr (List.mem_append_left _ (List.mem_append_right _ (List.mem_singleton.mpr rfl)))
  dsimp only [zdk, zah, zag, zaK, zaY, zam, zbO, zar, zal, Loc.get, zgz, zgs, zjs, zaa, tgOk, onT, zae, zaf, zad, zss, zsz, zab]
  refine zaS s.top s.dic ⟨⟨rfl, rfl⟩, zk5 hx s hm g' op' e (fun σ2 s2 m o => ?_) fun σ2 bk2 bs2 O2 q2 s2 g2 lk2 lj => ?_⟩
  ·exact zbN (h1 σ2 j ⟨_, _, _, _, _, _, s2, g', op', e, m, o⟩)
  ·refine zaT (hK _ _ ⟨bk2, bs2, O2, q2, ⟨s2, g2⟩, fun x hx y hy => (l1 x hx y hy).imp (lk2 x y) id, fun y hy => ?_, _, rfl⟩)
   refine ob12 (List.getElem?_eq_some_iff.mp hj) ?_
   intro hi ee212
   subst ee212
   rw [List.take_succ_eq_append_getElem hi] at hy
   rcases List.mem_append.mp hy with hy | hy
   ·exact lk2 p y (l2 y hy)
   ·rw [List.mem_singleton.mp hy]; exact lj
 ·intro ρ σ' zz65
  refine ob63 zz65 ?_
  clear zz65
  intro bk' bs' O' q' s g' l1 l2 t ee213
  subst ee213
  rw [List.length_map, List.take_length] at l2
  have lp : ∀ j, Nb T p j → Lk bk' bs' O' q' p j := fun j hj => l2 j (mem_sortI.mpr hj)
  refine hN σ' bk' bs' O' q' t s g' fun x hx y hy => ?_
  rcases List.mem_append.mp hx with xd | xd
  ·rcases l1 x xd y hy with z | z
   ·exact z
   ·have ox : O' x = true := (g'.que x).mpr (List.mem_append_left _ (List.mem_append_left _ xd))
    rw [z] at hy ⊢
    rcases lp x (zej hy) with z | z | z
    ·exact .inl z.symm
    ·rw [ox] at z; cases z.1
    ·exact absurd rfl ((List.nodup_append.mp g'.nod).2.2 x (List.mem_append_left _ xd) x z)
  ·rw [List.mem_singleton.mp xd] at hy ⊢; exact lp y hy
theorem zkC (hx : NetAt σ0 A.x d r rs n T) (h : Sa σ0 σ A n root bk bs O q) (hm : σ0 A.m = some (.list (zaN n.toNat M))) (g : Sg n (Nb T) M bk bs O root [] q)
  (h1 : ∀ σ' w e, Hit σ0 σ' { A with w := w } n root T M e → Q (.int e) σ')
  (h2 : ∀ σ', Ext σ0 σ' → zns T M root → Q (.int (-1)) σ') :
  (sem zas zay (k + 4) true).run "Search" "found" [.ref A.sr] σ Q X := by
 have hhi := hx.hi
 refine zaw (F := zcu) rfl ⟨rfl, ?_⟩
 dsimp only [zcu, zah, zag, zcl, zaL, zam, zaM, zaz, E_b1, zmc, zmn, zlc, zln, zac, zan, zr0, zrs, Nat.reduceAdd, Nat.reduceSub, Loc.get, zgz, zgs, zjs, zaa, tgOk, onT, zae, zaf, zad, zss, zsz, zab]
 refine zbA (fun t ρ σ' => ∃ w bk bs O dn q, (Sa σ0 σ' { A with w := w } n root bk bs O q ∧ Sg n (Nb T) M bk bs O root dn q) ∧ dn.length = t ∧ (∀ x ∈ dn, ∀ j, Nb T x j → Lk bk bs O q x j) ∧ ∃ t1 t2, ρ = [some (.ref A.sr), t1, t2]) 40
  ⟨A.w, bk, bs, O, [], q, ⟨h, g⟩, rfl, fun x hx => absurd hx List.not_mem_nil, _, _, rfl⟩ ?_ ?_
 ·intro t ρ σ' zz66
  refine ob64 zz66 ?_
  clear zz66
  intro w bk bs O dn q s g ee214
  subst ee214
  intro _
  have := g.ql hhi; lia
 ·intro t ρ σ' K zz67
  refine ob65 zz67 ?_
  clear zz67
  intro w bk bs O dn q s g ee215
  subst ee215
  intro lk t1 t2 ee216
  subst ee216
  intro hK
  simp only [zgz, zjs, zaa]
  refine s.waiting ?_
  simp only [ze0 s.hw, List.length_map, zl0, zaa]
  cases q with
  | nil =>
   refine zaT ?_
   dsimp only [zdh, zah, zag, zaK, zaL, zd2, Loc.get, zgz, zgs, zjs, zaa, tgOk, onT, zae, zaf, zad, zss, zsz, zab]
   exact h2 σ' s.ext fun N a b c => g.dead lk a b c
  | cons p q =>
   rw [decide_eq_true (by rw [List.length_cons]; lia)]
   refine zbN ?_
   dsimp only [zdj, zah, zag, zao, zaL, zam, zaz, zaR, Loc.get, zgz, zgs, zjs, zaa, tgOk, onT, zae, zaf, zad, zss, zsz, zab]
   refine s.waiting (zbt s.hw (by decide) rfl ?_)
   dsimp only [zdi, zah, zag, zaJ, za1, zaL, zam, zaz, zdV, zeT, zeS, Loc.get, zgz, zgs, zjs, zaa, tgOk, onT, zae, zaf, zad, zss, zsz, zab]
   refine s.waiting (zmB s.hw (by decide) (by rw [List.length_map, List.length_cons]; lia) fun w2 hw2 => ?_)
   have s2 := s.newW (q' := q) hw2
   have nn : ∀ {a : Addr} {u : AO}, σ' a = some u → a ≠ w2 := fun ha => zbb ha hw2
   refine zaS ((zaq (nn s.top)).trans s.top) ((zaq (nn s.dic)).trans s.dic) ⟨⟨sfld rfl, Nat.le_of_ble_eq_true rfl⟩, ?_⟩
   have g2 : Sg n (Nb T) M bk bs O root (dn ++ [p]) q := ⟨g.bl, g.gr, g.mt, g.rr, g.lab, g.adj, g.inn, fun v => by rw [g.que v, List.append_assoc]; rfl, by rw [List.append_assoc]; exact g.nod, g.mkd⟩
   refine zlR (A := { A with w := w2 }) hx s2 hm g2 (fun x hx y hy => ?_) (fun σ3 e hit => h1 σ3 w2 e hit) fun σ3 bk3 bs3 O3 q3 t3 s3 g3 lk3 => hK _ _ ⟨w2, bk3, bs3, O3, dn ++ [p], q3, ⟨s3, g3⟩, by rw [List.length_append]; rfl, lk3, _, _, rfl⟩
   rcases lk x hx y hy with z | z | z
   ·exact .inl (.inl z)
   ·exact .inl (.inr (.inl z))
   ·rcases List.mem_cons.mp z with z | z
    ·exact .inr z
    ·exact .inl (.inr (.inr z))
end
section
variable {k : Nat} {σ σ0 : Store} {Q : V → Store → Prop} {X : XP} {A : Ad} {n root e : Int} {bk bs M : Int → Int} {O : Int → Bool} {q dn : List Int} {T : List (Int × Int)} {p j : Int} {d r : Addr} {rs : List Addr}
theorem znP : (zas "" "road").isSome = true := rfl
theorem Sg.way (g : Sg n (Nb T) M bk bs O root dn q) (op : O p = true) (ep : Nb T p e) (me : M e < 0) (oe : O e = false) {L : List Int} (u : Up M bk root p L) : WayOk n T M (e :: L) := by
 have l := u.len
 have nd := g.bl.nd op u
 have el : e ∉ L := fun z => by
  rcases zcy z with z | z
  ·rw [g.bl.evO u op e z] at oe; cases oe
  ·refine ob2 (u.odd z) ?_
   intro c hc nc ee217
   subst ee217
   have oc := g.bl.evO u op c hc
   rw [(g.bl.mt c oc nc).1] at me
   have := (g.rng oc).1; lia
 refine ⟨by rw [List.length_cons]; lia, by rw [List.length_cons]; lia, fun x hx => ?_, List.nodup_cons.mpr ⟨el, nd⟩, fun a ha => by cases ha; exact me, fun a ha => ?_, fun i a b ha hb => ?_⟩
 ·rcases List.mem_cons.mp hx with rfl | hx
  ·exact (g.gr _ _ (g.gr _ _ ep).1).2.2
  ·exact g.pr u op x hx
 ·rw [List.length_cons, Nat.add_sub_cancel, show L.length = (L.length - 1) + 1 by lia, List.getElem?_cons_succ, l.2.1] at ha
  cases ha; exact g.rr.2
 ·cases i with
  | zero =>
   cases ha
   rw [List.getElem?_cons_succ, l.2.2] at hb
   cases hb
   exact ⟨(g.gr _ _ ep).1, fun z => by have := (g.rng op).1; lia, fun z => absurd z (by decide)⟩
  | succ i =>
   rw [List.getElem?_cons_succ] at ha hb
   refine ob14 (g.steps u op nd i a b ha hb) ?_
   intro s1 s2
   exact ⟨s1, s2.trans (by lia)⟩
theorem zk9 (hm : σ0 A.m = some (.list (zaN n.toNat M))) (hn : n ≤ 40) (hit : Hit σ0 σ A n root T M e)
  (hQ : ∀ a W, σ a = none → WayOk n T M W → Q (.ref a) (σ.upd a (.list (W.map V.int)))) : (sem zas zay (k + 1) true).run "" "road" [.ref A.sr, .int e] σ Q X := by
 refine ob61 hit.ex ?_
 intro bk bs O q dn p h g op ep me oe
 refine ob12 (g.bl.upL op) ?_
 intro L u
 have way := g.way op ep me oe u
 have wl : (e :: L).length ≤ 40 := zbr (m := 40) way.nod fun i hi => by have := way.inn i hi; lia
 have od' : ∀ y, O y = true → y ≠ root → M y ≠ e := fun y oy ny z => by
  rw [← z, (g.bl.mt y oy ny).1] at me
  have := (g.rng oy).1; lia
 have re : 0 ≤ e ∧ e < n := (g.gr _ _ (g.gr _ _ ep).1).2.2
 refine zaw (F := zmk) rfl ⟨rfl, ?_⟩
 dsimp only [zmk, zah, zag, zao, za2, zar, zal, zmc, zmn, zlc, zln, zac, zan, zr0, zrs, Nat.reduceAdd, Nat.reduceSub, Loc.get, zgz, zgs, zjs, zaa, tgOk, onT, zae, zaf, zad, zss, zsz, zab]
 refine ⟨Nat.zero_le _, fun a ha => ?_⟩
 have s : ∀ {D : List V}, Sa σ0 (σ.upd a (.list D)) A n root (fun x => if x = e then p else bk x) bs O q := fun {D} => h.new ha
 dsimp only [zjX, zah, zag, zcl, zaL, zam, zaM, Loc.get, zgz, zgs, zjs, zaa, tgOk, onT, zae, zaf, zad, zss, zsz, zab]
 refine zbA (fun t ρ σ' => ∃ F y R, F ++ R = e :: L ∧ F.length = 2 * t ∧ ((y < 0 ∧ R = []) ∨ ((0 ≤ y ∧ y < n) ∧ ∃ R', R = y :: R' ∧ O (if y = e then p else bk y) = true ∧ Up M bk root (if y = e then p else bk y) R')) ∧ σ' = σ.upd a (.list (F.map V.int)) ∧ ρ = [some (.ref A.sr), some (.int y), some (.ref a)]) 40
  ⟨[], e, e :: L, rfl, rfl, .inr ⟨re, L, rfl, by rw [if_pos rfl]; exact op, by rw [if_pos rfl]; exact u⟩, rfl, rfl⟩ ?_ ?_
 ·intro t ρ σ' zz68
  refine ob6 zz68 ?_
  clear zz68
  intro F y R ef lf _
  have := congrArg List.length ef
  rw [List.length_append] at this
  lia
 ·intro t ρ σ' K zz69
  refine ob21 zz69 ?_
  clear zz69
  intro F y R ef lf hy ee218
  subst ee218
  intro ee219
  subst ee219
  intro hK
  simp only [zgz, zgs, zjs, zaa]
  refine zai (a := decide (0 ≤ y)) rfl ?_
  show if decide (0 ≤ y) = true then _ else _
  rcases hy with ⟨hy, rfl⟩ | ⟨ry, R', rfl, ou, up⟩
  ·rw [decide_eq_false (by lia)]
   refine zm1 (c := false = true) Bool.false_ne_true ?_
   dsimp only [zjY, zah, zag, zaK, zam, Loc.get, zgz, zgs, zjs, zaa, tgOk, onT, zae, zaf, zad, zss, zsz, zab]
   rw [List.append_nil] at ef
   subst ef
   exact hQ a _ ha way
  ·rw [decide_eq_true ry.1]
   refine zhi (c := true = true) rfl ?_
   have lf2 := congrArg List.length ef
   rw [List.length_append, List.length_cons] at lf2
   dsimp only [zj2, zah, zag, za7, zam, E_m1, Loc.get, zgz, zgs, zjs, zaa, tgOk, onT, zae, zaf, zad, zss, zsz, zab]
   refine zat zaj (zaZ zaj (by rw [List.length_map]; unfold zax; lia) ?_)
   rw [zbC, show F.map V.int ++ [V.int y] = (F ++ [y]).map V.int by rw [List.map_append]; rfl]
   dsimp only [zjZ, zah, zag, za7, zam, E_m1, zaz, zaR, Loc.get, zgz, zgs, zjs, zaa, tgOk, onT, zae, zaf, zad, zss, zsz, zab]
   refine zat zaj (s.back ry (zaZ zaj (by rw [List.length_map, List.length_append, List.length_singleton]; unfold zax; lia) ?_))
   generalize hu : (if y = e then p else bk y) = v at *
   rw [zbC, show (F ++ [y]).map V.int ++ [V.int v] = (F ++ [y, v]).map V.int by rw [List.map_append, List.map_append, List.append_assoc]; rfl]
   dsimp only [zj0, zah, zag, zao, zam, zaz, zaR, Loc.get, zgz, zgs, zjs, zaa, tgOk, onT, zae, zaf, zad, zss, zsz, zab]
   refine s.at rfl rfl (s.back ry ?_)
   show idxV _ (.int (if y = e then p else bk y)) _ _
   rw [hu]
   refine zd7 (s.ext _ _ hm) (g.rng ou).1 (by have := (g.rng ou).2; lia) (hK _ _ ?_)
   cases up with
   | root => exact ⟨F ++ [y, root], M root, [], by rw [List.append_nil]; exact ef, by rw [List.length_append]; show _ + 2 = _; lia, .inl ⟨g.rr.2, rfl⟩, rfl, rfl⟩
   | @step _ R2 nr u2 =>
    have lb := g.lab v ou nr
    have ne := od' v ou nr
    refine ⟨F ++ [y, v], M v, M v :: R2, by rw [List.append_assoc]; exact ef, by rw [List.length_append]; show _ + 2 = _; lia, .inr ⟨g.mr lb.1, R2, rfl, by rw [if_neg ne]; exact g.bl.nx v ou nr, by rw [if_neg ne]; exact u2⟩, rfl, rfl⟩
end
theorem znh {P : List (Int × Int)} (hd : Disj P) {p q : Int × Int} (hp : p ∈ P) (hq : q ∈ P) (h : Touch p q) : p = q := by
 induction P with
 | nil => cases hp
 | cons a r ih =>
  have hd' := List.pairwise_cons.mp hd
  rcases List.mem_cons.mp hp with rfl | hp' <;> rcases List.mem_cons.mp hq with rfl | hq'
  ·rfl
  ·exact absurd h (hd'.1 q hq')
  ·exact absurd h.symm (hd'.1 p hp')
  ·exact ih hd'.2 hp' hq'
theorem zcx : ∀ {l l' : List Int}, l.Nodup → (∀ x ∈ l, x ∈ l') → l.length ≤ l'.length
 | [], _, _, _ => Nat.zero_le _
 | a :: l, l', h, hs => by
  refine ob14 (List.nodup_cons.mp h) ?_
  intro h1 h2
  have ha := hs a (List.mem_cons_self ..)
  have := zcx (l' := l'.erase a) h2 fun x hx => (List.mem_erase_of_ne (fun e : x = a => h1 (e ▸ hx))).mpr (hs x (List.mem_cons_of_mem _ hx))
  rw [List.length_erase_of_mem ha] at this
  have := List.length_pos_of_mem ha
  rw [List.length_cons]; lia
theorem zcb {n : Int} {P : List (Int × Int)} (ht : ∀ p ∈ P, zaD n p) (hd : Disj P) : (zbe P).Nodup := by
 unfold zbe
 rw [List.nodup_append]
 refine ⟨List.pairwise_map.mpr (hd.imp fun {p q} h e => h (.inl e)), List.pairwise_map.mpr (hd.imp fun {p q} h e => h (.inr (.inr (.inr e)))), ?_⟩
 intro a ha b hb e
 refine ob7 (List.mem_map.mp ha) ?_
 intro p hp ee220
 subst ee220
 refine ob7 (List.mem_map.mp hb) ?_
 intro q hq ee221
 subst ee221
 cases znh hd hp hq (.inr (.inl e))
 have := (ht p hp).2.1
 lia
structure Mt (n : Int) (T : List (Int × Int)) (M : Int → Int) : Prop where
 ok : ∀ p ∈ T, zaD n p
 back : ∀ i, 0 ≤ M i → M (M i) = i ∧ M i ∈ nb T i
section
variable {n : Int} {T P : List (Int × Int)} {M : Int → Int} {W : List Int}
theorem zbS (ok : ∀ p ∈ T, zaD n p) (hs : ∀ p ∈ P, p ∈ T) (hd : Disj P) : Mt n T (mt P.reverse) := by
 have ht : ∀ p ∈ P.reverse, zaD n p := fun p hp => ok p (hs p (List.mem_reverse.mp hp))
 refine ⟨ok, fun i hi => ?_⟩
 rcases zhf ht hd.rev i with ⟨p, hp, h⟩ | ⟨_, h⟩
 ·refine ob14 (zmR ht hd.rev p hp) ?_
  intro m1 m2
  have hT := hs p (List.mem_reverse.mp hp)
  rcases h with ⟨rfl, h⟩ | ⟨rfl, h⟩
  ·rw [h, m2]; exact ⟨rfl, mem_nb.mpr (.inl hT)⟩
  ·rw [h, m1]; exact ⟨rfl, mem_nb.mpr (.inr hT)⟩
 ·rw [h] at hi; lia
theorem mem_toldL {p : Int × Int} : p ∈ zb0 n.toNat M ↔ (0 ≤ p.1 ∧ p.1 < n) ∧ p.1 < p.2 ∧ M p.1 = p.2 := by
 unfold zb0
 rw [List.mem_filterMap]
 constructor
 ·intro zz70
  refine ob7 zz70 ?_
  clear zz70
  intro i hi e
  rw [List.mem_range] at hi
  split at e
  ·rename_i h; cases e; exact ⟨by lia, h, rfl⟩
  ·cases e
 ·intro zz71
  refine ob16 zz71 ?_
  clear zz71
  intro h0 h1 h2
  refine ⟨p.1.toNat, List.mem_range.mpr (by lia), ?_⟩
  rw [Int.toNat_of_nonneg h0.1, if_pos (by rw [h2]; exact h1), h2]
theorem ziK (h : Mt n T M) : ∀ p ∈ zb0 n.toNat M, p ∈ T := by
 intro p hp
 refine ob16 (mem_toldL.mp hp) ?_
 intro h0 h1 h2
 have := (h.back p.1 (by lia)).2
 rw [h2] at this
 rcases mem_nb.mp this with g | g
 ·exact g
 ·have := (h.ok _ g).2.1
  simp only at this; lia
theorem zfK (h : Mt n T M) : Disj (zb0 n.toNat M) := by
 have key : ∀ p ∈ zb0 n.toNat M, ∀ q ∈ zb0 n.toNat M, Touch p q → p = q := by
  intro p hp q hq t
  refine ob16 (mem_toldL.mp hp) ?_
  intro p0 p1 p2
  refine ob16 (mem_toldL.mp hq) ?_
  intro q0 q1 q2
  have p3 := (h.back p.1 (by lia)).1
  have q3 := (h.back q.1 (by lia)).1
  rw [p2] at p3
  rw [q2] at q3
  rcases t with t | t | t | t
  ·rw [t] at p2; exact Prod.ext t (p2.symm.trans q2)
  ·rw [t, q3] at p2; lia
  ·rw [t, q2] at p3; lia
  ·rw [t, q3] at p3; exact Prod.ext p3.symm t
 refine List.Pairwise.imp_of_mem ?_ zcR
 intro p q hp hq hl t
 cases key p hp q hq t
 unfold zbV at hl; lia
theorem zcT (h : Mt n T M) {i : Int} : i ∈ zbe (zb0 n.toNat M) ↔ 0 ≤ M i := by
 rw [mem_places]
 constructor
 ·intro zz72
  refine ob7 zz72 ?_
  clear zz72
  intro p hp e
  refine ob16 (mem_toldL.mp hp) ?_
  intro p0 p1 p2
  rcases e with rfl | rfl
  ·lia
  ·have := (h.back p.1 (by lia)).1
   rw [p2] at this; lia
 ·intro hi
  refine ob14 (h.back i hi) ?_
  intro b1 b2
  refine ob16 (zd1 h.ok b2) ?_
  intro i0 m0 hne
  by_cases e : i < M i
  ·exact ⟨(i, M i), mem_toldL.mpr ⟨i0, e, rfl⟩, .inl rfl⟩
  ·exact ⟨(M i, i), mem_toldL.mpr ⟨m0, by simp only; lia, b1⟩, .inr rfl⟩
theorem zj5 (h : Mt n T M) (hW : WayOk n T M W) {a : Int} (ha : a ∈ W) (hM : 0 ≤ M a) : M a ∈ W := by
 refine lift fun g9 k9 => ?_
 obtain ⟨k, hk, e⟩ := List.getElem_of_mem ha
 refine k9 ?_
 clear k9 g9
 have e' : W[k]? = some a := by rw [List.getElem?_eq_getElem hk, e]
 have ev := hW.even
 by_cases hk1 : k % 2 = 1
 ·have hk2 : k + 1 < W.length := by
   by_cases z : k = W.length - 1
   ·subst z; exact absurd (hW.lst a e') (Int.not_lt.mpr hM)
   ·lia
  have := (hW.stp k a _ e' (List.getElem?_eq_getElem hk2)).2.mpr hk1
  rw [this]; exact List.getElem_mem hk2
 ·have hk0 : k ≠ 0 := fun z => by subst z; exact absurd (hW.fst a e') (Int.not_lt.mpr hM)
  have hk3 : k - 1 < W.length := by lia
  have g := hW.stp (k - 1) _ a (List.getElem?_eq_getElem hk3) (by rw [show k - 1 + 1 = k by lia]; exact e')
  have g2 := g.2.mpr (by lia)
  refine ob16 (zd1 h.ok g.1) ?_
  intro _ a0 _
  have := (h.back W[k - 1] (by rw [g2]; exact a0.1)).1
  rw [g2] at this
  rw [this]; exact List.getElem_mem hk3
theorem zdY (hW : WayOk n T M W) (i : Int) : (i ∈ W ∧ ∃ j, mtB M (steps W).reverse i = j ∧ mtB M (steps W).reverse j = i ∧ j ∈ nb T i) ∨ (i ∉ W ∧ mtB M (steps W).reverse i = M i) := by
 refine ob14 (zgv hW.nod) ?_
 intro d1 d2
 have r2 : ∀ p ∈ (steps W).reverse, p.1 ≠ p.2 := fun p hp => d2 p (List.mem_reverse.mp hp)
 by_cases hi : i ∈ W
 ·left
  refine ⟨hi, ?_⟩
  refine lift fun g9 k9 => ?_
  refine ob7 (zfO hW.even i hi) ?_
  intro p hp e
  refine ob14 (znx (M := M) r2 d1.rev p (List.mem_reverse.mpr hp)) ?_
  intro m1 m2
  refine ob7 ((zfW W p.1 p.2).mp hp) ?_
  intro j j1 j2
  refine k9 ?_
  clear k9 g9
  have hn := (hW.stp _ _ _ j1 j2).1
  rcases e with rfl | rfl
  ·exact ⟨p.2, m1, m2, hn⟩
  ·exact ⟨p.1, m2, m1, zej hn⟩
 ·right
  refine ⟨hi, zlp fun p hp => ?_⟩
  refine ob14 (zju (List.mem_reverse.mp hp)) ?_
  intro s1 s2
  exact ⟨fun e => hi (e ▸ s1), fun e => hi (e ▸ s2)⟩
theorem zgu (h : Mt n T M) (hW : WayOk n T M W) : Mt n T (mtB M (steps W).reverse) := by
 refine ⟨h.ok, fun i hi => ?_⟩
 rcases zdY hW i with ⟨_, j, e1, e2, e3⟩ | ⟨hi', e⟩
 ·rw [e1]; exact ⟨e2, e3⟩
 ·rw [e] at hi ⊢
  refine ob14 (h.back i hi) ?_
  intro b1 b2
  refine ob16 (zd1 h.ok b2) ?_
  intro i0 _ _
  refine ⟨?_, b2⟩
  rcases zdY hW (M i) with ⟨m, _⟩ | ⟨_, e'⟩
  ·have := zj5 h hW m (by rw [b1]; lia)
   rw [b1] at this
   exact absurd this hi'
  ·rw [e', b1]
theorem zkT (ok : ∀ p ∈ T, zaD n p) (hs : ∀ p ∈ P, p ∈ T) (hd : Disj P) (hW : WayOk n T (mt P.reverse) W) : P.length < (zb0 n.toNat (mtB (mt P.reverse) (steps W).reverse)).length := by
 have hM := zbS ok hs hd
 have hM' := zgu hM hW
 have ht : ∀ p ∈ P, zaD n p := fun p hp => ok p (hs p hp)
 have l0 : 0 < W.length := by have := hW.two; lia
 have w0 := hW.fst _ (List.getElem?_eq_getElem l0)
 have wm : W[0] ∈ W := List.getElem_mem l0
 have in0 := hW.inn _ wm
 have hnd : (W[0] :: zbe P).Nodup := List.nodup_cons.mpr ⟨(zjB ht hd _).mp w0, zcb ht hd⟩
 have := zcx (l' := zbe (zb0 n.toNat (mtB (mt P.reverse) (steps W).reverse))) hnd fun x hx => by
  rw [zcT hM']
  have key : x ∈ W → 0 ≤ mtB (mt P.reverse) (steps W).reverse x := fun hw => by
   rcases zdY hW x with ⟨_, j, e1, _, e3⟩ | ⟨no, _⟩
   ·rw [e1]; exact (zd1 ok e3).2.1.1
   ·exact absurd hw no
  rcases List.mem_cons.mp hx with rfl | hx
  ·exact key wm
  ·by_cases hw : x ∈ W
   ·exact key hw
   ·rcases zdY hW x with ⟨hw', _⟩ | ⟨_, e⟩
    ·exact absurd hw' hw
    ·rw [e]
     have : ¬ mt P.reverse x < 0 := fun z => (zjB ht hd x).mp z hx
     lia
 simp only [zbe, List.length_cons, List.length_append, List.length_map] at this
 lia
end
section
variable {k : Nat} {σ : Store} {Q : V → Store → Prop} {X : XP} {x d r l : Addr} {rs : List Addr} {n : Int} {T P : List (Int × Int)}
theorem zhJ : (zas "" "better").isSome = true := rfl
theorem zmv : (zas "" "grown").isSome = true := rfl
theorem zg7 : (zas "" "most").isSome = true := rfl
theorem znG {M : Int → Int} {W : List Int} (h : WayOk n T M W) (hn : n ≤ 40) : W.length ≤ 40 := zbr (m := 40) h.nod fun i hi => by have := h.inn i hi; lia
noncomputable def Full (n : Int) (T : List (Int × Int)) (M : Int → Int) : Prop := ∀ root, 0 ≤ root → root < n → M root < 0 → zns T M root
theorem zpY (ok : ∀ p ∈ T, zaD n p) : Gr n (Nb T) := fun i j h => by
 have := zd1 ok h
 exact ⟨zej h, this.2.2, this.1⟩
theorem Sg.start {M : Int → Int} (h : Mt n T M) {root : Int} (h0 : 0 ≤ root ∧ root < n) (hf : M root < 0) : Sg n (Nb T) M (fun _ => -1) (fun i => i) (fun i => decide (i = root)) root [] [root] :=
 ⟨Bl.init, zpY h.ok, h.back, ⟨h0, hf⟩, fun v o e => absurd (of_decide_eq_true o) e, fun x hx => absurd hx (by decide), fun x hx => absurd hx (by decide), fun v => by rw [List.nil_append, List.mem_singleton, decide_eq_true_eq], List.nodup_cons.mpr ⟨List.not_mem_nil, .nil⟩, fun w _ hw => absurd hw (by decide)⟩
theorem zgc (hx : NetAt σ x d r rs n T) (hl : σ l = some (.list (P.map pr))) (hs : ∀ p ∈ P, p ∈ T) (hd : Disj P)
  (h1 : ∀ σ' a W, Ext σ σ' → σ a = none → σ' a = some (.list (W.map V.int)) → WayOk n T (mt P.reverse) W → Q (.ref a) σ')
  (h2 : ∀ σ', Ext σ σ' → Full n T (mt P.reverse) → Q .none σ') : (sem zas zay (k + 5) true).run "" "better" [.ref x, .ref l] σ Q X := by
 have hlo := hx.lo
 have hhi := hx.hi
 have hM := zbS hx.ok hs hd
 refine zaw (F := zhD) rfl ⟨rfl, ?_⟩
 dsimp only [zhD, zah, zag, zao, zam, zaB, zar, zal, zmc, zmn, zlc, zln, zac, zan, zr0, zrs, Nat.reduceAdd, Nat.reduceSub, Loc.get, zgz, zgs, zjs, zaa, tgOk, onT, zae, zaf, zad, zss, zsz, zab, za4, zjp]
 refine zgF hx hl hs hd fun f hf => ?_
 have hE := (Ext.rfl (σ := σ)).upd (o := .list (zaN n.toNat (mt P.reverse))) hf
 have hf1 : (σ.upd f (.list (zaN n.toNat (mt P.reverse)))) f = some (.list (zaN n.toNat (mt P.reverse))) := zaj
 generalize σ.upd f (.list (zaN n.toNat (mt P.reverse))) = σ1 at *
 generalize mt P.reverse = M at *
 have hx1 := hx.ext hE
 dsimp only [zgX, zah, zag, zbQ, zam, zaz, I_r1, za0, zbf, zaC, Loc.get, zgz, zgs, zjs, zaa, tgOk, onT, zae, zaf, zad, zss, zsz, zab]
 refine zdo hx1 ⟨by lia, ?_⟩
 refine zaV (fun t ρ σ' => Ext σ1 σ' ∧ (∀ root : Int, 0 ≤ root → root < t → M root < 0 → zns T M root) ∧ ∃ t3 t4 t5, ρ = [some (.ref x), some (.ref l), some (.ref f), t3, t4, t5])
  ⟨.rfl, fun root h0 h1 => by lia, _, _, _, rfl⟩ (fun _ _ _ _ => trivial) ?_ ?_
 ·intro t v ρ σ' K hv zz73
  refine ob66 zz73 ?_
  clear zz73
  intro hE1 hall t3 t4 t5 ee222
  subst ee222
  intro hK
  refine ob14 (zbL hv) ?_
  intro ee223
  subst ee223
  intro ht
  rw [Int.zero_add] at ht ⊢
  have hx2 := hx1.ext hE1
  have hf2 := hE1 _ _ hf1
  dsimp only [zg3, zah, zag, zao, zaY, zaL, zam, zaM, zee, zaR, zar, zal, Loc.get, zgz, zgs, zjs, zaa, tgOk, onT, zae, zaf, zad, zss, zsz, zab]
  refine zd7 hf2 (by lia) (by lia) (zai (a := decide (M t < 0)) rfl ?_)
  have more : ∀ {σ3 : Store} {t4 t5 : Option V}, Ext σ1 σ3 → (M t < 0 → zns T M t) → K [some (.ref x), some (.ref l), some (.ref f), some (.int t), t4, t5] σ3 := fun {σ3 t4 t5} e g => by
   refine hK _ _ ⟨e, fun root h0 h1 hf => ?_, _, _, _, rfl⟩
   by_cases z : root = t
   ·subst z; exact g hf
   ·exact hall root h0 (by lia) hf
  by_cases hM0 : M t < 0
  ·rw [decide_eq_true hM0]
   refine zbN ?_
   dsimp only [zah, zag, za7, zao, zaJ, zaA, zaK, zbH, zaY, zcl, zbQ, za1, E_tt, E_ff, zaL, zam, zfv, zbX, zd2, zb9, zaM, zfw, za3, zaB, zee, zbO, E_m0, E_m1, zaz, zaR, zdV, za2, zbh, zbI, zev, E_b1, zcQ, zfu, zd3, zbg, zbJ, zde, zdW, zar, zal, zbn, zaW, I_r1, I_r2, I_r3, za0, zbf, zdl, zft, zaC, zcY, zcX, zba, za9, zeT, zeS, Loc.get, zgz, zgs, zjs, zaa, tgOk, onT, zae, zaf, zad, zss, zsz, zab, za4, zo2]
   intro sr ds hsr hds hne
   have sb : Sb σ' ((σ'.upd ds (.ns [])).upd sr (.inst "Search" ds)) sr ds [] := ⟨(Ext.rfl.upd hds).upd hsr, zaj, (zaq (Ne.symm hne)).trans zaj, hds⟩
   refine zmH hx2 sb fun σ2 A sa e1 e2 e3 e4 => ⟨rfl, ?_⟩
   subst e1 e2 e3 e4
   dsimp only [zgZ, zah, zag, zao, zam, zbO, zar, zal, Loc.get, zgz, zgs, zjs, zaa, tgOk, onT, zae, zaf, zad, zss, zsz, zab]
   refine zaS sa.top sa.dic ⟨⟨rfl, rfl⟩, zkC hx2 sa hf2 (Sg.start hM ⟨by lia, ht⟩ hM0) (fun σ3 w e hit => ?_) fun σ3 e3 dead => ?_⟩
   ·have e0 : 0 ≤ e := by
     refine ob67 hit.ex ?_
     intro _ _ _ _ _ _ _ g _ ep _
     exact (g.gr _ _ (g.gr _ _ ep).1).2.2.1
    have e3 : Ext σ' σ3 := by
     refine ob68 hit.ex ?_
     intro _ _ _ _ _ _ s _
     exact s.ext
    dsimp only [ze6, zah, zag, zaK, zaY, zaL, zam, zaM, zaB, zar, zal, Loc.get, zgz, zgs, zjs, zaa, tgOk, onT, zae, zaf, zad, zss, zsz, zab]
    refine zai (a := decide (0 ≤ e)) rfl ?_
    rw [decide_eq_true e0]
    refine zbN ?_
    dsimp only [zah, zag, za7, zao, zaJ, zaA, zaK, zbH, zaY, zcl, zbQ, za1, E_tt, E_ff, zaL, zam, zfv, zbX, zd2, zb9, zaM, zfw, za3, zaB, zee, zbO, E_m0, E_m1, zaz, zaR, zdV, za2, zbh, zbI, zev, E_b1, zcQ, zfu, zd3, zbg, zbJ, zde, zdW, zar, zal, zbn, zaW, I_r1, I_r2, I_r3, za0, zbf, zdl, zft, zaC, zcY, zcX, zba, za9, zeT, zeS, Loc.get, zgz, zgs, zjs, zaa, tgOk, onT, zae, zaf, zad, zss, zsz, zab, za4, znP]
    refine zk9 (A := { A with w := w }) hf2 hhi hit fun a W ha hW => ?_
    exact h1 _ a W (((hE.trans hE1).trans e3).upd ((hE.trans hE1).none (e3.none ha))) ((hE.trans hE1).none (e3.none ha)) zaj hW
   ·dsimp only [ze6, zah, zag, zaK, zaY, zaL, zam, zaM, zaB, zar, zal, Loc.get, zgz, zgs, zjs, zaa, tgOk, onT, zae, zaf, zad, zss, zsz, zab]
    refine zai (a := decide ((0 : Int) ≤ -1)) rfl (zaT ?_)
    exact more (hE1.trans e3) fun _ => dead
  ·rw [decide_eq_false hM0]
   exact zaT (more hE1 fun z => absurd z hM0)
 ·intro ρ σ' zz74
  refine ob66 zz74 ?_
  clear zz74
  intro hE1 hall t3 t4 t5 ee224
  subst ee224
  rw [List.length_map, zbB] at hall
  dsimp only [zgY, zah, zag, zaK, za1, Loc.get, zgz, zgs, zjs, zaa, tgOk, onT, zae, zaf, zad, zss, zsz, zab]
  exact h2 _ (hE.trans hE1) fun root h0 h1 hf => hall root h0 (by lia) hf
theorem zkA (hx : NetAt σ x d r rs n T) (hl : σ l = some (.list (P.map pr))) (hs : ∀ p ∈ P, p ∈ T) (hd : Disj P) (hp : P.Pairwise zbV)
  (hQ : ∀ σ' a P', Ext σ σ' → (a = l ∨ σ a = none) → σ' a = some (.list (P'.map pr)) → (∀ p ∈ P', p ∈ T) → Disj P' → P'.Pairwise zbV → Full n T (mt P'.reverse) → Q (.ref a) σ') : (sem zas zay (k + 6) true).run "" "grown" [.ref x, .ref l] σ Q X := by
 have hlo := hx.lo
 have hhi := hx.hi
 refine zaw (F := zjj) rfl ⟨rfl, ?_⟩
 dsimp only [zjj, zah, zag, zao, zam, zaB, zar, zal, zmc, zmn, zlc, zln, zac, zan, zr0, zrs, Nat.reduceAdd, Nat.reduceSub, Loc.get, zgz, zgs, zjs, zaa, tgOk, onT, zae, zaf, zad, zss, zsz, zab, za4, zhJ]
 have fin : ∀ {σ' : Store} {v : V}, (v = .none ∧ Full n T (mt P.reverse)) ∨ (∃ a W, v = .ref a ∧ σ' a = some (.list (W.map V.int)) ∧ WayOk n T (mt P.reverse) W) → Ext σ σ' →
   wpSs (sem zas zay (k + 5)) true zgl [some (.ref x), some (.ref l), some v] σ' (fun _ σ' => Q .none σ') Q (fun c a _ σ' => X c a σ') := fun {σ' v} hv hE => by
  dsimp only [zgl, zah, zag, zcl, za1, zam, zaM, Loc.get, zgz, zgs, zjs, zaa, tgOk, onT, zae, zaf, zad, zss, zsz, zab]
  refine zbA (fun t ρ σ' => ∃ P' l' v, Ext σ σ' ∧ (l' = l ∨ σ l' = none) ∧ σ' l' = some (.list (P'.map pr)) ∧ (∀ p ∈ P', p ∈ T) ∧ Disj P' ∧ P'.Pairwise zbV ∧ t ≤ P'.length ∧ ((v = .none ∧ Full n T (mt P'.reverse)) ∨ (∃ a W, v = .ref a ∧ σ' a = some (.list (W.map V.int)) ∧ WayOk n T (mt P'.reverse) W)) ∧ ρ = [some (.ref x), some (.ref l'), some v]) 40
   ⟨P, l, v, hE, .inl rfl, hE _ _ hl, hs, hd, hp, Nat.zero_le _, hv, rfl⟩ ?_ ?_
  ·intro t ρ σ' zz75
   refine ob69 zz75 ?_
   clear zz75
   intro P' l' v _ _ _ s' d' _ ht _
   exact Nat.le_trans ht (zfE (fun p hp => hx.ok p (s' p hp)) d' (by lia) hhi)
  ·intro t ρ σ' K zz76
   refine ob70 zz76 ?_
   clear zz76
   intro P' l' v e' fr hl' s' d' p' ht hv ee225
   subst ee225
   intro hK
   simp only [zgz, zgs, zjs, zaa, zkH, zef]
   rcases hv with ⟨rfl, hF⟩ | ⟨a, W, rfl, ha, hW⟩
   ·refine zm1 (c := (!true) = true) (by decide) ?_
    dsimp only [ziz, zah, zag, zaK, zam, Loc.get, zgz, zgs, zjs, zaa, tgOk, onT, zae, zaf, zad, zss, zsz, zab]
    exact hQ _ _ _ e' fr hl' s' d' p' hF
   ·refine zhi (c := (!false) = true) rfl ?_
    dsimp only [ziE, zah, zag, zao, zam, zaB, zar, zal, Loc.get, zgz, zgs, zjs, zaa, tgOk, onT, zae, zaf, zad, zss, zsz, zab, za4, zkZ]
    have hlen := znG hW hhi
    refine ziJ (hx.ext e') hl' s' d' ha (by lia) hW fun σ2 b e2 hb hb2 => ?_
    dsimp only [ziA, zah, zag, zao, zam, zaB, zar, zal, Loc.get, zgz, zgs, zjs, zaa, tgOk, onT, zae, zaf, zad, zss, zsz, zab, za4, zhJ]
    have hM' := zgu (zbS hx.ok s' d') hW
    have hmore := zkT hx.ok s' d' hW
    have s2 := ziK hM'
    have d2 := zfK hM'
    have p2 := zcR (n := n.toNat) (M := mtB (mt P'.reverse) (steps W).reverse)
    generalize zb0 n.toNat (mtB (mt P'.reverse) (steps W).reverse) = P2 at *
    refine zgc (hx.ext (e'.trans e2)) hb2 s2 d2 ?_ ?_
    ·intro σ3 a3 W3 e3 _ ha3 hW3
     exact hK _ _ ⟨P2, b, _, (e'.trans e2).trans e3, .inr (e'.none hb), e3 _ _ hb2, s2, d2, p2, by lia, .inr ⟨a3, W3, rfl, ha3, hW3⟩, rfl⟩
    ·intro σ3 e3 hF
     exact hK _ _ ⟨P2, b, _, (e'.trans e2).trans e3, .inr (e'.none hb), e3 _ _ hb2, s2, d2, p2, by lia, .inl ⟨rfl, hF⟩, rfl⟩
 refine zgc hx hl hs hd ?_ ?_
 ·intro σ3 a3 W3 e3 _ ha3 hW3
  exact fin (.inr ⟨a3, W3, rfl, ha3, hW3⟩) e3
 ·intro σ3 e3 hF
  exact fin (.inl ⟨rfl, hF⟩) e3
theorem zh2 (hx : NetAt σ x d r rs n T)
  (hQ : ∀ σ' a P', Ext σ σ' → σ a = none → σ' a = some (.list (P'.map pr)) → (∀ p ∈ P', p ∈ T) → Disj P' → P'.Pairwise zbV → Full n T (mt P'.reverse) → Q (.ref a) σ') : (sem zas zay (k + 7) true).run "" "most" [.ref x] σ Q X := by
 refine zaw (F := zml) rfl ⟨rfl, ?_⟩
 dsimp only [zml, zah, zag, zaK, zam, zaB, za2, zar, zal, zmc, zmn, zlc, zln, zac, zan, zr0, zrs, Nat.reduceAdd, Nat.reduceSub, Loc.get, zgz, zgs, zjs, zaa, tgOk, onT, zae, zaf, zad, zss, zsz, zab, za4, zmv]
 refine ⟨by simp [zax], fun a ha => ?_⟩
 refine zkA (P := []) (hx.upd ha) zaj (by simp) .nil .nil fun σ' b P' e fr => hQ σ' b P' ((Ext.rfl.upd ha).trans e) (fr.elim (fun z => z ▸ ha) fun z => (zms z).2)
end
section
variable {n : Int} {T P : List (Int × Int)} {M : Int → Int}
noncomputable def Pg (T P : List (Int × Int)) : Prop := (∀ p ∈ P, p ∈ T) ∧ Disj P
noncomputable def Bst (T P : List (Int × Int)) : Prop := Pg T P ∧ ∀ P', Pg T P' → P'.length ≤ P.length
theorem zlY (nd : (zbe P).Nodup) (h : ∀ i, i ∈ zbe P ↔ 0 ≤ M i) (hr : ∀ i, 0 ≤ M i → 0 ≤ i ∧ i < n) : cov M n.toNat = 2 * P.length := by
 have hl : (zbe P).length = 2 * P.length := by
  unfold zbe
  rw [List.length_append, List.length_map, List.length_map]; lia
 rw [← hl]
 unfold cov cnt
 rw [List.countP_eq_length_filter, ← List.length_map (f := fun i : Nat => (i : Int))]
 apply Nat.le_antisymm
 ·refine zcx (List.pairwise_map.mpr ((List.nodup_range.filter _).imp fun h e => h (by lia))) fun x hx => ?_
  refine ob7 (List.mem_map.mp hx) ?_
  intro i hi ee226
  subst ee226
  exact (h _).mpr (of_decide_eq_true (List.mem_filter.mp hi).2)
 ·refine zcx nd fun x hx => ?_
  have hx := (h x).mp hx
  have r := hr x hx
  have e := Int.toNat_of_nonneg r.1
  exact List.mem_map.mpr ⟨x.toNat, List.mem_filter.mpr ⟨List.mem_range.mpr (by lia), by rw [e]; exact decide_eq_true hx⟩, e⟩
theorem Mt.mg (h : Mt n T M) : Mg n.toNat (Nb T) M := fun i hi => by
 have b := h.back i hi
 have r := zd1 h.ok b.2
 exact ⟨⟨r.1.1, by lia⟩, b.1, b.2⟩
theorem Mt.cov (h : Mt n T M) : cov M n.toNat = 2 * (zb0 n.toNat M).length :=
 zlY (zcb (fun p hp => h.ok p (ziK h p hp)) (zfK h)) (fun i => zcT h) fun i hi => (zd1 h.ok (h.back i hi).2).1
theorem Pg.ok (ok : ∀ p ∈ T, zaD n p) (h : Pg T P) : ∀ p ∈ P, zaD n p := fun p hp => ok p (h.1 p hp)
theorem Pg.cov (ok : ∀ p ∈ T, zaD n p) (h : Pg T P) : cov (mt P.reverse) n.toNat = 2 * P.length := by
 refine zlY (zcb (h.ok ok) h.2) (fun i => ?_) fun i hi => (zd1 ok ((zbS ok h.1 h.2).back i hi).2).1
 have := zjB (h.ok ok) h.2 i
 exact ⟨fun m => Classical.byContradiction fun z => this.mp (by lia) m, fun z => Classical.byContradiction fun m => by have := this.mpr m; lia⟩
theorem Mt.pg (h : Mt n T M) : Pg T (zb0 n.toNat M) := ⟨ziK h, zfK h⟩
theorem zjI (ok : ∀ p ∈ T, zaD n p) (h : Pg T P) (f : Full n T (mt P.reverse)) : Bst T P := by
 refine ⟨h, fun P' h' => Classical.byContradiction fun no => ?_⟩
 have c1 := h.cov ok
 have c2 := h'.cov ok
 obtain ⟨N, hN, all, r, rr, fr, nr⟩ := Mg.cover (fun i j e => ⟨zej e, (zd1 ok e).2.2⟩) (zbS ok h.1 h.2).mg ((n.toNat + 1) * n.toNat + n.toNat + 1) (zbS ok h'.1 h'.2).mg (by rw [c1, c2]; lia) (Nat.lt_of_lt_of_le (Nat.lt_succ_self _) (Nat.le_trans (Nat.le_add_right _ _) (Nat.le_add_right _ _)))
 exact f r rr.1 (by lia) fr N (fun i hi => (hN i hi).2) all nr
theorem Bst.take (ok : ∀ p ∈ T, zaD n p) (h : Bst T P) {i j : Int} (hij : Nb T i j) : ∃ P', Bst T P' ∧ i ∈ zbe P' ∧ P'.Pairwise zbV := by
 have v := zbS ok h.1.1 h.1.2
 have cM := h.1.cov ok
 have fin : ∀ N : Int → Int, Mg n.toNat (Nb T) N → Mine.Internal.cov (mt P.reverse) n.toNat ≤ Mine.Internal.cov N n.toNat → 0 ≤ N i → ∃ P', Bst T P' ∧ i ∈ zbe P' ∧ P'.Pairwise zbV := fun N hN hc hi => by
  have v' : Mt n T N := ⟨ok, fun x hx => (hN x hx).2⟩
  have := v'.cov
  exact ⟨_, ⟨v'.pg, fun P' h' => Nat.le_trans (h.2 P' h') (by lia)⟩, (zcT v').mpr hi, zcR⟩
 have g := v.mg
 clear cM
 generalize mt P.reverse = M at *
 by_cases hi : 0 ≤ M i
 ·exact fin M g (Nat.le_refl _) hi
 refine ob16 (zd1 ok hij) ?_
 intro ri rj ne
 have zi : M j ≠ i := fun e => hi (by have := (g j (by lia)).2.1; rw [e] at this; lia)
 have zj : M j ≠ j := fun e => by
  have := (g j (by lia)).2.2
  rw [e] at this
  exact (zd1 ok this).2.2 rfl
 let N : Int → Int := fun x => if x = i then j else if x = j then i else if x = M j then -1 else M x
 have v1 : N i = j := if_pos rfl
 have v2 : N j = i := (if_neg (Ne.symm ne)).trans (if_pos rfl)
 have v3 : N (M j) = -1 := (if_neg zi).trans ((if_neg zj).trans (if_pos rfl))
 have v4 : ∀ x, x ≠ i → x ≠ j → x ≠ M j → N x = M x := fun x a b c => (if_neg a).trans ((if_neg b).trans (if_neg c))
 have hN : Mg n.toNat (Nb T) N := g.put (z := M j) ⟨ri.1, by lia⟩ ⟨rj.1, by lia⟩ hij (zej hij) v1 v2 (.inr (by rw [v3]; decide)) v4 fun x hx a b c => by
  have gx := (g x hx).2.1
  exact ⟨fun e => hi (by rw [← e, gx]; have := (g x hx).1.1; lia), fun e => c (by rw [← e, gx]), fun e => b (by rw [← gx, e, (g j (by lia)).2.1])⟩
 refine fin N hN ?_ (by rw [v1]; exact rj.1)
 have le : ∀ x, x ≠ i → x ≠ M j → decide (0 ≤ N x) = decide (0 ≤ M x) ∨ x = j := fun x a c => by
  by_cases b : x = j
  ·exact .inr b
  ·exact .inl (by rw [v4 x a b c])
 by_cases hj : 0 ≤ M j
 ·have rz := (g (M j) (by rw [(g j hj).2.1]; exact rj.1)).1
  refine Nat.le_of_eq (zfF ri.1 (by lia) rz.1 rz.2 (Ne.symm zi) (decide_eq_false hi) (decide_eq_true (by rw [v1]; exact rj.1)) (decide_eq_true (by rw [(g j hj).2.1]; exact rj.1)) (decide_eq_false (by rw [v3]; decide)) fun x a c => ?_).symm
  rcases le x a c with e | e
  ·exact e
  ·rw [e, v2, decide_eq_true ri.1, decide_eq_true hj]
 ·refine zim fun x h0 h1 hx => ?_
  by_cases a : x = i
  ·rw [a, v1]; exact decide_eq_true rj.1
  rcases le x a (by lia) with e | e
  ·rw [e]; exact hx
  ·rw [e, v2]; exact decide_eq_true ri.1
noncomputable def fr (t : Int × Int) (L : List (Int × Int)) : Bool := !(L.any fun p => (t.1 == p.1 || t.1 == p.2) || (t.2 == p.1 || t.2 == p.2))
theorem fr_iff {t : Int × Int} {L : List (Int × Int)} : fr t L = true ↔ ∀ p ∈ L, ¬ Touch p t := by
 unfold fr
 rw [Bool.not_eq_true', List.any_eq_false]
 refine ⟨fun h p hp c => h p hp ?_, fun h p hp c => h p hp ?_⟩
 ·rw [Bool.or_eq_true, Bool.or_eq_true, Bool.or_eq_true, beq_iff_eq, beq_iff_eq, beq_iff_eq, beq_iff_eq]
  unfold Touch at c; lia
 ·rw [Bool.or_eq_true, Bool.or_eq_true, Bool.or_eq_true, beq_iff_eq, beq_iff_eq, beq_iff_eq, beq_iff_eq] at c
  unfold Touch; lia
noncomputable def All (T : List (Int × Int)) (F : List (List (Int × Int))) : Prop := (∀ L ∈ F, Pg T L) ∧ ∀ L, L.Sublist T → Disj L → L ∈ F
theorem All.nil : All [] [[]] := ⟨fun L hL => by rw [List.mem_singleton.mp hL]; exact ⟨fun p hp => hp, .nil⟩, fun L h _ => List.mem_singleton.mpr (List.sublist_nil.mp h)⟩
theorem All.step {F : List (List (Int × Int))} (h : All T F) {t : Int × Int} : All (T ++ [t]) (F ++ (F.filter (fr t)).map (· ++ [t])) := by
 refine ⟨fun L hL => ?_, fun L hL hd => ?_⟩
 ·rcases List.mem_append.mp hL with hL | hL
  ·exact ⟨fun p hp => List.mem_append_left _ ((h.1 L hL).1 p hp), (h.1 L hL).2⟩
  ·refine ob7 (List.mem_map.mp hL) ?_
   intro L hL' ee227
   subst ee227
   refine ob14 (List.mem_filter.mp hL') ?_
   intro hL hf
   refine ⟨fun p hp => ?_, List.pairwise_append.mpr ⟨(h.1 L hL).2, List.pairwise_singleton _ _, fun p hp q hq => ?_⟩⟩
   ·rcases List.mem_append.mp hp with hp | hp
    ·exact List.mem_append_left _ ((h.1 L hL).1 p hp)
    ·exact List.mem_append_right _ hp
   ·rw [List.mem_singleton.mp hq]; exact fr_iff.mp hf p hp
 ·refine ob1 (List.sublist_append_iff.mp hL) ?_
  intro L1 L2 ee228
  subst ee228
  intro h1 h2
  have hd' := List.pairwise_append.mp hd
  have h2' : L2 = [] ∨ L2 = [t] := by
   cases h2 with
   | cons _ h => exact .inl (List.sublist_nil.mp h)
   | cons_cons _ h => exact .inr (by rw [List.sublist_nil.mp h])
  rcases h2' with rfl | rfl
  ·rw [List.append_nil]; exact List.mem_append_left _ (h.2 L1 h1 hd'.1)
  ·exact List.mem_append_right _ (List.mem_map.mpr ⟨L1, List.mem_filter.mpr ⟨h.2 L1 h1 hd'.1, fr_iff.mpr fun p hp => hd'.2.2 p hp t (List.mem_singleton.mpr rfl)⟩, rfl⟩)
noncomputable def Bd (T : List (Int × Int)) (i : Int) : Prop := ∀ L, Bst T L → i ∈ zbe L
noncomputable def bd (T : List (Int × Int)) (i : Int) : Bool := @decide (Bd T i) (Classical.propDecidable _)
theorem zl5 {i : Int} (h : Bd T i) : bd T i = true := @decide_eq_true _ (Classical.propDecidable _) h
theorem zjW {i : Int} (h : ¬ Bd T i) : bd T i = false := @decide_eq_false _ (Classical.propDecidable _) h
noncomputable def cut (i : Int) (T : List (Int × Int)) : List (Int × Int) := T.filter fun p => !(i == p.1 || i == p.2)
theorem mem_cut {i : Int} {p : Int × Int} : p ∈ cut i T ↔ p ∈ T ∧ ¬ (p.1 = i ∨ p.2 = i) := by
 unfold cut
 rw [List.mem_filter, Bool.not_eq_true', Bool.or_eq_false_iff, beq_eq_false_iff_ne, beq_eq_false_iff_ne]
 exact ⟨fun h => ⟨h.1, fun e => e.elim (fun e => h.2.1 e.symm) fun e => h.2.2 e.symm⟩, fun h => ⟨h.1, fun e => h.2 (.inl e.symm), fun e => h.2 (.inr e.symm)⟩⟩
theorem zpI {i : Int} {P1 P2 : List (Int × Int)} (h1 : Bst (cut i T) P1) (h2 : Bst T P2) : bd T i = decide (P1.length < P2.length) := by
 have up : ∀ {P}, Pg (cut i T) P → Pg T P := fun h => ⟨fun p hp => (mem_cut.mp (h.1 p hp)).1, h.2⟩
 have : Bd T i ↔ P1.length < P2.length := by
  constructor
  ·intro h
   refine Classical.byContradiction fun no => ?_
   have b1 : Bst T P1 := ⟨up h1.1, fun P' h' => Nat.le_trans (h2.2 P' h') (by lia)⟩
   refine ob7 (mem_places.mp (h P1 b1)) ?_
   intro p hp e
   exact (mem_cut.mp (h1.1.1 p hp)).2 e
  ·intro lt L hL
   refine Classical.byContradiction fun no => ?_
   have := h1.2 L ⟨fun p hp => mem_cut.mpr ⟨hL.1.1 p hp, fun e => no (mem_places.mpr ⟨p, hp, e⟩)⟩, hL.1.2⟩
   have := hL.2 P2 h2.1
   lia
 by_cases c : P1.length < P2.length
 ·rw [decide_eq_true c, zl5 (this.mpr c)]
 ·rw [decide_eq_false c, zjW fun z => c (this.mp z)]
noncomputable def hs (i : Int) (L : List (Int × Int)) : Bool := L.any fun p => i == p.1 || i == p.2
end
section
variable {k : Nat} {σ : Store} {Q : V → Store → Prop} {X : XP} {x d r l : Addr} {rs : List Addr} {n : Int} {T P : List (Int × Int)} {i : Nat}
theorem zj8 : (zas "" "leaving").isSome = true := rfl
theorem zp3 {i : Int} {p : Int × Int} : inV σ (.int i) (pr p) = some (i == p.1 || i == p.2) := by
 show some ((p.1 == i) || ((p.2 == i) || false)) = _
 rw [Bool.or_false, Bool.beq_comm (a := p.1), Bool.beq_comm (a := p.2)]
theorem zcW {c : Addr} {vs : List V} {K : List V → (Store → Prop) → Prop} (h : σ c = some (.list vs)) (g : K vs fun σ' => σ' c = some (.list vs)) : zdn (.ref c) σ K := by
 show za5 σ (.ref c) fun a vs => K vs fun σ' => σ' a = some (.list vs)
 exact zat h g
theorem zok {K : Option V → Store → Prop} {c : Bool} {v : V} (h : K (if c = true then some v else none) σ) : if c = true then K (some v) σ else K none σ := by
 cases c
 ·exact h
 ·exact h
theorem zc1 {α : Type} {chk : Store → Prop} {B : V → Store → (Option V → Store → Prop) → Prop} {L : List α} {g h : α → V} {c : α → Bool} (hc : ∀ σ', Ext σ σ' → chk σ') (hl : L.length ≤ zax)
  (hB : ∀ x ∈ L, ∀ σ', Ext σ σ' → ∀ K : Option V → Store → Prop, (∀ σ'', Ext σ' σ'' → K (if c x = true then some (h x) else none) σ'') → B (g x) σ' K)
  (q : ∀ σ' a, Ext σ σ' → σ a = none → σ' a = some (.list ((L.filter c).map h)) → Q (.ref a) σ') : zb4 chk B Q (L.map g) [] σ := by
 have key : ∀ (L' : List α) (acc : List V) (σ' : Store), (∀ x ∈ L', x ∈ L) → Ext σ σ' → acc.length + L'.length ≤ zax → acc ++ (L'.filter c).map h = (L.filter c).map h → zb4 chk B Q (L'.map g) acc σ' := by
  intro L'
  induction L' with
  | nil =>
   intro acc σ' _ e _ eq
   refine ⟨hc _ e, fun a ha => ?_⟩
   rw [List.filter_nil, List.map_nil, List.append_nil] at eq
   exact q _ a (e.upd (e.none ha)) (e.none ha) (by rw [zaj, eq])
  | cons x L' ih =>
   intro acc σ' hs e hn eq
   rw [List.length_cons] at hn
   refine ⟨hc _ e, by lia, hB x (hs x (List.mem_cons_self ..)) σ' e _ fun σ'' e' => ?_⟩
   rw [List.filter_cons] at eq
   by_cases z : c x = true
   ·rw [if_pos z] at eq ⊢
    exact ih _ _ (fun y hy => hs y (List.mem_cons_of_mem _ hy)) (e.trans e') (by rw [List.length_append, List.length_singleton]; lia) (by rw [← eq, List.map_cons, List.append_assoc]; rfl)
   ·rw [if_neg z] at eq ⊢
    exact ih _ _ (fun y hy => hs y (List.mem_cons_of_mem _ hy)) (e.trans e') (show acc.length + _ ≤ _ by lia) eq
 exact key L [] σ (fun x hx => hx) .rfl (by rw [List.length_nil]; lia) rfl
theorem zgd (hx : NetAt σ x d r rs n T) (hQ : ∀ σ' a P', Ext σ σ' → σ' a = some (.list (P'.map pr)) → Bst T P' → P'.Pairwise zbV → Q (.ref a) σ') : (sem zas zay (k + 7) true).run "" "most" [.ref x] σ Q X :=
 zh2 hx fun σ' a P' e _ ha s d p f => hQ σ' a P' e ha (zjI hx.ok ⟨s, d⟩ f) p
theorem zh8 (hx : NetAt σ x d r rs n T) (hT : T.Pairwise zbV) (hTl : T.length ≤ 1600) (hi : (i : Int) < n)
  (hQ : ∀ σ' v, Ext σ σ' → noB v = bd T i → Q v σ') : (sem zas zay (k + 8) true).run "" "leaving" [.ref x, .int i] σ Q X := by
 have hlo := hx.lo
 have hhi := hx.hi
 refine zaw (F := zgo) rfl ⟨rfl, ?_⟩
 dsimp only [zgo, zah, zag, za7, zam, zbO, zar, zal, zmc, zmn, zlc, zln, zac, zan, zr0, zrs, Nat.reduceAdd, Nat.reduceSub, Loc.get, zgz, zgs, zjs, zaa, tgOk, onT, zae, zaf, zad, zss, zsz, zab]
 refine zaS hx.top hx.dic ⟨⟨rfl, tb_beside⟩, ?_⟩
 refine zge hx hi fun b hb => ?_
 have e1 := (Ext.rfl (σ := σ)).upd (o := .list ((zaX (nb T i)).map V.int)) hb
 generalize σ.upd b (.list ((zaX (nb T i)).map V.int)) = σ1 at *
 have hx1 := hx.ext e1
 dsimp only [zgh, zah, zag, zao, zam, zaM, zee, zbO, zaz, zbg, zbJ, zdW, zar, zal, za0, zbf, zft, zba, za9, Loc.get, zgz, zgs, zjs, zaa, tgOk, onT, zae, zaf, zad, zss, zsz, zab, drp, za4, zk2]
 refine zdo hx1 ?_
 refine zaS hx1.top hx1.dic ⟨⟨rfl, tb_ties⟩, ?_⟩
 refine zhF hx1 fun c hc => ?_
 rw [zhH ⟨hT, hx.ok⟩ (List.Perm.refl _)]
 have e2 := (Ext.rfl (σ := σ1)).upd (o := .list (T.map pr)) hc
 have hc2 : (σ1.upd c (.list (T.map pr))) c = some (.list (T.map pr)) := zaj
 generalize σ1.upd c (.list (T.map pr)) = σ2 at *
 refine zcW hc2 ?_
 refine zc1 (c := fun p : Int × Int => !(((i : Int) == p.1) || ((i : Int) == p.2))) (h := pr) (fun σ' e => e _ _ hc2) (by unfold zax; lia) (fun p _ σ' _ K hK => ?_) ?_
 ·exact zai (a := !(((i : Int) == p.1) || ((i : Int) == p.2))) (by rw [zbd, zp3]; rfl) (zok (hK _ .rfl))
 intro σ3 w e3 hw hw3 y dy hy hdy hyd
 have hx3 := hx1.ext (e2.trans e3)
 have hwy : w ≠ y := zbb hw3 hy
 have hwd : w ≠ dy := zbb hw3 hdy
 have hlen : (cut i T).length ≤ T.length := List.length_filter_le ..
 have hok : ∀ p ∈ cut i T, zaD n p := fun p hp => hx.ok p (mem_cut.mp hp).1
 have hno : (cut i T).Nodup := hx.nod.filter _
 refine zie (d := dy) (H := cut i T) zaj (by rw [zaq hyd.symm, zaj]) hyd ((zaq hwy).trans ((zaq hwd).trans hw3)) hlo hhi hno hok (by lia) ?_
 intro σ4 r' rs' hF hd' hR hr hrs hrr
 have e4 := zjK hy hdy hF
 have hN : NetAt σ4 y dy r' rs' n (cut i T) := ⟨hF y _ hyd zaj, hd', hR, hlo, hhi, hno, hok⟩
 refine ⟨rfl, ?_⟩
 dsimp only [zgi, zah, zag, zao, zam, zaB, zar, zal, Loc.get, zgz, zgs, zjs, zaa, tgOk, onT, zae, zaf, zad, zss, zsz, zab, za4, zg7]
 refine zgd hN fun σ5 a P1 e5 ha5 b1 _ => ?_
 dsimp only [zgj, zah, zag, zaK, zaY, za1, zam, zaM, zaB, E_b1, zar, zal, Loc.get, zgz, zgs, zjs, zaa, tgOk, onT, zae, zaf, zad, zss, zsz, zab, za4, zg7]
 simp only [ze0 ha5, List.length_map]
 have hx5 := hx3.ext (e4.trans e5)
 refine zgd hx5 fun σ6 a6 P2 e6 ha6 b2 _ => ?_
 have fin := zpI b1 b2
 have E := (((e1.trans (e2.trans e3)).trans (e4.trans e5)).trans e6)
 simp only [ze0 ha6, List.length_map]
 refine zai (a := decide ((P1.length : Int) < P2.length)) rfl ?_
 by_cases c : P1.length < P2.length
 ·rw [decide_eq_true (by lia : (P1.length : Int) < P2.length)]
  rw [decide_eq_true c] at fin
  exact zbN (hQ _ _ E fin.symm)
 ·rw [decide_eq_false (by lia : ¬ (P1.length : Int) < P2.length)]
  rw [decide_eq_false c] at fin
  refine zaT ?_
  dsimp only [zgk, zah, zag, zaK, zam, Loc.get, zgz, zgs, zjs, zaa, tgOk, onT, zae, zaf, zad, zss, zsz, zab]
  exact hQ _ _ E fin.symm
end
section
variable {k : Nat} {σ : Store} {Q : V → Store → Prop} {X : XP} {x d r l : Addr} {rs : List Addr} {n : Int} {T P : List (Int × Int)} {i : Nat}
theorem zjq : (zas "" "fence").isSome = true := rfl
noncomputable def fc (T : List (Int × Int)) (i : Int) : Bool := bd T i && (nb T i).any fun j => !bd T j
noncomputable def fen (t : Nat) (T : List (Int × Int)) : List Int := ((List.range t).map fun i : Nat => (i : Int)).filter (fc T)
theorem zm9 {t : Nat} : fen (t + 1) T = fen t T ++ if fc T t = true then [(t : Int)] else [] := by
 unfold fen
 rw [List.range_succ, List.map_append, List.filter_append, List.map_singleton, List.filter_cons, List.filter_nil]
theorem zi9 {t : Nat} : (fen t T).length ≤ t := by
 refine Nat.le_trans (List.length_filter_le ..) ?_
 rw [List.length_map, List.length_range]; exact Nat.le_refl _
theorem zmp : (upto 0 n 1).map V.int = (List.range n.toNat).map fun i : Nat => V.int i := by
 have e1 : ((n - 0 + 1 - 1) / 1).toNat = n.toNat := by rw [Int.ediv_one]; lia
 unfold upto
 rw [if_pos (by decide), List.map_map, e1]
 refine List.map_congr_left fun i _ => ?_
 show V.int (0 + 1 * (i : Int)) = _
 rw [Int.zero_add, Int.one_mul]
theorem znp {f : Int → Bool} {l : List Int} : (zaX l).any f = l.any f := by
 rw [Bool.eq_iff_iff, List.any_eq_true, List.any_eq_true]
 exact ⟨fun ⟨x, h, e⟩ => ⟨x, mem_sortI.mp h, e⟩, fun ⟨x, h, e⟩ => ⟨x, mem_sortI.mpr h, e⟩⟩
theorem zis {α : Type} {f : α → Bool} {l : List α} : bools? (l.map fun x => V.bool (f x)) = some (l.map f) := by
 induction l with
 | nil => rfl
 | cons a l ih =>
  show (bools? (l.map fun x => V.bool (f x))).map (f a :: ·) = _
  rw [ih]; rfl
theorem zpK {a : Addr} {α : Type} {f : α → Bool} {l : List α} (h : σ a = some (.list (l.map fun x => V.bool (f x)))) (q : Q (.bool (l.any f)) σ) : b1V true .any (.ref a) σ Q := by
 refine ⟨rfl, zat h (zai zis ?_)⟩
 rw [List.any_map]; exact q
theorem zgK (hx : NetAt σ x d r rs n T) (hT : T.Pairwise zbV) (hTl : T.length ≤ 1600)
  (hQ : ∀ σ' a, Ext σ σ' → σ a = none → σ' a = some (.list ((fen n.toNat T).map V.int)) → Q (.ref a) σ') : (sem zas zay (k + 9) true).run "" "fence" [.ref x] σ Q X := by
 have hlo := hx.lo
 have hhi := hx.hi
 refine zaw (F := zjk) rfl ⟨rfl, ?_⟩
 dsimp only [zjk, zah, zag, zao, za1, zam, zaM, zaB, zaz, zd3, zbg, zbJ, zde, zar, zal, I_r1, za0, zbf, zdl, zaC, zba, za9, zmc, zmn, zlc, zln, zac, zan, zr0, zrs, Nat.reduceAdd, Nat.reduceSub, Loc.get, zgz, zgs, zjs, zaa, tgOk, onT, zae, zaf, zad, zss, zsz, zab, za4, zj8]
 refine zdo hx ⟨by lia, ?_⟩
 rw [zmp]
 refine zc1 (c := fun _ => true) (h := fun i : Nat => V.bool (!bd T i)) (fun _ _ => trivial) (by rw [List.length_range]; unfold zax; lia) (fun i hi σ' e' K hK => ?_) ?_
 ·have hi := List.mem_range.mp hi
  refine zh8 (hx.ext e') hT hTl (by lia) fun σ2 v e2 hv => ?_
  refine zai (a := !bd T i) (by rw [← hv]; rfl) ?_
  exact hK _ e2
 intro σ1 w e1 _ hw
 rw [List.filter_eq_self.mpr fun _ _ => rfl] at hw
 have hx1 := hx.ext e1
 have hw1 : σ1 w = some (.list (zd0 n.toNat fun i => !bd T i)) := hw
 dsimp only [ziB, zah, zag, zao, za2, zar, zal, Loc.get, zgz, zgs, zjs, zaa, tgOk, onT, zae, zaf, zad, zss, zsz, zab]
 refine ⟨by simp [zax], fun f hf => ?_⟩
 dsimp only [ziC, zah, zag, zbQ, zam, zaz, I_r1, za0, zbf, zaC, Loc.get, zgz, zgs, zjs, zaa, tgOk, onT, zae, zaf, zad, zss, zsz, zab]
 refine zdo (hx1.upd hf) ⟨by lia, ?_⟩
 refine zaV (fun t ρ σ' => Ext σ1 σ' ∧ σ' f = some (.list ((fen t T).map V.int)) ∧ ∃ t3, ρ = [some (.ref x), some (.ref w), some (.ref f), t3, none, none])
  ⟨Ext.rfl.upd hf, zaj, _, rfl⟩ (fun _ _ _ _ => trivial) ?_ ?_
 ·intro t v ρ σ' K hv zz77
  refine ob58 zz77 ?_
  clear zz77
  intro e2 hf2 t3 ee229
  subst ee229
  intro hK
  refine ob14 (zbL hv) ?_
  intro ee230
  subst ee230
  intro ht
  rw [Int.zero_add] at ht ⊢
  have hx2 := hx1.ext e2
  have hw2 := e2 _ _ hw1
  dsimp only [ziF, zah, zag, za7, zaY, za1, zam, zb9, za3, zbO, E_m1, zaR, E_b1, zbg, zdW, zar, zal, zbn, zaW, za0, zft, zba, za9, Loc.get, zgz, zgs, zjs, zaa, tgOk, onT, zae, zaf, zad, zss, zsz, zab]
  refine zlM hw2 (by lia) (by lia) ?_
  have fs := zm9 (t := t) (T := T)
  unfold fc at fs
  cases c : bd T t with
  | false =>
   rw [c, Bool.false_and, if_neg Bool.false_ne_true, List.append_nil] at fs
   exact go_b (b := true) (zaT (zaT (hK _ _ ⟨e2, by rw [fs]; exact hf2, _, rfl⟩)))
  | true =>
   rw [c, Bool.true_and] at fs
   refine go_b (b := false) (zbN (zaS hx2.top hx2.dic ⟨⟨rfl, tb_beside⟩, zge hx2 ht fun b hb => ?_⟩))
   have e3 := (Ext.rfl (σ := σ')).upd (o := .list ((zaX (nb T t)).map V.int)) hb
   have hb3 : (σ'.upd b (.list ((zaX (nb T t)).map V.int))) b = some (.list ((zaX (nb T t)).map V.int)) := zaj
   generalize σ'.upd b (.list ((zaX (nb T t)).map V.int)) = σ3 at *
   refine zcW hb3 ?_
   have hlen := hx.rowLen t
   refine zc1 (c := fun _ => true) (h := fun j : Int => V.bool (!bd T j)) (fun σ' e => e _ _ hb3) (by unfold zax; lia) (fun j hj σ4 e4 C hC => ?_) ?_
   ·have rj := (zd1 hx.ok (mem_sortI.mp hj)).2.1
    exact zlM (e4 _ _ (e3 _ _ hw2)) rj.1 (by lia) (hC _ .rfl)
   intro σ4 a4 e4 _ ha4
   rw [List.filter_eq_self.mpr fun _ _ => rfl] at ha4
   refine zpK ha4 ?_
   rw [znp]
   have hf4 := e4 _ _ (e3 _ _ hf2)
   have E4 := e2.trans (e3.trans e4)
   cases z : (nb T t).any fun j => !bd T j with
   | false =>
    rw [z, if_neg Bool.false_ne_true, List.append_nil] at fs
    exact zaT (hK _ _ ⟨E4, by rw [fs]; exact hf4, _, rfl⟩)
   | true =>
    rw [z, if_pos rfl] at fs
    have := zi9 (t := t) (T := T)
    refine zbN (zat hf4 (zaZ hf4 (by rw [List.length_map]; unfold zax; lia) (hK _ _ ⟨E4.upd hf, ?_, _, rfl⟩)))
    rw [zaj, fs, List.map_append]; rfl
 ·intro ρ σ' zz78
  refine ob58 zz78 ?_
  clear zz78
  intro e2 hf2 t3 ee231
  subst ee231
  rw [List.length_map, zbB] at hf2
  dsimp only [ziD, zah, zag, zaK, zam, Loc.get, zgz, zgs, zjs, zaa, tgOk, onT, zae, zaf, zad, zss, zsz, zab]
  exact hQ _ _ (e1.trans e2) (e1.none hf) hf2
end
section
variable {n : Nat} {E : Int → Int → Prop} {M N : Int → Int} {x y : Int}
theorem Mg.add (h : Mg n E M) (e : E x y) (e' : E y x) (ne : x ≠ y) (rx : 0 ≤ x ∧ x < n) (ry : 0 ≤ y ∧ y < n) (fx : M x < 0) (fy : M y < 0) : ∃ M', Mg n E M' ∧ ∀ i, 0 ≤ M' i ↔ 0 ≤ M i ∨ i = x ∨ i = y := by
 have no : ∀ i, 0 ≤ M i → M i ≠ x ∧ M i ≠ y := fun i hi => by
  have g := h i hi
  exact ⟨fun z => by rw [z] at g; lia, fun z => by rw [z] at g; lia⟩
 let M' : Int → Int := fun i => if i = x then y else if i = y then x else M i
 have v1 : M' x = y := if_pos rfl
 have v2 : M' y = x := (if_neg (Ne.symm ne)).trans (if_pos rfl)
 have v4 : ∀ i, i ≠ x → i ≠ y → M' i = M i := fun i a b => (if_neg a).trans (if_neg b)
 refine ⟨M', h.put (z := x) rx ry e e' v1 v2 (.inl rfl) (fun i a b _ => v4 i a b) fun i hi _ _ _ => ⟨(no i hi).1, (no i hi).2, (no i hi).1⟩, fun i => ?_⟩
 by_cases ix : i = x
 ·rw [ix, v1]; lia
 by_cases iy : i = y
 ·rw [iy, v2]; lia
 ·rw [v4 i ix iy]; lia
theorem Mg.del (h : Mg n E M) (hx : 0 ≤ M x) : ∃ M', Mg n E M' ∧ ∀ i, 0 ≤ M' i ↔ 0 ≤ M i ∧ i ≠ x ∧ i ≠ M x := by
 have gx := h x hx
 have eq : ∀ i, 0 ≤ M i → i ≠ x → i ≠ M x → M i ≠ x ∧ M i ≠ M x := fun i hi a b => by
  have g := (h i hi).2.1
  exact ⟨fun z => b (by rw [← g, z]), fun z => a (by rw [← g, z, gx.2.1])⟩
 let M' : Int → Int := fun i => if i = x then -1 else if i = M x then -1 else M i
 have v1 : M' x = -1 := if_pos rfl
 have v2 : ∀ i, i = M x → M' i = -1 := fun i e => by
  by_cases a : i = x
  ·rw [a]; exact v1
  ·exact (if_neg a).trans (if_pos e)
 have v4 : ∀ i, i ≠ x → i ≠ M x → M' i = M i := fun i a b => (if_neg a).trans (if_neg b)
 have c : ∀ i, 0 ≤ M' i ↔ 0 ≤ M i ∧ i ≠ x ∧ i ≠ M x := fun i => by
  by_cases a : i = x
  ·rw [a, v1]; lia
  by_cases b : i = M x
  ·rw [v2 i b]; lia
  ·rw [v4 i a b]; lia
 refine ⟨M', fun i hi => ?_, c⟩
 refine ob16 ((c i).mp hi) ?_
 intro hi a b
 rw [v4 i a b, v4 _ (eq i hi a b).1 (eq i hi a b).2]
 exact h i hi
theorem pr1 {a b c d : Prop} (h : c → a ∧ b) : (a ∧ b ∧ ¬ c) ∨ c ∨ d ↔ (a ∧ b) ∨ d :=
 ⟨fun z => z.elim (fun z => .inl ⟨z.1, z.2.1⟩) fun z => z.elim (fun z => .inl (h z)) .inr, fun z => z.elim (fun z => (Classical.em c).elim (fun c => .inr (.inl c)) fun c => .inl ⟨z.1, z.2, c⟩) fun z => .inr (.inr z)⟩
theorem pr2 {a b c d e : Prop} (h : c → a ∧ b) (g : d → a ∧ b) : ((a ∧ b ∧ ¬ c) ∧ ¬ d ∨ e) ∨ c ∨ d ↔ (a ∧ b) ∨ e :=
 ⟨fun z => z.elim (fun z => z.elim (fun z => .inl ⟨z.1.1, z.1.2.1⟩) .inr) fun z => .inl (z.elim h g), fun z => z.elim (fun z => (Classical.em (c ∨ d)).elim .inr fun n => .inl (.inl ⟨⟨z.1, z.2, fun c => n (.inl c)⟩, fun d => n (.inr d)⟩)) fun z => .inl (.inr z)⟩
theorem pr3 {a b c d e : Prop} (h : c → a ∧ b) (g : d → a ∧ b) : ((a ∧ ¬ c ∧ ¬ d) ∧ b ∨ d) ∨ e ∨ c ↔ (a ∧ b) ∨ e :=
 ⟨fun z => z.elim (fun z => z.elim (fun z => .inl ⟨z.1.1, z.2⟩) fun z => .inl (g z)) fun z => z.elim .inr fun z => .inl (h z), fun z => z.elim (fun z => (Classical.em c).elim (fun c => .inr (.inr c)) fun c => (Classical.em d).elim (fun d => .inl (.inr d)) fun d => .inl (.inl ⟨⟨z.1, c, d⟩, z.2⟩)) fun z => .inr (.inl z)⟩
theorem pr4 {a b c d f : Prop} (h : c → a ∧ b ∧ f) (g : d → a ∧ b ∧ f) : ((a ∧ b ∧ ¬ c) ∧ ¬ d ∧ f) ∨ c ∨ d ↔ a ∧ b ∧ f :=
 ⟨fun z => z.elim (fun z => ⟨z.1.1, z.1.2.1, z.2.2⟩) fun z => z.elim h g, fun z => (Classical.em (c ∨ d)).elim .inr fun n => .inl ⟨⟨z.1, z.2.1, fun c => n (.inl c)⟩, fun d => n (.inr d), z.2.2⟩⟩
theorem pr5 {a c d e f : Prop} (h : c → a) (g : d → a) : ((a ∧ ¬ c ∧ ¬ d) ∨ d ∨ f) ∨ e ∨ c ↔ a ∨ e ∨ f :=
 ⟨fun z => z.elim (fun z => z.elim (fun z => .inl z.1) fun z => z.elim (fun z => .inl (g z)) fun z => .inr (.inr z)) fun z => z.elim (fun z => .inr (.inl z)) fun z => .inl (h z), fun z => z.elim (fun z => (Classical.em c).elim (fun c => .inr (.inr c)) fun c => (Classical.em d).elim (fun d => .inl (.inr (.inl d))) fun d => .inl (.inl ⟨z, c, d⟩)) fun z => z.elim (fun z => .inr (.inl z)) fun z => .inl (.inr (.inr z))⟩
theorem pr6 {a b c d : Prop} (h : c → a ∧ b) : (a ∧ ¬ c ∧ b) ∨ d ∨ c ↔ (a ∧ b) ∨ d :=
 ⟨fun z => z.elim (fun z => .inl ⟨z.1, z.2.2⟩) fun z => z.elim .inr fun z => .inl (h z), fun z => z.elim (fun z => (Classical.em c).elim (fun c => .inr (.inr c)) fun c => .inl ⟨z.1, c, z.2⟩) fun z => .inr (.inl z)⟩
noncomputable def Alt (n : Nat) (E : Int → Int → Prop) (M N : Int → Int) (x : Int) : Prop := ∃ y M' N', y ≠ x ∧ (Mg n E M' ∧ Mg n E N') ∧
 ((M y < 0 ∧ 0 ≤ N y ∧ (∀ i, 0 ≤ M' i ↔ (0 ≤ M i ∧ i ≠ x) ∨ i = y) ∧ ∀ i, 0 ≤ N' i ↔ (0 ≤ N i ∧ i ≠ y) ∨ i = x) ∨
  (0 ≤ M y ∧ N y < 0 ∧ (∀ i, 0 ≤ M' i ↔ 0 ≤ M i ∧ i ≠ x ∧ i ≠ y) ∧ ∀ i, 0 ≤ N' i ↔ 0 ≤ N i ∨ i = x ∨ i = y))
theorem Mg.alt (hE : ∀ i j, E i j → E j i ∧ i ≠ j) : ∀ (k : Nat) {M N : Int → Int} {x : Int}, Mg n E M → Mg n E N → cov N n < k → 0 ≤ M x → N x < 0 → Alt n E M N x
 | 0, _, _, _, _, _, hk, _, _ => by lia
 | k + 1, M, N, x, hM, hN, hk, mx, nx => by
  refine ob16 (hM x mx) ?_
  intro rx mm ex
  refine ob14 (hE _ _ ex) ?_
  intro ex' ne
  have mu : 0 ≤ M (M x) := by rw [mm]; exact rx.1
  have ru := (hM (M x) mu).1
  refine ob7 (hM.del mx) ?_
  intro M1 hM1 c1
  generalize M x = u at *
  by_cases nu : N u < 0
  ·refine ob7 (hN.add ex ex' ne rx ru nx nu) ?_
   intro N' hN' c2
   exact ⟨u, M1, N', Ne.symm ne, ⟨hM1, hN'⟩, .inr ⟨mu, nu, c1, c2⟩⟩
  have nu : 0 ≤ N u := by lia
  refine ob16 (hN u nu) ?_
  intro _ nn ez
  refine ob14 (hE _ _ ez) ?_
  intro ez' nez
  have nz0 : 0 ≤ N (N u) := by rw [nn]; exact ru.1
  have rz := (hN (N u) nz0).1
  have zx : N u ≠ x := fun e => by rw [e] at nn; rw [nn] at nx; lia
  refine ob7 (hN.del nu) ?_
  intro N1 hN1 c2
  generalize hz : N u = z at *
  have n1u : N1 u < 0 := by have := c2 u; lia
  have n1x : N1 x < 0 := by have := c2 x; lia
  have n1z : N1 z < 0 := by have := c2 z; lia
  have m1u : M1 u < 0 := by have := c1 u; lia
  have ku : ∀ i, i = u → 0 ≤ M i ∧ 0 ≤ N i := fun i e => by rw [e]; exact ⟨mu, by rw [hz]; exact nu⟩
  have kz : ∀ i, i = z → 0 ≤ N i := fun i e => e ▸ nz0
  by_cases mz : M z < 0
  ·have m1z : M1 z < 0 := by have := c1 z; lia
   refine ob7 (hM1.add ez ez' nez ru rz m1u m1z) ?_
   intro M' hM' d1
   refine ob7 (hN1.add ex ex' ne rx ru n1x n1u) ?_
   intro N' hN' d2
   refine ⟨z, M', N', zx, ⟨hM', hN'⟩, .inl ⟨mz, nz0, fun i => ?_, fun i => ?_⟩⟩
   ·rw [d1 i, c1 i]; exact pr1 fun e => ⟨(ku i e).1, fun z => ne (z.symm.trans e)⟩
   ·rw [d2 i, c2 i]; exact pr6 fun e => ⟨(ku i e).2, fun z => nez (e.symm.trans z)⟩
  have kz' : ∀ i, i = z → 0 ≤ M i := fun i e => by rw [e]; lia
  have less : cov N1 n < cov N n := zjS (x := u) (fun i _ _ h => decide_eq_true ((c2 i).mp (of_decide_eq_true h)).1) ru.1 ru.2 (decide_eq_false (by lia)) (decide_eq_true (by rw [hz]; exact nu))
  obtain ⟨y, M', N', yz, ⟨hM', hN'⟩, h⟩ := Mg.alt hE k (x := z) hM1 hN1 (by lia) (by have := c1 z; lia) n1z
  have m'u : M' u < 0 := by
   have e1 := c1 u; have e2 := c2 u
   rcases h with ⟨_, hy, d, _⟩ | ⟨_, _, d, _⟩
   ·have := d u
    have : u ≠ y := fun e => by rw [← e] at hy; lia
    lia
   ·have := d u; lia
  have m'z : M' z < 0 := by rcases h with ⟨_, _, d, _⟩ | ⟨_, _, d, _⟩ <;> (have := d z; lia)
  have n'x : N' x < 0 ∧ N' u < 0 := by
   rcases h with ⟨_, _, _, d⟩ | ⟨hy, _, _, d⟩
   ·have := d x; have := d u; lia
   ·have := d x; have := d u
    have : x ≠ y := fun e => by rw [← e] at hy; have := c1 x; lia
    have : u ≠ y := fun e => by rw [← e] at hy; lia
    lia
  refine ob7 (hM'.add ez ez' nez ru rz m'u m'z) ?_
  intro M2 hM2 d1
  refine ob7 (hN'.add ex ex' ne rx ru n'x.1 n'x.2) ?_
  intro N2 hN2 d2
  rcases h with ⟨h1, h2, h3, h4⟩ | ⟨h1, h2, h3, h4⟩
  ·have y1 := (c2 y).mp h2
   have yx : y ≠ x := fun e => by rw [e] at y1; lia
   refine ⟨y, M2, N2, yx, ⟨hM2, hN2⟩, .inl ⟨by have := c1 y; lia, y1.1, fun i => ?_, fun i => ?_⟩⟩
   ·rw [d1 i, h3 i, c1 i]; exact pr2 (fun e => ⟨(ku i e).1, fun z => ne (z.symm.trans e)⟩) fun e => ⟨kz' i e, fun z => zx (e.symm.trans z)⟩
   ·rw [d2 i, h4 i, c2 i]; exact pr3 (fun e => ⟨(ku i e).2, fun z => y1.2.1 (z.symm.trans e)⟩) fun e => ⟨kz i e, fun z => yz (z.symm.trans e)⟩
  ·have y1 := (c1 y).mp h1
   refine ⟨y, M2, N2, y1.2.1, ⟨hM2, hN2⟩, .inr ⟨y1.1, by have := c2 y; lia, fun i => ?_, fun i => ?_⟩⟩
   ·rw [d1 i, h3 i, c1 i]; exact pr4 (fun e => ⟨(ku i e).1, fun z => ne (z.symm.trans e), fun z => y1.2.2 (z.symm.trans e)⟩) fun e => ⟨kz' i e, fun z => zx (e.symm.trans z), fun z => yz (z.symm.trans e)⟩
   ·rw [d2 i, h4 i, c2 i]; exact pr5 (fun e => (ku i e).2) fun e => kz i e
end
noncomputable def Gn (n : Nat) (E : Int → Int → Prop) : Prop := ∀ i j, E i j → E j i ∧ i ≠ j ∧ (0 ≤ i ∧ i < n)
noncomputable def Mx (n : Nat) (E : Int → Int → Prop) (M : Int → Int) : Prop := Mg n E M ∧ ∀ N, Mg n E N → cov N n ≤ cov M n
noncomputable def Miss (n : Nat) (E : Int → Int → Prop) (i : Int) : Prop := (0 ≤ i ∧ i < n) ∧ ∃ M, Mx n E M ∧ M i < 0
section
variable {n : Nat} {E E1 : Int → Int → Prop} {M N : Int → Int} {x y a d : Int}
theorem Mx.of (h : Mx n E M) (g : Mg n E N) (le : cov M n ≤ cov N n) : Mx n E N := ⟨g, fun K k => Nat.le_trans (h.2 K k) le⟩
theorem zf6 (c : ∀ i, 0 ≤ N i ↔ 0 ≤ M i ∨ i = x ∨ i = y) (rx : 0 ≤ x ∧ x < n) (ry : 0 ≤ y ∧ y < n) (ne : x ≠ y) (fx : M x < 0) (fy : M y < 0) : cov N n = cov M n + 2 := by
 let p : Int → Bool := fun i => decide (0 ≤ M i ∨ i = x)
 have h1 : cnt p n = cov M n + 1 := ze3 rx.1 rx.2 (decide_eq_false (by lia)) (decide_eq_true (.inr rfl)) fun i hi => decide_eq_decide.mpr ⟨fun h => h.elim id fun e => absurd e hi, .inl⟩
 have h2 : cov N n = cnt p n + 1 := ze3 ry.1 ry.2 (decide_eq_false (by lia)) (decide_eq_true (by have := c y; lia)) fun i hi => decide_eq_decide.mpr (by have := c i; lia)
 lia
theorem Mx.edge (g : Gn n E) (h : Mx n E M) (e : E x y) (fx : M x < 0) (fy : M y < 0) : False := by
 refine ob16 (g _ _ e) ?_
 intro e' ne rx
 have ry := (g _ _ e').2.2
 refine ob7 (h.1.add e e' ne rx ry fx fy) ?_
 intro N hN c
 have := zf6 c rx ry ne fx fy
 have := h.2 N hN
 lia
theorem Mx.alt (g : Gn n E) (hM : Mx n E M) (hN : Mg n E N) (mx : 0 ≤ M x) (nx : N x < 0) :
  (∃ y M', y ≠ x ∧ M y < 0 ∧ Mx n E M' ∧ ∀ i, 0 ≤ M' i ↔ (0 ≤ M i ∧ i ≠ x) ∨ i = y) ∨
  ∃ y M' N', y ≠ x ∧ 0 ≤ M y ∧ N y < 0 ∧ (Mg n E M' ∧ cov M' n + 2 = cov M n ∧ ∀ i, 0 ≤ M' i ↔ 0 ≤ M i ∧ i ≠ x ∧ i ≠ y) ∧ Mg n E N' ∧ cov N' n = cov N n + 2 ∧ ∀ i, 0 ≤ N' i ↔ 0 ≤ N i ∨ i = x ∨ i = y := by
 have rx := (hM.1 x mx).1
 obtain ⟨y, M', N', ne, ⟨hM', hN'⟩, ⟨h1, h2, h3, h4⟩ | ⟨h1, h2, h3, h4⟩⟩ := Mg.alt (fun i j e => ⟨(g i j e).1, (g i j e).2.1⟩) (cov N n + 1) hM.1 hN (Nat.lt_succ_self _) mx nx
 ·have ry := (hN y h2).1
  refine .inl ⟨y, M', ne, h1, hM.of hM' (Nat.le_of_eq (zfF ry.1 ry.2 rx.1 rx.2 ne (decide_eq_false (by lia)) (decide_eq_true (by have := h3 y; lia)) (decide_eq_true mx) (decide_eq_false (by have := h3 x; lia)) fun i a b => decide_eq_decide.mpr (by have := h3 i; lia)).symm), h3⟩
 ·have ry := (hM.1 y h1).1
  refine .inr ⟨y, M', N', ne, h1, h2, ⟨hM', ?_, h3⟩, hN', zf6 h4 rx ry (Ne.symm ne) nx h2, h4⟩
  have kx : ∀ i, i = x → 0 ≤ M i := fun i e => e ▸ mx
  have ky : ∀ i, i = y → 0 ≤ M i := fun i e => e ▸ h1
  exact (zf6 (fun i => by have := h3 i; have := kx i; have := ky i; lia) rx ry (Ne.symm ne) (by have := h3 x; lia) (by have := h3 y; lia)).symm
noncomputable def Dp (D : Int → Prop) (E : Int → Int → Prop) : Nat → Int → Int → Prop
 | 0, u, v => u = v
 | k + 1, u, v => ∃ w, E u w ∧ D w ∧ Dp D E k w v
theorem znC (g : Gn n E) {D : Int → Prop} (hD : ∀ w, D w → Miss n E w) : ∀ {k : Nat} {u v : Int}, Dp D E k u v → u ≠ v → ∀ {M : Int → Int}, Mx n E M → M u < 0 → M v < 0 → False
 | 0, _, _, p, ne, _, _, _, _ => ne p
 | k + 1, u, v, ⟨w, e, dw, p⟩, ne, M, h, fu, fv => by
  by_cases wv : w = v
  ·rw [wv] at e; exact h.edge g e fu fv
  have mw : 0 ≤ M w := Classical.byContradiction fun z => h.edge g e fu (by lia)
  refine ob71 (hD w dw) ?_
  intro _ N hN nw
  rcases h.alt g hN.1 mw nw with ⟨y, M', ne', my, hM', c⟩ | ⟨y, M', N', _, _, _, _, hN', lt, _⟩
  ·have m'w : M' w < 0 := by have := c w; lia
   by_cases yu : y = u
   ·exact znC g hD p wv hM' m'w (by have := c v; have : v ≠ y := fun e => ne (by rw [← yu, e]); lia)
   ·exact hM'.edge g e (by have := c u; lia) m'w
  ·have := hN.2 N' hN'
   lia
theorem zo4 (g : Gn n E) (h1 : ∀ N, Mg n E1 N ↔ Mg n E N ∧ N a < 0) (even : ∀ N, Mg n E N → cov N n % 2 = 0) (ra : 0 ≤ a ∧ a < n) (ha : ¬ Miss n E a) (hM : Mx n E M) : ∃ M1, Mx n E1 M1 ∧ cov M1 n + 2 = cov M n ∧ ∀ i, 0 ≤ M1 i → 0 ≤ M i := by
 have ma : 0 ≤ M a := Classical.byContradiction fun z => ha ⟨ra, M, hM, by lia⟩
 refine ob7 (hM.1.del ma) ?_
 intro M1 g1 c
 have gm := hM.1 a ma
 have m2 : 0 ≤ M (M a) := by rw [gm.2.1]; exact ra.1
 have rm := (hM.1 _ m2).1
 have ne : a ≠ M a := (g _ _ gm.2.2).2.1
 have k1 : ∀ i, i = a → 0 ≤ M i := fun i e => e ▸ ma
 have k2 : ∀ i, i = M a → 0 ≤ M i := fun i e => e ▸ m2
 have e2 := zf6 (M := M1) (N := M) (fun i => by have := c i; have := k1 i; have := k2 i; lia) ra rm ne (by have := c a; lia) (by have := c (M a); lia)
 refine ⟨M1, ⟨(h1 M1).mpr ⟨g1, by have := c a; lia⟩, fun N hN => ?_⟩, e2.symm, fun i hi => ((c i).mp hi).1⟩
 refine ob14 ((h1 N).mp hN) ?_
 intro hN na
 have le := hM.2 N hN
 have e3 := even N hN
 have e4 := even M hM.1
 by_cases eq : cov N n = cov M n
 ·exact absurd ⟨ra, N, hM.of hN (by lia), na⟩ ha
 ·lia
theorem stab (g : Gn n E) (h1 : ∀ N, Mg n E1 N ↔ Mg n E N ∧ N a < 0) (even : ∀ N, Mg n E N → cov N n % 2 = 0) (ra : 0 ≤ a ∧ a < n) (ha : ¬ Miss n E a) (e : E a d) (hd : Miss n E d) (xa : x ≠ a) : Miss n E1 x ↔ Miss n E x := by
 constructor
 ·intro zz79
  refine ob71 zz79 ?_
  clear zz79
  intro rx N hN nx
  refine Classical.byContradiction fun no => ?_
  refine ob14 ((h1 N).mp hN.1) ?_
  intro gN na
  refine ob71 hd ?_
  clear hd
  intro rd M hM md
  have mx : 0 ≤ M x := Classical.byContradiction fun z => no ⟨rx, M, hM, by lia⟩
  rcases hM.alt g gN mx nx with ⟨y, M', ne, my, hM', c⟩ | ⟨y, M', N', ne, my, ny, ⟨hM', lt, c⟩, hN', lt', c'⟩
  ·exact no ⟨rx, M', hM', by have := c x; lia⟩
  ·by_cases ya : y = a
   ·subst ya
    refine ob16 (g _ _ e) ?_
    intro e' ne' _
    have m'y : M' y < 0 := by have := c y; lia
    have m'd : M' d < 0 := by have := c d; lia
    refine ob7 (hM'.add e e' ne' ra rd m'y m'd) ?_
    intro K hK ck
    have := zf6 ck ra rd ne' m'y m'd
    have xd : x ≠ d := fun z => by rw [z] at mx; lia
    exact no ⟨rx, K, hM.of hK (by lia), by have := ck x; have := c x; lia⟩
   ·have := hN.2 N' ((h1 N').mpr ⟨hN', by have := c' a; lia⟩)
    lia
 ·intro zz80
  refine ob71 zz80 ?_
  clear zz80
  intro rx M hM mx
  refine ob2 (zo4 g h1 even ra ha hM) ?_
  intro M1 hM1 _ c
  exact ⟨rx, M1, hM1, by have := c x; lia⟩
noncomputable def ct (E : Int → Int → Prop) (L : List Int) (i j : Int) : Prop := E i j ∧ i ∉ L ∧ j ∉ L
theorem zpC {L : List Int} : Mg n (ct E (a :: L)) N ↔ Mg n (ct E L) N ∧ N a < 0 := by
 constructor
 ·refine fun h => ⟨fun i hi => ?_, Classical.byContradiction fun z => (h a (by lia)).2.2.2.1 (List.mem_cons_self ..)⟩
  refine ob72 (h i hi) ?_
  intro r m e x1 x2
  exact ⟨r, m, e, fun z => x1 (List.mem_cons_of_mem _ z), fun z => x2 (List.mem_cons_of_mem _ z)⟩
 ·refine fun ⟨h, na⟩ i hi => ?_
  refine ob72 (h i hi) ?_
  intro r m e x1 x2
  refine ⟨r, m, e, fun z => (List.mem_cons.mp z).elim (fun z => ?_) x1, fun z => (List.mem_cons.mp z).elim (fun z => ?_) x2⟩
  ·rw [z] at hi; lia
  ·rw [z] at m; lia
theorem zoJ {L : List Int} (g : Gn n E) : Gn n (ct E L) := fun i j h => ⟨⟨(g _ _ h.1).1, h.2.2, h.2.1⟩, (g _ _ h.1).2⟩
theorem zp9 {L : List Int} (h : Mg n (ct E L) N) : Mg n E N := fun i hi => ⟨(h i hi).1, (h i hi).2.1, (h i hi).2.2.1⟩
theorem znB (g : Gn n E) (even : ∀ N, Mg n E N → cov N n % 2 = 0) (hM : Mx n E M) : ∀ {L : List Int}, L.Nodup → (∀ a ∈ L, (0 ≤ a ∧ a < n) ∧ ¬ Miss n E a ∧ ∃ d, E a d ∧ Miss n E d) →
  (∃ M1, Mx n (ct E L) M1 ∧ cov M1 n + 2 * L.length = cov M n) ∧ ∀ x, x ∉ L → (Miss n (ct E L) x ↔ Miss n E x)
 | [], _, _ => by
  have e : ct E [] = E := funext fun i => funext fun j => propext ⟨fun h => h.1, fun h => ⟨h, List.not_mem_nil, List.not_mem_nil⟩⟩
  rw [e]
  exact ⟨⟨M, hM, rfl⟩, fun _ _ => Iff.rfl⟩
 | a :: L, hn, hL => by
  refine lift fun g9 k9 => ?_
  refine ob14 (List.nodup_cons.mp hn) ?_
  intro aL hn
  refine ob73 (znB g even hM hn fun b hb => hL b (List.mem_cons_of_mem _ hb)) ?_
  intro M1 hM1 c1 ms
  refine ob74 (hL a (List.mem_cons_self ..)) ?_
  intro ra na d ed hd
  refine k9 ?_
  clear k9 g9
  have even' : ∀ N, Mg n (ct E L) N → cov N n % 2 = 0 := fun N hN => even N (zp9 hN)
  have na' : ¬ Miss n (ct E L) a := fun z => na ((ms a aL).mp z)
  have dL : d ∉ L := fun z => (hL d (List.mem_cons_of_mem _ z)).2.1 hd
  refine ob2 (zo4 (zoJ g) (fun N => zpC) even' ra na' hM1) ?_
  intro M2 hM2 c2 _
  refine ⟨⟨M2, hM2, by rw [List.length_cons]; lia⟩, fun x hx => ?_⟩
  have hx := (not_or.mp fun z => hx (List.mem_cons.mpr z))
  rw [stab (zoJ g) (fun N => zpC) even' ra na' ⟨ed, aL, dL⟩ ((ms d dL).mpr hd) hx.1]
  exact ms x hx.2
structure Pts (n : Nat) (E : Int → Int → Prop) (L : List Int) (Ps : List (List Int)) : Prop where
 all : ∀ i : Int, (0 ≤ i ∧ i < n) ∧ i ∉ L ↔ i ∈ Ps.flatten
 nod : Ps.flatten.Nodup
 cl : ∀ K ∈ Ps, ∀ i ∈ K, ∀ j, ct E L i j → j ∈ K
 con : ∀ K ∈ Ps, ∀ i ∈ K, ∀ j ∈ K, ∃ k, Dp (fun _ => True) (ct E L) k i j
end
section
variable {n : Nat} {E : Int → Int → Prop} {M : Int → Int} {L : List Int} {Ps : List (List Int)}
theorem zhr {p : Int → Bool} {l : List Int} (nd : l.Nodup) (h : ∀ i : Int, i ∈ l ↔ (0 ≤ i ∧ i < n) ∧ p i = true) : cnt p n = l.length := by
 unfold cnt
 rw [List.countP_eq_length_filter, ← List.length_map (f := fun i : Nat => (i : Int))]
 apply Nat.le_antisymm
 ·refine zcx (List.pairwise_map.mpr ((List.nodup_range.filter _).imp fun h e => h (by lia))) fun x hx => ?_
  refine ob7 (List.mem_map.mp hx) ?_
  intro i hi ee232
  subst ee232
  refine ob14 (List.mem_filter.mp hi) ?_
  intro h1 h2
  have := List.mem_range.mp h1
  exact (h _).mpr ⟨by lia, h2⟩
 ·refine zcx nd fun x hx => ?_
  refine ob14 ((h x).mp hx) ?_
  intro r hx
  have e := Int.toNat_of_nonneg r.1
  exact List.mem_map.mpr ⟨x.toNat, List.mem_filter.mpr ⟨List.mem_range.mpr (by lia), by rw [e]; exact hx⟩, e⟩
theorem Dp.mono {D D' : Int → Prop} (h : ∀ i j, D' i → E i j → D' j) : ∀ {k : Nat} {u v : Int}, D' u → Dp D E k u v → Dp D' E k u v
 | 0, _, _, _, p => p
 | k + 1, u, v, hu, ⟨w, e, _, p⟩ => ⟨w, e, h u w hu e, Dp.mono h (h u w hu e) p⟩
theorem zlx {p : Int → Bool} : ∀ {l : List Int}, l.Nodup → (∀ u ∈ l, ∀ v ∈ l, u ≠ v → p u = true → p v = true → False) → l.countP p ≤ 1
 | [], _, _ => Nat.zero_le _
 | x :: l, hn, h => by
  refine ob14 (List.nodup_cons.mp hn) ?_
  intro xl hn
  rw [List.countP_cons]
  by_cases px : p x = true
  ·have : l.countP p = 0 := List.countP_eq_zero.mpr fun v hv pv => h x (List.mem_cons_self ..) v (List.mem_cons_of_mem _ hv) (fun e => xl (e ▸ hv)) px pv
   rw [if_pos px, this]; exact Nat.le_refl _
  ·rw [if_neg px]
   exact zlx hn fun u hu v hv => h u (List.mem_cons_of_mem _ hu) v (List.mem_cons_of_mem _ hv)
theorem zh7 {l : List Int} : l.length = l.countP (fun i => decide (M i < 0)) + (l.filter fun i => decide (0 ≤ M i)).length := by
 rw [List.length_eq_countP_add_countP (p := fun i => decide (M i < 0)), ← List.countP_eq_length_filter]
 congr 1
 refine List.countP_congr fun i _ => ?_
 rw [decide_eq_true_eq, decide_eq_true_eq, decide_eq_true_eq]; lia
theorem zmN (g : Gn n E) (h : Mx n E M) {K : List Int} (hn : K.Nodup) (cl : ∀ i ∈ K, ∀ j, E i j → j ∈ K) (con : ∀ i ∈ K, ∀ j ∈ K, Miss n E i → ∃ k, Dp (Miss n E) E k i j) (rg : ∀ i ∈ K, 0 ≤ i ∧ i < n) : K.countP (fun i => decide (M i < 0)) = K.length % 2 := by
 have l1 : K.countP (fun i => decide (M i < 0)) ≤ 1 := zlx hn fun u hu v hv ne fu fv => by
  have mu : Miss n E u := ⟨rg u hu, M, h, of_decide_eq_true fu⟩
  refine ob12 (con u hu v hv mu) ?_
  intro k p
  exact znC g (fun _ h => h) p ne h (of_decide_eq_true fu) (of_decide_eq_true fv)
 have l2 : (K.filter fun i => decide (0 ≤ M i)).length % 2 = 0 := zfD (f := M) _ (Nat.le_refl _) (hn.filter _) fun i hi => by
  refine ob14 (List.mem_filter.mp hi) ?_
  intro iK hi
  refine ob16 (h.1 i (of_decide_eq_true hi)) ?_
  intro r m e
  refine ⟨List.mem_filter.mpr ⟨cl i iK _ e, decide_eq_true (by rw [m]; exact r.1)⟩, m, Ne.symm (g _ _ e).2.1⟩
 have l3 := zh7 (M := M) (l := K)
 lia
theorem zk4 {p : Int → Bool} : ∀ {Ps : List (List Int)}, (∀ K ∈ Ps, K.countP p = K.length % 2) → Ps.flatten.countP p = (Ps.filter fun K => decide (K.length % 2 = 1)).length
 | [], _ => rfl
 | K :: Ps, h => by
  rw [List.flatten_cons, List.countP_append, h K (List.mem_cons_self ..), zk4 fun K hK => h K (List.mem_cons_of_mem _ hK), List.filter_cons]
  by_cases z : K.length % 2 = 1
  ·rw [decide_eq_true z, if_pos rfl, List.length_cons]; lia
  ·rw [decide_eq_false z, if_neg Bool.false_ne_true]; lia
theorem zm8 (g : Gn n E) (even : ∀ N, Mg n E N → cov N n % 2 = 0) (hM : Mx n E M) (hL : L.Nodup) (fe : ∀ a, a ∈ L ↔ (0 ≤ a ∧ a < n) ∧ ¬ Miss n E a ∧ ∃ d, E a d ∧ Miss n E d) (P : Pts n E L Ps) :
  n + L.length = cov M n + (Ps.filter fun K => decide (K.length % 2 = 1)).length := by
 refine ob73 (znB g even hM hL fun a ha => (fe a).mp ha) ?_
 intro M1 hM1 c1 ms
 have g1 := zoJ (L := L) g
 have step : ∀ i j, Miss n (ct E L) i → ct E L i j → Miss n (ct E L) j := fun i j hi e => by
  refine (ms j e.2.2).mpr (Classical.byContradiction fun no => e.2.2 ((fe j).mpr ?_))
  refine ob16 (g _ _ e.1) ?_
  intro e' _ _
  exact ⟨(g _ _ e').2.2, no, i, e', (ms i e.2.1).mp hi⟩
 have rg : ∀ K ∈ Ps, ∀ i ∈ K, (0 ≤ i ∧ i < n) ∧ i ∉ L := fun K hK i hi => (P.all i).mpr (List.mem_flatten.mpr ⟨K, hK, hi⟩)
 have odd := zk4 (p := fun i => decide (M1 i < 0)) fun K hK => zmN g1 hM1 (P.nod.sublist (List.sublist_flatten_of_mem hK)) (P.cl K hK) (fun i hi j hj mi => (P.con K hK i hi j hj).imp fun k p => p.mono step mi) fun i hi => (rg K hK i hi).1
 have cv : cov M1 n = (Ps.flatten.filter fun i => decide (0 ≤ M1 i)).length := zhr (P.nod.filter _) fun i => by
  rw [List.mem_filter, ← P.all i]
  refine ⟨fun h => ⟨h.1.1, h.2⟩, fun h => ⟨⟨h.1, ?_⟩, h.2⟩⟩
  exact (hM1.1 i (of_decide_eq_true h.2)).2.2.2.1
 have tot : n = (L ++ Ps.flatten).length := by
  have := zhr (n := n) (p := fun _ => true) (l := L ++ Ps.flatten) (List.nodup_append.mpr ⟨hL, P.nod, fun a ha b hb e => ((P.all b).mpr hb).2 (e ▸ ha)⟩) fun i => by
   rw [List.mem_append, ← P.all i]
   exact ⟨fun h => ⟨h.elim (fun h => ((fe i).mp h).1) fun h => h.1, rfl⟩, fun h => (Classical.em (i ∈ L)).imp id fun no => ⟨h.1, no⟩⟩
  rw [← this]
  unfold cnt
  rw [List.countP_true, List.length_range]
 have l3 := zh7 (M := M1) (l := Ps.flatten)
 rw [List.length_append] at tot
 lia
end
section
variable {n m : Int} {T : List (Int × Int)} {L M P W K : List Int} {C C' : Int → Prop} {σ σ0 : Store} {mt w : Addr}
noncomputable def Rc (T : List (Int × Int)) (L : List Int) (i j : Int) : Prop := ∃ k, Dp (fun _ => True) (ct (Nb T) L) k i j
theorem Dp.snoc {D : Int → Prop} {E : Int → Int → Prop} : ∀ {k : Nat} {u v w : Int}, Dp D E k u v → E v w → D w → Dp D E (k + 1) u w
 | 0, u, v, w, p, e, d => ⟨w, (show u = v from p) ▸ e, d, rfl⟩
 | k + 1, _, _, _, ⟨x, e', d', p⟩, e, d => ⟨x, e', d', Dp.snoc p e d⟩
theorem Rc.rfl {i : Int} : Rc T L i i := ⟨0, Eq.refl i⟩
theorem Rc.snoc {i j k : Int} (h : Rc T L i j) (e : ct (Nb T) L j k) : Rc T L i k := h.elim fun _ p => ⟨_, p.snoc e trivial⟩
theorem Rc.go {i j k : Int} (h : Rc T L i j) (g : Rc T L j k) : Rc T L i k := by
 refine ob12 h ?_
 clear h
 intro a p
 induction a generalizing i with
 | zero => exact (show i = j from p) ▸ g
 | succ a ih =>
  refine ob2 p ?_
  clear p
  intro x e _ p
  refine ob12 (ih p) ?_
  intro b q
  exact ⟨b + 1, x, e, trivial, q⟩
theorem Rc.back {i j : Int} (h : Rc T L i j) : Rc T L j i := by
 refine ob12 h ?_
 clear h
 intro a p
 induction a generalizing i with
 | zero => exact (show i = j from p) ▸ Rc.rfl
 | succ a ih =>
  refine ob2 p ?_
  clear p
  intro x e _ p
  exact (ih p).snoc ⟨zej e.1, e.2.2, e.2.1⟩
theorem Rc.keep {i j : Int} (h : Rc T L i j) (hi : i ∈ K) (cl : ∀ z ∈ K, ∀ y, ct (Nb T) L z y → y ∈ K) : j ∈ K := by
 refine ob12 h ?_
 clear h
 intro a p
 induction a generalizing i with
 | zero => exact (show i = j from p) ▸ hi
 | succ a ih =>
  refine ob2 p ?_
  clear p
  intro x e _ p
  exact ih (cl i hi x e) p
structure Prt (n : Int) (T : List (Int × Int)) (L : List Int) (m : Int) (K : List Int) : Prop where
 nod : K.Nodup
 top : m ∈ K
 inn : ∀ z ∈ K, ((0 ≤ z ∧ z < n) ∧ z ∉ L) ∧ Rc T L m z
 cl : ∀ z ∈ K, ∀ y, ct (Nb T) L z y → y ∈ K
structure Gt (n : Int) (T : List (Int × Int)) (L : List Int) (t : Nat) (Ps : List (List Int)) : Prop where
 nod : Ps.flatten.Nodup
 inn : ∀ i ∈ Ps.flatten, (0 ≤ i ∧ i < n) ∧ i ∉ L
 all : ∀ i : Nat, i < t → (i : Int) ∉ L → (i : Int) ∈ Ps.flatten
 cl : ∀ K ∈ Ps, ∀ i ∈ K, ∀ j, ct (Nb T) L i j → j ∈ K
 con : ∀ K ∈ Ps, ∀ i ∈ K, ∀ j ∈ K, Rc T L i j
theorem Gt.zero : Gt n T L 0 [] := ⟨.nil, fun _ h => absurd h List.not_mem_nil, fun _ h => absurd h (Nat.not_lt_zero _), fun _ h => absurd h List.not_mem_nil, fun _ h => absurd h List.not_mem_nil⟩
theorem Gt.skip {t : Nat} {Ps : List (List Int)} (h : Gt n T L t Ps) (g : (t : Int) ∉ L → (t : Int) ∈ Ps.flatten) : Gt n T L (t + 1) Ps :=
 ⟨h.nod, h.inn, fun i hi hL => (Nat.lt_succ_iff_lt_or_eq.mp hi).elim (fun hi => h.all i hi hL) fun e => by subst e; exact g hL, h.cl, h.con⟩
theorem Gt.put {t : Nat} {Ps : List (List Int)} (h : Gt n T L t Ps) (p : Prt n T L t K) (no : (t : Int) ∉ Ps.flatten) : Gt n T L (t + 1) (Ps ++ [K]) := by
 have fl : (Ps ++ [K]).flatten = Ps.flatten ++ K := by rw [List.flatten_append, List.flatten_singleton]
 refine ⟨?_, fun i hi => ?_, fun i hi hL => ?_, fun K' hK => ?_, fun K' hK => ?_⟩
 ·rw [fl]
  refine List.nodup_append.mpr ⟨h.nod, p.nod, fun a ha b hb e => no ?_⟩
  subst e
  refine ob7 (List.mem_flatten.mp ha) ?_
  intro K' hK ha
  exact List.mem_flatten.mpr ⟨K', hK, (p.inn a hb).2.back.keep ha (h.cl K' hK)⟩
 ·rw [fl] at hi
  exact (List.mem_append.mp hi).elim (h.inn i) fun hi => (p.inn i hi).1
 ·rw [fl]
  exact List.mem_append.mpr ((Nat.lt_succ_iff_lt_or_eq.mp hi).imp (fun hi => h.all i hi hL) fun e => by subst e; exact p.top)
 ·exact (List.mem_append.mp hK).elim (h.cl K') fun hK => List.mem_singleton.mp hK ▸ p.cl
 ·exact (List.mem_append.mp hK).elim (h.con K') fun hK => List.mem_singleton.mp hK ▸ fun i hi j hj => (p.inn i hi).2.back.go (p.inn j hj).2
theorem Gt.pts {Ps : List (List Int)} (h : Gt n T L n.toNat Ps) : Pts n.toNat (Nb T) L Ps :=
 ⟨fun i => ⟨fun g => by have e := Int.toNat_of_nonneg g.1.1; have := h.all i.toNat (by lia) (by rw [e]; exact g.2); rwa [e] at this, fun g => by have := h.inn i g; exact ⟨⟨this.1.1, by lia⟩, this.2⟩⟩, h.nod, h.cl, h.con⟩
structure Pw (σ0 σ : Store) (mt w : Addr) (n : Int) (T : List (Int × Int)) (L : List Int) (m : Int) (M P W : List Int) (C : Int → Prop) : Prop where
 ext : Ext σ0 σ
 met : σ mt = some (.dict (M.map V.int))
 wai : σ w = some (.list (W.map V.int))
 m0 : σ0 mt = none
 w0 : σ0 w = none
 nod : M.Nodup
 inn : ∀ z ∈ M, ((0 ≤ z ∧ z < n) ∧ z ∉ L) ∧ Rc T L m z
 top : m ∈ M
 sp : M.Perm (P ++ W)
 cl : ∀ y, C y → y ∈ M
theorem Pw.len (h : Pw σ0 σ mt w n T L m M P W C) (hn : n ≤ 40) : M.length ≤ 40 ∧ P.length + W.length ≤ 40 := by
 have := zbr (m := 40) h.nod fun z hz => by have := (h.inn z hz).1.1; lia
 have e := h.sp.length_eq
 rw [List.length_append] at e
 lia
theorem Pw.stay (h : Pw σ0 σ mt w n T L m M P W C) (hC : ∀ y, C' y → C y ∨ y ∈ M) : Pw σ0 σ mt w n T L m M P W C' := { h with cl := fun y hy => (hC y hy).elim (h.cl y) id }
theorem Pw.ext' {σ' : Store} (h : Pw σ0 σ mt w n T L m M P W C) (e : Ext σ σ') : Pw σ0 σ' mt w n T L m M P W C := { h with ext := h.ext.trans e, met := e _ _ h.met, wai := e _ _ h.wai }
theorem Pw.pop {q : Int} (h : Pw σ0 σ mt w n T L m M P (W ++ [q]) C) : Pw σ0 (σ.upd w (.list (W.map V.int))) mt w n T L m M (P ++ [q]) W C :=
 { h with
  ext := h.ext.upd h.w0
  met := (zaq (zbM h.met h.wai fun e => by cases e)).trans h.met
  wai := zaj
  sp := h.sp.trans (by rw [List.append_assoc]; exact List.Perm.append_left _ List.perm_append_comm) }
theorem Pw.put {o : Int} (h : Pw σ0 σ mt w n T L m M P W C) (hi : (0 ≤ o ∧ o < n) ∧ o ∉ L) (hr : Rc T L m o) (no : o ∉ M) (hC : ∀ y, C' y → C y ∨ y = o) :
  Pw σ0 ((σ.upd mt (.dict ((M ++ [o]).map V.int))).upd w (.list (W.map V.int ++ [.int o]))) mt w n T L m (M ++ [o]) P (W ++ [o]) C' :=
 have ne : mt ≠ w := zbM h.met h.wai fun e => by cases e
 { h with
  ext := (h.ext.upd h.m0).upd h.w0
  met := (zaq ne).trans zaj
  wai := by rw [zaj, List.map_append]; rfl
  nod := List.nodup_append.mpr ⟨h.nod, List.pairwise_singleton _ _, fun a ha b hb e => no (by rw [← List.mem_singleton.mp hb, ← e]; exact ha)⟩
  inn := fun z hz => (List.mem_append.mp hz).elim (h.inn z) fun e => by rw [List.mem_singleton.mp e]; exact ⟨hi, hr⟩
  top := List.mem_append_left _ h.top
  sp := by rw [← List.append_assoc]; exact List.Perm.append_right _ h.sp
  cl := fun y hy => List.mem_append.mpr ((hC y hy).imp (h.cl y) List.mem_singleton.mpr) }
end
section
variable {k : Nat} {σ σ0 : Store} {Q : V → Store → Prop} {X : XP} {nr tr mt w : Addr} {rs : List Addr} {n m q : Int} {T : List (Int × Int)} {L D M P W : List Int}
theorem zku {t5 t6 : Option V} {N : Loc → Store → Prop} {Y : XL} {vm : V} (hn : n ≤ 40) (hok : ∀ p ∈ T, zaD n p) (hR : Rows σ0 nr rs n.toNat fun i => zaX (nb T i)) (hD : σ0 tr = some (.dict (D.map V.int))) (hDA : ∀ y, y ∈ D ↔ (0 ≤ y ∧ y < n) ∧ y ∉ L)
  (h : Pw σ0 σ mt w n T L m M P (W ++ [q]) fun y => ∃ z ∈ P, ct (Nb T) L z y)
  (hN : ∀ σ' M' W' t6, Pw σ0 σ' mt w n T L m M' (P ++ [q]) W' (fun y => ∃ z ∈ P ++ [q], ct (Nb T) L z y) → N [some (.ref nr), some vm, some (.ref tr), some (.ref mt), some (.ref w), some (.int q), t6] σ') :
  wpSs (sem zas zay k) true zdP [some (.ref nr), some vm, some (.ref tr), some (.ref mt), some (.ref w), t5, t6] σ N Q Y := by
 have hq := h.inn q (h.sp.mem_iff.mpr (List.mem_append_right _ (List.mem_append_right _ (List.mem_singleton.mpr rfl))))
 dsimp only [zdP, zah, zag, zao, zam, E_m0, Loc.get, zgz, zgs, zjs, zaa, tgOk, onT, zae, zaf, zad, zss, zsz, zab]
 refine zpd (by rw [← List.map_singleton, ← List.map_append]; exact h.wai) ?_
 have h1 := h.pop
 generalize σ.upd w (.list (W.map V.int)) = σ1 at *
 dsimp only [zfj, zah, zag, zbQ, zam, zaR, za0, Loc.get, zgz, zgs, zjs, zaa, tgOk, onT, zae, zaf, zad, zss, zsz, zab, zmi]
 have hqr : q.toNat < rs.length := by rw [hR.len]; have := hq.1.1; lia
 have hra := List.getElem?_eq_getElem hqr
 have hra' := hR.row _ _ hra
 rw [Int.toNat_of_nonneg hq.1.1.1] at hra'
 refine zbt (h1.ext _ _ hR.top) hq.1.1.1 (by rw [List.getElem?_map, hra]; rfl) (zcW (h1.ext _ _ hra') ?_)
 refine zaV (fun j ρ σ' => ∃ M' W' t6, Pw σ0 σ' mt w n T L m M' (P ++ [q]) W' (fun y => (∃ z ∈ P, ct (Nb T) L z y) ∨ (y ∈ (zaX (nb T q)).take j ∧ y ∉ L)) ∧ ρ = [some (.ref nr), some vm, some (.ref tr), some (.ref mt), some (.ref w), some (.int q), t6])
  ⟨M, W, t6, h1.stay fun y hy => hy.elim .inl fun z => absurd z.1 (by rw [List.take_zero]; exact List.not_mem_nil), rfl⟩ ?_ ?_ ?_
 ·intro j ρ σ' zz81
  refine ob24 zz81 ?_
  clear zz81
  intro M' W' t6 h2 _
  exact h2.ext _ _ hra'
 ·intro j v ρ σ' K hv zz82
  refine ob24 zz82 ?_
  clear zz82
  intro M' W' t6 h2 ee233
  subst ee233
  intro hK
  refine ob7 (zi5 hv) ?_
  intro o ee234
  subst ee234
  intro ho
  have hom := mem_sortI.mp (List.mem_of_getElem? ho)
  have hoi := zd1 hok hom
  have htake : ∀ y, y ∈ (zaX (nb T q)).take (j + 1) → y ∈ (zaX (nb T q)).take j ∨ y = o := fun y hy => by
   rw [List.take_add_one, ho] at hy
   exact (List.mem_append.mp hy).imp id List.mem_singleton.mp
  have hl := h2.len hn
  dsimp only [zfq, zah, zag, zaA, zaY, E_tt, zam, zaM, za3, zbn, zaW, Loc.get, zgz, zgs, zjs, zaa, tgOk, onT, zae, zaf, zad, zss, zsz, zab]
  refine zai (a := decide (o ∈ D)) (by rw [zep]; exact zcp (h2.ext _ _ hD)) ?_
  by_cases hoD : o ∈ D
  ·rw [decide_eq_true hoD]
   have hoL := ((hDA o).mp hoD).2
   refine zbN (zai (a := !decide (o ∈ M')) (by rw [zbd, zcp h2.met]; rfl) ?_)
   by_cases hoM : o ∈ M'
   ·rw [decide_eq_true hoM]
    exact zaT (hK _ _ ⟨M', W', _, h2.stay fun y hy => hy.elim (fun z => .inl (.inl z)) fun z => (htake y z.1).elim (fun e => .inl (.inr ⟨e, z.2⟩)) fun e => .inr (e ▸ hoM), rfl⟩)
   ·rw [decide_eq_false hoM]
    refine zbN (zbp h2.met (by unfold zax; lia) ?_)
    rw [if_neg hoM]
    have hw : (σ'.upd mt (.dict ((M' ++ [o]).map V.int))) w = some (.list (W'.map V.int)) := (zaq (zbM h2.wai h2.met fun e => by cases e)).trans h2.wai
    dsimp only [zfk, zah, zag, za7, zam, E_m1, Loc.get, zgz, zgs, zjs, zaa, tgOk, onT, zae, zaf, zad, zss, zsz, zab]
    refine zat hw (zaZ hw (by rw [List.length_map]; unfold zax; lia) ?_)
    exact hK _ _ ⟨M' ++ [o], W' ++ [o], _, h2.put ⟨hoi.2.1, hoL⟩ (hq.2.snoc ⟨hom, hq.1.2, hoL⟩) hoM fun y hy => hy.elim (fun z => .inl (.inl z)) fun z => (htake y z.1).imp (fun e => .inr ⟨e, z.2⟩) id, rfl⟩
  ·rw [decide_eq_false hoD]
   have hoL : ¬ o ∉ L := fun z => hoD ((hDA o).mpr ⟨hoi.2.1, z⟩)
   exact zaT (zaT (hK _ _ ⟨M', W', _, h2.stay fun y hy => hy.elim (fun z => .inl (.inl z)) fun z => (htake y z.1).elim (fun e => .inl (.inr ⟨e, z.2⟩)) fun e => absurd (e ▸ z.2) hoL, rfl⟩))
 ·intro ρ σ' zz83
  refine ob24 zz83 ?_
  clear zz83
  intro M' W' t6 h2 ee235
  subst ee235
  rw [List.length_map, List.take_length] at h2
  refine hN σ' M' W' _ (h2.stay fun y hy => ?_)
  refine ob7 hy ?_
  clear hy
  intro z hz e
  exact .inl ((List.mem_append.mp hz).imp (fun hz => ⟨z, hz, e⟩) fun hz => by rw [List.mem_singleton.mp hz] at e; exact ⟨mem_sortI.mpr e.1, e.2.2⟩)
theorem zkd {a : Addr} {l : List Int} (ha : σ a = some (.dict (l.map V.int))) (hl : l.length < 64) (h : ∀ b, σ b = none → Q (.ref b) (σ.upd b (.list ((zaX l).map V.int)))) : b1V true .sorted (.ref a) σ Q :=
 .inl (zko ha (by rw [zfd hl]; exact h))
theorem zkv {m : Nat} (hn : n ≤ 40) (hok : ∀ p ∈ T, zaD n p) (hR : Rows σ nr rs n.toNat fun i => zaX (nb T i)) (hD : σ tr = some (.dict (D.map V.int))) (hDA : ∀ y, y ∈ D ↔ (0 ≤ y ∧ y < n) ∧ y ∉ L) (hm : (m : Int) ∈ D)
  (hQ : ∀ σ' b K, Ext σ σ' → σ b = none → σ' b = some (.list (K.map V.int)) → Prt n T L m K → Q (.ref b) σ') : (sem zas zay (k + 1) true).run "" "_law_part" [.ref nr, .int m, .ref tr] σ Q X := by
 refine zaw (F := ze7) rfl ⟨rfl, ?_⟩
 dsimp only [ze7, zah, zag, zao, zev, zmc, zmn, zlc, zln, zac, zan, zr0, zrs, Nat.reduceAdd, Nat.reduceSub, Loc.get, zgz, zgs, zjs, zaa, tgOk, onT, zae, zaf, zad, zss, zsz, zab]
 refine ⟨rfl, fun mt hmt => ?_⟩
 dsimp only [zfg, zah, zag, zao, zam, za2, zar, zal, Loc.get, zgz, zgs, zjs, zaa, tgOk, onT, zae, zaf, zad, zss, zsz, zab, zmc, zmn, zlc, zln, zac, zan, zr0, zrs, Nat.reduceAdd, Nat.reduceSub]
 refine ⟨by decide, fun w hw => ?_⟩
 dsimp only [zfh, zah, zag, zcl, zam, zaM, za2, zar, zal, Loc.get, zgz, zgs, zjs, zaa, tgOk, onT, zae, zaf, zad, zss, zsz, zab]
 have hmw : mt ≠ w := zbb zaj hw
 have hw0 : σ w = none := (Ext.rfl.upd hmt).none hw
 have h0 : Pw σ ((σ.upd mt (.dict [.int m])).upd w (.list [.int m])) mt w n T L m [(m : Int)] [] [(m : Int)] fun y => ∃ z ∈ ([] : List Int), ct (Nb T) L z y :=
  ⟨(Ext.rfl.upd hmt).upd hw0, (zaq hmw).trans zaj, zaj, hmt, hw0, List.pairwise_singleton _ _, fun z hz => by rw [List.mem_singleton.mp hz]; exact ⟨(hDA m).mp hm, .rfl⟩, List.mem_singleton.mpr rfl, .refl _, fun y hy => by obtain ⟨z, hz, _⟩ := hy; exact absurd hz List.not_mem_nil⟩
 refine zbA (fun c ρ σ' => ∃ M P W t5 t6, P.length = c ∧ Pw σ σ' mt w n T L m M P W (fun y => ∃ z ∈ P, ct (Nb T) L z y) ∧ ρ = [some (.ref nr), some (.int m), some (.ref tr), some (.ref mt), some (.ref w), t5, t6]) 40
  ⟨_, _, _, none, none, rfl, h0, rfl⟩ ?_ ?_
 ·intro c ρ σ' zz84
  refine ob75 zz84 ?_
  clear zz84
  intro M P W t5 t6 ee236
  subst ee236
  intro h _
  have := h.len hn; lia
 ·intro c ρ σ' K zz85
  refine ob75 zz85 ?_
  clear zz85
  intro M P W t5 t6 ee237
  subst ee237
  intro h ee238
  subst ee238
  intro hK
  dsimp only [zah, zag, za7, zao, zaJ, zaA, zaK, zbH, zaY, zcl, zbQ, za1, E_tt, E_ff, zaL, zam, zfv, zbX, zd2, zb9, zaM, zfw, za3, zaB, zee, zbO, E_m0, E_m1, zaz, zaR, zdV, za2, zbh, zbI, zev, E_b1, zcQ, zfu, zd3, zbg, zbJ, zde, zdW, zar, zal, zbn, zaW, I_r1, I_r2, I_r3, za0, zbf, zdl, zft, zaC, zcY, zcX, zba, za9, zeT, zeS, Loc.get, zgz, zgs, zjs, zaa, tgOk, onT, zae, zaf, zad, zss, zsz, zab, zmc, zmn, zlc, zln, zac, zan, zr0, zrs, Nat.reduceAdd, Nat.reduceSub]
  refine ⟨by decide, fun e he => ?_⟩
  have hE := (Ext.rfl (σ := σ')).upd (o := .list []) he
  have he' : (σ'.upd e (.list [])) e = some (.list []) := zaj
  generalize σ'.upd e (.list []) = σ1 at *
  have h1 := h.ext' hE
  refine zai (a := !(W.map V.int).isEmpty) (by rw [zf8, zlT h1.wai he']; rfl) ?_
  rcases List.eq_nil_or_concat W with rfl | ⟨W0, q, rfl⟩
  ·refine zaT (σ := σ1) ?_
   dsimp only [zfi, zah, zag, zaK, zam, E_b1, Loc.get, zgz, zgs, zjs, zaa, tgOk, onT, zae, zaf, zad, zss, zsz, zab]
   have hl := h1.len hn
   refine zkd h1.met (by lia) fun b hb => ?_
   have hs := h1.sp
   rw [List.append_nil] at hs
   exact hQ _ b _ (h1.ext.upd (h1.ext.none hb)) (h1.ext.none hb) zaj ⟨(zbE M).nodup_iff.mpr h1.nod, mem_sortI.mpr h1.top, fun z hz => h1.inn z (mem_sortI.mp hz), fun z hz y hy => mem_sortI.mpr (h1.cl y ⟨z, hs.mem_iff.mp (mem_sortI.mp hz), hy⟩)⟩
  ·rw [List.concat_eq_append] at *
   have : ((W0 ++ [q]).map V.int).isEmpty = false := by rw [List.map_append]; exact List.isEmpty_eq_false_iff.mpr (List.append_ne_nil_of_right_ne_nil _ (List.cons_ne_nil _ _))
   rw [this]
   refine zbN (σ := σ1) (zku hn hok hR hD hDA h1 fun σ2 M' W' t6 h2 => ?_)
   exact hK _ _ ⟨M', _, W', _, t6, by rw [List.length_append, List.length_singleton], h2, rfl⟩
end
section
variable {k : Nat} {σ σ0 : Store} {Q : V → Store → Prop} {X : XP}
theorem zmQ {t r : Addr} {rs : List Addr} {n : Int} {D : List (Int × Int)} {p : Int × Int} {t5 t6 : Option V} {N R Y} (hR : Rows σ r rs n.toNat fun i => nb D i) (hr : r ∉ rs) (hl : ∀ i, (nb D i).length ≤ 40) (hp : zaD n p)
  (hN : ∀ σ', (∀ a, a ∉ rs → σ' a = σ a) → Rows σ' r rs n.toNat (fun i => nb (D ++ [p]) i) → N [some (.int n), some (.ref t), some (.ref r), some (.int p.1), some (.int p.2), t5, t6] σ') :
  wpSs (sem zas zay k) true zdQ [some (.int n), some (.ref t), some (.ref r), some (.int p.1), some (.int p.2), t5, t6] σ N R Y := by
 refine ob16 hp ?_
 clear hp
 intro h0 h1 h2
 have ha : p.1.toNat < rs.length := by rw [hR.len]; lia
 have hb : p.2.toNat < rs.length := by rw [hR.len]; lia
 obtain ⟨a, ha⟩ : ∃ a, rs[p.1.toNat]? = some a := ⟨_, List.getElem?_eq_getElem ha⟩
 obtain ⟨b, hb⟩ : ∃ a, rs[p.2.toNat]? = some a := ⟨_, List.getElem?_eq_getElem hb⟩
 have hma := List.mem_of_getElem? ha
 have hmb := List.mem_of_getElem? hb
 have n1 := Int.toNat_of_nonneg h0
 have ha1 := hR.row _ _ ha
 rw [n1] at ha1
 have T := hR.two hr ⟨h0, h1, h2⟩ ha hb
 dsimp only [zdQ, zah, zag, za7, zam, E_m1, zaR, Loc.get, zgz, zgs, zjs, zaa, tgOk, onT, zae, zaf, zad, zss, zsz, zab]
 refine zbt hR.top h0 (by rw [List.getElem?_map, ha]; rfl) ?_
 refine zat ha1 (zaZ ha1 (by have := hl p.1; rw [List.length_map]; unfold zax; lia) ?_)
 dsimp only [zfn, zah, zag, za7, zam, E_m1, zaR, Loc.get, zgz, zgs, zjs, zaa, tgOk, onT, zae, zaf, zad, zss, zsz, zab]
 refine zbt ((zaq (zgE hma hr).symm).trans hR.top) (Int.le_trans h0 (Int.le_of_lt h1)) (by rw [List.getElem?_map, hb]; rfl) ?_
 refine zat T.1 (zaZ T.1 (by have := hl p.2; rw [List.length_map]; unfold zax; lia) ?_)
 exact hN _ (fun z hz => by rw [zaq (zgE hmb hz).symm, zaq (zgE hma hz).symm]) T.2
theorem zlm {t : Addr} {n : Int} {T : List (Int × Int)} (ht : σ t = some (.list (T.map pr))) (h1 : 1 ≤ n) (h2 : n ≤ 40) (hT : zgn n T)
  (hQ : ∀ r rs σ', Ext σ σ' → Rows σ' r rs n.toNat (fun i => zaX (nb T i)) → Q (.ref r) σ') : (sem zas zay (k + 1) true).run "" "_law_near" [.int n, .ref t] σ Q X := by
 have hTn := zbF hT.1
 refine zaw (F := ze8) rfl ⟨rfl, ?_⟩
 dsimp only [ze8, zah, zag, zao, za1, zam, za2, zd3, zbg, zar, zal, I_r1, za0, zaC, zba, za9, zmc, zmn, zlc, zln, zac, zan, zr0, zrs, Nat.reduceAdd, Nat.reduceSub, Loc.get, zgz, zgs, zjs, zaa, tgOk, onT, zae, zaf, zad, zss, zsz, zab]
 refine ⟨by lia, ?_⟩
 refine zjv (n := n.toNat) (by lia) (by rw [List.length_map, zbB]) (fun v σ' K h => zhi rfl ⟨by decide, h⟩) fun r rs σ1 hE hr hrs hrr hR => ?_
 dsimp only [zfl, zah, zag, zbQ, zam, za0, Loc.get, zgz, zgs, zjs, zaa, tgOk, onT, zae, zaf, zad, zss, zsz, zab]
 have htrs : t ∉ rs := fun h => zdg ht (hrs t h)
 refine zcW (hE _ _ ht) ?_
 refine zaV (fun j ρ σ' => Ext σ σ' ∧ Rows σ' r rs n.toNat (fun i => nb (T.take j) i) ∧ ∃ t3 t4 t5 t6, ρ = [some (.int n), some (.ref t), some (.ref r), t3, t4, t5, t6])
  ⟨hE, hR.congr fun i _ => by rw [List.take_zero]; rfl, _, _, _, _, rfl⟩ ?_ ?_ ?_
 ·intro j ρ σ' zz86
  refine ob14 zz86 ?_
  clear zz86
  intro h _
  exact h _ _ ht
 ·intro j v ρ σ' K hv zz87
  refine ob76 zz87 ?_
  clear zz87
  intro hE' hR' t3 t4 t5 t6 ee239
  subst ee239
  intro hK
  refine ob12 (zjH hv) ?_
  intro hj ee240
  subst ee240
  have htake := List.take_succ_eq_append_getElem hj
  refine zai (a := [some (.int n), some (.ref t), some (.ref r), some (.int T[j].1), some (.int T[j].2), t5, t6]) rfl ?_
  refine zmQ (D := T.take j) hR' hrr (fun i => zh1 (n := n) (hTn.sublist (List.take_sublist ..)) (fun q hq => hT.2 q (List.mem_of_mem_take hq)) (by lia) h2) (hT.2 _ (List.getElem_mem hj)) fun σ2 same hR2 => ?_
  exact hK _ _ ⟨fun a o e => by rw [same a fun m => zdg e (hrs a m)]; exact hE' a o e, by rw [htake]; exact hR2, _, _, _, _, rfl⟩
 ·intro ρ σ' zz88
  refine ob76 zz88 ?_
  clear zz88
  intro hE' hR' t3 t4 t5 t6 ee241
  subst ee241
  rw [List.length_map, List.take_length] at hR'
  dsimp only [zfm, zah, zag, zaK, za1, zam, E_b1, zbg, za0, zba, za9, Loc.get, zgz, zgs, zjs, zaa, tgOk, onT, zae, zaf, zad, zss, zsz, zab]
  refine zcW hR'.top (zhW (n := n.toNat) (by lia) hR' (fun i => by have := zh1 (i := i) hTn hT.2 (by lia) h2; lia) (fun a l σ'' K ha hl h => zhi rfl (zhM ha hl h)) fun r' rs' σ'' g1 _ _ _ g2 => ?_)
  exact hQ r' rs' σ'' (hE'.trans g1) g2
end
theorem zii : ∀ {l acc : List Int}, (acc ++ l).Nodup → (l.map V.int).foldl (fun d k => zbl k d) (acc.map V.int) = (acc ++ l).map V.int
 | [], acc, _ => by rw [List.append_nil]; rfl
 | a :: l, acc, h => by
  have ha : a ∉ acc := fun m => (List.nodup_append.mp h).2.2 a m a (List.mem_cons_self ..) rfl
  have e : acc ++ a :: l = (acc ++ [a]) ++ l := by rw [List.append_assoc]; rfl
  rw [List.map_cons, List.foldl_cons, zgy, if_neg ha, e]
  exact zii (e ▸ h)
theorem zjD {n i : Int} : i ∈ upto 0 n 1 ↔ 0 ≤ i ∧ i < n := by
 rw [List.mem_iff_getElem?]
 refine ⟨fun ⟨j, hj⟩ => by have := upto_get' hj; lia, fun h => ⟨i.toNat, by rw [ziG (by lia), Int.zero_add, Int.toNat_of_nonneg h.1]⟩⟩
theorem upto_nodup {n : Int} : (upto 0 n 1).Nodup := by
 unfold upto
 rw [if_pos (by decide)]
 exact List.Pairwise.map _ (fun a b h e => h (by lia)) List.nodup_range
section
variable {k : Nat} {σ σ0 : Store} {Q : V → Store → Prop} {X : XP} {nr tr mt f : Addr} {rs : List Addr} {n : Int} {T : List (Int × Int)} {L D M : List Int} {G : List (Addr × List Int)} {t : Nat}
theorem znR : (zas "" "_law_near").isSome = true := rfl
theorem znQ : (zas "" "_law_part").isSome = true := rfl
structure Gs (σ0 σ : Store) (f mt : Addr) (n : Int) (T : List (Int × Int)) (L : List Int) (t : Nat) (G : List (Addr × List Int)) (M : List Int) : Prop where
 ext : Ext σ0 σ
 f0 : σ0 f = none
 m0 : σ0 mt = none
 top : σ f = some (.list (G.map fun p => V.ref p.1))
 met : σ mt = some (.dict (M.map V.int))
 row : ∀ p ∈ G, p.1 ≠ f ∧ σ p.1 = some (.list (p.2.map V.int))
 nod : M.Nodup
 mem : ∀ y, y ∈ M ↔ y ∈ (G.map Prod.snd).flatten
 gt : Gt n T L t (G.map Prod.snd)
 few : G.length ≤ t
theorem Gs.len (h : Gs σ0 σ f mt n T L t G M) (hn : n ≤ 40) : M.length ≤ 40 := zbr (m := 40) h.nod fun z hz => by have := h.gt.inn z ((h.mem z).mp hz); lia
theorem zmU {f8 : Option V} {t9 a0 a1 a2 a3 a4 a5 a7 : Option V} {K : List Int} {c : Addr} {N : Loc → Store → Prop} {Y : XL} (hc : σ c = some (.list (K.map V.int))) (hm : σ mt = some (.dict (M.map V.int))) (hM : M.length ≤ 40) (hK : K.length ≤ 40) (hn : M.Nodup) (hd : ∀ y ∈ K, y ∉ M) (hk : K.Nodup)
  (hN : ∀ t8, N [a0, a1, a2, a3, a4, a5, some (.ref mt), a7, t8, t9] (σ.upd mt (.dict ((M ++ K).map V.int)))) :
  forV (fun σ' => σ' c = some (.list (K.map V.int))) (fun v ρ σ K => zav (zaE (.one 8) v ρ) fun ρ' => wpSs (sem zas zay k) true zc6 ρ' σ K Q Y) N (K.map V.int) [a0, a1, a2, a3, a4, a5, some (.ref mt), a7, f8, t9] σ := by
 have hcm : c ≠ mt := zbM hc hm fun e => by cases e
 refine zaV (fun j ρ σ' => σ' = σ.upd mt (.dict ((M ++ K.take j).map V.int)) ∧ ∃ t8, ρ = [a0, a1, a2, a3, a4, a5, some (.ref mt), a7, t8, t9]) ⟨?_, f8, rfl⟩ ?_ ?_ ?_
 ·rw [List.take_zero, List.append_nil]
  funext a
  by_cases e : a = mt
  ·rw [e, zaj, hm]
  ·rw [zaq e]
 ·intro j ρ σ' zz89
  refine ob14 zz89 ?_
  clear zz89
  intro ee242
  subst ee242
  intro _
  exact (zaq hcm).trans hc
 ·intro j v ρ σ' C hv zz90
  refine ob57 zz90 ?_
  clear zz90
  intro ee243
  subst ee243
  intro t8 ee244
  subst ee244
  intro hC
  refine ob7 (zi5 hv) ?_
  intro o ee245
  subst ee245
  intro ho
  dsimp only [zc6, zah, zag, zaA, E_tt, zam, Loc.get, zgz, zgs, zjs, zaa, tgOk, onT, zae, zaf, zad, zss, zsz, zab]
  refine ob12 (List.getElem?_eq_some_iff.mp ho) ?_
  intro hj ho'
  have no : o ∉ M ++ K.take j := fun m => (List.mem_append.mp m).elim (hd o (List.mem_of_getElem? ho)) fun m => by
   refine lift fun g9 k9 => ?_
   obtain ⟨u, hu, e⟩ := List.mem_take_iff_getElem.mp m
   refine k9 ?_
   clear k9 g9
   have := (List.getElem_inj hk).mp (e.trans ho'.symm); lia
  refine zbp zaj (by rw [List.length_append, List.length_take]; unfold zax; lia) ?_
  rw [if_neg no, zbC]
  exact hC _ _ ⟨by rw [List.take_add_one, ho, List.append_assoc]; rfl, _, rfl⟩
 ·intro ρ σ' zz91
  refine ob57 zz91 ?_
  clear zz91
  intro ee246
  subst ee246
  intro t8 ee247
  subst ee247
  rw [List.length_map, List.take_length]
  exact hN t8
theorem ziX {vt vk : V} {t7 t8 t9 : Option V} {N : Loc → Store → Prop} {Y : XL} (hn : n ≤ 40) (hok : ∀ p ∈ T, zaD n p) (hR : Rows σ0 nr rs n.toNat fun i => zaX (nb T i)) (hD : σ0 tr = some (.dict (D.map V.int))) (hDA : ∀ y, y ∈ D ↔ (0 ≤ y ∧ y < n) ∧ y ∉ L) (ht : (t : Int) < n)
  (h : Gs σ0 σ f mt n T L t G M)
  (hN : ∀ σ' G' M' t8, Gs σ0 σ' f mt n T L (t + 1) G' M' → N [some (.int n), some vt, some vk, some (.ref nr), some (.ref tr), some (.ref f), some (.ref mt), some (.int t), t8, t9] σ') :
  wpSs (sem zas zay (k + 1)) true zc5 [some (.int n), some vt, some vk, some (.ref nr), some (.ref tr), some (.ref f), some (.ref mt), some (.int t), t8, t9] σ N Q Y := by
 have skip : ((t : Int) ∉ L → (t : Int) ∈ (G.map Prod.snd).flatten) → N [some (.int n), some vt, some vk, some (.ref nr), some (.ref tr), some (.ref f), some (.ref mt), some (.int t), t8, t9] σ := fun g => hN σ G M t8 { h with gt := h.gt.skip g, few := Nat.le_succ_of_le h.few }
 dsimp only [zc5, zah, zag, za7, zaY, zam, zaM, za3, zaB, E_m1, zar, zal, zbn, zaW, Loc.get, zgz, zgs, zjs, zaa, tgOk, onT, zae, zaf, zad, zss, zsz, zab]
 refine zai (a := decide ((t : Int) ∈ D)) (by rw [zep]; exact zcp (h.ext _ _ hD)) ?_
 by_cases hoD : (t : Int) ∈ D
 ·rw [decide_eq_true hoD]
  refine zbN (zai (a := !decide ((t : Int) ∈ M)) (by rw [zbd, zcp h.met]; rfl) ?_)
  by_cases hoM : (t : Int) ∈ M
  ·rw [decide_eq_true hoM]
   exact zaT (skip fun _ => (h.mem t).mp hoM)
  ·rw [decide_eq_false hoM]
   refine zbN (zat h.top ?_)
   dsimp only [zah, zag, za7, zao, zaJ, zaA, zaK, zbH, zaY, zcl, zbQ, za1, E_tt, E_ff, zaL, zam, zfv, zbX, zd2, zb9, zaM, zfw, za3, zaB, zee, zbO, E_m0, E_m1, zaz, zaR, zdV, za2, zbh, zbI, zev, E_b1, zcQ, zfu, zd3, zbg, zbJ, zde, zdW, zar, zal, zbn, zaW, I_r1, I_r2, I_r3, za0, zbf, zdl, zft, zaC, zcY, zcX, zba, za9, zeT, zeS, Loc.get, zgz, zgs, zjs, zaa, tgOk, onT, zae, zaf, zad, zss, zsz, zab, za4, znQ]
   refine zkv hn hok (hR.ext h.ext) (h.ext _ _ hD) hDA hoD fun σ1 b K e1 hb hb1 p => ?_
   have hbf : b ≠ f := (zbb h.top hb).symm
   have hbm : b ≠ mt := (zbb h.met hb).symm
   have hfm : f ≠ mt := zbM h.top h.met fun e => by cases e
   have hno : (t : Int) ∉ (G.map Prod.snd).flatten := fun m => hoM ((h.mem t).mpr m)
   have gp := h.gt.put p hno
   have hdis : ∀ y ∈ K, y ∉ M := fun y hy m => by
    have := gp.nod
    rw [List.flatten_append, List.flatten_singleton] at this
    exact (List.nodup_append.mp this).2.2 y ((h.mem y).mp m) y hy rfl
   have hKl : K.length ≤ 40 := zbr (m := 40) p.nod fun z hz => by have := (p.inn z hz).1; lia
   have hfew := h.few
   have hf1 := e1 _ _ h.top
   refine zaZ hf1 (by rw [List.length_map]; unfold zax; lia) ?_
   have E2 : Ext σ0 (σ1.upd f (.list ((G.map fun p => V.ref p.1) ++ [.ref b]))) := (h.ext.trans e1).upd h.f0
   have hf2 : (σ1.upd f (.list ((G.map fun p => V.ref p.1) ++ [.ref b]))) f = some (.list ((G ++ [(b, K)]).map fun p => V.ref p.1)) := by rw [zaj, List.map_append]; rfl
   have hm2 : (σ1.upd f (.list ((G.map fun p => V.ref p.1) ++ [.ref b]))) mt = some (.dict (M.map V.int)) := (zaq hfm.symm).trans (e1 _ _ h.met)
   have hr2 : ∀ p ∈ G ++ [(b, K)], p.1 ≠ f ∧ (σ1.upd f (.list ((G.map fun p => V.ref p.1) ++ [.ref b]))) p.1 = some (.list (p.2.map V.int)) := fun p hp => by
    refine (List.mem_append.mp hp).elim (fun hp => ⟨(h.row p hp).1, (zaq (h.row p hp).1).trans (e1 _ _ (h.row p hp).2)⟩) fun hp => ?_
    rw [List.mem_singleton.mp hp]
    exact ⟨hbf, (zaq hbf).trans hb1⟩
   generalize σ1.upd f (.list ((G.map fun p => V.ref p.1) ++ [.ref b])) = σ2 at *
   dsimp only [zeI, zah, zag, zbQ, zaL, zam, zd2, zaR, za0, Loc.get, zgz, zgs, zjs, zaa, tgOk, onT, zae, zaf, zad, zss, zsz, zab, zmi]
   refine zfC hf2 (by decide) (by rw [List.length_map, List.length_append, List.length_singleton]; lia) (v := .ref b) ?_ ?_
   ·rw [List.getElem?_map, List.length_map, List.length_append, List.length_singleton, show (-1 : Int).natAbs = 1 from rfl, Nat.add_sub_cancel, List.getElem?_append_right (Nat.le_refl _), Nat.sub_self]; rfl
   have hb2 := (hr2 (b, K) (List.mem_append_right _ (List.mem_singleton.mpr rfl))).2
   refine zcW hb2 (zmU hb2 hm2 (h.len hn) hKl h.nod hdis p.nod fun t8 => ?_)
   refine hN _ (G ++ [(b, K)]) (M ++ K) t8 ⟨E2.upd h.m0, h.f0, h.m0, (zaq hfm).trans hf2, zaj, fun p hp => ⟨(hr2 p hp).1, (zaq (zbM (hr2 p hp).2 hm2 fun e => by cases e)).trans (hr2 p hp).2⟩, List.nodup_append.mpr ⟨h.nod, p.nod, fun a ha b hb e => hdis b hb (e ▸ ha)⟩, fun y => ?_, ?_, by rw [List.length_append, List.length_singleton]; lia⟩
   ·rw [List.map_append, List.flatten_append, List.mem_append, List.mem_append, h.mem y]
    show _ ↔ _ ∨ y ∈ [K].flatten
    rw [List.flatten_singleton]
   ·rw [List.map_append]; exact gp
 ·rw [decide_eq_false hoD]
  exact zaT (zaT (skip fun z => absurd ((hDA t).mpr ⟨⟨by lia, ht⟩, z⟩) hoD))
theorem ziY {t tk : Addr} (ht : σ t = some (.list (T.map pr))) (htk : σ tk = some (.list (L.map V.int))) (h1 : 1 ≤ n) (h2 : n ≤ 40) (hT : zgn n T)
  (hQ : ∀ (σ' : Store) (f : Addr) (G : List (Addr × List Int)), Ext σ σ' → σ' f = some (.list (G.map fun p => V.ref p.1)) → (∀ p ∈ G, σ' p.1 = some (.list (p.2.map V.int))) → G.length ≤ 40 → Pts n.toNat (Nb T) L (G.map Prod.snd) → Q (.ref f) σ') :
  (sem zas zay (k + 2) true).run "" "_law_parts" [.int n, .ref t, .ref tk] σ Q X := by
 refine zaw (F := zes) rfl ⟨rfl, ?_⟩
 dsimp only [zes, zah, zag, zao, zam, zaB, zar, zal, zmc, zmn, zlc, zln, zac, zan, zr0, zrs, Nat.reduceAdd, Nat.reduceSub, Loc.get, zgz, zgs, zjs, zaa, tgOk, onT, zae, zaf, zad, zss, zsz, zab, za4, znR]
 refine zlm ht h1 h2 hT fun nr rs σ1 e1 hR => ?_
 dsimp only [zeD, zah, zag, zao, E_tt, zam, zaM, zbh, E_b1, zd3, zbg, zar, zal, I_r1, za0, zaC, zba, za9, Loc.get, zgz, zgs, zjs, zaa, tgOk, onT, zae, zaf, zad, zss, zsz, zab]
 refine ⟨by lia, ?_⟩
 refine zc1 (c := fun i => !decide (i ∈ L)) (h := fun i => V.tup [.int i, .bool true]) (fun _ _ => trivial) (by rw [zbB]; unfold zax; lia) (fun i _ σ' e' K hK => ?_) fun σ2 c e2 _ hc => ?_
 ·refine zai (a := !decide (i ∈ L)) (by rw [zbd, zi4 (e' _ _ (e1 _ _ htk))]; rfl) (go_b ?_)
  have := hK σ' .rfl
  by_cases z : i ∈ L
  ·rw [decide_eq_true z] at this ⊢
   exact this
  ·rw [decide_eq_false z] at this ⊢
   exact ⟨sz2, this⟩
 have hDA : ∀ y, y ∈ (upto 0 n 1).filter (fun i => !decide (i ∈ L)) ↔ (0 ≤ y ∧ y < n) ∧ y ∉ L := fun y => by rw [List.mem_filter, zjD, Bool.not_eq_true', decide_eq_false_iff_not]
 have hDn : ((upto 0 n 1).filter fun i => !decide (i ∈ L)).Nodup := upto_nodup.filter _
 have hDl : ((upto 0 n 1).filter fun i => !decide (i ∈ L)).length ≤ 1000 := Nat.le_trans (List.length_filter_le ..) (by rw [zbB]; lia)
 generalize (upto 0 n 1).filter (fun i => !decide (i ∈ L)) = D at *
 refine ⟨rfl, zat hc ⟨D, ⟨rfl, by rw [List.length_map]; exact hDl⟩, ?_⟩⟩
 have fk : (D.map V.int).foldl (fun d k => zbl k d) [] = D.map V.int := zii (acc := []) hDn
 rw [fk]
 intro tr htr
 have e3 := e2.upd (o := .dict (D.map V.int)) (e2.none htr)
 have htr3 : (σ2.upd tr (.dict (D.map V.int))) tr = some (.dict (D.map V.int)) := zaj
 generalize σ2.upd tr (.dict (D.map V.int)) = σ3 at *
 dsimp only [zeE, zah, zag, zao, za2, zar, zal, zmc, zmn, zlc, zln, zac, zan, zr0, zrs, Nat.reduceAdd, Nat.reduceSub, Loc.get, zgz, zgs, zjs, zaa, tgOk, onT, zae, zaf, zad, zss, zsz, zab]
 refine ⟨by decide, fun f hf => ?_⟩
 dsimp only [zeF, zah, zag, zao, zbI, zmc, zmn, zlc, zln, zac, zan, zr0, zrs, Nat.reduceAdd, Nat.reduceSub, Loc.get, zgz, zgs, zjs, zaa, tgOk, onT, zae, zaf, zad, zss, zsz, zab]
 intro mt hmt
 dsimp only [zeG, zah, zag, zbQ, zam, I_r1, za0, zaC, zmc, zmn, zlc, zln, zac, zan, zr0, zrs, Nat.reduceAdd, Nat.reduceSub, Loc.get, zgz, zgs, zjs, zaa, tgOk, onT, zae, zaf, zad, zss, zsz, zab]
 refine ⟨by lia, ?_⟩
 have hfm : f ≠ mt := zbb zaj hmt
 have hm0 : σ3 mt = none := (Ext.rfl.upd hf).none hmt
 refine zaV (fun m ρ σ' => ∃ G M t7 t8 t9, Gs σ3 σ' f mt n T L m G M ∧ ρ = [some (.int n), some (.ref t), some (.ref tk), some (.ref nr), some (.ref tr), some (.ref f), some (.ref mt), t7, t8, t9])
  ⟨[], [], none, none, none, ⟨(Ext.rfl.upd hf).upd hm0, hf, hm0, (zaq hfm).trans zaj, zaj, fun p hp => absurd hp List.not_mem_nil, .nil, fun y => Iff.rfl, .zero, Nat.le_refl _⟩, rfl⟩ (fun _ _ _ _ => trivial) ?_ ?_
 ·intro m v ρ σ' K hv zz92
  refine ob77 zz92 ?_
  clear zz92
  intro G M t7 t8 t9 g ee248
  subst ee248
  intro hK
  refine ob14 (zbL hv) ?_
  intro ee249
  subst ee249
  intro hm
  rw [Int.zero_add] at hm ⊢
  refine ziX (t7 := t7) h2 hT.2 (hR.ext e3) htr3 hDA hm g fun σ4 G' M' t8' g' => ?_
  exact hK _ _ ⟨G', M', _, t8', _, g', rfl⟩
 ·intro ρ σ' zz93
  refine ob77 zz93 ?_
  clear zz93
  intro G M t7 t8 t9 g ee250
  subst ee250
  rw [List.length_map, zbB] at g
  dsimp only [zeH, zah, zag, zaK, zam, Loc.get, zgz, zgs, zjs, zaa, tgOk, onT, zae, zaf, zad, zss, zsz, zab]
  exact hQ σ' f G ((e1.trans e3).trans g.ext) g.top (fun p hp => (g.row p hp).2) (by have := g.few; lia) g.gt.pts
end
section
variable {n : Int} {T P : List (Int × Int)} {M : Int → Int} {i : Int}
theorem Bst.mx (ok : ∀ p ∈ T, zaD n p) (h : Bst T P) : Mx n.toNat (Nb T) (mt P.reverse) := by
 refine ⟨(zbS ok h.1.1 h.1.2).mg, fun N hN => ?_⟩
 have v : Mt n T N := ⟨ok, fun x hx => (hN x hx).2⟩
 rw [v.cov, h.1.cov ok]
 exact Nat.mul_le_mul_left _ (h.2 _ v.pg)
theorem Mx.bst (ok : ∀ p ∈ T, zaD n p) (h : Mx n.toNat (Nb T) M) : Bst T (zb0 n.toNat M) := by
 have v : Mt n T M := ⟨ok, fun x hx => (h.1 x hx).2⟩
 refine ⟨v.pg, fun P' h' => ?_⟩
 have := h.2 _ (zbS ok h'.1 h'.2).mg
 rw [v.cov, h'.cov ok] at this
 lia
theorem zfz (ok : ∀ p ∈ T, zaD n p) (r : 0 ≤ i ∧ i < n) : Miss n.toNat (Nb T) i ↔ bd T i = false := by
 constructor
 ·intro zz94
  refine ob71 zz94 ?_
  clear zz94
  intro _ M hM f
  have v : Mt n T M := ⟨ok, fun x hx => (hM.1 x hx).2⟩
  exact zjW fun z => by have := (zcT v).mp (z _ (hM.bst ok)); lia
 ·intro z
  refine ob12 (Classical.not_forall.mp fun y => Bool.false_ne_true (z.symm.trans (zl5 y))) ?_
  intro L hL
  refine ob14 (Classical.not_imp.mp hL) ?_
  intro b no
  exact ⟨⟨r.1, by lia⟩, _, b.mx ok, (zjB (b.1.ok ok) b.1.2 i).mpr no⟩
theorem mem_fen : i ∈ fen n.toNat T ↔ (0 ≤ i ∧ i < n) ∧ fc T i = true := by
 unfold fen
 rw [List.mem_filter, List.mem_map]
 refine and_congr_left fun _ => ⟨fun ⟨k, hk, e⟩ => by have := List.mem_range.mp hk; lia, fun h => ⟨i.toNat, List.mem_range.mpr (by lia), Int.toNat_of_nonneg h.1⟩⟩
theorem fen_sorted {t : Nat} : (fen t T).Pairwise (· < ·) := by
 refine List.Pairwise.filter _ ?_
 rw [List.pairwise_map]
 exact List.pairwise_lt_range.imp fun h => by lia
theorem zkE (ok : ∀ p ∈ T, zaD n p) (h : Bst T P) {Ps : List (List Int)} (g : Pts n.toNat (Nb T) (fen n.toNat T) Ps) : n.toNat + (fen n.toNat T).length = 2 * P.length + (Ps.filter fun K => decide (K.length % 2 = 1)).length := by
 have gn : Gn n.toNat (Nb T) := fun i j e => by have := zd1 ok e; exact ⟨zej e, this.2.2, this.1.1, by lia⟩
 rw [← h.1.cov ok]
 refine zm8 gn (fun N hN => ?_) (h.mx ok) (fen_sorted.imp fun h e => by lia) (fun a => ?_) g
 ·have v : Mt n T N := ⟨ok, fun x hx => (hN x hx).2⟩
  rw [v.cov]; lia
 ·rw [mem_fen]
  unfold fc
  rw [Bool.and_eq_true, List.any_eq_true]
  constructor
  ·intro zz95
   refine ob74 zz95 ?_
   clear zz95
   intro r b d hd z
   have hd' := zd1 ok hd
   exact ⟨⟨r.1, by lia⟩, fun m => Bool.false_ne_true (((zfz ok r).mp m).symm.trans b), d, hd, (zfz ok hd'.2.1).mpr (Bool.not_eq_true' _ |>.mp z)⟩
  ·intro zz96
   refine ob74 zz96 ?_
   clear zz96
   intro r b d hd z
   have hd' := zd1 ok hd
   exact ⟨hd'.1, Bool.not_eq_false _ |>.mp fun e => b ((zfz ok hd'.1).mpr e), d, hd, by rw [(zfz ok hd'.2.1).mp z]; rfl⟩
noncomputable def lft (n : Int) (P : List (Int × Int)) : List Int := (upto 0 n 1).filter fun i => !decide (i ∈ P.flatMap fun p => [p.1, p.2])
theorem mem_flat2 : i ∈ P.flatMap (fun p => [p.1, p.2]) ↔ i ∈ zbe P := by
 rw [List.mem_flatMap, mem_places]
 refine ⟨fun ⟨p, hp, e⟩ => ⟨p, hp, ?_⟩, fun ⟨p, hp, e⟩ => ⟨p, hp, ?_⟩⟩
 ·exact (List.mem_cons.mp e).imp Eq.symm fun e => (List.mem_singleton.mp e).symm
 ·exact e.elim (fun e => e ▸ List.mem_cons_self ..) fun e => e ▸ List.mem_cons_of_mem _ (List.mem_cons_self ..)
theorem mem_lft : i ∈ lft n P ↔ (0 ≤ i ∧ i < n) ∧ i ∉ zbe P := by
 unfold lft
 rw [List.mem_filter, zjD, Bool.not_eq_true', decide_eq_false_iff_not, mem_flat2]
theorem zlw (ok : ∀ p ∈ T, zaD n p) (h : Pg T P) : (lft n P).length + 2 * P.length = n.toNat := by
 have hpl : (zbe P).length = 2 * P.length := by
  unfold zbe
  rw [List.length_append, List.length_map, List.length_map]; lia
 have := zhr (n := n.toNat) (p := fun _ => true) (l := lft n P ++ zbe P) (List.nodup_append.mpr ⟨upto_nodup.filter _, zcb (h.ok ok) h.2, fun a ha b hb e => (mem_lft.mp ha).2 (e ▸ hb)⟩) fun i => by
  rw [List.mem_append, mem_lft]
  refine ⟨fun z => ⟨z.elim (fun z => ⟨z.1.1, by lia⟩) fun z => ?_, rfl⟩, fun z => (Classical.em (i ∈ zbe P)).elim .inr fun no => .inl ⟨⟨z.1.1, by lia⟩, no⟩⟩
  refine ob7 (mem_places.mp z) ?_
  intro p hp e
  refine ob16 (h.ok ok p hp) ?_
  intro h1 h2 h3
  rcases e with rfl | rfl
  ·exact ⟨h1, by lia⟩
  ·exact ⟨by lia, by lia⟩
 rw [List.length_append, hpl] at this
 rw [← this]
 unfold cnt
 rw [List.countP_true, List.length_range]
end
section
variable {k : Nat} {σ : Store} {Q : V → Store → Prop} {X : XP} {x d r l t f : Addr} {rs : List Addr} {n : Int} {T P : List (Int × Int)} {K : List Int}
theorem zjr : (zas "" "_law_alone").isSome = true := rfl
theorem zk3 : (zas "" "_law_fenced").isSome = true := rfl
theorem zmu : (zas "" "_law_parts").isSome = true := rfl
theorem zk0 : (zas "" "_law_net_by").isSome = true := rfl
theorem zij : ∀ {P : List (Int × Int)}, (P.flatMap fun p => [p.1, p.2]).length = 2 * P.length
 | [] => rfl
 | p :: P => by
  rw [List.flatMap_cons, List.length_append, zij, List.length_cons, List.length_cons, List.length_nil, List.length_cons]; lia
noncomputable def zf0 (P : List (Int × Int)) : Int × Int := P.getLast?.getD (-1, -1)
theorem zkP {tk : Addr} {D : List Int} {p : Int × Int} {t6 : Option V} {N : Loc → Store → Prop} {Y : XL} (ht : σ t = some (.list (T.map pr))) (hk : σ tk = some (.dict (D.map V.int))) (hp : p ∈ T) (hP : zaD n p) (hl : zbV (zf0 P) p) (h1 : p.1 ∉ D) (h2 : p.2 ∉ D) (hD : D.length ≤ 1000)
  (hN : N [some (.int n), some (.ref t), some (.ref l), some (.ref tk), some (pr p), some (pr p), t6] (σ.upd tk (.dict ((D ++ [p.1, p.2]).map V.int)))) :
  wpSs (sem zas zay (k + 1)) true zc7 [some (.int n), some (.ref t), some (.ref l), some (.ref tk), some (pr (zf0 P)), some (pr p), t6] σ N Q Y := by
 have e3 : cmpV σ .Lt (pr (zf0 P)) (pr p) = some true := by
  show some (decide ((zf0 P).1 < p.1) || ((zf0 P).1 == p.1 && decide ((zf0 P).2 < p.2))) = _
  rcases hl with h | ⟨h, h'⟩
  ·rw [decide_eq_true h]; rfl
  ·rw [h, decide_eq_true h', beq_self_eq_true, Bool.and_true, Bool.or_true]
 have hne : p.1 ≠ p.2 := by have := hP.2.1; lia
 dsimp only [zc7, zah, zag, zaK, zaY, za1, zaL, zam, zb9, zaM, za3, zbh, E_b1, zcQ, zar, zal, zbn, zaW, Loc.get, zgz, zgs, zjs, zaa, tgOk, onT, zae, zaf, zad, zss, zsz, zab]
 refine zai (a := true) rfl (go_b (b := true) (zca ⟨sz2, zai (a := false) rfl (zca (zai (a := false) ?_ (zaT ?_)))⟩))
 ·rw [zbd, zpr ht, decide_eq_true hp]; rfl
 dsimp only [zeN, zah, zag, zaK, zaY, za1, zaL, zam, zb9, zaM, za3, zaB, zaR, zar, zal, zbn, zaW, Loc.get, zgz, zgs, zjs, zaa, tgOk, onT, zae, zaf, zad, zss, zsz, zab, za4, zjo]
 refine zc0 (zeU (go_b (b := true) (zca (zcZ (zeU (go_b (b := true) (zca (zai e3 (go_b (b := true) (zaT ?_))))))))))
 dsimp only [zeO, zah, zag, zaK, zaY, za1, zaL, zam, zaM, za3, zaR, zbn, zaW, Loc.get, zgz, zgs, zjs, zaa, tgOk, onT, zae, zaf, zad, zss, zsz, zab]
 refine zc0 (zai (a := false) (by rw [zep, zcp hk, decide_eq_false h1]) (zca (zcZ (zai (a := false) (by rw [zep, zcp hk, decide_eq_false h2]) (zaT ?_)))))
 dsimp only [zeP, zah, zag, zaA, E_tt, zaL, zam, zaR, Loc.get, zgz, zgs, zjs, zaa, tgOk, onT, zae, zaf, zad, zss, zsz, zab]
 refine zc0 (zbp hk (by unfold zax; lia) ?_)
 rw [if_neg h1]
 dsimp only [zeQ, zeR, zah, zag, zao, zaA, E_tt, zaL, zam, zaR, Loc.get, zgz, zgs, zjs, zaa, tgOk, onT, zae, zaf, zad, zss, zsz, zab]
 have h3 : p.2 ∉ D ++ [p.1] := fun m => (List.mem_append.mp m).elim h2 fun m => hne (List.mem_singleton.mp m).symm
 refine zcZ (zbp zaj (by rw [List.length_append, List.length_singleton]; unfold zax; lia) ?_)
 rw [if_neg h3, zbC, List.append_assoc]
 exact hN
theorem zgR (ht : σ t = some (.list (T.map pr))) (hl : σ l = some (.list (P.map pr))) (hT : ∀ p ∈ T, zaD n p) (hn : 1 ≤ n ∧ n ≤ 40) (hg : Pg T P) (hp : P.Pairwise zbV)
  (hQ : ∀ σ' a, Ext σ σ' → σ a = none → σ' a = some (.list ((lft n P).map V.int)) → Q (.ref a) σ') : (sem zas zay (k + 2) true).run "" "_law_alone" [.int n, .ref t, .ref l] σ Q X := by
 refine ob14 hg ?_
 clear hg
 intro hs hd
 have hlen := zfE (fun p h => hT p (hs p h)) hd (by lia) hn.2
 refine zaw (F := zeu) rfl ⟨rfl, ?_⟩
 dsimp only [zeu, zah, zag, zaK, zaY, za1, zam, zb9, za2, zcQ, zar, zal, zmc, zmn, zlc, zln, zac, zan, zr0, zrs, Nat.reduceAdd, Nat.reduceSub, Loc.get, zgz, zgs, zjs, zaa, tgOk, onT, zae, zaf, zad, zss, zsz, zab]
 refine zai (isl hl) (go_b (b := true) (zaT ?_))
 dsimp only [zeJ, zah, zag, zao, zbI, Loc.get, zgz, zgs, zjs, zaa, tgOk, onT, zae, zaf, zad, zss, zsz, zab]
 intro tk htk
 dsimp only [zeK, zah, zag, zao, zaL, zd2, zbh, zar, zal, Loc.get, zgz, zgs, zjs, zaa, tgOk, onT, zae, zaf, zad, zss, zsz, zab]
 refine ⟨sz2, ?_⟩
 dsimp only [zeL, zah, zag, zbQ, zam, za0, Loc.get, zgz, zgs, zjs, zaa, tgOk, onT, zae, zaf, zad, zss, zsz, zab]
 have hE := (Ext.rfl (σ := σ)).upd (o := .dict []) htk
 refine zcW (hE _ _ hl) ?_
 refine zaV (fun i ρ σ' => i ≤ P.length ∧ ∃ t5 t6, Ext σ σ' ∧ σ' tk = some (.dict ((((P.take i).flatMap fun p => [p.1, p.2])).map V.int)) ∧ ρ = [some (.int n), some (.ref t), some (.ref l), some (.ref tk), some (pr (zf0 (P.take i))), t5, t6])
  ⟨Nat.zero_le _, _, _, hE, zaj, rfl⟩ ?_ ?_ ?_
 ·intro i ρ σ' zz97
  refine ob35 zz97 ?_
  clear zz97
  intro hi t5 t6 e _
  exact e _ _ hl
 ·intro i v ρ σ' C hv zz98
  refine ob27 zz98 ?_
  clear zz98
  intro hi t5 t6 e g ee251
  subst ee251
  intro hK
  refine ob12 (zjH hv) ?_
  intro hi' ee252
  subst ee252
  have hmem : P[i] ∈ P := List.getElem_mem hi'
  have hto := hT _ (hs _ hmem)
  have htake : P.take (i + 1) = P.take i ++ [P[i]] := List.take_succ_eq_append_getElem hi'
  have sub : ∀ p ∈ P.take i, zbV p P[i] ∧ ¬ Touch p P[i] := fun p hp' => by
   refine lift fun g9 k9 => ?_
   obtain ⟨u, hu, e'⟩ := List.mem_take_iff_getElem.mp hp'
   refine k9 ?_
   clear k9 g9
   subst e'
   exact ⟨List.pairwise_iff_getElem.mp hp u i _ _ (by lia), List.pairwise_iff_getElem.mp hd u i _ _ (by lia)⟩
  have hnot : ∀ y, y = P[i].1 ∨ y = P[i].2 → y ∉ (P.take i).flatMap fun p => [p.1, p.2] := fun y hy m => by
   refine ob7 (mem_places.mp (mem_flat2.mp m)) ?_
   intro p hp' m
   have := (sub p hp').2
   unfold Touch at this
   lia
  have hDl : ((P.take i).flatMap fun p => [p.1, p.2]).length ≤ 1000 := by
   rw [zij, List.length_take]; lia
  have hlast : zbV (zf0 (P.take i)) P[i] := by
   unfold zf0
   cases hg : (P.take i).getLast? with
   | none => exact .inl (show (-1 : Int) < P[i].1 by have := hto.1; lia)
   | some q => exact (sub q (List.mem_of_getLast? hg)).1
  refine zkP (n := n) (P := P.take i) (e _ _ ht) g (hs _ hmem) hto hlast (hnot _ (.inl rfl)) (hnot _ (.inr rfl)) hDl ?_
  refine hK _ _ ⟨hi', some (pr P[i]), t6, e.upd htk, ?_, ?_⟩
  ·rw [zaj, htake, List.flatMap_append]; rfl
  ·rw [htake, show zf0 (P.take i ++ [P[i]]) = P[i] by unfold zf0; rw [List.getLast?_concat]; rfl]
 ·intro ρ σ' zz99
  refine ob27 zz99 ?_
  clear zz99
  intro hi t5 t6 e g ee253
  subst ee253
  rw [List.length_map, List.take_length] at g
  dsimp only [zeM, zah, zag, zaK, zam, zaM, zd3, zbg, I_r1, za0, zaC, zba, za9, Loc.get, zgz, zgs, zjs, zaa, tgOk, onT, zae, zaf, zad, zss, zsz, zab]
  refine ⟨by lia, zc1 (c := fun i => !decide (i ∈ P.flatMap fun p : Int × Int => [p.1, p.2])) (h := V.int) (fun _ _ => trivial) (by rw [zbB]; unfold zax; lia) (fun i _ σ2 e2 C hC => ?_) fun σ2 a e2 fr ha => hQ _ a (e.trans e2) (e.none fr) ha⟩
  exact zai (a := !decide (i ∈ P.flatMap fun p : Int × Int => [p.1, p.2])) (by rw [zbd, zcp (e2 _ _ g)]; rfl) (zok (hC _ .rfl))
theorem zpN {α : Type} {l : List α} {a : Addr} (ha : σ a = some (.list (l.map fun _ => V.bool true))) (q : Q (.bool true) σ) : b1V true .all (.ref a) σ Q := by
 refine ⟨rfl, zat ha (zai (zis (f := fun _ => true)) ?_)⟩
 rw [show (l.map fun _ => true).all id = true from List.all_eq_true.mpr fun b hb => by obtain ⟨_, _, rfl⟩ := List.mem_map.mp hb; rfl]
 exact q
theorem zn7 {m : Nat} : ((m : Int).fmod 2 == 1) = decide (m % 2 = 1) := by
 rw [Bool.eq_iff_iff, beq_iff_eq, decide_eq_true_eq, Int.fmod_eq_emod_of_nonneg _ (by decide)]; lia
theorem zkD {m : Int} {t4 t5 t6 : Option V} {N : Loc → Store → Prop} {Y : XL} (ht : σ t = some (.list (T.map pr))) (hf : σ f = some (.list (K.map V.int))) (hT : zgn n T) (hn : 1 ≤ n ∧ n ≤ 40)
  (hm : ∀ Ps, Pts n.toNat (Nb T) K Ps → m + K.length = (Ps.filter fun K => decide (K.length % 2 = 1)).length) (hQ : ∀ σ', Ext σ σ' → Q (.bool true) σ') :
  wpSs (sem zas zay (k + 2)) true zct [some (.int n), some (.ref t), some (.ref f), some (.int m), t4, t5, t6] σ N Q Y := by
 dsimp only [zct, zah, zag, zao, zaL, zam, zbX, zaM, zaB, E_b1, zbg, zde, zar, zal, za0, zdl, zba, za9, zmc, zmn, zlc, zln, zac, zan, zr0, zrs, Nat.reduceAdd, Nat.reduceSub, Loc.get, zgz, zgs, zjs, zaa, tgOk, onT, zae, zaf, zad, zss, zsz, zab, za4, zmu]
 refine ziY ht hf hn.1 hn.2 hT fun σ1 g G e1 hg hr hl pts => ?_
 refine zcW hg (zc1 (c := fun p : Addr × List Int => decide (p.2.length % 2 = 1)) (h := fun p => V.ref p.1) (fun σ' e => e _ _ hg) (by unfold zax; lia) (fun p hp σ2 e2 C hC => ?_) fun σ2 a e2 _ ha => ?_)
 ·rw [ze0 (e2 _ _ (hr p hp)), List.length_map]
  exact ⟨by decide, zai (a := decide (p.2.length % 2 = 1)) (by rw [← zn7]; rfl) (zok (hC _ .rfl))⟩
 ·dsimp only [zec, zah, zag, zaK, zam, zbX, zaM, E_b1, zmc, zmn, zlc, zln, zac, zan, zr0, zrs, Nat.reduceAdd, Nat.reduceSub, Loc.get, zgz, zgs, zjs, zaa, tgOk, onT, zae, zaf, zad, zss, zsz, zab]
  rw [ze0 ha, ze0 (e2 _ _ (e1 _ _ hf))]
  have := hm _ pts
  rw [List.filter_map, List.length_map] at this
  have e : cmpV σ2 .Eq (.int m) (.int (((((G.filter fun p => decide (p.2.length % 2 = 1)).map fun p => V.ref p.1).length : Nat) : Int) - ((K.map V.int).length : Nat))) = some true := by
   rw [List.length_map, List.length_map]
   show some (m == _) = some true
   rw [beq_iff_eq.mpr]
   have e : (G.filter ((fun K => decide (K.length % 2 = 1)) ∘ Prod.snd)).length = (G.filter fun p => decide (p.2.length % 2 = 1)).length := rfl
   lia
  exact zai (K := fun r => Q (.bool r) σ2) e (hQ _ (e1.trans e2))
theorem zi8 {m : Int} (ht : σ t = some (.list (T.map pr))) (hf : σ f = some (.list (K.map V.int))) (hT : zgn n T) (hn : 1 ≤ n ∧ n ≤ 40) (hK : K.Pairwise (· < ·)) (hi : ∀ i ∈ K, 0 ≤ i ∧ i < n)
  (hm : ∀ Ps, Pts n.toNat (Nb T) K Ps → m + K.length = (Ps.filter fun K => decide (K.length % 2 = 1)).length)
  (hQ : ∀ σ', Ext σ σ' → Q (.bool true) σ') : (sem zas zay (k + 3) true).run "" "_law_fenced" [.int n, .ref t, .ref f, .int m] σ Q X := by
 have hlen : K.length ≤ 40 := zbr (m := 40) (hK.imp fun h e => by lia) fun i h => by have := hi i h; lia
 refine zaw (F := zdT) rfl ⟨rfl, ?_⟩
 dsimp only [zdT, zah, zag, zaK, zaY, za1, E_ff, zam, zb9, za3, zaB, za2, E_b1, zcQ, zbg, zde, zar, zal, zbn, zaW, za0, zdl, zba, za9, zmc, zmn, zlc, zln, zac, zan, zr0, zrs, Nat.reduceAdd, Nat.reduceSub, Loc.get, zgz, zgs, zjs, zaa, tgOk, onT, zae, zaf, zad, zss, zsz, zab, za4, zjo]
 refine zai (isl hf) (go_b (b := true) (zca (zcW hf (zc1 (c := fun _ => true) (h := fun _ => V.bool true) (fun σ' e => e _ _ hf) (by unfold zax; lia) (fun i _ σ2 e2 C hC => ?_) fun σ1 a e1 _ ha => ?_))))
 ·exact zhi rfl (zeU (hC _ .rfl))
 rw [List.filter_eq_self.mpr fun _ _ => rfl] at ha
 refine zpN ha (go_b (b := true) (zaT ?_))
 have hf1 := e1 _ _ hf
 dsimp only [zeb, zah, zag, zaK, zaY, E_ff, zaL, zam, zd2, zaM, za3, zaR, za2, zfu, zar, zal, zbn, zaW, zmc, zmn, zlc, zln, zac, zan, zr0, zrs, Nat.reduceAdd, Nat.reduceSub, Loc.get, zgz, zgs, zjs, zaa, tgOk, onT, zae, zaf, zad, zss, zsz, zab]
 refine ⟨rfl, zat hf1 (zai (ints?_map K) ⟨⟨by rw [List.length_map]; lia, hK.imp fun h e => by lia⟩, fun ws hw1 hw2 b hb => ?_⟩)⟩
 have : ws = K := zhO (hw1.imp fun h => by lia) (hK.imp fun h => by lia) ((List.perm_ext_iff_of_nodup (hw1.imp fun h e => by lia) (hK.imp fun h e => by lia)).mpr hw2)
 subst this
 have e2 := (Ext.rfl (σ := σ1)).upd (o := .list (ws.map V.int)) hb
 have hb2 : (σ1.upd b (.list (ws.map V.int))) b = some (.list (ws.map V.int)) := zaj
 generalize σ1.upd b (.list (ws.map V.int)) = σ2 at *
 have hf2 := e2 _ _ hf1
 refine zai (a := false) (by rw [zf8, zhp hf2 hb2]; rfl) (zca ⟨by decide, fun c hc => ?_⟩)
 have e3 := (Ext.rfl (σ := σ2)).upd (o := .list []) hc
 have hc3 : (σ2.upd c (.list [])) c = some (.list []) := zaj
 generalize σ2.upd c (.list []) = σ3 at *
 have hf3 := e3 _ _ hf2
 have E : Ext σ σ3 := (e1.trans e2).trans e3
 have fin := zkD (k := k) (n := n) (m := m) (Q := Q) (N := fun _ σ' => Q .none σ') (Y := fun c a _ σ' => X c a σ') (t4 := none) (t5 := none) (t6 := none) (E _ _ ht) hf3 hT hn hm fun σ' e => hQ σ' (E.trans e)
 refine zai (a := !(ws.map V.int).isEmpty) (by rw [zf8, zlT hf3 hc3]; rfl) ?_
 cases ws with
 | nil => exact zaT (σ := σ3) (zaT fin)
 | cons u us =>
  have hu := hi u (List.mem_cons_self ..)
  refine zbN (σ := σ3) (zcq hf3 (by decide) rfl (zai (a := decide (u < 0)) rfl ?_))
  rw [decide_eq_false (by lia : ¬ u < 0)]
  have hne : u :: us ≠ [] := List.cons_ne_nil _ _
  have hlst : ((u :: us).map V.int)[((u :: us).map V.int).length - (-1 : Int).natAbs]? = some (.int ((u :: us).getLast hne)) := by
   rw [List.getElem?_map, List.length_map, show (-1 : Int).natAbs = 1 from rfl, ← List.getLast?_eq_getElem?, List.getLast?_eq_some_getLast hne]; rfl
  refine zca (zfC hf3 (by decide) (by rw [List.length_map, List.length_cons]; lia) hlst (zai (a := decide (n ≤ (u :: us).getLast hne)) rfl ?_))
  have hg := hi _ (List.getLast_mem hne)
  rw [decide_eq_false (by lia : ¬ n ≤ (u :: us).getLast hne)]
  exact zaT fin
end
section
variable {k : Nat} {σ σ0 : Store} {Q : V → Store → Prop} {X : XP} {x d r l t b f g c : Addr} {rs : List Addr} {n : Int} {T P : List (Int × Int)} {ns : List Int}
theorem zm6 {a : Addr} {vs : List V} {v : V} {K : V → Prop} (ha : σ a = some (.list (vs ++ [v]))) (h : K v) : idxV (.ref a) (.int (-1)) σ K :=
 zfC ha (by decide) (by rw [List.length_append, List.length_singleton]; lia) (by rw [List.length_append, List.length_singleton, show (-1 : Int).natAbs = 1 from rfl, Nat.add_sub_cancel, List.getElem?_append_right (Nat.le_refl _), Nat.sub_self]; rfl) h
theorem zp2 {t5 : Option V} {N : Loc → Store → Prop} {Y : XL} (hx : NetAt σ x d r rs n T) (ht : σ t = some (.list (T.map pr))) (hT : zgn n T) (hTl : T.length ≤ 1600) (hP : Bst T P)
  (hb : σ b = some (.list (P.map pr ++ [pr (0, 0)]))) (hf : σ f = some (.list ((fen n.toNat T ++ [-1]).map V.int))) (hg : σ g = some (.list ((fen n.toNat T).map V.int))) (hQ : ∀ σ', Q (.bool true) σ') :
  wpSs (sem zas zay (k + 9)) true zjg [some (.ref l), some (.int n), some (.ref t), some (.ref x), some (.ref b), t5, some (.ref f), some (.int P.length), some (.ref g), none] σ N Q Y := by
 have hlo := hx.lo
 have hhi := hx.hi
 dsimp only [zjg, zah, zag, zao, zam, zaB, zar, zal, zmc, zmn, zlc, zln, zac, zan, zr0, zrs, Nat.reduceAdd, Nat.reduceSub, Loc.get, zgz, zgs, zjs, zaa, tgOk, onT, zae, zaf, zad, zss, zsz, zab, za4, zg7, zjr]
 refine zgd hx fun σ1 a P2 e1 ha h2 hp2 => ?_
 refine zgR (e1 _ _ ht) ha hT.2 ⟨hlo, hhi⟩ h2.1 hp2 fun σ2 c e2 _ hc => ?_
 have hx2 := hx.ext (e1.trans e2)
 have hlen : P2.length = P.length := Nat.le_antisymm (hP.2 _ h2.1) (h2.2 _ hP.1)
 have hl := zlw hT.2 h2.1
 have hP40 := zfE (hP.1.ok hT.2) hP.1.2 (by lia) hhi
 dsimp only [zmf, zah, zag, zaK, zaY, za1, E_ff, zaL, zam, zbX, zaM, za3, zaB, zbO, E_b1, zar, zal, zbn, zaW, zmc, zmn, zlc, zln, zac, zan, zr0, zrs, Nat.reduceAdd, Nat.reduceSub, Loc.get, zgz, zgs, zjs, zaa, tgOk, onT, zae, zaf, zad, zss, zsz, zab, za4, zjq]
 refine zai (a := false) rfl (zca ?_)
 rw [ze0 hc]
 refine ⟨⟨by decide, by lia⟩, zai (a := false) ?_ (zca ?_)⟩
 ·rw [List.length_map]
  show some (!((n - ((lft n P2).length : Int)) == 2 * (P.length : Int))) = _
  rw [beq_iff_eq.mpr (by lia)]; rfl
 refine zgK hx2 hT.1 hTl fun σ3 f2 e3 _ hf2 => ?_
 have E3 := (e1.trans e2).trans e3
 refine zai (a := false) (by rw [zf8, zhp hf2 (E3 _ _ hg)]; rfl) (zca ?_)
 have hx3 := hx.ext E3
 refine zaS hx3.top hx3.dic ⟨⟨rfl, tb_ties⟩, zhF hx3 fun z hz => ?_⟩
 rw [zhH hT (List.Perm.refl _)]
 have e4 := (Ext.rfl (σ := σ3)).upd (o := .list (T.map pr)) hz
 have hz4 : (σ3.upd z (.list (T.map pr))) z = some (.list (T.map pr)) := zaj
 generalize σ3.upd z (.list (T.map pr)) = σ4 at *
 have E4 := E3.trans e4
 refine zai (a := false) (by rw [zf8, zoF hz4 (E4 _ _ ht)]; rfl) (zaT ?_)
 dsimp only [zmg, zah, zag, zaK, zaL, zam, zbX, zd2, zaM, za3, zaR, za2, zbh, zar, zal, zbn, zaW, zmc, zmn, zlc, zln, zac, zan, zr0, zrs, Nat.reduceAdd, Nat.reduceSub, Loc.get, zgz, zgs, zjs, zaa, tgOk, onT, zae, zaf, zad, zss, zsz, zab]
 refine zm6 (E4 _ _ hb) ⟨sz2, zai (a := true) rfl (zbN ⟨by decide, fun y hy => ?_⟩)⟩
 have e5 := (Ext.rfl (σ := σ4)).upd (o := .list [V.int (-1)]) hy
 have hy5 : (σ4.upd y (.list [V.int (-1)])) y = some (.list [V.int (-1)]) := zaj
 generalize σ4.upd y (.list [V.int (-1)]) = σ5 at *
 have E5 := E4.trans e5
 have hfl := zi9 (t := n.toNat) (T := T)
 refine znm (E5 _ _ hg) hy5 (by rw [List.length_map]; unfold zax; simp only [List.length_cons, List.length_nil]; lia) fun z6 hz6 => ?_
 refine zai (a := true) ?_ (hQ _)
 rw [zoP]
 exact zhp ((Ext.rfl.upd hz6) _ _ (E5 _ _ hf)) (by rw [zaj, List.map_append]; rfl)
theorem zpn {N : Loc → Store → Prop} {Y : XL} (hx : NetAt σ x d r rs n T) (ht : σ t = some (.list (T.map pr))) (hT : zgn n T) (hTl : T.length ≤ 1600) (hQ : ∀ σ', Q (.bool true) σ') :
  wpSs (sem zas zay (k + 9)) true zhA [some (.ref l), some (.int n), some (.ref t), some (.ref x), none, none, none, none, none, none] σ N Q Y := by
 have hlo := hx.lo
 have hhi := hx.hi
 dsimp only [zhA, zah, zag, zao, zam, zaB, zar, zal, zmc, zmn, zlc, zln, zac, zan, zr0, zrs, Nat.reduceAdd, Nat.reduceSub, Loc.get, zgz, zgs, zjs, zaa, tgOk, onT, zae, zaf, zad, zss, zsz, zab, za4, zg7]
 refine zh2 hx fun σ1 b P e1 hb0 hb s dj p fu => ?_
 have hP := zjI hx.ok ⟨s, dj⟩ fu
 dsimp only [zj1, zah, zag, zao, zam, zaB, zar, zal, zmc, zmn, zlc, zln, zac, zan, zr0, zrs, Nat.reduceAdd, Nat.reduceSub, Loc.get, zgz, zgs, zjs, zaa, tgOk, onT, zae, zaf, zad, zss, zsz, zab, za4, zjr]
 refine zgR (e1 _ _ ht) hb hT.2 ⟨hlo, hhi⟩ hP.1 p fun σ2 c e2 _ hc => ?_
 have E2 := e1.trans e2
 dsimp only [zl8, zah, zag, zao, zam, zaB, zar, zal, zmc, zmn, zlc, zln, zac, zan, zr0, zrs, Nat.reduceAdd, Nat.reduceSub, Loc.get, zgz, zgs, zjs, zaa, tgOk, onT, zae, zaf, zad, zss, zsz, zab, za4, zjq]
 refine zgK (hx.ext E2) hT.1 hTl fun σ3 f e3 hf0 hf => ?_
 have E3 := E2.trans e3
 dsimp only [zl9, zah, zag, zaK, zaY, za1, E_ff, zam, zb9, zaM, za3, zaB, E_b1, zar, zal, zbn, zaW, zmc, zmn, zlc, zln, zac, zan, zr0, zrs, Nat.reduceAdd, Nat.reduceSub, Loc.get, zgz, zgs, zjs, zaa, tgOk, onT, zae, zaf, zad, zss, zsz, zab, za4, zk3]
 refine zai (a := false) rfl (zca ?_)
 rw [ze0 (e3 _ _ hc), List.length_map]
 have hl := zlw hT.2 hP.1
 refine zi8 (E3 _ _ ht) hf hT ⟨hlo, hhi⟩ fen_sorted (fun i hi => (mem_fen.mp hi).1) (fun Ps g => by have := zkE hT.2 hP g; lia) fun σ4 e4 => ?_
 have E4 := E3.trans e4
 have hb4 := (e2.trans (e3.trans e4)) _ _ hb
 have hf4 := e4 _ _ hf
 refine go_b (b := true) (zaT ?_)
 dsimp only [zma, zah, zag, zao, zam, E_b1, zmc, zmn, zlc, zln, zac, zan, zr0, zrs, Nat.reduceAdd, Nat.reduceSub, Loc.get, zgz, zgs, zjs, zaa, tgOk, onT, zae, zaf, zad, zss, zsz, zab]
 rw [ze0 hb4, List.length_map]
 have hfl := zi9 (t := n.toNat) (T := T)
 have hP40 := zfE (hP.1.ok hT.2) hP.1.2 (by lia) hhi
 dsimp only [zmb, zah, zag, zao, zam, za2, E_b1, zar, zal, zmc, zmn, zlc, zln, zac, zan, zr0, zrs, Nat.reduceAdd, Nat.reduceSub, Loc.get, zgz, zgs, zjs, zaa, tgOk, onT, zae, zaf, zad, zss, zsz, zab, zje]
 refine zat hf4 ⟨by rw [List.length_map]; unfold zax; lia, fun g hg => ?_⟩
 have hfb : f ≠ b := zhe hf0 (e2 _ _ hb)
 have hgb : g ≠ b := zhe hg hb4
 have hgf : g ≠ f := zhe hg hf4
 have hb5 := (Ext.rfl.upd (o := .list ((fen n.toNat T).map V.int)) hg) _ _ hb4
 dsimp only [zmd, zah, zag, za7, zaL, zam, E_m1, zbh, zar, zal, zmc, zmn, zlc, zln, zac, zan, zr0, zrs, Nat.reduceAdd, Nat.reduceSub, Loc.get, zgz, zgs, zjs, zaa, tgOk, onT, zae, zaf, zad, zss, zsz, zab]
 refine zat hb5 ⟨sz2, zaZ hb5 (by rw [List.length_map]; unfold zax; lia) ?_⟩
 dsimp only [zme, zah, zag, za7, zaL, zam, zd2, E_m1, zmc, zmn, zlc, zln, zac, zan, zr0, zrs, Nat.reduceAdd, Nat.reduceSub, Loc.get, zgz, zgs, zjs, zaa, tgOk, onT, zae, zaf, zad, zss, zsz, zab]
 have hf6 : ((σ4.upd g (.list ((fen n.toNat T).map V.int))).upd b (.list (P.map pr ++ [pr (0, 0)]))) f = some (.list ((fen n.toNat T).map V.int)) := (zaq hfb).trans ((zaq hgf.symm).trans hf4)
 refine zat hf6 (zaZ hf6 (by rw [List.length_map]; unfold zax; lia) ?_)
 have E : Ext σ (((σ4.upd g (.list ((fen n.toNat T).map V.int))).upd b (.list (P.map pr ++ [pr (0, 0)]))).upd f (.list ((fen n.toNat T).map V.int ++ [V.int (-1)]))) := ((E4.upd (E4.none hg)).upd hb0).upd (E2.none hf0)
 refine zp2 (hx.ext E) (E _ _ ht) hT hTl hP ((zaq hfb.symm).trans zaj) (by rw [zaj, List.map_append]; rfl) ((zaq hgf).trans ((zaq hgb).trans zaj)) hQ
theorem law_spec (hl : σ l = some (.fixed (ns.map V.int))) (hQ : ∀ σ', Q (.bool true) σ') : (sem zas zay (k + 10) true).run "" "law" [.ref l] σ Q X := by
 refine zaw (F := zoW) rfl ⟨rfl, ?_⟩
 dsimp only [zoW, zah, zag, zao, zaL, zam, zaB, zar, zal, zmc, zmn, zlc, zln, zac, zan, zr0, zrs, Nat.reduceAdd, Nat.reduceSub, Loc.get, zgz, zgs, zjs, zaa, tgOk, onT, zae, zaf, zad, zss, zsz, zab, za4, zk0]
 refine ziU hl (by decide) (by decide) fun n T t h1 h2 ht hT hTl => ?_
 have e1 := (Ext.rfl (σ := σ)).upd (o := .list (T.map pr)) ht
 have ht1 : (σ.upd t (.list (T.map pr))) t = some (.list (T.map pr)) := zaj
 generalize σ.upd t (.list (T.map pr)) = σ1 at *
 show wpSs _ _ zhz [some (.ref l), some (.int n), some (.ref t), none, none, none, none, none, none, none] _ _ _ _
 dsimp only [zhz, zah, zag, zao, zam, zee, za2, E_b1, zar, zal, zmc, zmn, zlc, zln, zac, zan, zr0, zrs, Nat.reduceAdd, Nat.reduceSub, Loc.get, zgz, zgs, zjs, zaa, tgOk, onT, zae, zaf, zad, zss, zsz, zab, za4, zk2, zje]
 refine zat ht1 ⟨by rw [List.length_map]; unfold zax; lia, ?_⟩
 intro w hw x d hx hd hxd
 have e2 := (Ext.rfl (σ := σ1)).upd (o := .list (T.map pr)) hw
 have hw2 : (σ1.upd w (.list (T.map pr))) w = some (.list (T.map pr)) := zaj
 generalize σ1.upd w (.list (T.map pr)) = σ2 at *
 have hwx : w ≠ x := zbb hw2 hx
 have hwd : w ≠ d := zbb hw2 hd
 refine zie (d := d) (H := T) zaj (by rw [zaq hxd.symm, zaj]) hxd ((zaq hwx).trans ((zaq hwd).trans hw2)) h1 h2 (zbF hT.1) hT.2 (by lia) ?_
 intro σ3 r rs hF hd' hR hr hrs hrr
 have e3 := zjK hx hd hF
 have hN : NetAt σ3 x d r rs n T := ⟨hF x _ hxd zaj, hd', hR, h1, h2, zbF hT.1, hT.2⟩
 exact ⟨rfl, zpn hN (e3 _ _ (e2 _ _ ht1)) hT hTl hQ⟩
end
end Mine.Internal
end
section
set_option maxRecDepth 100000
theorem PySem.Challenge.cw_uf010024_06_holds : PySem.Challenge.rw_uf010024_06.Holds := by
 exact Mine.Internal.join06 fun l ns h => Mine.Internal.law_spec (k := 10) (ns := ns) (by simp [Mine.Internal.sig0]) fun _ => rfl
end
